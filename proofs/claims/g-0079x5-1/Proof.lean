import JvmDerived
import JvmDerived.Pilot.@@N@@Statement
import JvmDerived.Pilot.@@N@@Code
set_option linter.unusedVariables false
set_option linter.unusedSimpArgs false
namespace Jvm.Own
open Sem ClassFile Op Lib Jvm.Stand Jvm.Free Jvm.LawKit Jvm.RoadKit
/-! OWN 1: words of the sheet, resolved -/
abbrev AHeap:=List (FieldType × List Value)
abbrev Ws:=List Jvm.Cond
def rFld (ws : Ws) (own : String) (i : Nat) : Option (String × String × String) :=
  ws.findSome? fun d => match d with
    | .fieldLink o j C n t => if o = own∧j = i then some (C,n,t) else none
    | _ => none
def rCls (ws : Ws) (own : String) (i : Nat) : Option String :=
  ws.findSome? fun d => match d with
    | .classLink o j C => if o = own∧j = i then some C else none
    | _ => none
def rMth (ws : Ws) (own : String) (i : Nat) : Option MethodName :=
  ws.findSome? fun d => match d with
    | .methodLink o j y => if o = own∧j = i then some y else none
    | _ => none
def rCon (ws : Ws) (own : String) (i : Nat) : Option Int32 :=
  ws.findSome? fun d => match d with
    | .constant o j v => if o = own∧j = i then some v else none
    | _ => none
def rConL (ws : Ws) (own : String) (i : Nat) : Option Int64 :=
  ws.findSome? fun d => match d with
    | .constantLong o j v => if o = own∧j = i then some v else none
    | _ => none
def rInst (ws : Ws) (C : String) : Option Nat :=
  ws.findSome? fun d => match d with
    | .instantiable c n => if c = C then some n else none
    | _ => none
def rCode (ws : Ws) (y : MethodName) : Option (ByteArray × Nat × Option FieldType) :=
  ws.findSome? fun d => match d with
    | .code z b m r => if z = y then some (b,m,r) else none
    | _ => none
def hasInit (ws : Ws) (C : String) : Bool:=ws.any fun d => match d with | .initialized c => c == C | _ => false
def hasArr (ws : Ws) (t : FieldType) : Bool:=ws.any fun d => match d with | .arrayClass c => decide (c = t) | _ => false
def hasStat (ws : Ws) (y : MethodName) : Bool:=ws.any fun d => match d with | .static z => decide (z = y) | _ => false
def hasIM (ws : Ws) (y : MethodName) : Bool:=ws.any fun d => match d with | .instanceMethod z => decide (z = y) | _ => false
def hasPriv (ws : Ws) (y : MethodName) : Bool:=ws.any fun d => match d with | .privateMethod z => decide (z = y) | _ => false
def hasDecl (ws : Ws) (y : MethodName) : Bool:=ws.any fun d => match d with | .declares z => decide (z = y) | _ => false
def hasSel (ws : Ws) (y : MethodName) : Bool:=ws.any fun d => match d with | .selects c z z' => decide (c = y.cls∧z = y∧z' = y) | _ => false
def hasLays (ws : Ws) (C n t : String) : Bool:=ws.any fun d => match d with | .lays c o n' t' => decide (c = C∧o = C∧n' = n∧t' = t) | _ => false
def hasLaysF (ws : Ws) (C n t : String) : Bool:=ws.any fun d => match d with | .laysFinal c o n' t' => decide (c = C∧o = C∧n' = n∧t' = t) | _ => false
def layE (C : String) : Jvm.Cond→Option (String × String)
  | .lays c o n t => if c = C∧o = C∧(parseFieldDescriptor t).isSome = true then some (n,t) else none
  | .laysFinal c o n t => if c = C∧o = C∧(parseFieldDescriptor t).isSome = true then some (n,t) else none
  | _ => none
def olay (ws : Ws) (C : String) : List (String × String):=ws.filterMap (layE C)
def idx (x : String × String) : List (String × String)→Option Nat
  | [] => none
  | y::r => if y = x then some 0 else (idx x r).map (· + 1)
def fidx (ws : Ws) (C n t : String) : Option Nat:=idx (n,t) (olay ws C)
def gfR (ws : Ws) (own : String) (i : Nat) : Option (String × Nat) :=
  match rFld ws own i with
  | some (C,n,t) => (fidx ws C n t).map fun j => (C,j)
  | none => none
def pfR (ws : Ws) (own mn : String) (i : Nat) : Option (String × Nat × FieldType) :=
  match rFld ws own i with
  | some (C,n,t) =>
    match fidx ws C n t,parseFieldDescriptor t with
    | some j,some ty => if (hasLays ws C n t || (hasLaysF ws C n t && own == C && mn == "<init>")) && (rInst ws C).isSome && (olay ws C).all (fun q => q.1 != n || q.2 == t) then some (C,j,ty) else none
    | _,_ => none
  | none => none
section Res
variable {ws : Ws} {own C n t : String} {i : Nat} {y : MethodName}
theorem rFld_mem (h : rFld ws own i = some (C,n,t)) : Jvm.Cond.fieldLink own i C n t ∈ ws:=by
  obtain ⟨d,hd,e⟩:=List.exists_of_findSome?_eq_some h
  split at e
  · split at e
    · rename_i q; obtain ⟨rfl,rfl⟩:=q; cases e; exact hd
    · cases e
  · cases e
theorem rCls_mem (h : rCls ws own i = some C) : Jvm.Cond.classLink own i C ∈ ws:=by
  obtain ⟨d,hd,e⟩:=List.exists_of_findSome?_eq_some h
  split at e
  · split at e
    · rename_i q; obtain ⟨rfl,rfl⟩:=q; cases e; exact hd
    · cases e
  · cases e
theorem rMth_mem (h : rMth ws own i = some y) : Jvm.Cond.methodLink own i y ∈ ws:=by
  obtain ⟨d,hd,e⟩:=List.exists_of_findSome?_eq_some h
  split at e
  · split at e
    · rename_i q; obtain ⟨rfl,rfl⟩:=q; cases e; exact hd
    · cases e
  · cases e
theorem rCon_mem {v : Int32} (h : rCon ws own i = some v) : Jvm.Cond.constant own i v ∈ ws:=by
  obtain ⟨d,hd,e⟩:=List.exists_of_findSome?_eq_some h
  split at e
  · split at e
    · rename_i q; obtain ⟨rfl,rfl⟩:=q; cases e; exact hd
    · cases e
  · cases e
theorem rConL_mem {v : Int64} (h : rConL ws own i = some v) : Jvm.Cond.constantLong own i v ∈ ws:=by
  obtain ⟨d,hd,e⟩:=List.exists_of_findSome?_eq_some h
  split at e
  · split at e
    · rename_i q; obtain ⟨rfl,rfl⟩:=q; cases e; exact hd
    · cases e
  · cases e
theorem rInst_mem {k : Nat} (h : rInst ws C = some k) : Jvm.Cond.instantiable C k ∈ ws:=by
  obtain ⟨d,hd,e⟩:=List.exists_of_findSome?_eq_some h
  split at e
  · split at e
    · rename_i q; subst q; cases e; exact hd
    · cases e
  · cases e
theorem rCode_mem {b : ByteArray} {k : Nat} {r : Option FieldType} (h : rCode ws y = some (b,k,r)) : Jvm.Cond.code y b k r ∈ ws:=by
  obtain ⟨d,hd,e⟩:=List.exists_of_findSome?_eq_some h
  split at e
  · split at e
    · rename_i q; subst q; cases e; exact hd
    · cases e
  · cases e
theorem hasInit_mem (h : hasInit ws C = true) : Jvm.Cond.initialized C ∈ ws:=by
  obtain ⟨d,hd,e⟩:=List.any_eq_true.mp h
  split at e
  · rw [beq_iff_eq] at e; subst e; exact hd
  · cases e
theorem hasArr_mem {ty : FieldType} (h : hasArr ws ty = true) : Jvm.Cond.arrayClass ty ∈ ws:=by
  obtain ⟨d,hd,e⟩:=List.any_eq_true.mp h
  split at e
  · have e:=of_decide_eq_true e; subst e; exact hd
  · cases e
theorem hasStat_mem (h : hasStat ws y = true) : Jvm.Cond.static y ∈ ws:=by
  obtain ⟨d,hd,e⟩:=List.any_eq_true.mp h
  split at e
  · have e:=of_decide_eq_true e; subst e; exact hd
  · cases e
theorem hasIM_mem (h : hasIM ws y = true) : Jvm.Cond.instanceMethod y ∈ ws:=by
  obtain ⟨d,hd,e⟩:=List.any_eq_true.mp h
  split at e
  · have e:=of_decide_eq_true e; subst e; exact hd
  · cases e
theorem hasPriv_mem (h : hasPriv ws y = true) : Jvm.Cond.privateMethod y ∈ ws:=by
  obtain ⟨d,hd,e⟩:=List.any_eq_true.mp h
  split at e
  · have e:=of_decide_eq_true e; subst e; exact hd
  · cases e
theorem hasDecl_mem (h : hasDecl ws y = true) : Jvm.Cond.declares y ∈ ws:=by
  obtain ⟨d,hd,e⟩:=List.any_eq_true.mp h
  split at e
  · have e:=of_decide_eq_true e; subst e; exact hd
  · cases e
theorem hasSel_mem (h : hasSel ws y = true) : Jvm.Cond.selects y.cls y y ∈ ws:=by
  obtain ⟨d,hd,e⟩:=List.any_eq_true.mp h
  split at e
  · obtain ⟨rfl,rfl,rfl⟩:=of_decide_eq_true e; exact hd
  · cases e
theorem hasLays_mem (h : hasLays ws C n t = true) : Jvm.Cond.lays C C n t ∈ ws:=by
  obtain ⟨d,hd,e⟩:=List.any_eq_true.mp h
  split at e
  · obtain ⟨rfl,rfl,rfl,rfl⟩:=of_decide_eq_true e; exact hd
  · cases e
theorem hasLaysF_mem (h : hasLaysF ws C n t = true) : Jvm.Cond.laysFinal C C n t ∈ ws:=by
  obtain ⟨d,hd,e⟩:=List.any_eq_true.mp h
  split at e
  · obtain ⟨rfl,rfl,rfl,rfl⟩:=of_decide_eq_true e; exact hd
  · cases e
theorem lay_mem (h : (n,t) ∈ olay ws C) : (Jvm.Cond.lays C C n t ∈ ws ∨ Jvm.Cond.laysFinal C C n t ∈ ws)∧∃ ty,parseFieldDescriptor t = some ty:=by
  obtain ⟨d,hd,e⟩:=List.mem_filterMap.mp h
  unfold layE at e
  split at e
  · split at e
    · rename_i q; obtain ⟨rfl,rfl,q⟩:=q; cases e; exact ⟨Or.inl hd,Option.isSome_iff_exists.mp q⟩
    · cases e
  · split at e
    · rename_i q; obtain ⟨rfl,rfl,q⟩:=q; cases e; exact ⟨Or.inr hd,Option.isSome_iff_exists.mp q⟩
    · cases e
  · cases e
theorem idx_get {x : String × String} : ∀ {l : List (String × String)} {j : Nat},idx x l = some j→l[j]? = some x
  | [],_,h => by cases h
  | y::r,j,h => by
    unfold idx at h
    split at h
    · rename_i q; cases h; simp [q]
    · obtain ⟨j',h',rfl⟩:=Option.map_eq_some_iff.mp h
      simpa using idx_get h'
theorem fidx_mem {j : Nat} (h : fidx ws C n t = some j) : (n,t) ∈ olay ws C:=List.mem_of_getElem? (idx_get h)
theorem fidx_inj {n' t' : String} {j : Nat} (h : fidx ws C n t = some j) (h' : fidx ws C n' t' = some j) : n = n'∧t = t':=by
  have:=(idx_get h).symm.trans (idx_get h')
  simpa using this
theorem gfR_some {j : Nat} (h : gfR ws own i = some (C,j)) : ∃ n t,rFld ws own i = some (C,n,t)∧fidx ws C n t = some j:=by
  unfold gfR at h
  split at h
  · rename_i C' n' t' q
    obtain ⟨j',h',e⟩:=Option.map_eq_some_iff.mp h
    cases e; exact ⟨_,_,q,h'⟩
  · cases h
theorem pfR_some {mn : String} {j : Nat} {ty : FieldType} (h : pfR ws own mn i = some (C,j,ty)) : ∃ n t,rFld ws own i = some (C,n,t)∧fidx ws C n t = some j∧parseFieldDescriptor t = some ty ∧
    (Jvm.Cond.lays C C n t ∈ ws ∨ (Jvm.Cond.laysFinal C C n t ∈ ws∧own = C∧mn = "<init>"))∧(∃ k,Jvm.Cond.instantiable C k ∈ ws)∧∀ n' t',(n',t') ∈ olay ws C→n' ≠ n ∨ t' = t:=by
  unfold pfR at h
  split at h
  · rename_i C' n' t' q
    split at h
    · rename_i j' ty' q1 q2
      split at h
      · rename_i g
        cases h
        simp only [Bool.and_eq_true,Bool.or_eq_true,beq_iff_eq,List.all_eq_true,bne_iff_ne,ne_eq] at g
        obtain ⟨⟨g1,g2⟩,g3⟩:=g
        obtain ⟨k,hk⟩:=Option.isSome_iff_exists.mp g2
        refine ⟨n',t',q,q1,q2,?_,⟨k,rInst_mem hk⟩,fun a b hab => g3 (a,b) hab⟩
        rcases g1 with g1 | ⟨⟨g1,g4⟩,g5⟩
        · exact Or.inl (hasLays_mem g1)
        · exact Or.inr ⟨hasLaysF_mem g1,g4,g5⟩
      · cases h
    · cases h
  · cases h
end Res
end Jvm.Own
namespace Jvm.Own
open Sem ClassFile Op Lib Jvm.Stand Jvm.Free Jvm.LawKit Jvm.RoadKit
/-! OWN 2: the abstract machine -/
abbrev XR:=Option (Nat × List Slot × List Value)
def chk {α : Type} (a b : Nat) (x : Option α) : Option α:=if a = b then x else none
def isI : Value→Bool | .int _ => true | _ => false
def isL : Value→Bool | .long _ => true | _ => false
def stl (ls : List Slot) (i : Nat) (v : Value) : Option (List Slot):=(storeLocals ls.toArray i v).map Array.toList
def ldV (p : Value→Bool) (nx i : Nat) (ls : List Slot) (st : List Value) : XR :=
  match ls[i]? with
  | some (.val v) => if p v = true then some (nx,ls,v::st) else none
  | _ => none
def stV (p : Value→Bool) (nx i : Nat) (ls : List Slot) : List Value→XR
  | v::r => if p v = true then (stl ls i v).map fun l' => (nx,l',r) else none
  | [] => none
def b2 (f : Int32→Int32→Int32) (nx : Nat) (ls : List Slot) : List Value→XR
  | .int y::.int x::r => some (nx,ls,.int (f x y)::r)
  | _ => none
def d2 (f : Int32→Int32→Int32) (nx : Nat) (ls : List Slot) : List Value→XR
  | .int y::.int x::r => if y = 0 then none else some (nx,ls,.int (f x y)::r)
  | _ => none
def u1 (f : Int32→Int32) (nx : Nat) (ls : List Slot) : List Value→XR
  | .int x::r => some (nx,ls,.int (f x)::r)
  | _ => none
def l2 (f : Int64→Int64→Int64) (nx : Nat) (ls : List Slot) : List Value→XR
  | .long y::.long x::r => some (nx,ls,.long (f x y)::r)
  | _ => none
def lsh (f : Int64→Int32→Int64) (nx : Nat) (ls : List Slot) : List Value→XR
  | .int y::.long x::r => some (nx,ls,.long (f x y)::r)
  | _ => none
def jmp (pc : Nat) (o : Int) : Option Nat:=if 0≤(pc : Int) + o then some ((pc : Int) + o).toNat else none
def br (c : Bool) (pc : Nat) (o : Int) (ls : List Slot) (r : List Value) : XR :=
  if c = true then (jmp pc o).map fun q => (q,ls,r) else some (pc + 3,ls,r)
def sw (pc : Nat) (dflt low high : Int) (offs : Array Int) (ls : List Slot) : List Value→XR
  | .int i::r => if i.toInt < low ∨ i.toInt > high then (jmp pc dflt).map fun q => (q,ls,r) else
      match offs[(i.toInt - low).toNat]? with
      | some o => (jmp pc o).map fun q => (q,ls,r)
      | none => none
  | _ => none
def xstep (ins : Instr) (len pc : Nat) (ls : List Slot) (st : List Value) : XR :=
  match ins with
  | .aload_n i => chk len 1 (ldV Value.isRef (pc + 1) i.val ls st)
  | .aload i => chk len 2 (ldV Value.isRef (pc + 2) i ls st)
  | .iload_n i => chk len 1 (ldV isI (pc + 1) i.val ls st)
  | .iload i => chk len 2 (ldV isI (pc + 2) i ls st)
  | .lload_n i => chk len 1 (ldV isL (pc + 1) i.val ls st)
  | .lload i => chk len 2 (ldV isL (pc + 2) i ls st)
  | .astore_n i => chk len 1 (stV Value.isRef (pc + 1) i.val ls st)
  | .astore i => chk len 2 (stV Value.isRef (pc + 2) i ls st)
  | .istore_n i => chk len 1 (stV isI (pc + 1) i.val ls st)
  | .istore i => chk len 2 (stV isI (pc + 2) i ls st)
  | .lstore_n i => chk len 1 (stV isL (pc + 1) i.val ls st)
  | .lstore i => chk len 2 (stV isL (pc + 2) i ls st)
  | .iconst i => chk len 1 (some (pc + 1,ls,.int (Int32.ofInt i)::st))
  | .bipush i => chk len 2 (some (pc + 2,ls,.int (Int8.ofInt i).toInt32::st))
  | .sipush i => chk len 3 (some (pc + 3,ls,.int (Int16.ofInt i).toInt32::st))
  | .lconst i => chk len 1 (some (pc + 1,ls,.long (Int64.ofNat i)::st))
  | .iadd => chk len 1 (b2 (fun x y => x + y) (pc + 1) ls st)
  | .isub => chk len 1 (b2 (fun x y => x - y) (pc + 1) ls st)
  | .imul => chk len 1 (b2 (fun x y => x * y) (pc + 1) ls st)
  | .iand => chk len 1 (b2 (fun x y => x &&& y) (pc + 1) ls st)
  | .ior => chk len 1 (b2 (fun x y => x ||| y) (pc + 1) ls st)
  | .ixor => chk len 1 (b2 (fun x y => x ^^^ y) (pc + 1) ls st)
  | .ishl => chk len 1 (b2 (fun x y => x <<< (y &&& 31)) (pc + 1) ls st)
  | .ishr => chk len 1 (b2 (fun x y => x >>> (y &&& 31)) (pc + 1) ls st)
  | .iushr => chk len 1 (b2 XT.ushr (pc + 1) ls st)
  | .idiv => chk len 1 (d2 (fun x y => x / y) (pc + 1) ls st)
  | .irem => chk len 1 (d2 (fun x y => x % y) (pc + 1) ls st)
  | .ineg => chk len 1 (u1 (fun x => -x) (pc + 1) ls st)
  | .i2b => chk len 1 (u1 (fun x => x.toInt8.toInt32) (pc + 1) ls st)
  | .i2c => chk len 1 (u1 (fun x => x.toUInt32.toUInt16.toUInt32.toInt32) (pc + 1) ls st)
  | .ladd => chk len 1 (l2 (fun x y => x + y) (pc + 1) ls st)
  | .lsub => chk len 1 (l2 (fun x y => x - y) (pc + 1) ls st)
  | .lmul => chk len 1 (l2 (fun x y => x * y) (pc + 1) ls st)
  | .land => chk len 1 (l2 (fun x y => x &&& y) (pc + 1) ls st)
  | .lor => chk len 1 (l2 (fun x y => x ||| y) (pc + 1) ls st)
  | .lxor => chk len 1 (l2 (fun x y => x ^^^ y) (pc + 1) ls st)
  | .lshl => chk len 1 (lsh (fun x y => x <<< (y.toInt64 &&& 63)) (pc + 1) ls st)
  | .lshr => chk len 1 (lsh (fun x y => x >>> (y.toInt64 &&& 63)) (pc + 1) ls st)
  | .lushr => chk len 1 (lsh XT.ushrL (pc + 1) ls st)
  | .lneg => chk len 1 (match st with | .long x::r => some (pc + 1,ls,.long (-x)::r) | _ => none)
  | .i2l => chk len 1 (match st with | .int x::r => some (pc + 1,ls,.long x.toInt64::r) | _ => none)
  | .l2i => chk len 1 (match st with | .long x::r => some (pc + 1,ls,.int x.toInt32::r) | _ => none)
  | .lcmp => chk len 1 (match st with | .long y::.long x::r => some (pc + 1,ls,.int (XT.cmpL x y)::r) | _ => none)
  | .iinc i cst => chk len 3 (match ls[i]? with | some (.val (.int x)) => (stl ls i (.int (x + Int32.ofInt cst))).map fun l' => (pc + 3,l',st) | _ => none)
  | .dup => chk len 1 (match st with | x::r => if x.category = 1 then some (pc + 1,ls,x::x::r) else none | _ => none)
  | .dup2 => chk len 1 (match st with
      | .long x::r => some (pc + 1,ls,.long x::.long x::r)
      | x::y::r => if x.category = 1∧y.category = 1 then some (pc + 1,ls,x::y::x::y::r) else none
      | _ => none)
  | .pop => chk len 1 (match st with | x::r => if x.category = 1 then some (pc + 1,ls,r) else none | _ => none)
  | .goto o => chk len 3 ((jmp pc o).map fun q => (q,ls,st))
  | .ifCond cd o => chk len 3 (match st with | .int x::r => br (ifCond.holds cd x) pc o ls r | _ => none)
  | .if_icmp cd o => chk len 3 (match st with | .int y::.int x::r => br (if_icmp.holds cd x y) pc o ls r | _ => none)
  | .tableswitch dflt low high offs => sw pc dflt low high offs ls st
  | _ => none
abbrev HR:=Option (Nat × List Value × AHeap)
def putv : FieldType→Value→Option Value
  | .int,.int x => some (.int x)
  | .boolean,.int x => some (.int (nar .boolean x))
  | .byte,.int x => some (.int (nar .byte x))
  | .char,.int x => some (.int (nar .char x))
  | .short,.int x => some (.int (nar .short x))
  | .long,.long x => some (.long x)
  | .array _,.ref a => some (.ref a)
  | _,_ => none
def dflt (q : String × String) : Value:=match parseFieldDescriptor q.2 with | some ty => defaultValue ty | none => .null
def hGet (ws : Ws) (own : String) (i pc : Nat) (H : AHeap) : List Value→HR
  | .ref a::r =>
    match gfR ws own i,H[a]? with
    | some (C,j),some (.object C',vs) => if C = C' then (vs[j]?).map fun v => (pc + 3,v::r,H) else none
    | _,_ => none
  | _ => none
def hPut (ws : Ws) (k : Nat) (own mn : String) (i pc : Nat) (H : AHeap) : List Value→HR
  | v::.ref a::r =>
    match pfR ws own mn i,H[a]? with
    | some (C,j,ty),some (.object C',vs) => if C = C'∧k≤a∧j < vs.length then (putv ty v).map fun v' => (pc + 3,r,H.set a (.object C',vs.set j v')) else none
    | _,_ => none
  | _ => none
def hNew (ws : Ws) (own : String) (i pc : Nat) (H : AHeap) (st : List Value) : HR :=
  match rCls ws own i with
  | some C => if (rInst ws C).isSome = true∧hasInit ws C = true then some (pc + 3,.ref H.length::st,H ++ [(.object C,(olay ws C).map dflt)]) else none
  | none => none
def hNewA (ws : Ws) (aty : ArrayType) (pc : Nat) (H : AHeap) : List Value→HR
  | .int n::r => if hasArr ws (newarray.typeOf aty) = true∧¬ n < 0∧n.toNatClampNeg * 8≤536870912 then
      some (pc + 2,.ref H.length::r,H ++ [(.array (newarray.typeOf aty),List.replicate n.toNatClampNeg (defaultValue (newarray.typeOf aty)))]) else none
  | _ => none
def hLd (ok : FieldType→Bool) (pc : Nat) (H : AHeap) : List Value→HR
  | .int j::.ref a::r =>
    match H[a]? with
    | some (.array ty,vs) => if ok ty = true∧¬ j < 0 then (vs[j.toNatClampNeg]?).map fun v => (pc + 1,v::r,H) else none
    | _ => none
  | _ => none
def hSt (ok : FieldType→Bool) (k pc : Nat) (H : AHeap) : List Value→HR
  | v::.int j::.ref a::r =>
    match H[a]? with
    | some (.array ty,vs) => if ok ty = true∧k≤a∧¬ j < 0∧j.toNatClampNeg < vs.length then (putv ty v).map fun v' => (pc + 1,r,H.set a (.array ty,vs.set j.toNatClampNeg v')) else none
    | _ => none
  | _ => none
def hLen (pc : Nat) (H : AHeap) : List Value→HR
  | .ref a::r =>
    match H[a]? with
    | some (.array _,vs) => some (pc + 1,.int vs.length.toInt32::r,H)
    | _ => none
  | _ => none
def okT (t u : FieldType) : Bool:=decide (u = t)
def okB (u : FieldType) : Bool:=decide (u = .byte) || decide (u = .boolean)
def hstep (ws : Ws) (k : Nat) (y : MethodName) (ins : Instr) (len pc : Nat) (st : List Value) (H : AHeap) : HR :=
  match ins with
  | .getfield i => chk len 3 (hGet ws y.cls i pc H st)
  | .putfield i => chk len 3 (hPut ws k y.cls y.name i pc H st)
  | .new i => chk len 3 (hNew ws y.cls i pc H st)
  | .newarray aty => chk len 2 (hNewA ws aty pc H st)
  | .iaload => chk len 1 (hLd (okT .int) pc H st)
  | .caload => chk len 1 (hLd (okT .char) pc H st)
  | .laload => chk len 1 (hLd (okT .long) pc H st)
  | .baload => chk len 1 (hLd okB pc H st)
  | .iastore => chk len 1 (hSt (okT .int) k pc H st)
  | .castore => chk len 1 (hSt (okT .char) k pc H st)
  | .lastore => chk len 1 (hSt (okT .long) k pc H st)
  | .bastore => chk len 1 (hSt okB k pc H st)
  | .arraylength => chk len 1 (hLen pc H st)
  | .ldc i => chk len 2 ((rCon ws y.cls i).map fun v => (pc + 2,.int v::st,H))
  | .ldc_w i => chk len 3 ((rCon ws y.cls i).map fun v => (pc + 3,.int v::st,H))
  | .ldc2_w i => chk len 3 ((rConL ws y.cls i).map fun v => (pc + 3,.long v::st,H))
  | _ => none
def ent : List Value→List Slot
  | [] => []
  | v::r => if v.category = 2 then .val v::.second::ent r else .val v::ent r
def entry (as : List Value) (mx : Nat) : List Slot:=ent as ++ List.replicate (mx - (ent as).length) .unset
def wsum (st : List Value) : Nat:=(st.map fun v => v.category).sum
abbrev Dn:=List (MethodName × Nat × Nat)
def dnOf (dn : Dn) (y : MethodName) : Option (Nat × Nat):=dn.findSome? fun q => if q.1 = y then some q.2 else none
/-- what a methodref says: callee, its code, max_locals, return, number of parameters, slack for what lies under -/
def cR (ws : Ws) (dn : Dn) (y : MethodName) (i : Nat) : Option (MethodName × ByteArray × Nat × Option FieldType × Nat × Nat) :=
  match rMth ws y.cls i with
  | none => none
  | some y' =>
    match rCode ws y',dnOf dn y',dnOf dn y,parseMethodDescriptor y'.desc with
    | some (b,mx,r),some (f',l'),some (f,l),some sig =>
      if hasInit ws y'.cls = true∧Jvm.plainName y'.cls = true∧y'.cls ≠ "java/lang/invoke/MethodHandle" ∧ y'.cls ≠ "java/lang/invoke/VarHandle" ∧ f' + 1≤f∧mx + 11 + l'≤l then
        some (y',b,mx,r,sig.parameters.length,l - (mx + 11 + l')) else none
    | _,_,_,_ => none
def sR (ws : Ws) (dn : Dn) (y : MethodName) (i : Nat) : Option (MethodName × ByteArray × Nat × Option FieldType × Nat × Nat) :=
  match cR ws dn y i with
  | some q => if hasStat ws q.1 = true then some q else none
  | none => none
def nR (ws : Ws) (dn : Dn) (y : MethodName) (i : Nat) : Option (MethodName × ByteArray × Nat × Option FieldType × Nat × Nat) :=
  match cR ws dn y i with
  | some q => if q.1.name = "<init>" ∧ hasIM ws q.1 = true∧q.2.2.2.1 = none then some q else none
  | none => none
/-- the first: is it private? -/
def vR (ws : Ws) (dn : Dn) (y : MethodName) (i : Nat) : Option (Bool × MethodName × ByteArray × Nat × Option FieldType × Nat × Nat) :=
  match cR ws dn y i with
  | some q => if hasIM ws q.1 = true then
      (if hasPriv ws q.1 = true∧(rInst ws q.1.cls).isSome = true then some (true,q) else if hasDecl ws q.1 = true∧hasSel ws q.1 = true then some (false,q) else none) else none
  | none => none
/-- Object.<init>: how many words may lie under it -/
def oR (ws : Ws) (dn : Dn) (y : MethodName) (i : Nat) : Option Nat :=
  match rMth ws y.cls i,rCode ws Lib.objectInit,dnOf dn y with
  | some y',some (b,mx,r),some (f,l) =>
    if y' = Lib.objectInit∧hasIM ws Lib.objectInit = true∧b.data = #[0xb1]∧mx = 1∧r = none∧1≤f∧12≤l then some (l - 12) else none
  | _,_,_ => none
abbrev Call:=MethodName × ByteArray × Option FieldType × List Slot × List Value
/-- returns and calls -/
def cstep (ws : Ws) (dn : Dn) (y : MethodName) (ret : Option FieldType) (ins : Instr) (len pc : Nat) (ls : List Slot) (st : List Value) (H : AHeap) : Option (Option Value ⊕ (Nat × List Slot × List Value × AHeap) ⊕ Call) :=
  match ins with
  | .ireturn => chk len 1 (match st,ret with
      | .int z::_,some t => if t = .int ∨ t = .boolean ∨ t = .byte ∨ t = .char ∨ t = .short then some (.inl (some (.int (nar t z)))) else none
      | _,_ => none)
  | .lreturn => chk len 1 (match st,ret with
      | [.long z],some .long => some (.inl (some (.long z)))
      | _,_ => none)
  | .return_ => chk len 1 (match st,ret with
      | [],none => some (.inl none)
      | _,_ => none)
  | .invokestatic i => chk len 3 (match sR ws dn y i with
      | some (y',b,mx,r,na,sl) =>
        if na≤st.length∧wsum (st.drop na)≤sl∧(ent (st.take na).reverse).length≤mx then
          some (.inr (.inr (y',b,r,entry (st.take na).reverse mx,st.drop na)))
        else none
      | none => none)
  | .invokespecial i => chk len 3 (match oR ws dn y i with
      | some sl => (match st with
          | .ref _::r => if wsum r≤sl then some (.inr (.inl (pc + 3,ls,r,H))) else none
          | _ => none)
      | none => match nR ws dn y i with
        | some (y',b,mx,r,na,sl) =>
          (match st.drop na with
          | .ref a::rest =>
            if wsum rest≤sl∧(ent (.ref a::(st.take na).reverse)).length≤mx∧na≤st.length then
              some (.inr (.inr (y',b,r,entry (.ref a::(st.take na).reverse) mx,rest)))
            else none
          | _ => none)
        | none => none)
  | .invokevirtual i => chk len 3 (match vR ws dn y i with
      | some (pv,y',b,mx,r,na,sl) =>
        (match st.drop na with
        | .ref a::rest =>
          (match H[a]? with
          | some (.object C,_) =>
            if (pv = true ∨ C = y'.cls)∧wsum rest≤sl∧(ent (.ref a::(st.take na).reverse)).length≤mx∧na≤st.length then
              some (.inr (.inr (y',b,r,entry (.ref a::(st.take na).reverse) mx,rest)))
            else none
          | _ => none)
        | _ => none)
      | none => none)
  | _ => none
/-- what the machine does next: it returns, it steps, it calls -/
def act (ws : Ws) (dn : Dn) (k : Nat) (y : MethodName) (bytes : ByteArray) (ret : Option FieldType) (pc : Nat) (ls : List Slot) (st : List Value) (H : AHeap) : Option (Option Value ⊕ (Nat × List Slot × List Value × AHeap) ⊕ Call) :=
  match decode bytes pc with
  | .error _ => none
  | .ok (ins,len) =>
    match xstep ins len pc ls st with
    | some q => some (.inr (.inl (q.1,q.2.1,q.2.2,H)))
    | none => match hstep ws k y ins len pc st H with
      | some q => some (.inr (.inl (q.1,ls,q.2.1,q.2.2)))
      | none => cstep ws dn y ret ins len pc ls st H
def run (ws : Ws) (dn : Dn) (k : Nat) : Nat→MethodName→ByteArray→Option FieldType→Nat→List Slot→List Value→AHeap→Option (Option Value × AHeap)
  | 0,_,_,_,_,_,_,_ => none
  | n + 1,y,bytes,ret,pc,ls,st,H =>
    match act ws dn k y bytes ret pc ls st H with
    | none => none
    | some (.inl v) => some (v,H)
    | some (.inr (.inl (pc',ls',st',H'))) => run ws dn k n y bytes ret pc' ls' st' H'
    | some (.inr (.inr (y',b,r,en,rest))) =>
      match run ws dn k n y' b r 0 en [] H with
      | some (v,H1) => run ws dn k n y bytes ret (pc + 3) ls (v.toList ++ rest) H1
      | none => none
end Jvm.Own
namespace Jvm.Own
open Sem ClassFile Op Lib Jvm.Stand Jvm.Free Jvm.LawKit Jvm.RoadKit
/-! OWN 3: the abstract machine's plain steps are the machine's -/
def ren (f : Nat→Nat) : Value→Value
  | .ref a => .ref (f a)
  | v => v
def renS (f : Nat→Nat) : Slot→Slot
  | .val v => .val (ren f v)
  | s => s
abbrev fr (f : Nat→Nat) (m : MethodId) (pc : Nat) (ls : List Slot) (st : List Value) : JFrame:=mkF m pc (ls.map (renS f)).toArray (st.map (ren f))
theorem ren_cat (f : Nat→Nat) (v : Value) : (ren f v).category = v.category:=by cases v <;> rfl
theorem ren_isRef (f : Nat→Nat) (v : Value) : (ren f v).isRef = v.isRef:=by cases v <;> rfl
theorem isI_int {v : Value} (h : isI v = true) : ∃ x,v = .int x:=by cases v <;> first | exact ⟨_,rfl⟩ | cases h
theorem isL_long {v : Value} (h : isL v = true) : ∃ x,v = .long x:=by cases v <;> first | exact ⟨_,rfl⟩ | cases h
theorem chk_some {α : Type} {a b : Nat} {x : Option α} {r : α} (h : chk a b x = some r) : a = b∧x = some r:=by
  unfold chk at h
  split at h
  · exact ⟨by assumption,h⟩
  · cases h
theorem loc_get {f : Nat→Nat} {ls : List Slot} {i : Nat} {s : Slot} (h : ls[i]? = some s) : ((ls.map (renS f)).toArray)[i]? = some (renS f s):=by
  rw [List.getElem?_toArray,List.getElem?_map,h]; rfl
theorem setAt_ren (f : Nat→Nat) (l : Array Slot) (i : Nat) (x : Slot) : setAt (l.map (renS f)) i (renS f x) = (setAt l i x).map fun a => a.map (renS f):=by
  unfold setAt
  rw [Array.size_map]
  split
  · rw [Option.map_some,Array.map_setIfInBounds]
  · rfl
theorem storeSelf_ren (f : Nat→Nat) (l : Array Slot) (i : Nat) (v : Value) : storeSelf (l.map (renS f)) i (ren f v) = (storeSelf l i v).map fun a => a.map (renS f):=by
  have h0 : setAt (l.map (renS f)) i (.val (ren f v)) = _:=setAt_ren f l i (.val v)
  simp only [storeSelf,h0,ren_cat]
  cases setAt l i (.val v) with
  | none => rfl
  | some l1 =>
    simp only [Option.map_some,Option.bind_eq_bind,Option.bind_some,bind_pure_comp]
    split
    · rw [Array.getElem?_map]
      cases l1[i + 1]? with
      | none => rfl
      | some s =>
        simp only [Option.map_some,Option.bind_some]
        cases s with
        | unset => exact setAt_ren f l1 (i + 1) .second
        | second => exact setAt_ren f l1 (i + 1) .second
        | val w =>
          simp only [renS,ren_cat]
          split
          · have h1 : setAt (l1.map (renS f)) (i + 2) .unset = _:=setAt_ren f l1 (i + 2) .unset
            rw [h1]
            cases setAt l1 (i + 2) .unset with
            | none => rfl
            | some l2 => exact setAt_ren f l2 (i + 1) .second
          · exact setAt_ren f l1 (i + 1) .second
    · rfl
theorem storeLocals_ren (f : Nat→Nat) (l : Array Slot) (i : Nat) (v : Value) : storeLocals (l.map (renS f)) i (ren f v) = (storeLocals l i v).map fun a => a.map (renS f):=by
  simp only [storeLocals,Array.getElem?_map]
  cases l[i]? with
  | none => rfl
  | some s =>
    simp only [Option.map_some,Option.bind_eq_bind,Option.bind_some]
    cases s with
    | unset => exact storeSelf_ren f l i v
    | second =>
      have h1 : setAt (l.map (renS f)) (i - 1) .unset = _:=setAt_ren f l (i - 1) .unset
      simp only [renS,h1]
      cases setAt l (i - 1) .unset with
      | none => rfl
      | some l2 => exact storeSelf_ren f l2 i v
    | val w =>
      simp only [renS,ren_cat]
      split
      · have h1 : setAt (l.map (renS f)) (i + 1) .unset = _:=setAt_ren f l (i + 1) .unset
        rw [h1]
        cases setAt l (i + 1) .unset with
        | none => rfl
        | some l2 => exact storeSelf_ren f l2 i v
      · exact storeSelf_ren f l i v
theorem stl_ren {f : Nat→Nat} {ls l' : List Slot} {i : Nat} {v : Value} (h : stl ls i v = some l') : storeLocals (ls.map (renS f)).toArray i (ren f v) = some (l'.map (renS f)).toArray:=by
  unfold stl at h
  obtain ⟨a,ha,rfl⟩:=Option.map_eq_some_iff.mp h
  have:=storeLocals_ren f ls.toArray i v
  rw [ha] at this
  rw [← List.map_toArray,this]
  simp [← Array.toList_inj]
theorem setAt_size {l l' : Array Slot} {i : Nat} {x : Slot} (h : setAt l i x = some l') : l'.size = l.size:=by
  unfold setAt at h
  split at h
  · cases h; simp
  · cases h
theorem storeSelf_size {l l' : Array Slot} {i : Nat} {v : Value} (h : storeSelf l i v = some l') : l'.size = l.size:=by
  simp only [storeSelf,Option.bind_eq_bind,Option.bind_eq_some_iff] at h
  obtain ⟨l1,h1,h⟩:=h
  have e1:=setAt_size h1
  split at h
  · obtain ⟨s,-,h⟩:=Option.bind_eq_some_iff.mp h
    split at h
    · split at h
      · obtain ⟨l2,h2,h⟩:=Option.bind_eq_some_iff.mp h
        rw [setAt_size h,setAt_size h2,e1]
      · rw [setAt_size h,e1]
    · rw [setAt_size h,e1]
  · cases h; exact e1
theorem storeLocals_size {l l' : Array Slot} {i : Nat} {v : Value} (h : storeLocals l i v = some l') : l'.size = l.size:=by
  simp only [storeLocals,Option.bind_eq_bind,Option.bind_eq_some_iff] at h
  obtain ⟨s,-,h⟩:=h
  split at h
  · obtain ⟨l2,h2,h⟩:=Option.bind_eq_some_iff.mp h
    rw [storeSelf_size h,setAt_size h2]
  · split at h
    · obtain ⟨l2,h2,h⟩:=Option.bind_eq_some_iff.mp h
      rw [storeSelf_size h,setAt_size h2]
    · exact storeSelf_size h
  · exact storeSelf_size h
theorem stl_size {ls l' : List Slot} {i : Nat} {v : Value} (h : stl ls i v = some l') : l'.length = ls.length:=by
  unfold stl at h
  obtain ⟨a,ha,rfl⟩:=Option.map_eq_some_iff.mp h
  have:=storeLocals_size ha
  simpa using this
theorem ldV_some {p : Value→Bool} {nx i : Nat} {ls : List Slot} {st : List Value} {q : Nat × List Slot × List Value} (h : ldV p nx i ls st = some q) : ∃ v,ls[i]? = some (.val v)∧p v = true∧q = (nx,ls,v::st):=by
  unfold ldV at h
  split at h
  · rename_i v hv
    split at h
    · cases h; exact ⟨v,hv,by assumption,rfl⟩
    · cases h
  · cases h
theorem stV_some {p : Value→Bool} {nx i : Nat} {ls : List Slot} {st : List Value} {q : Nat × List Slot × List Value} (h : stV p nx i ls st = some q) : ∃ v r l',st = v::r∧p v = true∧stl ls i v = some l'∧q = (nx,l',r):=by
  unfold stV at h
  split at h
  · split at h
    · obtain ⟨l',h1,h2⟩:=Option.map_eq_some_iff.mp h
      exact ⟨_,_,l',rfl,by assumption,h1,h2.symm⟩
    · cases h
  · cases h
theorem b2_some {f : Int32→Int32→Int32} {nx : Nat} {ls : List Slot} {st : List Value} {q : Nat × List Slot × List Value} (h : b2 f nx ls st = some q) : ∃ x y r,st = .int y::.int x::r∧q = (nx,ls,.int (f x y)::r):=by
  unfold b2 at h
  split at h
  · cases h; exact ⟨_,_,_,rfl,rfl⟩
  · cases h
theorem d2_some {f : Int32→Int32→Int32} {nx : Nat} {ls : List Slot} {st : List Value} {q : Nat × List Slot × List Value} (h : d2 f nx ls st = some q) : ∃ x y r,st = .int y::.int x::r∧y ≠ 0∧q = (nx,ls,.int (f x y)::r):=by
  unfold d2 at h
  split at h
  · split at h
    · cases h
    · cases h; exact ⟨_,_,_,rfl,by assumption,rfl⟩
  · cases h
theorem u1_some {f : Int32→Int32} {nx : Nat} {ls : List Slot} {st : List Value} {q : Nat × List Slot × List Value} (h : u1 f nx ls st = some q) : ∃ x r,st = .int x::r∧q = (nx,ls,.int (f x)::r):=by
  unfold u1 at h
  split at h
  · cases h; exact ⟨_,_,rfl,rfl⟩
  · cases h
theorem l2_some {f : Int64→Int64→Int64} {nx : Nat} {ls : List Slot} {st : List Value} {q : Nat × List Slot × List Value} (h : l2 f nx ls st = some q) : ∃ x y r,st = .long y::.long x::r∧q = (nx,ls,.long (f x y)::r):=by
  unfold l2 at h
  split at h
  · cases h; exact ⟨_,_,_,rfl,rfl⟩
  · cases h
theorem lsh_some {f : Int64→Int32→Int64} {nx : Nat} {ls : List Slot} {st : List Value} {q : Nat × List Slot × List Value} (h : lsh f nx ls st = some q) : ∃ x y r,st = .int y::.long x::r∧q = (nx,ls,.long (f x y)::r):=by
  unfold lsh at h
  split at h
  · cases h; exact ⟨_,_,_,rfl,rfl⟩
  · cases h
theorem jmp_some {pc q : Nat} {o : Int} (h : jmp pc o = some q) : 0≤(pc : Int) + o∧((pc : Int) + o).toNat = q:=by
  unfold jmp at h
  split at h
  · cases h; exact ⟨by assumption,rfl⟩
  · cases h
theorem br_some {c : Bool} {pc : Nat} {o : Int} {ls : List Slot} {r : List Value} {q : Nat × List Slot × List Value} (h : br c pc o ls r = some q) : (c = true∧∃ t,0≤(pc : Int) + o∧((pc : Int) + o).toNat = t∧q = (t,ls,r)) ∨ (c = false∧q = (pc + 3,ls,r)):=by
  unfold br at h
  split at h
  · obtain ⟨t,h1,h2⟩:=Option.map_eq_some_iff.mp h
    obtain ⟨h3,h4⟩:=jmp_some h1
    exact Or.inl ⟨by assumption,t,h3,h4,h2.symm⟩
  · rename_i hc; cases h; exact Or.inr ⟨by simpa using hc,rfl⟩
section X
variable {tb : Tables} [Ours tb] {e : Env} {below : List Frame} {T target : State} {m : MethodId} {c : Code}
set_option maxHeartbeats 4000000 in
theorem xstep_sound (h : At T m c below) (hx : tb.exec = Jvm.exec) (f : Nat→Nat) {ins : Instr} {len pc : Nat} {ls : List Slot} {st : List Value} {q : Nat × List Slot × List Value}
    (hd : decode c.code pc = .ok (ins,len)) (hs : xstep ins len pc ls st = some q) (hr : Steps tb e below (T.setTop (fr f m q.1 q.2.1 q.2.2)) target) : Steps tb e below (T.setTop (fr f m pc ls st)) target:=by
  unfold xstep at hs
  split at hs
  · obtain ⟨rfl,hs⟩:=chk_some hs; obtain ⟨v,h1,h2,rfl⟩:=ldV_some hs
    exact XS.aloadN h hx rfl hd (loc_get h1) (by rw [ren_isRef]; exact h2) hr
  · obtain ⟨rfl,hs⟩:=chk_some hs; obtain ⟨v,h1,h2,rfl⟩:=ldV_some hs
    exact XS.aload h hx rfl hd (loc_get h1) (by rw [ren_isRef]; exact h2) hr
  · obtain ⟨rfl,hs⟩:=chk_some hs; obtain ⟨v,h1,h2,rfl⟩:=ldV_some hs; obtain ⟨x,rfl⟩:=isI_int h2
    exact XS.iloadN h hx rfl hd (loc_get (f:=f) h1) hr
  · obtain ⟨rfl,hs⟩:=chk_some hs; obtain ⟨v,h1,h2,rfl⟩:=ldV_some hs; obtain ⟨x,rfl⟩:=isI_int h2
    exact XS.iload h hx rfl hd (loc_get (f:=f) h1) hr
  · obtain ⟨rfl,hs⟩:=chk_some hs; obtain ⟨v,h1,h2,rfl⟩:=ldV_some hs; obtain ⟨x,rfl⟩:=isL_long h2
    exact XT.lloadN h hx rfl hd (loc_get (f:=f) h1) hr
  · obtain ⟨rfl,hs⟩:=chk_some hs; obtain ⟨v,h1,h2,rfl⟩:=ldV_some hs; obtain ⟨x,rfl⟩:=isL_long h2
    exact XT.lload h hx rfl hd (loc_get (f:=f) h1) hr
  · obtain ⟨rfl,hs⟩:=chk_some hs; obtain ⟨v,r,l',rfl,h2,h3,rfl⟩:=stV_some hs
    exact XS.astoreN h hx rfl hd rfl (by rw [ren_isRef]; exact h2) (stl_ren h3) hr
  · obtain ⟨rfl,hs⟩:=chk_some hs; obtain ⟨v,r,l',rfl,h2,h3,rfl⟩:=stV_some hs
    exact XS.astore h hx rfl hd rfl (by rw [ren_isRef]; exact h2) (stl_ren h3) hr
  · obtain ⟨rfl,hs⟩:=chk_some hs; obtain ⟨v,r,l',rfl,h2,h3,rfl⟩:=stV_some hs; obtain ⟨x,rfl⟩:=isI_int h2
    exact XS.istoreN h hx rfl hd rfl (stl_ren (f:=f) h3) hr
  · obtain ⟨rfl,hs⟩:=chk_some hs; obtain ⟨v,r,l',rfl,h2,h3,rfl⟩:=stV_some hs; obtain ⟨x,rfl⟩:=isI_int h2
    exact XS.istore h hx rfl hd rfl (stl_ren (f:=f) h3) hr
  · obtain ⟨rfl,hs⟩:=chk_some hs; obtain ⟨v,r,l',rfl,h2,h3,rfl⟩:=stV_some hs; obtain ⟨x,rfl⟩:=isL_long h2
    exact XT.lstoreN h hx rfl hd rfl (stl_ren (f:=f) h3) hr
  · obtain ⟨rfl,hs⟩:=chk_some hs; obtain ⟨v,r,l',rfl,h2,h3,rfl⟩:=stV_some hs; obtain ⟨x,rfl⟩:=isL_long h2
    exact XT.lstore h hx rfl hd rfl (stl_ren (f:=f) h3) hr
  · obtain ⟨rfl,hs⟩:=chk_some hs; cases hs
    exact XS.iconst h hx rfl hd hr
  · obtain ⟨rfl,hs⟩:=chk_some hs; cases hs
    exact XS.bipush h hx rfl hd hr
  · obtain ⟨rfl,hs⟩:=chk_some hs; cases hs
    exact XS.sipush h hx rfl hd hr
  · obtain ⟨rfl,hs⟩:=chk_some hs; cases hs
    exact XT.lconst h hx rfl hd hr
  · obtain ⟨rfl,hs⟩:=chk_some hs; obtain ⟨x,y,r,rfl,rfl⟩:=b2_some hs
    exact XS.iadd h hx rfl hd rfl hr
  · obtain ⟨rfl,hs⟩:=chk_some hs; obtain ⟨x,y,r,rfl,rfl⟩:=b2_some hs
    exact XS.isub h hx rfl hd rfl hr
  · obtain ⟨rfl,hs⟩:=chk_some hs; obtain ⟨x,y,r,rfl,rfl⟩:=b2_some hs
    exact XS.imul h hx rfl hd rfl hr
  · obtain ⟨rfl,hs⟩:=chk_some hs; obtain ⟨x,y,r,rfl,rfl⟩:=b2_some hs
    exact XS.iand h hx rfl hd rfl hr
  · obtain ⟨rfl,hs⟩:=chk_some hs; obtain ⟨x,y,r,rfl,rfl⟩:=b2_some hs
    exact XT.ior h hx rfl hd rfl hr
  · obtain ⟨rfl,hs⟩:=chk_some hs; obtain ⟨x,y,r,rfl,rfl⟩:=b2_some hs
    exact XT.ixor h hx rfl hd rfl hr
  · obtain ⟨rfl,hs⟩:=chk_some hs; obtain ⟨x,y,r,rfl,rfl⟩:=b2_some hs
    exact XT.ishl h hx rfl hd rfl hr
  · obtain ⟨rfl,hs⟩:=chk_some hs; obtain ⟨x,y,r,rfl,rfl⟩:=b2_some hs
    exact XT.ishr h hx rfl hd rfl hr
  · obtain ⟨rfl,hs⟩:=chk_some hs; obtain ⟨x,y,r,rfl,rfl⟩:=b2_some hs
    exact XT.iushr h hx rfl hd rfl hr
  · obtain ⟨rfl,hs⟩:=chk_some hs; obtain ⟨x,y,r,rfl,h2,rfl⟩:=d2_some hs
    exact XS.idiv h hx rfl hd rfl h2 hr
  · obtain ⟨rfl,hs⟩:=chk_some hs; obtain ⟨x,y,r,rfl,h2,rfl⟩:=d2_some hs
    refine XS.irem h hx rfl hd rfl h2 ?_
    have q : x - x / y * y = x % y:=irem_eq_mod x y
    rw [q]; exact hr
  · obtain ⟨rfl,hs⟩:=chk_some hs; obtain ⟨x,r,rfl,rfl⟩:=u1_some hs
    exact XS.ineg h hx rfl hd rfl hr
  · obtain ⟨rfl,hs⟩:=chk_some hs; obtain ⟨x,r,rfl,rfl⟩:=u1_some hs
    exact XT.i2b h hx rfl hd rfl hr
  · obtain ⟨rfl,hs⟩:=chk_some hs; obtain ⟨x,r,rfl,rfl⟩:=u1_some hs
    exact XT.i2c h hx rfl hd rfl hr
  · obtain ⟨rfl,hs⟩:=chk_some hs; obtain ⟨x,y,r,rfl,rfl⟩:=l2_some hs
    exact XT.ladd h hx rfl hd rfl hr
  · obtain ⟨rfl,hs⟩:=chk_some hs; obtain ⟨x,y,r,rfl,rfl⟩:=l2_some hs
    exact XT.lsub h hx rfl hd rfl hr
  · obtain ⟨rfl,hs⟩:=chk_some hs; obtain ⟨x,y,r,rfl,rfl⟩:=l2_some hs
    exact XT.lmul h hx rfl hd rfl hr
  · obtain ⟨rfl,hs⟩:=chk_some hs; obtain ⟨x,y,r,rfl,rfl⟩:=l2_some hs
    exact XT.land h hx rfl hd rfl hr
  · obtain ⟨rfl,hs⟩:=chk_some hs; obtain ⟨x,y,r,rfl,rfl⟩:=l2_some hs
    exact XT.lor h hx rfl hd rfl hr
  · obtain ⟨rfl,hs⟩:=chk_some hs; obtain ⟨x,y,r,rfl,rfl⟩:=l2_some hs
    exact XT.lxor h hx rfl hd rfl hr
  · obtain ⟨rfl,hs⟩:=chk_some hs; obtain ⟨x,y,r,rfl,rfl⟩:=lsh_some hs
    exact XT.lshl h hx rfl hd rfl hr
  · obtain ⟨rfl,hs⟩:=chk_some hs; obtain ⟨x,y,r,rfl,rfl⟩:=lsh_some hs
    exact XT.lshr h hx rfl hd rfl hr
  · obtain ⟨rfl,hs⟩:=chk_some hs; obtain ⟨x,y,r,rfl,rfl⟩:=lsh_some hs
    exact XT.lushr h hx rfl hd rfl hr
  · obtain ⟨rfl,hs⟩:=chk_some hs
    split at hs
    · cases hs; exact XT.lneg h hx rfl hd rfl hr
    · cases hs
  · obtain ⟨rfl,hs⟩:=chk_some hs
    split at hs
    · cases hs; exact XT.i2l h hx rfl hd rfl hr
    · cases hs
  · obtain ⟨rfl,hs⟩:=chk_some hs
    split at hs
    · cases hs; exact XT.l2i h hx rfl hd rfl hr
    · cases hs
  · obtain ⟨rfl,hs⟩:=chk_some hs
    split at hs
    · cases hs; exact XT.lcmp h hx rfl hd rfl hr
    · cases hs
  · obtain ⟨rfl,hs⟩:=chk_some hs
    split at hs
    · rename_i x h1
      obtain ⟨l',h2,rfl⟩:=Option.map_eq_some_iff.mp hs
      exact XS.iinc h hx rfl hd (loc_get (f:=f) h1) (stl_ren (f:=f) h2) hr
    · cases hs
  · obtain ⟨rfl,hs⟩:=chk_some hs
    split at hs
    · split at hs
      · rename_i hc; cases hs; exact XS.dup h hx rfl hd rfl (by rw [ren_cat]; exact hc) hr
      · cases hs
    · cases hs
  · obtain ⟨rfl,hs⟩:=chk_some hs
    split at hs
    · cases hs; exact XT.dup2L h hx rfl hd rfl hr
    · split at hs
      · rename_i hc; cases hs; exact XT.dup2 h hx rfl hd rfl (by rw [ren_cat]; exact hc.1) (by rw [ren_cat]; exact hc.2) hr
      · cases hs
    · cases hs
  · obtain ⟨rfl,hs⟩:=chk_some hs
    split at hs
    · split at hs
      · rename_i hc; cases hs; exact XT.pop h hx rfl hd rfl (by rw [ren_cat]; exact hc) hr
      · cases hs
    · cases hs
  · obtain ⟨rfl,hs⟩:=chk_some hs
    obtain ⟨t,h1,rfl⟩:=Option.map_eq_some_iff.mp hs
    obtain ⟨h2,h3⟩:=jmp_some h1
    exact XS.goto h hx rfl rfl hd h2 h3 hr
  · obtain ⟨rfl,hs⟩:=chk_some hs
    split at hs
    · rcases br_some hs with ⟨hc,t,h1,h2,rfl⟩ | ⟨hc,rfl⟩
      · exact XS.ifYes h hx rfl rfl hd rfl hc h1 h2 hr
      · exact XS.ifNo h hx rfl hd rfl hc hr
    · cases hs
  · obtain ⟨rfl,hs⟩:=chk_some hs
    split at hs
    · rcases br_some hs with ⟨hc,t,h1,h2,rfl⟩ | ⟨hc,rfl⟩
      · exact XS.icmpYes h hx rfl rfl hd rfl hc h1 h2 hr
      · exact XS.icmpNo h hx rfl hd rfl hc hr
    · cases hs
  · unfold sw at hs
    split at hs
    · split at hs
      · rename_i hc
        obtain ⟨t,h1,rfl⟩:=Option.map_eq_some_iff.mp hs
        obtain ⟨h2,h3⟩:=jmp_some h1
        exact XS.tswOut h hx rfl rfl hd rfl hc h2 h3 hr
      · rename_i hc
        split at hs
        · rename_i o ho
          obtain ⟨t,h1,rfl⟩:=Option.map_eq_some_iff.mp hs
          obtain ⟨h2,h3⟩:=jmp_some h1
          exact XS.tswIn h hx rfl rfl hd rfl hc ho h2 h3 hr
        · cases hs
    · cases hs
  · cases hs
end X
theorem xstep_size {ins : Instr} {len pc : Nat} {ls : List Slot} {st : List Value} {q : Nat × List Slot × List Value} (hs : xstep ins len pc ls st = some q) : q.2.1.length = ls.length:=by
  unfold xstep at hs
  split at hs
  all_goals first
    | (obtain ⟨rfl,hs⟩:=chk_some hs; obtain ⟨v,h1,h2,rfl⟩:=ldV_some hs; rfl)
    | (obtain ⟨rfl,hs⟩:=chk_some hs; obtain ⟨v,r,l',rfl,h2,h3,rfl⟩:=stV_some hs; exact stl_size h3)
    | (obtain ⟨rfl,hs⟩:=chk_some hs; cases hs; rfl)
    | (obtain ⟨rfl,hs⟩:=chk_some hs; obtain ⟨x,y,r,rfl,rfl⟩:=b2_some hs; rfl)
    | (obtain ⟨rfl,hs⟩:=chk_some hs; obtain ⟨x,y,r,rfl,h2,rfl⟩:=d2_some hs; rfl)
    | (obtain ⟨rfl,hs⟩:=chk_some hs; obtain ⟨x,r,rfl,rfl⟩:=u1_some hs; rfl)
    | (obtain ⟨rfl,hs⟩:=chk_some hs; obtain ⟨x,y,r,rfl,rfl⟩:=l2_some hs; rfl)
    | (obtain ⟨rfl,hs⟩:=chk_some hs; obtain ⟨x,y,r,rfl,rfl⟩:=lsh_some hs; rfl)
    | (obtain ⟨rfl,hs⟩:=chk_some hs; split at hs <;> first | (cases hs; rfl) | (cases hs; done))
    | (obtain ⟨rfl,hs⟩:=chk_some hs; split at hs <;> first | (obtain ⟨l',h2,rfl⟩:=Option.map_eq_some_iff.mp hs; exact stl_size h2) | (cases hs; done))
    | (obtain ⟨rfl,hs⟩:=chk_some hs; split at hs <;> first | (split at hs <;> first | (cases hs; rfl) | (cases hs; done)) | (cases hs; rfl) | (cases hs; done))
    | (obtain ⟨rfl,hs⟩:=chk_some hs; obtain ⟨t,h1,rfl⟩:=Option.map_eq_some_iff.mp hs; rfl)
    | (obtain ⟨rfl,hs⟩:=chk_some hs; split at hs <;> first | (rcases br_some hs with ⟨hc,t,h1,h2,rfl⟩ | ⟨hc,rfl⟩ <;> rfl) | (cases hs; done))
    | (unfold sw at hs; split at hs <;> first | (cases hs; done) | (split at hs <;> first | (obtain ⟨t,h1,rfl⟩:=Option.map_eq_some_iff.mp hs; rfl) | (split at hs <;> first | (obtain ⟨t,h1,rfl⟩:=Option.map_eq_some_iff.mp hs; rfl) | (cases hs; done))))
    | (cases hs; done)
end Jvm.Own
namespace Jvm.Own
open Sem ClassFile Op Lib Jvm.Stand Jvm.Free Jvm.LawKit Jvm.RoadKit
/-! OWN 4: the heap's steps -/
def adr (k sa n0 i : Nat) : Nat:=if i < k then sa else n0 + (i - k)
def SimO (Z : State) (ws : Ws) (f : Nat→Nat) (h : Heap) (a : Addr) : FieldType × List Value→Prop
  | (.object C,vs) => Exa Z h a C∧∀ n t j,fidx ws C n t = some j→∃ v,vs[j]? = some v∧Fld Z h a C n t (ren f v)
  | (.array ty,vs) => ∃ c : Cell,Arr Z h a c ty∧c.slots = (vs.map (ren f)).toArray
  | _ => False
def Sim (Z : State) (ws : Ws) (k sa n0 : Nat) (H : AHeap) (h : Heap) : Prop :=
  h.size = n0 + (H.length - k)∧k≤H.length∧k≤1∧(1≤k→sa < n0)∧∀ i o,H[i]? = some o→SimO Z ws (adr k sa n0) h (adr k sa n0 i) o
def cost (ws : Ws) : FieldType × List Value→Nat
  | (.object C,_) => (rInst ws C).getD 0
  | (_,vs) => vs.length
def tot (ws : Ws) (H : AHeap) : Nat:=(H.map (cost ws)).sum
theorem adr_inj {k sa n0 i j : Nat} (hk : k≤1) (hs : 1≤k→sa < n0) (e : adr k sa n0 i = adr k sa n0 j) : i = j:=by
  unfold adr at e; split at e <;> split at e <;> omega
theorem adr_ge {k sa n0 a : Nat} (h : k≤a) : n0≤adr k sa n0 a:=by
  unfold adr; rw [if_neg (by omega)]; omega
theorem tot_app (ws : Ws) (H : AHeap) (o : FieldType × List Value) : tot ws (H ++ [o]) = tot ws H + cost ws o:=by simp [tot]
theorem tot_set {ws : Ws} : ∀ {H : AHeap} {a : Nat} {o o' : FieldType × List Value},H[a]? = some o→cost ws o' = cost ws o→tot ws (H.set a o') = tot ws H
  | [],_,_,_,h,_ => by cases h
  | x::r,0,o,o',h,e => by
    simp only [List.getElem?_cons_zero,Option.some.injEq] at h; subst h
    simp [tot,e]
  | x::r,a + 1,o,o',h,e => by
    have:=tot_set (ws:=ws) (H:=r) (a:=a) (o:=o) (o':=o') (by simpa using h) e
    simp only [tot,List.set_cons_succ,List.map_cons,List.sum_cons] at this ⊢
    rw [this]
theorem ren_dflt (f : Nat→Nat) (ty : FieldType) : ren f (defaultValue ty) = defaultValue ty:=by cases ty <;> rfl
section Facts
variable {Z : State} {ws : Ws} {f : Nat→Nat} {h h' : Heap} {a b : Addr} {o : FieldType × List Value} {sl : Nat} {v : Value}
theorem SimO.ext (E : Ext h h') (S : SimO Z ws f h a o) : SimO Z ws f h' a o:=by
  unfold SimO at S ⊢
  split at S
  · exact ⟨S.1.ext E,fun n t j q => by obtain ⟨v,h1,h2⟩:=S.2 n t j q; exact ⟨v,h1,h2.ext E⟩⟩
  · obtain ⟨c,h1,h2⟩:=S; exact ⟨c,h1.ext E,h2⟩
  · exact S.elim
theorem SimO.other (W : Wr h h' b sl v) (ne : a ≠ b) (S : SimO Z ws f h a o) : SimO Z ws f h' a o:=by
  unfold SimO at S ⊢
  split at S
  · exact ⟨S.1.wr W,fun n t j q => by obtain ⟨v,h1,h2⟩:=S.2 n t j q; exact ⟨v,h1,h2.other W (Or.inl ne)⟩⟩
  · obtain ⟨c,h1,h2⟩:=S; exact ⟨c,h1.other W ne,h2⟩
  · exact S.elim
theorem Sim.push {k sa n0 : Nat} {H : AHeap} (S : Sim Z ws k sa n0 H h) (E : Ext h h') (hz : h'.size = h.size + 1) (O : SimO Z ws (adr k sa n0) h' h.size o) : Sim Z ws k sa n0 (H ++ [o]) h':=by
  obtain ⟨h1,h2,h3,h4,h5⟩:=S
  refine ⟨by rw [hz,h1,List.length_append,List.length_singleton]; omega,by rw [List.length_append]; omega,h3,h4,fun i o' q => ?_⟩
  rcases Nat.lt_trichotomy i H.length with g | g | g
  · rw [List.getElem?_append_left g] at q; exact (h5 i o' q).ext E
  · subst g
    rw [List.getElem?_append_right (Nat.le_refl _),Nat.sub_self] at q
    cases q
    have e : adr k sa n0 H.length = h.size:=by unfold adr; rw [if_neg (by omega),h1]
    rw [e]; exact O
  · rw [List.getElem?_eq_none (by simp; omega)] at q; cases q
theorem Sim.next {k sa n0 : Nat} {H : AHeap} (S : Sim Z ws k sa n0 H h) : h.size = adr k sa n0 H.length:=by
  obtain ⟨h1,h2,-⟩:=S
  unfold adr; rw [if_neg (by omega),h1]
theorem Wr.upd {k sa n0 i : Nat} {H : AHeap} {o' : FieldType × List Value} (S : Sim Z ws k sa n0 H h) (W : Wr h h' (adr k sa n0 i) sl v) (O : SimO Z ws (adr k sa n0) h' (adr k sa n0 i) o') : Sim Z ws k sa n0 (H.set i o') h':=by
  obtain ⟨h1,h2,h3,h4,h5⟩:=S
  refine ⟨by rw [W.size,h1,List.length_set],by rw [List.length_set]; exact h2,h3,h4,fun j q hq => ?_⟩
  by_cases e : i = j
  · subst e
    rw [List.getElem?_set_self' ] at hq
    cases hi : H[i]? with
    | none => rw [hi] at hq; cases hq
    | some x => rw [hi] at hq; cases hq; exact O
  · rw [List.getElem?_set_ne e] at hq
    exact (h5 j q hq).other W fun g => e (adr_inj h3 h4 g).symm
end Facts
theorem putv_ok {ty : FieldType} {v v' : Value} (f : Nat→Nat) (h : putv ty v = some v') : narrow ty (ren f v) = ren f v'∧fits ty (ren f v') = true:=by
  unfold putv at h
  split at h
  · cases h; exact ⟨rfl,rfl⟩
  · cases h; exact ⟨rfl,fits_nar_bool _⟩
  · cases h; exact ⟨rfl,fits_nar_byte _⟩
  · cases h; exact ⟨rfl,fits_nar_char _⟩
  · cases h; exact ⟨rfl,fits_nar_short _⟩
  · cases h; exact ⟨rfl,rfl⟩
  · cases h; exact ⟨rfl,rfl⟩
  · cases h
theorem size_set (c : Cell) (j : Nat) (v : Value) (f : Nat→Nat) {vs : List Value} {v' : Value} (e : c.slots = (vs.map (ren f)).toArray) (q : v = ren f v') : (c.setSlot j v).slots = ((vs.set j v').map (ren f)).toArray:=by
  subst q
  show c.slots.setIfInBounds j (ren f v') = _
  rw [e,List.setIfInBounds_toArray,List.map_set]
section H
variable {p : Program} {l : Launch} {e : Env} {R : Room} {s : State} {m : MethodId} {args : Array Value} {below : List Frame} {meth : Method} {c : Code} {T : State} {locs : List Loc} {cells slots : Nat}
  {Z : State} {a0 : Array Value} {ws : Ws} {k sa n0 : Nat} {y : MethodName} {pc : Nat} {ls : List Slot} {st : List Value} {H : AHeap}
/-- the point behind one step -/
def Beh (p : Program) (l : Launch) (e : Env) (R : Room) (s : State) (m : MethodId) (args : Array Value) (below : List Frame) (meth : Method) (c : Code) (T : State) (Z : State) (ws : Ws) (k sa n0 cells slots : Nat) (H : AHeap) (g : JFrame) (pc' : Nat) (ls' : List Slot) (st' : List Value) (H' : AHeap) : Prop :=
  ∃ T' locs',Stand p l e R s m args below meth c T' locs' (cells + (H'.length - H.length)) (slots + (tot ws H' - tot ws H))∧Sim Z ws k sa n0 H' T'.heap∧Fr n0 locs' ∧
    ∀ target,Steps p.tables e below (T'.setTop (fr (adr k sa n0) m pc' ls' st')) target→Steps p.tables e below (T.setTop g) target
theorem Beh.stay {g : JFrame} {pc' : Nat} {st' : List Value} {T' : State} (X : Stand p l e R s m args below meth c T' locs cells slots) (S : Sim Z ws k sa n0 H T'.heap) (N : Fr n0 locs)
    (h : ∀ target,Steps p.tables e below (T'.setTop (fr (adr k sa n0) m pc' ls st')) target→Steps p.tables e below (T.setTop g) target) : Beh p l e R s m args below meth c T Z ws k sa n0 cells slots H g pc' ls st' H :=
  ⟨T',locs,by rw [Nat.sub_self,Nat.sub_self]; exact X,S,N,h⟩
theorem hGet_sound (hw : ∀ d ∈ ws,d.before a0 Z = true) (X : Stand p l e R s m args below meth c T locs cells slots) (hx : p.tables.exec = Jvm.exec) (hZ : Z.Warmed39 s.vm) (hown : s.vm.findClass y.cls = some m.cls)
    {i : Nat} (hd : decode c.code pc = .ok (.getfield i,3)) {q : Nat × List Value × AHeap} (hs : hGet ws y.cls i pc H st = some q) (S : Sim Z ws k sa n0 H T.heap) (N : Fr n0 locs) :
    Beh p l e R s m args below meth c T Z ws k sa n0 cells slots H (fr (adr k sa n0) m pc ls st) q.1 ls q.2.1 q.2.2:=by
  unfold hGet at hs
  split at hs
  · rename_i a r
    split at hs
    · rename_i C j C' vs q1 q2
      split at hs
      · rename_i hC; subst hC
        obtain ⟨v,hv,rfl⟩:=Option.map_eq_some_iff.mp hs
        obtain ⟨n,t,r1,r2⟩:=gfR_some q1
        obtain ⟨v',hv',F⟩:=(S.2.2.2.2 a _ q2).2 n t j r2
        cases hv.symm.trans hv'
        obtain ⟨T',X',e',st'⟩:=getF X hx hZ hown (host := "") (Or.inl (hw _ (rFld_mem r1))) Via.refl rfl F (g:=fr (adr k sa n0) m pc ls (.ref a::r)) rfl rfl hd
        exact Beh.stay X' (by rw [e']; exact S) N st'
      · cases hs
    · cases hs
  · cases hs
theorem hPut_sound (hw : ∀ d ∈ ws,d.before a0 Z = true) (X : Stand p l e R s m args below meth c T locs cells slots) (hx : p.tables.exec = Jvm.exec) (hZ : Z.Warmed39 s.vm) (hown : s.vm.findClass y.cls = some m.cls) (hnm : meth.name = y.name)
    {i : Nat} (hd : decode c.code pc = .ok (.putfield i,3)) {q : Nat × List Value × AHeap} (hs : hPut ws k y.cls y.name i pc H st = some q) (S : Sim Z ws k sa n0 H T.heap) (N : Fr n0 locs) :
    Beh p l e R s m args below meth c T Z ws k sa n0 cells slots H (fr (adr k sa n0) m pc ls st) q.1 ls q.2.1 q.2.2:=by
  unfold hPut at hs
  split at hs
  · rename_i v a r
    split at hs
    · rename_i C j ty C' vs q1 q2
      split at hs
      · rename_i hC; obtain ⟨rfl,hk,hj⟩:=hC
        obtain ⟨v',hv,rfl⟩:=Option.map_eq_some_iff.mp hs
        obtain ⟨n,t,r1,r2,r3,r4,⟨ki,r5⟩,r6⟩:=pfR_some q1
        have SO:=S.2.2.2.2 a _ q2
        obtain ⟨w,hw',F⟩:=SO.2 n t j r2
        obtain ⟨g1,g2⟩:=putv_ok (adr k sa n0) hv
        obtain ⟨T',h',X',e',W,st'⟩:=putFN X hx hZ hown (hw _ (rFld_mem r1)) Via.refl rfl F SO.1 (r4.imp (fun q => hw _ q) fun q => ⟨hw _ q.1,q.2.1,hnm.trans q.2.2⟩) (hw _ r5) r3 g1 g2 (g:=fr (adr k sa n0) m pc ls (v::.ref a::r)) rfl rfl hd
        have LL : ∀ {n' t' : String},(n',t') ∈ olay ws C→Laid Z a0 C C n' t':=fun q => (lay_mem q).1.imp (fun q => hw _ q) (fun q => hw _ q)
        have O' : SimO Z ws (adr k sa n0) h' (adr k sa n0 a) (.object C,vs.set j v'):=by
          refine ⟨SO.1.wr W,fun n' t' j' q' => ?_⟩
          obtain ⟨u,hu,F'⟩:=SO.2 n' t' j' q'
          by_cases ej : j = j'
          · subst ej
            obtain ⟨rfl,rfl⟩:=fidx_inj r2 q'
            exact ⟨v',by rw [List.getElem?_set_self hj],F.same W⟩
          · refine ⟨u,by rw [List.getElem?_set_ne ej]; exact hu,F'.other W (Or.inr ?_)⟩
            obtain ⟨-,ty',p'⟩:=lay_mem (fidx_mem q')
            refine slot_ne (LL (fidx_mem q')) (LL (fidx_mem r2)) (fun en => ?_) p' r3
            rcases r6 n' t' (fidx_mem q') with g | g
            · exact g en
            · subst en g; rw [r2] at q'; exact ej (Option.some.inj q')
        refine ⟨T',_,?_,by rw [e']; exact Wr.upd S W O',Fr.snoc X' N (adr_ge hk),st'⟩
        show Stand p l e R s m args below meth c T' _ (cells + ((H.set a (.object C,vs.set j v')).length - H.length)) (slots + (tot ws (H.set a (.object C,vs.set j v')) - tot ws H))
        rw [List.length_set,tot_set (o:=(.object C,vs)) (o':=(.object C,vs.set j v')) q2 rfl,Nat.sub_self,Nat.sub_self]
        exact X'
      · cases hs
    · cases hs
  · cases hs
theorem hNew_sound (hw : ∀ d ∈ ws,d.before a0 Z = true) (X : Stand p l e R s m args below meth c T locs cells slots) (hx : p.tables.exec = Jvm.exec) (hZ : Z.Warmed39 s.vm) (hown : s.vm.findClass y.cls = some m.cls)
    {i : Nat} (hd : decode c.code pc = .ok (.new i,3)) {q : Nat × List Value × AHeap} (hs : hNew ws y.cls i pc H st = some q) (S : Sim Z ws k sa n0 H T.heap) (N : Fr n0 locs)
    (hc : cells + (q.2.2.length - H.length)≤R.cells) (hl : slots + (tot ws q.2.2 - tot ws H)≤R.slots) (hz0 : T.heap.size = s.heap.size + cells) :
    Beh p l e R s m args below meth c T Z ws k sa n0 cells slots H (fr (adr k sa n0) m pc ls st) q.1 ls q.2.1 q.2.2:=by
  unfold hNew at hs
  split at hs
  · rename_i C q1
    split at hs
    · rename_i g; cases hs
      obtain ⟨ki,hki⟩:=Option.isSome_iff_exists.mp g.1
      have ec : (H ++ [(FieldType.object C,(olay ws C).map dflt)]).length - H.length = 1:=by simp
      have es : tot ws (H ++ [(FieldType.object C,(olay ws C).map dflt)]) - tot ws H = ki:=by
        rw [tot_app]; simp [cost,hki]
      dsimp only at hc hl ⊢
      rw [ec] at hc; rw [es] at hl
      have hz:=S.next
      obtain ⟨T',h',X',e',E,A,D,-,st'⟩:=newO X hx hZ hown (hw _ (rCls_mem q1)) (hw _ (rInst_mem hki)) (hw _ (hasInit_mem g.2)) rfl (g:=fr (adr k sa n0) m pc ls st) rfl hd hc hl
      have hz' : h'.size = T.heap.size + 1:=by
        have u1:=X'.heapSize
        have a1 : (T.heap.size : Nat) < h'.size:=A.lt
        rw [e'] at u1
        omega
      refine ⟨T',locs,by rw [ec,es]; exact X',?_,N,?_⟩
      · rw [e']
        refine S.push E hz' ⟨A,fun n t j q => ?_⟩
        have hm:=fidx_mem q
        obtain ⟨q2,ty,q3⟩:=lay_mem hm
        refine ⟨dflt (n,t),by rw [List.getElem?_map,idx_get q]; rfl,?_⟩
        have F:=D (O:=C) (nm:=n) (d:=t) (q2.imp (fun q => hw _ q) (fun q => hw _ q)) q3
        have e3 : ren (adr k sa n0) (dflt (n,t)) = defaultValue ty:=by simp only [dflt,q3,ren_dflt]
        rw [e3]; exact F
      · intro target ht
        rw [hz] at st'
        exact st' target ht
    · cases hs
  · cases hs
theorem hNewA_sound (hw : ∀ d ∈ ws,d.before a0 Z = true) (X : Stand p l e R s m args below meth c T locs cells slots) (hx : p.tables.exec = Jvm.exec) (hZ : Z.Warmed39 s.vm)
    {aty : ArrayType} (hd : decode c.code pc = .ok (.newarray aty,2)) {q : Nat × List Value × AHeap} (hs : hNewA ws aty pc H st = some q) (S : Sim Z ws k sa n0 H T.heap) (N : Fr n0 locs)
    (hc : cells + (q.2.2.length - H.length)≤R.cells) (hl : slots + (tot ws q.2.2 - tot ws H)≤R.slots) (hz0 : T.heap.size = s.heap.size + cells) :
    Beh p l e R s m args below meth c T Z ws k sa n0 cells slots H (fr (adr k sa n0) m pc ls st) q.1 ls q.2.1 q.2.2:=by
  unfold hNewA at hs
  split at hs
  · rename_i n r
    split at hs
    · rename_i g; cases hs
      obtain ⟨g1,g2,g3⟩:=g
      have ec : (H ++ [(FieldType.array (newarray.typeOf aty),List.replicate n.toNatClampNeg (defaultValue (newarray.typeOf aty)))]).length - H.length = 1:=by simp
      have es : tot ws (H ++ [(FieldType.array (newarray.typeOf aty),List.replicate n.toNatClampNeg (defaultValue (newarray.typeOf aty)))]) - tot ws H = n.toNatClampNeg:=by
        rw [tot_app]; simp [cost]
      dsimp only at hc hl ⊢
      rw [ec] at hc; rw [es] at hl
      have hz:=S.next
      obtain ⟨T',h',cA,X',e',E,A,st'⟩:=newP X hx hZ (hw _ (hasArr_mem g1)) rfl (g:=fr (adr k sa n0) m pc ls (.int n::r)) rfl hd rfl g2 (cap:=n.toNatClampNeg) (Nat.le_refl _) g3 hc hl
      have hz' : h'.size = T.heap.size + 1:=by
        have u1:=X'.heapSize
        have a1 : (T.heap.size : Nat) < h'.size:=A.lt
        rw [e'] at u1
        omega
      refine ⟨T',locs,by rw [ec,es]; exact X',?_,N,?_⟩
      · rw [e']
        refine S.push E hz' ⟨_,A,?_⟩
        simp [newA,ren_dflt]
      · intro target ht
        rw [hz] at st'
        exact st' target ht
    · cases hs
  · cases hs
theorem hLd_some {ok : FieldType→Bool} {q : Nat × List Value × AHeap} (hs : hLd ok pc H st = some q) : ∃ j a r ty vs v,st = .int j::.ref a::r∧H[a]? = some (.array ty,vs)∧ok ty = true∧¬ j < 0∧vs[j.toNatClampNeg]? = some v∧q = (pc + 1,v::r,H):=by
  unfold hLd at hs
  split at hs
  · split at hs
    · split at hs
      · rename_i g
        obtain ⟨v,h1,h2⟩:=Option.map_eq_some_iff.mp hs
        exact ⟨_,_,_,_,_,v,rfl,by assumption,g.1,g.2,h1,h2.symm⟩
      · cases hs
    · cases hs
  · cases hs
theorem hSt_some {ok : FieldType→Bool} {q : Nat × List Value × AHeap} (hs : hSt ok k pc H st = some q) : ∃ v j a r ty vs v',st = v::.int j::.ref a::r∧H[a]? = some (.array ty,vs)∧ok ty = true∧k≤a∧¬ j < 0∧j.toNatClampNeg < vs.length∧putv ty v = some v'∧q = (pc + 1,r,H.set a (.array ty,vs.set j.toNatClampNeg v')):=by
  unfold hSt at hs
  split at hs
  · split at hs
    · split at hs
      · rename_i g
        obtain ⟨v,h1,h2⟩:=Option.map_eq_some_iff.mp hs
        exact ⟨_,_,_,_,_,_,v,rfl,by assumption,g.1,g.2.1,g.2.2.1,g.2.2.2,h1,h2.symm⟩
      · cases hs
    · cases hs
  · cases hs
theorem hLen_some {q : Nat × List Value × AHeap} (hs : hLen pc H st = some q) : ∃ a r ty vs,st = .ref a::r∧H[a]? = some (.array ty,vs)∧q = (pc + 1,.int vs.length.toInt32::r,H):=by
  unfold hLen at hs
  split at hs
  · split at hs
    · cases hs; exact ⟨_,_,_,_,rfl,by assumption,rfl⟩
    · cases hs
  · cases hs
/-- behind a store into an array -/
theorem st_beh {T' : State} {h' : Heap} {a j : Nat} {ty : FieldType} {vs : List Value} {v' : Value} {r : List Value} {g : JFrame} (X' : Stand p l e R s m args below meth c T' (locs ++ [⟨adr k sa n0 a,j⟩]) cells slots) (e' : T'.heap = h') (W : Wr T.heap h' (adr k sa n0 a) j (ren (adr k sa n0) v'))
    (S : Sim Z ws k sa n0 H T.heap) (N : Fr n0 locs) (q2 : H[a]? = some (.array ty,vs)) (hk : k≤a)
    (st' : ∀ target,Steps p.tables e below (T'.setTop (fr (adr k sa n0) m (pc + 1) ls r)) target→Steps p.tables e below (T.setTop g) target) :
    Beh p l e R s m args below meth c T Z ws k sa n0 cells slots H g (pc + 1) ls r (H.set a (.array ty,vs.set j v')):=by
  obtain ⟨cl,A,es⟩:=S.2.2.2.2 a _ q2
  refine ⟨T',_,?_,by rw [e']; exact Wr.upd S W ⟨_,A.same W,size_set cl j _ _ es rfl⟩,Fr.snoc X' N (adr_ge hk),st'⟩
  rw [List.length_set,tot_set (o:=(.array ty,vs)) (o':=(.array ty,vs.set j v')) q2 (by simp [cost]),Nat.sub_self,Nat.sub_self]
  exact X'
set_option maxHeartbeats 1000000 in
theorem hstep_sound (hw : ∀ d ∈ ws,d.before a0 Z = true) (X : Stand p l e R s m args below meth c T locs cells slots) (hx : p.tables.exec = Jvm.exec) (hZ : Z.Warmed39 s.vm) (hown : s.vm.findClass y.cls = some m.cls) (hnm : meth.name = y.name)
    {ins : Instr} {len : Nat} (hd : decode c.code pc = .ok (ins,len)) {q : Nat × List Value × AHeap} (hs : hstep ws k y ins len pc st H = some q) (S : Sim Z ws k sa n0 H T.heap) (N : Fr n0 locs)
    (hc : cells + (q.2.2.length - H.length)≤R.cells) (hl : slots + (tot ws q.2.2 - tot ws H)≤R.slots) (hz0 : T.heap.size = s.heap.size + cells) :
    Beh p l e R s m args below meth c T Z ws k sa n0 cells slots H (fr (adr k sa n0) m pc ls st) q.1 ls q.2.1 q.2.2:=by
  unfold hstep at hs
  split at hs
  · obtain ⟨rfl,hs⟩:=chk_some hs
    exact hGet_sound hw X hx hZ hown hd hs S N
  · obtain ⟨rfl,hs⟩:=chk_some hs
    exact hPut_sound hw X hx hZ hown hnm hd hs S N
  · obtain ⟨rfl,hs⟩:=chk_some hs
    exact hNew_sound hw X hx hZ hown hd hs S N hc hl hz0
  · obtain ⟨rfl,hs⟩:=chk_some hs
    exact hNewA_sound hw X hx hZ hd hs S N hc hl hz0
  · obtain ⟨rfl,hs⟩:=chk_some hs
    obtain ⟨j,a,r,ty,vs,v,rfl,q2,ho,hj,hv,rfl⟩:=hLd_some hs
    obtain rfl : ty = _:=of_decide_eq_true ho
    obtain ⟨cl,A,es⟩:=S.2.2.2.2 a _ q2
    have hlt:=(List.getElem?_eq_some_iff.mp hv).1
    exact Beh.stay X S N fun target ht => X.iaload hx (j:=j) (v:=ren (adr k sa n0) v) A.1 (State.isArrayOf_alike hZ.alike A.2.1) A.2.2 (fun g => g.elim hj fun g => by rw [es] at g; simp at g; omega) (by rw [es,List.getElem?_toArray,List.getElem?_map,hv]; rfl) (g:=fr (adr k sa n0) m pc ls (.int j::.ref a::r)) rfl rfl hd target ht
  · obtain ⟨rfl,hs⟩:=chk_some hs
    obtain ⟨j,a,r,ty,vs,v,rfl,q2,ho,hj,hv,rfl⟩:=hLd_some hs
    obtain rfl : ty = _:=of_decide_eq_true ho
    obtain ⟨cl,A,es⟩:=S.2.2.2.2 a _ q2
    have hlt:=(List.getElem?_eq_some_iff.mp hv).1
    exact Beh.stay X S N fun target ht => X.caload hx (j:=j) (v:=ren (adr k sa n0) v) A.1 (State.isArrayOf_alike hZ.alike A.2.1) A.2.2 (fun g => g.elim hj fun g => by rw [es] at g; simp at g; omega) (by rw [es,List.getElem?_toArray,List.getElem?_map,hv]; rfl) (g:=fr (adr k sa n0) m pc ls (.int j::.ref a::r)) rfl rfl hd target ht
  · obtain ⟨rfl,hs⟩:=chk_some hs
    obtain ⟨j,a,r,ty,vs,v,rfl,q2,ho,hj,hv,rfl⟩:=hLd_some hs
    obtain rfl : ty = _:=of_decide_eq_true ho
    obtain ⟨cl,A,es⟩:=S.2.2.2.2 a _ q2
    have hlt:=(List.getElem?_eq_some_iff.mp hv).1
    exact Beh.stay X S N fun target ht => X.laload hx (j:=j) (v:=ren (adr k sa n0) v) A.1 (State.isArrayOf_alike hZ.alike A.2.1) A.2.2 (fun g => g.elim hj fun g => by rw [es] at g; simp at g; omega) (by rw [es,List.getElem?_toArray,List.getElem?_map,hv]; rfl) (g:=fr (adr k sa n0) m pc ls (.int j::.ref a::r)) rfl rfl hd target ht
  · obtain ⟨rfl,hs⟩:=chk_some hs
    obtain ⟨j,a,r,ty,vs,v,rfl,q2,ho,hj,hv,rfl⟩:=hLd_some hs
    obtain ⟨cl,A,es⟩:=S.2.2.2.2 a _ q2
    have hlt:=(List.getElem?_eq_some_iff.mp hv).1
    simp only [okB,Bool.or_eq_true,decide_eq_true_eq] at ho
    rcases ho with rfl | rfl
    · exact Beh.stay X S N fun target ht => X.baloadBytes hx (j:=j) (v:=ren (adr k sa n0) v) A.1 (State.isArrayOf_alike hZ.alike A.2.1) A.2.2 (fun g => g.elim hj fun g => by rw [es] at g; simp at g; omega) (by rw [es,List.getElem?_toArray,List.getElem?_map,hv]; rfl) (g:=fr (adr k sa n0) m pc ls (.int j::.ref a::r)) rfl rfl hd target ht
    · exact Beh.stay X S N fun target ht => X.baloadBooleans hx (j:=j) (v:=ren (adr k sa n0) v) A.1 (State.isArrayOf_alike hZ.alike A.2.1) A.2.2 (fun g => g.elim hj fun g => by rw [es] at g; simp at g; omega) (by rw [es,List.getElem?_toArray,List.getElem?_map,hv]; rfl) (g:=fr (adr k sa n0) m pc ls (.int j::.ref a::r)) rfl rfl hd target ht
  · obtain ⟨rfl,hs⟩:=chk_some hs
    obtain ⟨v,j,a,r,ty,vs,v',rfl,q2,ho,hk,hj,hlt,hv,rfl⟩:=hSt_some hs
    obtain rfl : ty = _:=of_decide_eq_true ho
    obtain ⟨cl,A,es⟩:=S.2.2.2.2 a _ q2
    cases v <;> simp only [putv,Option.some.injEq,reduceCtorEq] at hv
    subst hv
    obtain ⟨T',h',X',e',W,st'⟩:=stI X hx hZ rfl A (j:=j) (fun g => g.elim hj fun g => by rw [es] at g; simp at g; omega) (g:=fr (adr k sa n0) m pc ls (.int _::.int j::.ref a::r)) rfl rfl hd
    exact st_beh X' e' W S N q2 hk st'
  · obtain ⟨rfl,hs⟩:=chk_some hs
    obtain ⟨v,j,a,r,ty,vs,v',rfl,q2,ho,hk,hj,hlt,hv,rfl⟩:=hSt_some hs
    obtain rfl : ty = _:=of_decide_eq_true ho
    obtain ⟨cl,A,es⟩:=S.2.2.2.2 a _ q2
    cases v <;> simp only [putv,Option.some.injEq,reduceCtorEq] at hv
    subst hv
    obtain ⟨T',h',X',e',W,st'⟩:=stC X hx hZ rfl A (j:=j) (fun g => g.elim hj fun g => by rw [es] at g; simp at g; omega) (g:=fr (adr k sa n0) m pc ls (.int _::.int j::.ref a::r)) rfl rfl hd
    exact st_beh X' e' W S N q2 hk st'
  · obtain ⟨rfl,hs⟩:=chk_some hs
    obtain ⟨v,j,a,r,ty,vs,v',rfl,q2,ho,hk,hj,hlt,hv,rfl⟩:=hSt_some hs
    obtain rfl : ty = _:=of_decide_eq_true ho
    obtain ⟨cl,A,es⟩:=S.2.2.2.2 a _ q2
    cases v <;> simp only [putv,Option.some.injEq,reduceCtorEq] at hv
    subst hv
    obtain ⟨T',h',X',e',W,st'⟩:=stJ X hx hZ rfl A (j:=j) (fun g => g.elim hj fun g => by rw [es] at g; simp at g; omega) (g:=fr (adr k sa n0) m pc ls (.long _::.int j::.ref a::r)) rfl rfl hd
    exact st_beh X' e' W S N q2 hk st'
  · obtain ⟨rfl,hs⟩:=chk_some hs
    obtain ⟨v,j,a,r,ty,vs,v',rfl,q2,ho,hk,hj,hlt,hv,rfl⟩:=hSt_some hs
    obtain ⟨cl,A,es⟩:=S.2.2.2.2 a _ q2
    simp only [okB,Bool.or_eq_true,decide_eq_true_eq] at ho
    rcases ho with rfl | rfl
    · cases v <;> simp only [putv,Option.some.injEq,reduceCtorEq] at hv
      subst hv
      obtain ⟨T',h',X',e',W,st'⟩:=stB X hx hZ rfl A (j:=j) (fun g => g.elim hj fun g => by rw [es] at g; simp at g; omega) (g:=fr (adr k sa n0) m pc ls (.int _::.int j::.ref a::r)) rfl rfl hd
      exact st_beh X' e' W S N q2 hk st'
    · cases v <;> simp only [putv,Option.some.injEq,reduceCtorEq] at hv
      subst hv
      obtain ⟨T',h',X',e',W,st'⟩:=stZ X hx hZ rfl A (j:=j) (fun g => g.elim hj fun g => by rw [es] at g; simp at g; omega) (g:=fr (adr k sa n0) m pc ls (.int _::.int j::.ref a::r)) rfl rfl hd
      exact st_beh X' e' W S N q2 hk st'
  · obtain ⟨rfl,hs⟩:=chk_some hs
    obtain ⟨a,r,ty,vs,rfl,q2,rfl⟩:=hLen_some hs
    obtain ⟨cl,A,es⟩:=S.2.2.2.2 a _ q2
    have ez : cl.slots.size = vs.length:=by rw [es]; simp
    refine Beh.stay X S N fun target ht => X.arraylength hx (cell:=cl) A.1 (State.isArrayOf_alike hZ.alike A.2.1) (g:=fr (adr k sa n0) m pc ls (.ref a::r)) rfl rfl hd target ?_
    rw [ez]; exact ht
  · obtain ⟨rfl,hs⟩:=chk_some hs
    obtain ⟨v,hv,rfl⟩:=Option.map_eq_some_iff.mp hs
    exact Beh.stay X S N (X.ldcInt hx hown (mvT hZ (hw _ (rCon_mem hv))) (g:=fr (adr k sa n0) m pc ls st) rfl hd)
  · obtain ⟨rfl,hs⟩:=chk_some hs
    obtain ⟨v,hv,rfl⟩:=Option.map_eq_some_iff.mp hs
    exact Beh.stay X S N (X.ldcwInt hx hown (mvT hZ (hw _ (rCon_mem hv))) (g:=fr (adr k sa n0) m pc ls st) rfl hd)
  · obtain ⟨rfl,hs⟩:=chk_some hs
    obtain ⟨v,hv,rfl⟩:=Option.map_eq_some_iff.mp hs
    exact Beh.stay X S N (X.ldc2Long hx hown (mvT hZ (hw _ (rConL_mem hv))) (g:=fr (adr k sa n0) m pc ls st) rfl hd)
  · cases hs
end H
theorem hstep_size {ws : Ws} {k : Nat} {y : MethodName} {ins : Instr} {len pc : Nat} {st : List Value} {H : AHeap} {q : Nat × List Value × AHeap} (hs : hstep ws k y ins len pc st H = some q) : H.length≤q.2.2.length∧tot ws H≤tot ws q.2.2:=by
  unfold hstep at hs
  split at hs
  · obtain ⟨rfl,hs⟩:=chk_some hs
    unfold hGet at hs
    split at hs
    · split at hs
      · split at hs
        · obtain ⟨v,-,rfl⟩:=Option.map_eq_some_iff.mp hs; exact ⟨Nat.le_refl _,Nat.le_refl _⟩
        · cases hs
      · cases hs
    · cases hs
  · obtain ⟨rfl,hs⟩:=chk_some hs
    unfold hPut at hs
    split at hs
    · split at hs
      · rename_i C j ty C' vs q1 q2
        split at hs
        · obtain ⟨v,-,rfl⟩:=Option.map_eq_some_iff.mp hs
          exact ⟨Nat.le_of_eq (by rw [List.length_set]),Nat.le_of_eq (tot_set (o:=(.object C',vs)) (o':=(.object C',vs.set j v)) q2 rfl).symm⟩
        · cases hs
      · cases hs
    · cases hs
  · obtain ⟨rfl,hs⟩:=chk_some hs
    unfold hNew at hs
    split at hs
    · split at hs
      · cases hs; exact ⟨by simp,by rw [tot_app]; omega⟩
      · cases hs
    · cases hs
  · obtain ⟨rfl,hs⟩:=chk_some hs
    unfold hNewA at hs
    split at hs
    · split at hs
      · cases hs; exact ⟨by simp,by rw [tot_app]; omega⟩
      · cases hs
    · cases hs
  all_goals first
    | (obtain ⟨rfl,hs⟩:=chk_some hs; obtain ⟨j,a,r,ty,vs,v,rfl,q2,ho,hj,hv,rfl⟩:=hLd_some hs; exact ⟨Nat.le_refl _,Nat.le_refl _⟩)
    | (obtain ⟨rfl,hs⟩:=chk_some hs; obtain ⟨v,j,a,r,ty,vs,v',rfl,q2,ho,hk,hj,hlt,hv,rfl⟩:=hSt_some hs; exact ⟨Nat.le_of_eq (by rw [List.length_set]),Nat.le_of_eq (tot_set (o:=(.array ty,vs)) (o':=(.array ty,vs.set _ v')) q2 (by simp [cost])).symm⟩)
    | (obtain ⟨rfl,hs⟩:=chk_some hs; obtain ⟨a,r,ty,vs,rfl,q2,rfl⟩:=hLen_some hs; exact ⟨Nat.le_refl _,Nat.le_refl _⟩)
    | (obtain ⟨rfl,hs⟩:=chk_some hs; obtain ⟨v,hv,rfl⟩:=Option.map_eq_some_iff.mp hs; exact ⟨Nat.le_refl _,Nat.le_refl _⟩)
    | (cases hs; done)
end Jvm.Own
namespace Jvm.Own
open Sem ClassFile Op Lib Jvm.Stand Jvm.Free Jvm.LawKit Jvm.RoadKit
/-! OWN 5: the run is the machine's -/
theorem ent_ren (f : Nat→Nat) : ∀ as : List Value,ent (as.map (ren f)) = (ent as).map (renS f)
  | [] => rfl
  | v::r => by
    simp only [List.map_cons,ent,ren_cat,ent_ren f r]
    split <;> rfl
theorem fill_eq : ∀ (as : List Value) (acc : Array Slot),as.foldl (fun acc v => if v.category = 2 then (acc.push (.val v)).push .second else acc.push (.val v)) acc = acc ++ (ent as).toArray
  | [],acc => by simp [ent]
  | v::r,acc => by
    simp only [List.foldl_cons,ent]
    split
    · rw [fill_eq r]; simp [← Array.toList_inj]
    · rw [fill_eq r]; simp [← Array.toList_inj]
theorem entry_eq (f : Nat→Nat) (m : MethodId) (as : List Value) (mx : Nat) : entryFrame m (as.map (ren f)).toArray mx = fr f m 0 (entry as mx) []:=by
  have h : argsToLocals (as.map (ren f)).toArray mx = ((entry as mx).map (renS f)).toArray:=by
    unfold argsToLocals entry
    simp only [List.foldl_toArray']
    rw [fill_eq,ent_ren]
    simp [← Array.toList_inj,renS]
  unfold entryFrame
  rw [h]; rfl
theorem entry_len {as : List Value} {mx : Nat} (h : (ent as).length≤mx) : (entry as mx).length = mx:=by simp [entry]; omega
theorem wsum_ren (f : Nat→Nat) (st : List Value) : ((st.map (ren f)).map fun v => v.category).sum = wsum st:=by
  unfold wsum
  rw [List.map_map]
  congr 1
  apply List.map_congr_left
  intro v _
  exact ren_cat f v
section Inv
variable {ws : Ws} {dn : Dn} {k : Nat} {y : MethodName} {bytes : ByteArray} {ret : Option FieldType} {pc : Nat} {ls : List Slot} {st : List Value} {H : AHeap}
theorem cR_some {i : Nat} {y' : MethodName} {b : ByteArray} {mx na sl : Nat} {r : Option FieldType} (h : cR ws dn y i = some (y',b,mx,r,na,sl)) :
    Jvm.Cond.methodLink y.cls i y' ∈ ws∧Jvm.Cond.code y' b mx r ∈ ws∧Jvm.Cond.initialized y'.cls ∈ ws∧Jvm.plainName y'.cls = true∧(y'.cls ≠ "java/lang/invoke/MethodHandle" ∧ y'.cls ≠ "java/lang/invoke/VarHandle")∧rCode ws y' = some (b,mx,r) ∧
    ∃ f' l' f l sig,dnOf dn y' = some (f',l')∧dnOf dn y = some (f,l)∧parseMethodDescriptor y'.desc = some sig∧na = sig.parameters.length∧f' + 1≤f∧sl + (mx + 11) + l'≤l:=by
  unfold cR at h
  split at h
  · cases h
  · rename_i z q1
    split at h
    · rename_i b' mx' r' f' l' f l sig q2 q3 q4 q5
      split at h
      · rename_i g
        cases h
        obtain ⟨g1,g2,g3,g4,g5,g6⟩:=g
        exact ⟨rMth_mem q1,rCode_mem q2,hasInit_mem g1,g2,⟨g3,g4⟩,q2,f',l',f,l,sig,q3,q4,q5,rfl,g5,by omega⟩
      · cases h
    · cases h
theorem act_ret {v : Option Value} (h : act ws dn k y bytes ret pc ls st H = some (.inl v)) : (∃ z r t,decode bytes pc = .ok (.ireturn,1)∧st = .int z::r∧ret = some t∧(t = .int ∨ t = .boolean ∨ t = .byte ∨ t = .char ∨ t = .short)∧v = some (.int (nar t z))) ∨
    (∃ z,decode bytes pc = .ok (.lreturn,1)∧st = [.long z]∧ret = some .long∧v = some (.long z)) ∨ (decode bytes pc = .ok (.return_,1)∧st = []∧ret = none∧v = none):=by
  unfold act at h
  split at h
  · cases h
  rename_i ins len hd
  split at h
  · cases h
  split at h
  · cases h
  unfold cstep at h
  split at h
  · obtain ⟨rfl,h⟩:=chk_some h
    split at h
    · split at h
      · rename_i g; cases h; exact Or.inl ⟨_,_,_,hd,rfl,rfl,g,rfl⟩
      · cases h
    · cases h
  · obtain ⟨rfl,h⟩:=chk_some h
    split at h
    · cases h; exact Or.inr (Or.inl ⟨_,hd,rfl,rfl,rfl⟩)
    · cases h
  · obtain ⟨rfl,h⟩:=chk_some h
    split at h
    · cases h; exact Or.inr (Or.inr ⟨hd,rfl,rfl,rfl⟩)
    · cases h
  · obtain ⟨rfl,h⟩:=chk_some h
    split at h
    · split at h <;> cases h
    · cases h
  · obtain ⟨rfl,h⟩:=chk_some h
    split at h
    · split at h
      · split at h <;> cases h
      · cases h
    · split at h
      · split at h
        · split at h <;> cases h
        · cases h
      · cases h
  · obtain ⟨rfl,h⟩:=chk_some h
    split at h
    · split at h
      · split at h
        · split at h <;> cases h
        · cases h
      · cases h
    · cases h
  · cases h
theorem act_step {pc' : Nat} {ls' : List Slot} {st' : List Value} {H' : AHeap} (h : act ws dn k y bytes ret pc ls st H = some (.inr (.inl (pc',ls',st',H')))) : ∃ ins len,decode bytes pc = .ok (ins,len) ∧
    ((xstep ins len pc ls st = some (pc',ls',st')∧H' = H) ∨ (ls' = ls∧hstep ws k y ins len pc st H = some (pc',st',H')) ∨
     (∃ i sl a r,ins = .invokespecial i∧len = 3∧oR ws dn y i = some sl∧st = .ref a::r∧wsum r≤sl∧pc' = pc + 3∧ls' = ls∧st' = r∧H' = H)):=by
  unfold act at h
  split at h
  · cases h
  rename_i ins len hd
  refine ⟨ins,len,hd,?_⟩
  split at h
  · rename_i g; cases h; exact Or.inl ⟨g,rfl⟩
  split at h
  · rename_i g; cases h; exact Or.inr (Or.inl ⟨rfl,g⟩)
  unfold cstep at h
  split at h
  · obtain ⟨rfl,h⟩:=chk_some h
    split at h
    · split at h <;> cases h
    · cases h
  · obtain ⟨rfl,h⟩:=chk_some h
    split at h <;> cases h
  · obtain ⟨rfl,h⟩:=chk_some h
    split at h <;> cases h
  · obtain ⟨rfl,h⟩:=chk_some h
    split at h
    · split at h <;> cases h
    · cases h
  · obtain ⟨rfl,h⟩:=chk_some h
    split at h
    · rename_i sl ho
      split at h
      · split at h
        · rename_i g; cases h; exact Or.inr (Or.inr ⟨_,sl,_,_,rfl,rfl,ho,rfl,g,rfl,rfl,rfl,rfl⟩)
        · cases h
      · cases h
    · split at h
      · split at h
        · split at h <;> cases h
        · cases h
      · cases h
  · obtain ⟨rfl,h⟩:=chk_some h
    split at h
    · split at h
      · split at h
        · split at h <;> cases h
        · cases h
      · cases h
    · cases h
  · cases h
/-- the three kinds of call -/
theorem act_call {y' : MethodName} {b : ByteArray} {r : Option FieldType} {en : List Slot} {rest : List Value} (h : act ws dn k y bytes ret pc ls st H = some (.inr (.inr (y',b,r,en,rest)))) : ∃ i mx na sl as,cR ws dn y i = some (y',b,mx,r,na,sl)∧en = entry as mx∧(ent as).length≤mx∧wsum rest≤sl ∧
    ((decode bytes pc = .ok (.invokestatic i,3)∧Jvm.Cond.static y' ∈ ws∧as.length = na∧st = as.reverse ++ rest) ∨
     (∃ a as',as = .ref a::as'∧as'.length = na∧st = as'.reverse ++ .ref a::rest∧Jvm.Cond.instanceMethod y' ∈ ws ∧
      ((decode bytes pc = .ok (.invokespecial i,3)∧y'.name = "<init>" ∧ r = none) ∨
       (decode bytes pc = .ok (.invokevirtual i,3)∧∃ C vs,H[a]? = some (.object C,vs)∧((Jvm.Cond.privateMethod y' ∈ ws∧∃ ki,Jvm.Cond.instantiable y'.cls ki ∈ ws) ∨ (Jvm.Cond.declares y' ∈ ws∧Jvm.Cond.selects y'.cls y' y' ∈ ws∧C = y'.cls)))))):=by
  unfold act at h
  split at h
  · cases h
  rename_i ins len hd
  split at h
  · cases h
  split at h
  · cases h
  unfold cstep at h
  split at h
  · obtain ⟨rfl,h⟩:=chk_some h
    split at h
    · split at h <;> cases h
    · cases h
  · obtain ⟨rfl,h⟩:=chk_some h
    split at h <;> cases h
  · obtain ⟨rfl,h⟩:=chk_some h
    split at h <;> cases h
  · rename_i i _ _
    obtain ⟨rfl,h⟩:=chk_some h
    split at h
    · rename_i y1 b1 mx r1 na sl hq
      split at h
      · rename_i g
        cases h
        unfold sR at hq
        split at hq
        · rename_i q hc
          split at hq
          · rename_i hs
            cases hq
            refine ⟨i,mx,na,sl,_,hc,rfl,g.2.2,g.2.1,Or.inl ⟨hd,hasStat_mem hs,by simp; omega,by simp⟩⟩
          · cases hq
        · cases hq
      · cases h
    · cases h
  · rename_i i _ _
    obtain ⟨rfl,h⟩:=chk_some h
    split at h
    · split at h
      · split at h <;> cases h
      · cases h
    · split at h
      · rename_i y1 b1 mx r1 na sl hq
        split at h
        · rename_i a rest' hdrop
          split at h
          · rename_i g
            cases h
            unfold nR at hq
            split at hq
            · rename_i q hc
              split at hq
              · rename_i hs
                cases hq
                refine ⟨i,mx,na,sl,_,hc,rfl,g.2.1,g.1,Or.inr ⟨a,_,rfl,by simp; omega,?_,hasIM_mem hs.2.1,Or.inl ⟨hd,hs.1,hs.2.2⟩⟩⟩
                rw [List.reverse_reverse,← hdrop,List.take_append_drop]
              · cases hq
            · cases hq
          · cases h
        · cases h
      · cases h
  · rename_i i _ _
    obtain ⟨rfl,h⟩:=chk_some h
    split at h
    · rename_i pv y1 b1 mx r1 na sl hq
      split at h
      · rename_i a rest' hdrop
        split at h
        · rename_i C vs hH
          split at h
          · rename_i g
            cases h
            unfold vR at hq
            split at hq
            · rename_i q hc
              split at hq
              · rename_i hs
                split at hq
                · rename_i hp; cases hq
                  obtain ⟨ki,hki⟩:=Option.isSome_iff_exists.mp hp.2
                  exact ⟨i,mx,na,sl,_,hc,rfl,g.2.2.1,g.2.1,Or.inr ⟨a,_,rfl,by simp; omega,by rw [List.reverse_reverse,← hdrop,List.take_append_drop],hasIM_mem hs,Or.inr ⟨hd,C,vs,hH,Or.inl ⟨hasPriv_mem hp.1,ki,rInst_mem hki⟩⟩⟩⟩
                · split at hq
                  · rename_i hp; cases hq
                    exact ⟨i,mx,na,sl,_,hc,rfl,g.2.2.1,g.2.1,Or.inr ⟨a,_,rfl,by simp; omega,by rw [List.reverse_reverse,← hdrop,List.take_append_drop],hasIM_mem hs,Or.inr ⟨hd,C,vs,hH,Or.inr ⟨hasDecl_mem hp.1,hasSel_mem hp.2,g.1.resolve_left (by simp)⟩⟩⟩⟩
                  · cases hq
              · cases hq
            · cases hq
          · cases h
        · cases h
      · cases h
    · cases h
  · cases h
theorem act_size {pc' : Nat} {ls' : List Slot} {st' : List Value} {H' : AHeap} (h : act ws dn k y bytes ret pc ls st H = some (.inr (.inl (pc',ls',st',H')))) : H.length≤H'.length∧tot ws H≤tot ws H'∧ls'.length = ls.length:=by
  obtain ⟨ins,len,hd,⟨g,rfl⟩ | ⟨rfl,g⟩ | ⟨i,sl,a,r,-,-,-,-,-,-,rfl,-,rfl⟩⟩:=act_step h
  · exact ⟨Nat.le_refl _,Nat.le_refl _,xstep_size g⟩
  · have:=hstep_size g; exact ⟨this.1,this.2,rfl⟩
  · exact ⟨Nat.le_refl _,Nat.le_refl _,rfl⟩
end Inv
theorem run_size {ws : Ws} {dn : Dn} {k : Nat} : ∀ {n : Nat} {y : MethodName} {bytes : ByteArray} {ret : Option FieldType} {pc : Nat} {ls : List Slot} {st : List Value} {H : AHeap} {v : Option Value} {H' : AHeap},run ws dn k n y bytes ret pc ls st H = some (v,H')→H.length≤H'.length∧tot ws H≤tot ws H'
  | 0,_,_,_,_,_,_,_,_,_,h => by cases h
  | n + 1,y,bytes,ret,pc,ls,st,H,v,H',h => by
    rw [run] at h
    split at h
    · cases h
    · cases h; exact ⟨Nat.le_refl _,Nat.le_refl _⟩
    · rename_i g
      have h1:=run_size h
      have h2:=act_size g
      exact ⟨Nat.le_trans h2.1 h1.1,Nat.le_trans h2.2.1 h1.2⟩
    · split at h
      · rename_i g
        have h1:=run_size h
        have h2:=run_size g
        exact ⟨Nat.le_trans h2.1 h1.1,Nat.le_trans h2.2 h1.2⟩
      · cases h
section Snd
/-- from here on the machine comes to a return of v with the heap H' -/
def Goes (p : Program) (l : Launch) (e : Env) (R : Room) (s : State) (m : MethodId) (args : Array Value) (below : List Frame) (meth : Method) (c : Code) (T : State) (Z : State) (ws : Ws) (k sa n0 cells slots : Nat) (H : AHeap) (g : JFrame) (ret : Option FieldType) (v : Option Value) (H' : AHeap) : Prop :=
  ∃ T' locs',Stand p l e R s m args below meth c T' locs' (cells + (H'.length - H.length)) (slots + (tot ws H' - tot ws H))∧Sim Z ws k sa n0 H' T'.heap∧Fr n0 locs'∧(ret = none→v = none) ∧
    ∀ fs,(∀ (fj : JFrame) (acts : List Action),fj.method = m→fj.locked = none→fj.entered = []→(doReturn e (T'.setTop fj) acts (v.map (ren (adr k sa n0)))).1 = T'.setFrames fs)→Steps p.tables e below (T.setTop g) (T'.setFrames fs)
variable {p : Program} {l : Launch} {e : Env} {R : Room} {s : State} {m : MethodId} {args : Array Value} {below : List Frame} {meth : Method} {c : Code} {T : State} {locs : List Loc} {cells slots : Nat}
  {Z : State} {a0 : Array Value} {ws : Ws} {dn : Dn} {k sa n0 : Nat}
theorem Goes.of {T1 : State} {H H1 H' : AHeap} {g g1 : JFrame} {ret : Option FieldType} {v : Option Value} (hst : ∀ target,Steps p.tables e below (T1.setTop g1) target→Steps p.tables e below (T.setTop g) target)
    (G : Goes p l e R s m args below meth c T1 Z ws k sa n0 (cells + (H1.length - H.length)) (slots + (tot ws H1 - tot ws H)) H1 g1 ret v H') (m1 : H.length≤H1.length∧tot ws H≤tot ws H1) (m2 : H1.length≤H'.length∧tot ws H1≤tot ws H') :
    Goes p l e R s m args below meth c T Z ws k sa n0 cells slots H g ret v H':=by
  obtain ⟨T',locs',X',S',N',hv,go⟩:=G
  have e1 : cells + (H1.length - H.length) + (H'.length - H1.length) = cells + (H'.length - H.length):=by omega
  have e2 : slots + (tot ws H1 - tot ws H) + (tot ws H' - tot ws H1) = slots + (tot ws H' - tot ws H):=by omega
  rw [e1,e2] at X'
  exact ⟨T',locs',X',S',N',hv,fun fs hf => hst _ (go fs hf)⟩
def Snd (Z : State) (ws : Ws) (dn : Dn) (k sa n0 n : Nat) : Prop :=
  ∀ (y : MethodName) (bytes : ByteArray) (ret : Option FieldType) (pc : Nat) (ls : List Slot) (st : List Value) (H : AHeap) (v : Option Value) (H' : AHeap),run ws dn k n y bytes ret pc ls st H = some (v,H') →
  ∀ (p : Program) (l : Launch) (e : Env) (R : Room) (s : State) (m : MethodId) (args : Array Value) (below : List Frame) (meth : Method) (c : Code) (T : State) (locs : List Loc) (cells slots : Nat),
    Stand p l e R s m args below meth c T locs cells slots→p.tables.exec = Jvm.exec→Z.Warmed39 s.vm→s.vm.findClass y.cls = some m.cls→meth.name = y.name→meth.sig.returnType = ret→c.code = bytes→ls.length = c.maxLocals →
    (∀ f lc,dnOf dn y = some (f,lc)→f≤R.frames∧lc≤R.locals)→Sim Z ws k sa n0 H T.heap→Fr n0 locs→cells + (H'.length - H.length)≤R.cells→slots + (tot ws H' - tot ws H)≤R.slots→T.heap.size = s.heap.size + cells →
    Goes p l e R s m args below meth c T Z ws k sa n0 cells slots H (fr (adr k sa n0) m pc ls st) ret v H'
theorem met_of {n : Nat} (ih : Snd Z ws dn k sa n0 n) (l : Launch) {y : MethodName} {b : ByteArray} {mx f lc : Nat} {r : Option FieldType} (wsx : List Jvm.Cond) (hp : Jvm.plainName y.cls = true) {as : List Value} (he : (ent as).length≤mx) {H H1 : AHeap} {v : Option Value}
    (hrun : run ws dn k n y b r 0 (entry as mx) [] H = some (v,H1)) (hdn : ∀ f' l',dnOf dn y = some (f',l')→f'≤f∧l'≤lc) {h : Heap} (S : Sim Z ws k sa n0 H h) {rc rs : Nat} (hc : H1.length - H.length≤rc) (hs : tot ws H1 - tot ws H≤rs) :
    MetFree l y (head1 (Jvm.Cond.code y b mx r::wsx) ({ frames:=f,cells:=rc,slots:=rs,locals:=lc } : Room)) (fun a U => a = (as.map (ren (adr k sa n0))).toArray∧Z.Warmed39 U.vm∧U.heap = h) (fun _ _ _ _ _ => True)
      (fun _ U o U' => ∃ w L,o = .returned w∧(w = v.map (ren (adr k sa n0))∧Sim Z ws k sa n0 H1 U'.heap∧Fr n0 L)∧FrameEnd U o U' L (H1.length - H.length) (tot ws H1 - tot ws H)):=by
  refine MetFree.of_bodySF (plainFor_of_name hp) hisR ?_
  intro p e s m args below meth c s₁ Bd hml0 hP hK
  obtain ⟨rfl,hZ,hh⟩:=hP
  have hown : s.vm.findClass y.cls = some m.cls:=findClass_of_methodNamed Bd.named
  have hnm:=(name_of_methodNamed Bd.named Bd.method).1
  have X0 : Stand p l e ({ frames:=f,cells:=rc,slots:=rs,locals:=lc } : Room) s m (as.map (ren (adr k sa n0))).toArray below meth c s₁ [] 0 0:=Stand.of_body Bd
  have e0 : s₁.heap = h:=by rw [← hh,Bd.state]; rfl
  obtain ⟨T',locs',X',S',N',hv,go⟩:=ih y b r 0 (entry as mx) [] H v H1 hrun p l e _ s m _ below meth c s₁ [] 0 0 X0 Bd.exec hZ hown hnm Bd.returns Bd.bytes (by rw [entry_len he]; exact hml0.symm) hdn (by rw [e0]; exact S) (Fr.nil n0) (by rw [Nat.zero_add]; exact hc) (by rw [Nat.zero_add]; exact hs) (by rw [e0,← hh,Nat.add_zero])
  obtain ⟨fs,hr,hrun',hended,hW,hsame⟩:=X'.leave (v:=v.map (ren (adr k sa n0))) (fun hn => by rw [Bd.returns] at hn; rw [hv hn]; rfl)
  refine ⟨_,_,castTop (entry_eq _ m as mx) (go fs hr),hrun',hended,_,locs',rfl,⟨rfl,S',N'⟩,⟨_,rfl⟩,hW,hsame.mono (Nat.le_of_eq (Nat.zero_add _)) (Nat.le_of_eq (Nat.zero_add _))⟩
set_option maxHeartbeats 2000000 in
theorem snd (hw : ∀ d ∈ ws,d.before a0 Z = true) : ∀ n,Snd Z ws dn k sa n0 n
  | 0 => fun y bytes ret pc ls st H v H' h => by cases h
  | n + 1 => fun y bytes ret pc ls st H v H' h p l e R s m args below meth c T locs cells slots X hx hZ hown hnm hret hby hls hF S N hc hl hz0 => by
    have ih:=snd hw n
    rw [run] at h
    split at h
    · cases h
    · rename_i v' ha
      cases h
      have stay : ∀ {v : Option Value},(ret = none→v = none)→(∀ fs,(∀ (fj : JFrame) (acts : List Action),fj.method = m→fj.locked = none→fj.entered = []→(doReturn e (T.setTop fj) acts (v.map (ren (adr k sa n0)))).1 = T.setFrames fs)→Steps p.tables e below (T.setTop (fr (adr k sa n0) m pc ls st)) (T.setFrames fs)) →
          Goes p l e R s m args below meth c T Z ws k sa n0 cells slots H (fr (adr k sa n0) m pc ls st) ret v H:=fun hv hg => ⟨T,locs,by rw [Nat.sub_self,Nat.sub_self]; exact X,S,N,hv,hg⟩
      rcases act_ret ha with ⟨z,r,t,hd,rfl,rfl,ht,rfl⟩ | ⟨z,hd,rfl,rfl,rfl⟩ | ⟨hd,rfl,rfl,rfl⟩
      · refine stay (fun h => by cases h) fun fs hf => ?_
        rcases ht with rfl | ht
        · exact retOut X hx hret (w:=.int z) (rest:=r.map (ren (adr k sa n0))) rfl (Or.inl ⟨rfl,Or.inl rfl,z,rfl⟩) (hb hby hd) hf
        · exact retN X hx hret ht (hb hby hd) hf
      · exact stay (fun h => by cases h) fun fs hf => retOut X hx hret (w:=.long z) (rest:=[]) rfl (Or.inr (Or.inl ⟨rfl,rfl,z,rfl⟩)) (hb hby hd) hf
      · exact stay (fun _ => rfl) fun fs hf => X.returnOut hx hret (hb hby hd) hf
    · rename_i pc' ls' st' H1 ha
      have m1:=act_size ha
      have m2:=run_size h
      obtain ⟨ins,len,hd,⟨g,rfl⟩ | ⟨rfl,g⟩ | ⟨i,sl,a,r,rfl,rfl,ho,rfl,hW,rfl,rfl,rfl,rfl⟩⟩:=act_step ha
      · obtain ⟨T',locs',X',S',N',hv,go⟩:=ih y bytes ret pc' ls' st' H1 v H' h p l e R s m args below meth c T locs cells slots X hx hZ hown hnm hret hby (m1.2.2.trans hls) hF S N hc hl hz0
        exact ⟨T',locs',X',S',N',hv,fun fs hf => xstep_sound X.here hx (adr k sa n0) (hb hby hd) g (go fs hf)⟩
      · obtain ⟨T1,locs1,X1,S1,N1,st1⟩:=hstep_sound (ls:=ls') hw X hx hZ hown hnm (hb hby hd) g S N (by dsimp only; omega) (by dsimp only; omega) hz0
        dsimp only at X1 S1 st1
        have z1:=S.1
        have z2:=S1.1
        have z3:=S.2.1
        have G:=ih y bytes ret pc' ls' st' H1 v H' h p l e R s m args below meth c T1 locs1 _ _ X1 hx hZ hown hnm hret hby hls hF S1 N1 (by omega) (by omega) (by omega)
        exact Goes.of st1 G ⟨m1.1,m1.2.1⟩ m2
      · unfold oR at ho
        split at ho
        · rename_i y1 b1 mx1 r1 f1 l1 q1 q2 q3
          split at ho
          · rename_i g
            cases ho
            obtain ⟨rfl,g2,g3,rfl,rfl,g4,g5⟩:=g
            obtain ⟨u1,u2⟩:=hF _ _ q3
            have eb : b1 = ⟨#[0xb1]⟩:=by cases b1; cases g3; rfl
            subst eb
            obtain ⟨T1,X1,e1,st1⟩:=initO X hx hZ hown (hw _ (rMth_mem q1)) (hw _ (hasIM_mem g2)) (hw _ (rCode_mem q2)) rfl (g:=fr (adr k sa n0) m pc ls' (.ref a::st')) rfl (by simp [hls]) rfl (hb hby hd) (by omega) (W:=l1 - 12) (by show 2 * 0 + _≤_; rw [wsum_ren]; omega) (by omega)
            have G:=ih y bytes ret (pc + 3) ls' st' H1 v H' h p l e R s m args below meth c T1 locs cells slots X1 hx hZ hown hnm hret hby hls hF (by rw [e1]; exact S) N hc hl (by rw [e1]; exact hz0)
            obtain ⟨T',locs',X',S',N',hv,go⟩:=G
            exact ⟨T',locs',X',S',N',hv,fun fs hf => st1 _ (go fs hf)⟩
          · cases ho
        · cases ho
    · rename_i y' b r en rest ha
      split at h
      · rename_i v1 H1 h1
        have m1:=run_size h1
        have m2:=run_size h
        obtain ⟨i,mx,na,sl,as,hq,rfl,hen,hW,hk⟩:=act_call ha
        obtain ⟨w1,w2,w3,w4,w5,-,f',l',f,lc,sig,d1,d2,d3,d4,d5,d6⟩:=cR_some hq
        obtain ⟨u1,u2⟩:=hF _ _ d2
        have hM:=met_of ih l [] w4 hen h1 (f:=f') (lc:=l') (fun f2 l2 q => by rw [d1] at q; cases q; exact ⟨Nat.le_refl _,Nat.le_refl _⟩) S (Nat.le_refl _) (Nat.le_refl _)
        have hB:=backOf (R:=R) (p:=p) (e:=e) (below:=below) (s:=s) (args:=args) (len:=3) (W:=sl) (rm:=({ frames:=f',cells:=H1.length - H.length,slots:=tot ws H1 - tot ws H,locals:=l' } : Room)) (Q:=fun w h L => w = v1.map (ren (adr k sa n0))∧Sim Z ws k sa n0 H1 h∧Fr n0 L) hM hZ (hw _ w2) (hw _ w3) (by show f' + 1≤_; omega) (by show sl + (mx + 11) + l'≤_; omega)
        have hsz : (fr (adr k sa n0) m pc ls st).locals.size = c.maxLocals:=by simp [hls]
        have hWW : ∀ st' : List Value,wsum st'≤sl→2 * (fr (adr k sa n0) m pc ls st).monitorRoom + ((st'.map (ren (adr k sa n0))).map fun v => v.category).sum≤sl:=fun st' q => by show 2 * 0 + _≤_; rw [wsum_ren]; omega
        have hback : ∀ (v' : Option Value) (vm₁ : Vm) (B : Pt),Stand p l e R s m args below meth c B.U B.locs B.cells B.slots →
            (∃ L,(v' = v1.map (ren (adr k sa n0))∧Sim Z ws k sa n0 H1 B.U.heap∧Fr n0 L)∧B.locs = locs ++ L∧B.cells = cells + (H1.length - H.length)∧B.slots = slots + (tot ws H1 - tot ws H)) →
            (∀ target,Steps p.tables e below (B.U.setTop { fr (adr k sa n0) m pc ls st with pc:=pc + 3,stack:=v'.toList ++ rest.map (ren (adr k sa n0)) }) target→Steps p.tables e below (T.setTop (fr (adr k sa n0) m pc ls st)) target) →
            Goes p l e R s m args below meth c T Z ws k sa n0 cells slots H (fr (adr k sa n0) m pc ls st) ret v H':=by
          rintro v' vm₁ ⟨T1,L1,k1,n1⟩ X1 ⟨Lc,⟨rfl,S1,N1⟩,l1,y1,z1⟩ st1
          dsimp only [Pt.U,Pt.locs,Pt.cells,Pt.slots] at X1 l1 y1 z1 st1 S1
          subst l1 y1 z1
          have z1:=S.1
          have z2:=S1.1
          have z3:=S.2.1
          have G:=ih y bytes ret (pc + 3) ls (v1.toList ++ rest) H1 v H' h p l e R s m args below meth c T1 _ _ _ X1 hx hZ hown hnm hret hby hls hF S1 (Fr.app N N1) (by omega) (by omega) (by omega)
          refine Goes.of (fun target ht => st1 target ?_) G m1 m2
          have e1 : (v1.toList ++ rest).map (ren (adr k sa n0)) = (v1.map (ren (adr k sa n0))).toList ++ rest.map (ren (adr k sa n0)):=by cases v1 <;> simp
          rw [← e1]; exact ht
        rcases hk with ⟨hd,ws1,hna,rfl⟩ | ⟨a,as',rfl,hna,rfl,wi,⟨hd,hn,rfl⟩ | ⟨hd,C,vs,hH,hpd⟩⟩
        · obtain ⟨v',vm₁,B,-,X1,P1,st1⟩:=Jvm.LawKit.callS X hx (y:=y') hown (mvT hZ (hw _ w1)) (mvT hZ (hw _ ws1)) (mvT hZ (hw _ w3)) (mvT hZ (hw _ w2)) w5 hB (g:=fr (adr k sa n0) m pc ls (as.reverse ++ rest)) rfl hsz (argsL:=as.map (ren (adr k sa n0))) (rest:=rest.map (ren (adr k sa n0)))
            (fun sg hsg => by rw [d3] at hsg; cases hsg; simp [hna,d4]) (by simp) (hWW rest hW) (hb hby hd) (fun _ _ => ⟨rfl,rfl,by show cells + (H1.length - H.length)≤_; omega,by show slots + (tot ws H1 - tot ws H)≤_; omega⟩)
          exact hback v' vm₁ B X1 P1 st1
        · obtain ⟨v',vm₁,B,-,X1,P1,st1⟩:=X.specialBack hx (y:=y') hn hown (mvT hZ (hw _ w1)) (mvT hZ (hw _ wi)) (mvT hZ (hw _ w2)) w5 hB (g:=fr (adr k sa n0) m pc ls (as'.reverse ++ .ref a::rest)) rfl hsz (Steps.refl _) (a:=adr k sa n0 a) (argsL:=as'.map (ren (adr k sa n0))) (rest:=rest.map (ren (adr k sa n0)))
            (fun sg hsg => by rw [d3] at hsg; cases hsg; simp [hna,d4]) (by simp [ren]) (hWW rest hW) (hb hby hd) (fun _ _ => ⟨rfl,rfl,by show cells + (H1.length - H.length)≤_; omega,by show slots + (tot ws H1 - tot ws H)≤_; omega⟩)
          exact hback v' vm₁ B X1 P1 fun target ht => st1.trans ht
        · have E:=(S.2.2.2.2 a _ hH).1
          rcases hpd with ⟨wp,ki,wki⟩ | ⟨wd,wsel,rfl⟩
          · obtain ⟨cq,hq1,hq2⟩:=E.cell
            have hpa : s.PrivateAt y':=Cond.privateMethod_at (mvP hZ (hw _ wp) (args:=#[]))
            have hsel : (Jvm.Cond.selects y'.cls y' y').before args s = true:=by
              have wz : (Jvm.Cond.instantiable y'.cls ki).before args s = true:=mvT hZ (hw _ wki)
              obtain ⟨c2,k2,i1,i2,-,i4,-⟩:=Cond.instantiable_spec wz
              exact selects_self_of_private i1 i2 (Bool.or_eq_false_iff.mp i4).1 hpa (mvT hZ (hw _ wi)) w5
            obtain ⟨v',vm₁,B,-,X1,P1,st1⟩:=X.privateBack hx (y:=y') hown (mvT hZ (hw _ w1)) (mvT hZ (hw _ wi)) hsel hpa (mvT hZ (hw _ w2)) w5 hB (g:=fr (adr k sa n0) m pc ls (as'.reverse ++ .ref a::rest)) rfl hsz (Steps.refl _) (a:=adr k sa n0 a) hq1 hq2 (argsL:=as'.map (ren (adr k sa n0))) (rest:=rest.map (ren (adr k sa n0)))
              (fun sg hsg => by rw [d3] at hsg; cases hsg; simp [hna,d4]) (by simp [ren]) (hWW rest hW) (hb hby hd) (fun _ _ => ⟨rfl,rfl,by show cells + (H1.length - H.length)≤_; omega,by show slots + (tot ws H1 - tot ws H)≤_; omega⟩)
            exact hback v' vm₁ B X1 P1 fun target ht => st1.trans ht
          · obtain ⟨cq,kq,qa,qb,qc⟩:=isOf hZ rfl E
            obtain ⟨v',vm₁,B,-,X1,P1,st1⟩:=X.virtualBack hx (y:=y') (z:=y') hown (mvT hZ (hw _ w1)) (mvT hZ (hw _ wd)) (notFace_of_selects (args:=#[]) (mvT hZ (hw _ wsel))) (mvT hZ (hw _ wsel)) (mvT hZ (hw _ wi)) w5 hB qa qc (g:=fr (adr k sa n0) m pc ls (as'.reverse ++ .ref a::rest)) rfl hsz (Steps.refl _) (argsL:=as'.map (ren (adr k sa n0))) (rest:=rest.map (ren (adr k sa n0)))
              (fun sg hsg => by rw [d3] at hsg; cases hsg; simp [hna,d4]) (by simp [ren]) (hWW rest hW) (hb hby hd) (fun _ _ => ⟨rfl,rfl,by show cells + (H1.length - H.length)≤_; omega,by show slots + (tot ws H1 - tot ws H)≤_; omega⟩)
            exact hback v' vm₁ B X1 P1 fun target ht => st1.trans ht
      · cases h
end Snd
end Jvm.Own
namespace Jvm.Own
open Sem ClassFile Op Lib Jvm.Stand Jvm.Free Jvm.LawKit Jvm.RoadKit
/-! OWN 6: from here on no machine is in sight -/
theorem run_succ {ws : Ws} {dn : Dn} {k : Nat} : ∀ {n : Nat} {y : MethodName} {bytes : ByteArray} {ret : Option FieldType} {pc : Nat} {ls : List Slot} {st : List Value} {H : AHeap} {r : Option Value × AHeap},run ws dn k n y bytes ret pc ls st H = some r→run ws dn k (n + 1) y bytes ret pc ls st H = some r
  | 0,_,_,_,_,_,_,_,_,h => by cases h
  | n + 1,y,bytes,ret,pc,ls,st,H,r,h => by
    rw [run] at h
    rw [run]
    split at h
    · cases h
    · exact h
    · exact run_succ h
    · split at h
      · rename_i v H1 g
        rw [run_succ g]
        exact run_succ h
      · cases h
theorem run_mono {ws : Ws} {dn : Dn} {k n n' : Nat} {y : MethodName} {bytes : ByteArray} {ret : Option FieldType} {pc : Nat} {ls : List Slot} {st : List Value} {H : AHeap} {r : Option Value × AHeap} (hn : n≤n') (h : run ws dn k n y bytes ret pc ls st H = some r) : run ws dn k n' y bytes ret pc ls st H = some r:=by
  induction hn with
  | refl => exact h
  | step _ ih => exact run_succ ih
/-- from here on a run comes to a return at which Q holds -/
def W (ws : Ws) (dn : Dn) (k : Nat) (y : MethodName) (bytes : ByteArray) (ret : Option FieldType) (pc : Nat) (ls : List Slot) (st : List Value) (H : AHeap) (Q : Option Value→AHeap→Prop) : Prop :=
  ∃ n v H',run ws dn k n y bytes ret pc ls st H = some (v,H')∧Q v H'
section
variable {ws : Ws} {dn : Dn} {k : Nat} {y : MethodName} {bytes : ByteArray} {ret : Option FieldType} {pc : Nat} {ls : List Slot} {st : List Value} {H : AHeap} {Q : Option Value→AHeap→Prop}
theorem W_step {pc' : Nat} {ls' : List Slot} {st' : List Value} {H' : AHeap} (h : act ws dn k y bytes ret pc ls st H = some (.inr (.inl (pc',ls',st',H')))) : W ws dn k y bytes ret pc ls st H Q = W ws dn k y bytes ret pc' ls' st' H' Q:=by
  refine propext ⟨fun ⟨n,v,H1,h1,h2⟩ => ?_,fun ⟨n,v,H1,h1,h2⟩ => ⟨n + 1,v,H1,by rw [run,h]; exact h1,h2⟩⟩
  cases n with
  | zero => cases h1
  | succ n => rw [run,h] at h1; exact ⟨n,v,H1,h1,h2⟩
theorem W_ret {v : Option Value} (h : act ws dn k y bytes ret pc ls st H = some (.inl v)) : W ws dn k y bytes ret pc ls st H Q = Q v H:=by
  refine propext ⟨fun ⟨n,v,H1,h1,h2⟩ => ?_,fun h2 => ⟨1,v,H,by rw [run,h],h2⟩⟩
  cases n with
  | zero => cases h1
  | succ n => rw [run,h] at h1; cases h1; exact h2
theorem W_call {y' : MethodName} {b : ByteArray} {r : Option FieldType} {en : List Slot} {rest : List Value} (h : act ws dn k y bytes ret pc ls st H = some (.inr (.inr (y',b,r,en,rest)))) :
    W ws dn k y bytes ret pc ls st H Q = W ws dn k y' b r 0 en [] H (fun v H1 => W ws dn k y bytes ret (pc + 3) ls (v.toList ++ rest) H1 Q):=by
  refine propext ⟨fun ⟨n,v,H1,h1,h2⟩ => ?_,fun ⟨n,v,H1,h1,n',v',H',h2,h3⟩ => ⟨max n n' + 1,v',H',?_,h3⟩⟩
  · cases n with
    | zero => cases h1
    | succ n =>
      rw [run,h] at h1
      dsimp only at h1
      split at h1
      · rename_i v' H' g; exact ⟨n,v',H',g,n,v,H1,h1,h2⟩
      · cases h1
  · rw [run,h]
    dsimp only
    rw [run_mono (Nat.le_max_left _ _) h1]
    exact run_mono (Nat.le_max_right _ _) h2
theorem W.mono {Q' : Option Value→AHeap→Prop} (h : W ws dn k y bytes ret pc ls st H Q) (hq : ∀ v H',Q v H'→Q' v H') : W ws dn k y bytes ret pc ls st H Q':=by
  obtain ⟨n,v,H',h1,h2⟩:=h; exact ⟨n,v,H',h1,hq _ _ h2⟩
theorem act_x {ins : Instr} {len pc' : Nat} {ls' : List Slot} {st' : List Value} (hd : decode bytes pc = .ok (ins,len)) (hx : xstep ins len pc ls st = some (pc',ls',st')) : act ws dn k y bytes ret pc ls st H = some (.inr (.inl (pc',ls',st',H))):=by
  unfold act; rw [hd]; dsimp only; rw [hx]
theorem act_h {ins : Instr} {len pc' : Nat} {st' : List Value} {H' : AHeap} (hd : decode bytes pc = .ok (ins,len)) (hx : xstep ins len pc ls st = none) (hh : hstep ws k y ins len pc st H = some (pc',st',H')) : act ws dn k y bytes ret pc ls st H = some (.inr (.inl (pc',ls,st',H'))):=by
  unfold act; rw [hd]; dsimp only; rw [hx]; dsimp only; rw [hh]
theorem act_c {ins : Instr} {len : Nat} (hd : decode bytes pc = .ok (ins,len)) (hx : xstep ins len pc ls st = none) (hh : hstep ws k y ins len pc st H = none) : act ws dn k y bytes ret pc ls st H = cstep ws dn y ret ins len pc ls st H:=by
  unfold act; rw [hd]; dsimp only; rw [hx]; dsimp only; rw [hh]
/-- a plain step -/
theorem w_x {ins : Instr} {len pc' : Nat} {ls' : List Slot} {st' : List Value} (hd : decode bytes pc = .ok (ins,len)) (hx : xstep ins len pc ls st = some (pc',ls',st')) : W ws dn k y bytes ret pc ls st H Q = W ws dn k y bytes ret pc' ls' st' H Q:=W_step (act_x hd hx)
/-- a conditional branch -/
theorem w_if {cd : ClassFile.Cond} {o : Int} {x : Int32} {t : Nat} {P : Prop} [Decidable P] (hd : decode bytes pc = .ok (.ifCond cd o,3)) (hp : ifCond.holds cd x = decide P) (hj : jmp pc o = some t) :
    W ws dn k y bytes ret pc ls (.int x::st) H Q = if P then W ws dn k y bytes ret t ls st H Q else W ws dn k y bytes ret (pc + 3) ls st H Q:=by
  split
  · exact w_x hd (by simp only [xstep,chk,br,hp,hj,if_true]; simp [*])
  · exact w_x hd (by simp only [xstep,chk,br,hp,hj,if_true]; simp [*])
theorem w_icmp {cd : ClassFile.Cond} {o : Int} {x1 x2 : Int32} {t : Nat} {P : Prop} [Decidable P] (hd : decode bytes pc = .ok (.if_icmp cd o,3)) (hp : if_icmp.holds cd x1 x2 = decide P) (hj : jmp pc o = some t) :
    W ws dn k y bytes ret pc ls (.int x2::.int x1::st) H Q = if P then W ws dn k y bytes ret t ls st H Q else W ws dn k y bytes ret (pc + 3) ls st H Q:=by
  split
  · exact w_x hd (by simp only [xstep,chk,br,hp,hj,if_true]; simp [*])
  · exact w_x hd (by simp only [xstep,chk,br,hp,hj,if_true]; simp [*])
theorem w_get {i j : Nat} {a : Nat} {C : String} {vs : List Value} {v : Value} (hd : decode bytes pc = .ok (.getfield i,3)) (hr : gfR ws y.cls i = some (C,j)) (ho : H[a]? = some (.object C,vs)) (hv : vs[j]? = some v) :
    W ws dn k y bytes ret pc ls (.ref a::st) H Q = W ws dn k y bytes ret (pc + 3) ls (v::st) H Q :=
  W_step (act_h hd rfl (by simp only [hstep,chk,hGet,hr,ho,hv,if_true,Option.map_some]))
theorem w_put {i j : Nat} {a : Nat} {C : String} {ty : FieldType} {vs : List Value} {v v' : Value} {H' : AHeap} (hd : decode bytes pc = .ok (.putfield i,3)) (hr : pfR ws y.cls y.name i = some (C,j,ty)) (ho : H[a]? = some (.object C,vs)) (hk : k≤a) (hj : j < vs.length) (hv : putv ty v = some v') (hH : H.set a (.object C,vs.set j v') = H') :
    W ws dn k y bytes ret pc ls (v::.ref a::st) H Q = W ws dn k y bytes ret (pc + 3) ls st H' Q :=
  W_step (act_h hd rfl (by simp only [hstep,chk,hPut,hr,ho,hv,if_true,true_and,hk,hj,Option.map_some,hH,and_self]))
theorem w_new {i : Nat} {C : String} (hd : decode bytes pc = .ok (.new i,3)) (hr : hNew ws y.cls i pc H st = some (pc + 3,.ref H.length::st,H ++ [(.object C,(olay ws C).map dflt)])) :
    W ws dn k y bytes ret pc ls st H Q = W ws dn k y bytes ret (pc + 3) ls (.ref H.length::st) (H ++ [(.object C,(olay ws C).map dflt)]) Q :=
  W_step (act_h hd rfl (by simp only [hstep,chk,if_true]; exact hr))
theorem w_newA {aty : ArrayType} {n : Int32} {ty : FieldType} (hd : decode bytes pc = .ok (.newarray aty,2)) (ht : newarray.typeOf aty = ty) (hr : hasArr ws ty = true) (hn : ¬ n < 0) (hb : n.toNatClampNeg * 8≤536870912) :
    W ws dn k y bytes ret pc ls (.int n::st) H Q = W ws dn k y bytes ret (pc + 2) ls (.ref H.length::st) (H ++ [(.array ty,List.replicate n.toNatClampNeg (defaultValue ty))]) Q:=by
  subst ht
  exact W_step (act_h hd rfl (by simp only [hstep,chk,hNewA,hr,hn,hb,if_true,not_false_eq_true,and_self]))
/-- may the instruction read an array of that kind? -/
def ldOk : Instr→FieldType→Bool
  | .iaload,.int | .caload,.char | .laload,.long | .baload,.byte | .baload,.boolean => true
  | _,_ => false
def stOk : Instr→FieldType→Bool
  | .iastore,.int | .castore,.char | .lastore,.long | .bastore,.byte | .bastore,.boolean => true
  | _,_ => false
theorem w_ald {ins : Instr} {a : Nat} {j : Int32} {ty : FieldType} {vs : List Value} {v : Value} (hd : decode bytes pc = .ok (ins,1)) (hi : ldOk ins ty = true) (ho : H[a]? = some (.array ty,vs)) (hj : ¬ j < 0) (hv : vs[j.toNatClampNeg]? = some v) :
    W ws dn k y bytes ret pc ls (.int j::.ref a::st) H Q = W ws dn k y bytes ret (pc + 1) ls (v::st) H Q:=by
  unfold ldOk at hi
  split at hi
  all_goals first
    | exact W_step (act_h hd rfl (by simp only [hstep,chk,hLd,okT,okB,ho,hv,hj,if_true,Option.map_some,decide_true,not_false_eq_true,and_self,Bool.or_true,Bool.true_or]))
    | cases hi
theorem w_ast {ins : Instr} {a : Nat} {j : Int32} {ty : FieldType} {vs : List Value} {v v' : Value} {H' : AHeap} (hd : decode bytes pc = .ok (ins,1)) (hi : stOk ins ty = true) (ho : H[a]? = some (.array ty,vs)) (hk : k≤a) (hj : ¬ j < 0) (hl : j.toNatClampNeg < vs.length) (hv : putv ty v = some v') (hH : H.set a (.array ty,vs.set j.toNatClampNeg v') = H') :
    W ws dn k y bytes ret pc ls (v::.int j::.ref a::st) H Q = W ws dn k y bytes ret (pc + 1) ls st H' Q:=by
  unfold stOk at hi
  split at hi
  all_goals first
    | exact W_step (act_h hd rfl (by simp only [hstep,chk,hSt,okT,okB,ho,hv,hj,hk,hl,hH,if_true,Option.map_some,decide_true,not_false_eq_true,and_self,Bool.or_true,Bool.true_or]))
    | cases hi
theorem w_len {a : Nat} {ty : FieldType} {vs : List Value} (hd : decode bytes pc = .ok (.arraylength,1)) (ho : H[a]? = some (.array ty,vs)) :
    W ws dn k y bytes ret pc ls (.ref a::st) H Q = W ws dn k y bytes ret (pc + 1) ls (.int vs.length.toInt32::st) H Q :=
  W_step (act_h hd rfl (by simp only [hstep,chk,hLen,ho,if_true]))
theorem w_ldc {i : Nat} {v : Int32} (hd : decode bytes pc = .ok (.ldc i,2)) (hr : rCon ws y.cls i = some v) : W ws dn k y bytes ret pc ls st H Q = W ws dn k y bytes ret (pc + 2) ls (.int v::st) H Q :=
  W_step (act_h hd rfl (by simp only [hstep,chk,hr,if_true,Option.map_some]))
theorem w_ldcw {i : Nat} {v : Int32} (hd : decode bytes pc = .ok (.ldc_w i,3)) (hr : rCon ws y.cls i = some v) : W ws dn k y bytes ret pc ls st H Q = W ws dn k y bytes ret (pc + 3) ls (.int v::st) H Q :=
  W_step (act_h hd rfl (by simp only [hstep,chk,hr,if_true,Option.map_some]))
theorem w_ldc2 {i : Nat} {v : Int64} (hd : decode bytes pc = .ok (.ldc2_w i,3)) (hr : rConL ws y.cls i = some v) : W ws dn k y bytes ret pc ls st H Q = W ws dn k y bytes ret (pc + 3) ls (.long v::st) H Q :=
  W_step (act_h hd rfl (by simp only [hstep,chk,hr,if_true,Option.map_some]))
theorem w_iret {z : Int32} (hd : decode bytes pc = .ok (.ireturn,1)) (hr : ret = some .int) : W ws dn k y bytes ret pc ls (.int z::st) H Q = Q (some (.int z)) H:=by
  subst hr; exact W_ret (by rw [act_c hd rfl rfl]; rfl)
theorem w_iretN {z : Int32} {t : FieldType} (hd : decode bytes pc = .ok (.ireturn,1)) (hr : ret = some t) (ht : t = .int ∨ t = .boolean ∨ t = .byte ∨ t = .char ∨ t = .short) : W ws dn k y bytes ret pc ls (.int z::st) H Q = Q (some (.int (nar t z))) H:=by
  subst hr; exact W_ret (by rw [act_c hd rfl rfl]; simp only [cstep,chk,if_true,ht])
theorem w_lret {z : Int64} (hd : decode bytes pc = .ok (.lreturn,1)) (hr : ret = some .long) : W ws dn k y bytes ret pc ls [.long z] H Q = Q (some (.long z)) H:=by
  subst hr; exact W_ret (by rw [act_c hd rfl rfl]; rfl)
theorem w_vret (hd : decode bytes pc = .ok (.return_,1)) (hr : ret = none) : W ws dn k y bytes ret pc ls [] H Q = Q none H:=by
  subst hr; exact W_ret (by rw [act_c hd rfl rfl]; rfl)
theorem w_obj {i sl : Nat} {a : Nat} (hd : decode bytes pc = .ok (.invokespecial i,3)) (hr : oR ws dn y i = some sl) (hw : wsum st≤sl) : W ws dn k y bytes ret pc ls (.ref a::st) H Q = W ws dn k y bytes ret (pc + 3) ls st H Q :=
  W_step (by rw [act_c hd rfl rfl]; simp only [cstep,chk,if_true,hr,hw])
theorem w_stat {i mx na sl : Nat} {y' : MethodName} {b : ByteArray} {r : Option FieldType} {as rest : List Value} {en : List Slot} (hd : decode bytes pc = .ok (.invokestatic i,3)) (hr : sR ws dn y i = some (y',b,mx,r,na,sl)) (hn : as.length = na) (hw : wsum rest≤sl) (he : (ent as.reverse).length≤mx) (hen : entry as.reverse mx = en) :
    W ws dn k y bytes ret pc ls (as ++ rest) H Q = W ws dn k y' b r 0 en [] H (fun v H1 => W ws dn k y bytes ret (pc + 3) ls (v.toList ++ rest) H1 Q):=by
  subst hn hen
  have e1 : (as ++ rest).take as.length = as:=by simp
  have e2 : (as ++ rest).drop as.length = rest:=by simp
  exact W_call (by rw [act_c hd rfl rfl]; simp only [cstep,chk,if_true,hr,e1,e2,hw,he,List.length_append,Nat.le_add_right,and_self])
theorem w_spec {i mx na sl a : Nat} {y' : MethodName} {b : ByteArray} {r : Option FieldType} {as rest : List Value} {en : List Slot} (hd : decode bytes pc = .ok (.invokespecial i,3)) (h0 : oR ws dn y i = none) (hr : nR ws dn y i = some (y',b,mx,r,na,sl)) (hn : as.length = na) (hw : wsum rest≤sl) (he : (ent (.ref a::as.reverse)).length≤mx) (hen : entry (.ref a::as.reverse) mx = en) :
    W ws dn k y bytes ret pc ls (as ++ .ref a::rest) H Q = W ws dn k y' b r 0 en [] H (fun v H1 => W ws dn k y bytes ret (pc + 3) ls (v.toList ++ rest) H1 Q):=by
  subst hn hen
  have e1 : (as ++ .ref a::rest).take as.length = as:=by simp
  have e2 : (as ++ .ref a::rest).drop as.length = .ref a::rest:=by simp
  exact W_call (by rw [act_c hd rfl rfl]; simp only [cstep,chk,if_true,h0,hr,e1,e2,hw,he,List.length_append,Nat.le_add_right,and_self])
theorem w_virt {i mx na sl a : Nat} {pv : Bool} {y' : MethodName} {b : ByteArray} {r : Option FieldType} {as rest : List Value} {en : List Slot} {C : String} {vs : List Value} (hd : decode bytes pc = .ok (.invokevirtual i,3)) (hr : vR ws dn y i = some (pv,y',b,mx,r,na,sl)) (ho : H[a]? = some (.object C,vs)) (hC : C = y'.cls) (hn : as.length = na) (hw : wsum rest≤sl) (he : (ent (.ref a::as.reverse)).length≤mx) (hen : entry (.ref a::as.reverse) mx = en) :
    W ws dn k y bytes ret pc ls (as ++ .ref a::rest) H Q = W ws dn k y' b r 0 en [] H (fun v H1 => W ws dn k y bytes ret (pc + 3) ls (v.toList ++ rest) H1 Q):=by
  subst hn hen hC
  have e1 : (as ++ .ref a::rest).take as.length = as:=by simp
  have e2 : (as ++ .ref a::rest).drop as.length = .ref a::rest:=by simp
  exact W_call (by rw [act_c hd rfl rfl]; simp only [cstep,chk,if_true,hr,e1,e2,ho,hw,he,List.length_append,Nat.le_add_right,and_self,or_true])
end
theorem law_of {Z : State} {a0 : Array Value} {ws : Ws} {dn : Dn} {k sa n0 : Nat} (hw : ∀ d ∈ ws,d.before a0 Z = true) (l : Launch) {y : MethodName} {b : ByteArray} {mx f lc rc rs : Nat} {r : Option FieldType} (wsx : List Jvm.Cond) (hp : Jvm.plainName y.cls = true) {as : List Value} (he : (ent as).length≤mx) {H : AHeap}
    (hW : W ws dn k y b r 0 (entry as mx) [] H (fun v H1 => v = some (.int 1)∧H1.length - H.length≤rc∧tot ws H1 - tot ws H≤rs)) (hdn : ∀ f' l',dnOf dn y = some (f',l')→f'≤f∧l'≤lc) {h : Heap} (S : Sim Z ws k sa n0 H h) :
    MetFree l y (head1 (Jvm.Cond.code y b mx r::wsx) ({ frames:=f,cells:=rc,slots:=rs,locals:=lc } : Room)) (fun a U => a = (as.map (ren (adr k sa n0))).toArray∧Z.Warmed39 U.vm∧U.heap = h) (fun _ _ _ _ _ => True)
      (fun _ U o U' => ∃ w L,o = .returned w∧(w = some (.int 1)∧Fr n0 L)∧FrameEnd U o U' L rc rs):=by
  obtain ⟨n,v,H1,h1,rfl,h3,h4⟩:=hW
  have M:=met_of (snd hw n) l wsx hp he h1 hdn S h3 h4
  intro p e ha hc hk s m args below hf happ hP hK
  obtain ⟨n',o,g1,g2,g3,w,L,rfl,⟨rfl,-,N⟩,F⟩:=M p e ha hc hk s m args below hf happ hP hK
  exact ⟨n',_,g1,g2,g3,_,L,rfl,⟨rfl,N⟩,F.1,F.2.1,F.2.2.mono h3 h4⟩
/-- the start of a law whose arguments hold no reference -/
theorem Sim.empty (Z : State) (ws : Ws) (h : Heap) : Sim Z ws 0 0 h.size [] h :=
  ⟨by simp,Nat.le_refl _,Nat.zero_le _,(fun q => absurd q (by decide)),(fun i o q => by simp at q)⟩
/-- the start of a law over one array of ints -/
theorem Sim.script {Z : State} (ws : Ws) {h : Heap} {a : Addr} {c : Cell} {vs : List Int32} (A : Arr Z h a c .int) (e : c.slots = (vs.map Value.int).toArray) : Sim Z ws 1 a h.size [(.array .int,vs.map Value.int)] h:=by
  refine ⟨by simp,Nat.le_refl _,Nat.le_refl _,fun _ => A.lt,fun i o q => ?_⟩
  cases i with
  | zero =>
    cases q
    refine ⟨c,A,e.trans ?_⟩
    rw [List.map_map]; rfl
  | succ i => cases q
end Jvm.Own
namespace Jvm.Own
open Sem ClassFile Op Lib Jvm.Stand Jvm.Free Jvm.LawKit Jvm.RoadKit
/-! OWN 7: states of an object as plain functions -/
def ou {α : Type} (s : Nat→α) (i : Nat) (v : α) : Nat→α:=fun j => if j = i then v else s j
theorem ou_a {α : Type} (s : Nat→α) (i : Nat) (v : α) (j : Nat) : ou s i v j = if j = i then v else s j:=rfl
def pad (b : Nat) (pre : AHeap) : AHeap:=(pre ++ List.replicate b (FieldType.int,[])).take b
theorem pad_len (b : Nat) (pre : AHeap) : (pad b pre).length = b:=by simp [pad]
theorem pad_eq {b : Nat} {pre : AHeap} (h : pre.length = b) : pad b pre = pre:=by subst h; simp [pad]
theorem pad_0 (pre : AHeap) : pad 0 pre = []:=by simp [pad]
theorem tot_cons (ws : Ws) (o : FieldType × List Value) (r : AHeap) : tot ws (o::r) = cost ws o + tot ws r:=by simp [tot]
theorem tot_append (ws : Ws) (a r : AHeap) : tot ws (a ++ r) = tot ws a + tot ws r:=by simp [tot]
theorem tot_nil (ws : Ws) : tot ws [] = 0:=rfl
theorem pad_get (b : Nat) (pre r : AHeap) (i : Nat) : (pad b pre ++ r)[b + i]? = r[i]?:=by
  rw [List.getElem?_append_right (by rw [pad_len]; omega),pad_len]; congr 1; omega
theorem pad_get0 (b : Nat) (pre r : AHeap) : (pad b pre ++ r)[b]? = r[0]?:=pad_get b pre r 0
theorem pad_set (b : Nat) (pre r : AHeap) (i : Nat) (o : FieldType × List Value) : (pad b pre ++ r).set (b + i) o = pad b pre ++ r.set i o:=by
  rw [List.set_append_right _ _ (by rw [pad_len]; omega),pad_len]; congr 2; omega
theorem pad_set0 (b : Nat) (pre r : AHeap) (o : FieldType × List Value) : (pad b pre ++ r).set b o = pad b pre ++ r.set 0 o:=pad_set b pre r 0 o
theorem rCode_of {ws : Ws} {y : MethodName} {b : ByteArray} {m i : Nat} {r : Option FieldType} (h : ws[i]? = some (.code y b m r)) (h2 : (ws.take i).all (fun d => match d with | .code z _ _ _ => !decide (z = y) | _ => true) = true) : rCode ws y = some (b,m,r):=by
  have e : ws = ws.take i ++ (.code y b m r::ws.drop (i + 1)):=by
    obtain ⟨hi,hg⟩:=List.getElem?_eq_some_iff.mp h
    rw [← hg,← List.drop_eq_getElem_cons hi,List.take_append_drop]
  unfold rCode
  rw [e,List.findSome?_append]
  have e1 : (ws.take i).findSome? (fun d => match d with | .code z b m r => if z = y then some (b,m,r) else none | _ => none) = none:=by
    rw [List.findSome?_eq_none_iff]
    intro d hd
    have q:=List.all_eq_true.mp h2 d hd
    split
    · rename_i z b' m' r'
      simp at q
      simp [q]
    · rfl
  rw [e1]
  simp
theorem cR_of {ws : Ws} {dn : Dn} {y y' : MethodName} {b : ByteArray} {mx i f' l' f l na sl : Nat} {r : Option FieldType} {sig : MethodDescriptor} (h1 : rMth ws y.cls i = some y') (h2 : rCode ws y' = some (b,mx,r)) (h3 : dnOf dn y' = some (f',l')) (h4 : dnOf dn y = some (f,l)) (h5 : parseMethodDescriptor y'.desc = some sig)
    (h6 : decide (hasInit ws y'.cls = true∧Jvm.plainName y'.cls = true∧y'.cls ≠ "java/lang/invoke/MethodHandle" ∧ y'.cls ≠ "java/lang/invoke/VarHandle" ∧ f' + 1≤f∧mx + 11 + l'≤l) = true) (h7 : sig.parameters.length = na) (h8 : l - (mx + 11 + l') = sl) : cR ws dn y i = some (y',b,mx,r,na,sl):=by
  subst h7 h8
  unfold cR
  rw [h1]; dsimp only
  rw [h2,h3,h4,h5]; dsimp only
  rw [if_pos (of_decide_eq_true h6)]
theorem sR_of {ws : Ws} {dn : Dn} {y : MethodName} {i : Nat} {q : MethodName × ByteArray × Nat × Option FieldType × Nat × Nat} (h : cR ws dn y i = some q) (hs : hasStat ws q.1 = true) : sR ws dn y i = some q:=by
  unfold sR; rw [h]; dsimp only; rw [if_pos hs]
theorem nR_of {ws : Ws} {dn : Dn} {y : MethodName} {i : Nat} {q : MethodName × ByteArray × Nat × Option FieldType × Nat × Nat} (h : cR ws dn y i = some q) (h1 : q.1.name = "<init>") (h2 : hasIM ws q.1 = true) (h3 : q.2.2.2.1 = none) : nR ws dn y i = some q:=by
  unfold nR; rw [h]; dsimp only; rw [if_pos ⟨h1,h2,h3⟩]
theorem vR_of {ws : Ws} {dn : Dn} {y : MethodName} {i : Nat} {q : MethodName × ByteArray × Nat × Option FieldType × Nat × Nat} (h : cR ws dn y i = some q) (h1 : hasIM ws q.1 = true) (h2 : decide (hasPriv ws q.1 = true∧(rInst ws q.1.cls).isSome = true) = false) (h3 : decide (hasDecl ws q.1 = true∧hasSel ws q.1 = true) = true) : vR ws dn y i = some (false,q):=by
  unfold vR; rw [h]; dsimp only; rw [if_pos h1,if_neg (of_decide_eq_false h2),if_pos (of_decide_eq_true h3)]
theorem pR_of {ws : Ws} {dn : Dn} {y : MethodName} {i : Nat} {q : MethodName × ByteArray × Nat × Option FieldType × Nat × Nat} (h : cR ws dn y i = some q) (h1 : hasIM ws q.1 = true) (h2 : decide (hasPriv ws q.1 = true∧(rInst ws q.1.cls).isSome = true) = true) : vR ws dn y i = some (true,q):=by
  unfold vR; rw [h]; dsimp only; rw [if_pos h1,if_pos (of_decide_eq_true h2)]
def inB {α : Type} (j : Int32) (l : List α) : Prop:=¬ j < 0∧j.toNatClampNeg < l.length
def getA (l : List Int32) (j : Int32) : Int32:=l.getD j.toNatClampNeg 0
def getL (l : List Int64) (j : Int32) : Int64:=l.getD j.toNatClampNeg 0
def setA {α : Type} (l : List α) (j : Int32) (v : α) : List α:=l.set j.toNatClampNeg v
def c1 : Slot→Bool
  | .unset => true
  | .second => false
  | .val v => v.category == 1
theorem c1_u : c1 .unset = true:=rfl
theorem c1_i (x : Int32) : c1 (.val (.int x)) = true:=rfl
theorem c1_r (a : Nat) : c1 (.val (.ref a)) = true:=rfl
theorem c1_n : c1 (.val .null) = true:=rfl
theorem i_eq (x y : Int32) : if_icmp.holds .eq x y = decide (x = y):=by simp only [if_icmp.holds]; by_cases h : x = y <;> simp [h]
theorem i_ne (x y : Int32) : if_icmp.holds .ne x y = !decide (x = y):=by simp only [if_icmp.holds]; by_cases h : x = y <;> simp [h]
theorem i_lt (x y : Int32) : if_icmp.holds .lt x y = decide (x < y):=rfl
theorem i_gt (x y : Int32) : if_icmp.holds .gt x y = decide (y < x):=rfl
theorem i_ge (x y : Int32) : if_icmp.holds .ge x y = !decide (x < y):=by
  show decide (y≤x) = _
  have e1 : (y≤x) ↔ ¬ (x < y):=by rw [Int32.le_iff_toInt_le,Int32.lt_iff_toInt_lt]; omega
  by_cases h : x < y
  · have : ¬ y≤x:=fun g => e1.mp g h
    simp [h,this]
  · have:=e1.mpr h
    simp [h,this]
theorem i_le (x y : Int32) : if_icmp.holds .le x y = !decide (y < x):=i_ge y x
theorem z_eq (x : Int32) : ifCond.holds .eq x = decide (x = 0):=i_eq x 0
theorem z_ne (x : Int32) : ifCond.holds .ne x = !decide (x = 0):=i_ne x 0
theorem z_lt (x : Int32) : ifCond.holds .lt x = decide (x < 0):=rfl
theorem z_gt (x : Int32) : ifCond.holds .gt x = decide (0 < x):=rfl
theorem z_ge (x : Int32) : ifCond.holds .ge x = !decide (x < 0):=i_ge x 0
theorem z_le (x : Int32) : ifCond.holds .le x = !decide (0 < x):=i_le x 0
theorem nb0 : nar .boolean 0 = 0:=by decide
theorem nb1 : nar .boolean 1 = 1:=by decide
section
variable {ws : Ws} {dn : Dn} {k : Nat} {y : MethodName} {bytes : ByteArray} {ret : Option FieldType} {pc : Nat} {ls : List Slot} {st : List Value} {H : AHeap} {Q : Option Value→AHeap→Prop}
theorem W_stuck (h : act ws dn k y bytes ret pc ls st H = none) : W ws dn k y bytes ret pc ls st H Q = False:=by
  refine propext ⟨fun ⟨n,v,H1,h1,h2⟩ => ?_,False.elim⟩
  cases n with
  | zero => cases h1
  | succ n => rw [run,h] at h1; cases h1
theorem stl_c1 {i : Nat} {o : Slot} {v : Value} (ho : ls[i]? = some o) (hc : c1 o = true) (hv : v.category = 1) : stl ls i v = some (ls.set i (.val v)):=by
  have h:=XS.store1 (l:=ls.toArray) (i:=i) (v:=v) (o:=o) (by simpa using ho) (by
    cases o with
    | unset => exact Or.inl rfl
    | second => cases hc
    | val w => exact Or.inr ⟨w,rfl,by simpa [c1] using hc⟩) hv
  unfold stl
  rw [h]; simp
/-- a store of one word -/
theorem w_st {ins : Instr} {len i : Nat} {o : Slot} {v : Value} {p : Value→Bool} {nx : Nat} {ls' : List Slot} (hd : decode bytes pc = .ok (ins,len)) (hx : xstep ins len pc ls (v::st) = stV p nx i ls (v::st)) (hp : p v = true) (hv : v.category = 1) (ho : ls[i]? = some o) (hs : ls.set i (.val v) = ls') (hc : c1 o = true) :
    W ws dn k y bytes ret pc ls (v::st) H Q = W ws dn k y bytes ret nx ls' st H Q:=by
  subst hs
  exact w_x hd (by rw [hx]; simp only [stV,hp,if_true,stl_c1 ho hc hv,Option.map_some])
theorem w_iinc {i : Nat} {c : Int} {x z : Int32} {ls' : List Slot} (hd : decode bytes pc = .ok (.iinc i c,3)) (ho : ls[i]? = some (.val (.int x))) (hz : Int32.ofInt c = z) (hs : ls.set i (.val (.int (x + z))) = ls') :
    W ws dn k y bytes ret pc ls st H Q = W ws dn k y bytes ret (pc + 3) ls' st H Q:=by
  subst hs hz
  exact w_x hd (by simp only [xstep,chk,if_true,ho,stl_c1 (v:=.int (x + Int32.ofInt c)) ho rfl rfl,Option.map_some])
theorem w_con {ins : Instr} {len nx : Nat} {v v' : Value} (hd : decode bytes pc = .ok (ins,len)) (hx : xstep ins len pc ls st = some (nx,ls,v::st)) (hv : v = v') : W ws dn k y bytes ret pc ls st H Q = W ws dn k y bytes ret nx ls (v'::st) H Q:=by
  subst hv; exact w_x hd hx
theorem w_ifN {cd : ClassFile.Cond} {o : Int} {x : Int32} {t : Nat} {P : Prop} [Decidable P] (hd : decode bytes pc = .ok (.ifCond cd o,3)) (hp : ifCond.holds cd x = !decide P) (hj : jmp pc o = some t) :
    W ws dn k y bytes ret pc ls (.int x::st) H Q = if P then W ws dn k y bytes ret (pc + 3) ls st H Q else W ws dn k y bytes ret t ls st H Q:=by
  split
  · exact w_x hd (by simp only [xstep,chk,br,hp,hj,if_true]; simp [*])
  · exact w_x hd (by simp only [xstep,chk,br,hp,hj,if_true]; simp [*])
theorem w_icmpN {cd : ClassFile.Cond} {o : Int} {x1 x2 : Int32} {t : Nat} {P : Prop} [Decidable P] (hd : decode bytes pc = .ok (.if_icmp cd o,3)) (hp : if_icmp.holds cd x1 x2 = !decide P) (hj : jmp pc o = some t) :
    W ws dn k y bytes ret pc ls (.int x2::.int x1::st) H Q = if P then W ws dn k y bytes ret (pc + 3) ls st H Q else W ws dn k y bytes ret t ls st H Q:=by
  split
  · exact w_x hd (by simp only [xstep,chk,br,hp,hj,if_true]; simp [*])
  · exact w_x hd (by simp only [xstep,chk,br,hp,hj,if_true]; simp [*])
theorem ld_stuck {ins : Instr} {a : Nat} {j : Int32} {ty : FieldType} {vs : List Value} (hd : decode bytes pc = .ok (ins,1)) (hi : ldOk ins ty = true) (ho : H[a]? = some (.array ty,vs)) (hj : ¬ (¬ j < 0∧j.toNatClampNeg < vs.length)) : act ws dn k y bytes ret pc ls (.int j::.ref a::st) H = none:=by
  have hv : j < 0 ∨ vs[j.toNatClampNeg]? = none:=by
    by_cases q : j < 0
    · exact Or.inl q
    · exact Or.inr (List.getElem?_eq_none (Nat.le_of_not_lt fun g => hj ⟨q,g⟩))
  unfold ldOk at hi
  split at hi
  all_goals first
    | (rw [act_c hd rfl (by rcases hv with q | q <;> simp [hstep,chk,hLd,okT,okB,ho,q])]; rfl)
    | cases hi
theorem st_stuck {ins : Instr} {a : Nat} {j : Int32} {ty : FieldType} {vs : List Value} {v : Value} (hd : decode bytes pc = .ok (ins,1)) (hi : stOk ins ty = true) (ho : H[a]? = some (.array ty,vs)) (hj : ¬ (¬ j < 0∧j.toNatClampNeg < vs.length)) : act ws dn k y bytes ret pc ls (v::.int j::.ref a::st) H = none:=by
  have hv : ¬ (¬ j < 0∧j.toNatClampNeg < vs.length):=hj
  unfold stOk at hi
  split at hi
  all_goals first
    | (rw [act_c hd rfl (by simp only [hstep,chk,hSt,okT,okB,ho,if_true]; rw [if_neg (fun q => hv q.2.2)])]; rfl)
    | cases hi
theorem w_ild {ins : Instr} {a : Nat} {j : Int32} {ty : FieldType} {l : List Int32} (hd : decode bytes pc = .ok (ins,1)) (hi : ldOk ins ty = true) (ho : H[a]? = some (.array ty,l.map Value.int)) :
    W ws dn k y bytes ret pc ls (.int j::.ref a::st) H Q = (inB j l∧W ws dn k y bytes ret (pc + 1) ls (.int (getA l j)::st) H Q):=by
  by_cases h : inB j l
  · rw [w_ald hd hi ho h.1 (v:=.int (getA l j)) (by simp [getA,h.2])]
    simp [h]
  · rw [W_stuck (ld_stuck hd hi ho (by simpa [inB] using h))]
    simp [h]
theorem w_lld {a : Nat} {j : Int32} {l : List Int64} (hd : decode bytes pc = .ok (.laload,1)) (ho : H[a]? = some (.array .long,l.map Value.long)) :
    W ws dn k y bytes ret pc ls (.int j::.ref a::st) H Q = (inB j l∧W ws dn k y bytes ret (pc + 1) ls (.long (getL l j)::st) H Q):=by
  by_cases h : inB j l
  · rw [w_ald hd rfl ho h.1 (v:=.long (getL l j)) (by simp [getL,h.2])]
    simp [h]
  · rw [W_stuck (ld_stuck hd rfl ho (by simpa [inB] using h))]
    simp [h]
theorem w_ist {ins : Instr} {a : Nat} {j v v' : Int32} {ty : FieldType} {l : List Int32} {H' : AHeap} (hd : decode bytes pc = .ok (ins,1)) (hi : stOk ins ty = true) (ho : H[a]? = some (.array ty,l.map Value.int)) (hk : k≤a) (hv : putv ty (.int v) = some (.int v')) (hH : H.set a (.array ty,(setA l j v').map Value.int) = H') :
    W ws dn k y bytes ret pc ls (.int v::.int j::.ref a::st) H Q = (inB j l∧W ws dn k y bytes ret (pc + 1) ls st H' Q):=by
  by_cases h : inB j l
  · rw [w_ast (H':=H') hd hi ho hk h.1 (by simpa using h.2) hv (by rw [← hH,setA,List.map_set])]
    simp [h]
  · rw [W_stuck (st_stuck hd hi ho (by simpa [inB] using h))]
    simp [h]
theorem w_lst {a : Nat} {j : Int32} {v : Int64} {l : List Int64} {H' : AHeap} (hd : decode bytes pc = .ok (.lastore,1)) (ho : H[a]? = some (.array .long,l.map Value.long)) (hk : k≤a) (hH : H.set a (.array .long,(setA l j v).map Value.long) = H') :
    W ws dn k y bytes ret pc ls (.long v::.int j::.ref a::st) H Q = (inB j l∧W ws dn k y bytes ret (pc + 1) ls st H' Q):=by
  by_cases h : inB j l
  · rw [w_ast (H':=H') hd rfl ho hk h.1 (by simpa using h.2) rfl (by rw [← hH,setA,List.map_set])]
    simp [h]
  · rw [W_stuck (st_stuck hd rfl ho (by simpa [inB] using h))]
    simp [h]
theorem w_div {ins : Instr} {f : Int32→Int32→Int32} {x z : Int32} (hd : decode bytes pc = .ok (ins,1)) (hx : ∀ st,xstep ins 1 pc ls st = d2 f (pc + 1) ls st) (hh : hstep ws k y ins 1 pc (.int z::.int x::st) H = none) (hc : cstep ws dn y ret ins 1 pc ls (.int z::.int x::st) H = none) :
    W ws dn k y bytes ret pc ls (.int z::.int x::st) H Q = (z ≠ 0∧W ws dn k y bytes ret (pc + 1) ls (.int (f x z)::st) H Q):=by
  by_cases h : z = 0
  · rw [W_stuck (by rw [act_c hd (by rw [hx]; simp [d2,h]) hh,hc])]; simp [h]
  · rw [w_x (pc':=pc + 1) (ls':=ls) (st':=.int (f x z)::st) hd (by rw [hx]; simp only [d2,h,if_false])]; simp [h]
/-- a field's array made in a constructor -/
theorem w_iarr {i j p1 p2 p3 : Nat} {C : String} {vs : List Value} {r : AHeap} {n : Int32} {v : Value} {aty : ArrayType} {ty at' : FieldType} {l0 : Slot} {lr : List Slot} {ins : Instr} {len : Nat} {b : Nat} (hl : l0 = .val (.ref b)) (hH : H.length = b) (hk : k≤b)
    (d0 : decode bytes pc = .ok (.aload_n 0,1)) (e0 : pc + 1 = p1) (dn1 : decode bytes p1 = .ok (ins,len)) (hx : ∀ st,xstep ins len p1 (l0::lr) st = some (p2,l0::lr,v::st)) (hv : v = .int n) (d2' : decode bytes p2 = .ok (.newarray aty,2)) (ht : newarray.typeOf aty = ty) (hr : hasArr ws ty = true) (hn : ¬ n < 0) (hb : n.toNatClampNeg * 8≤536870912) (e3 : p2 + 2 = p3)
    (d3 : decode bytes p3 = .ok (.putfield i,3)) (hp : pfR ws y.cls y.name i = some (C,j,.array at')) (hj : j < vs.length) :
    W ws dn k y bytes ret pc (l0::lr) [] (H ++ (.object C,vs)::r) Q = W ws dn k y bytes ret (p3 + 3) (l0::lr) [] (H ++ (.object C,vs.set j (.ref (b + (r.length + 1))))::(r ++ [(.array ty,List.replicate n.toNatClampNeg (defaultValue ty))])) Q:=by
  subst hl e0 e3 hv hH
  rw [w_x d0 (ls':=.val (.ref H.length)::lr) (st':=[.ref H.length]) (pc':=pc + 1) rfl,w_x dn1 (hx _),w_newA d2' ht hr hn hb]
  have e1 : (H ++ (FieldType.object C,vs)::r).length = H.length + (r.length + 1):=by simp
  rw [e1,w_put d3 hp (vs:=vs) (H':=H ++ (.object C,vs.set j (.ref (H.length + (r.length + 1))))::(r ++ [(.array ty,List.replicate n.toNatClampNeg (defaultValue ty))])) (by simp) hk hj rfl (by simp)]
/-- a field's plain value put at a constructor's head -/
theorem w_iint {i j p1 p2 : Nat} {C : String} {vs : List Value} {r : AHeap} {v v0 v' : Value} {ty : FieldType} {l0 : Slot} {lr : List Slot} {ins : Instr} {len : Nat} {b : Nat} (hl : l0 = .val (.ref b)) (hH : H.length = b) (hk : k≤b)
    (d0 : decode bytes pc = .ok (.aload_n 0,1)) (e0 : pc + 1 = p1) (dn1 : decode bytes p1 = .ok (ins,len)) (hx : ∀ st,xstep ins len p1 (l0::lr) st = some (p2,l0::lr,v0::st)) (hv : v0 = v)
    (d3 : decode bytes p2 = .ok (.putfield i,3)) (hp : pfR ws y.cls y.name i = some (C,j,ty)) (hv' : putv ty v = some v') (hj : j < vs.length) :
    W ws dn k y bytes ret pc (l0::lr) [] (H ++ (.object C,vs)::r) Q = W ws dn k y bytes ret (p2 + 3) (l0::lr) [] (H ++ (.object C,vs.set j v')::r) Q:=by
  subst hl e0 hv hH
  rw [w_x d0 (ls':=.val (.ref H.length)::lr) (st':=[.ref H.length]) (pc':=pc + 1) rfl,w_x dn1 (hx _)]
  rw [w_put d3 hp (vs:=vs) (H':=H ++ (.object C,vs.set j v')::r) (by simp) hk hj hv' (by simp)]
end
end Jvm.Own
namespace Jvm.Own
open Sem ClassFile Op Lib Jvm.Stand Jvm.Free Jvm.LawKit Jvm.RoadKit
theorem getA_rep (n : Nat) (j : Int32) : getA (List.replicate n 0) j = 0:=by
  simp only [getA,List.getD_eq_getElem?_getD,List.getElem?_replicate]
  split <;> rfl
/-- the array's words as plain ints -/
theorem script_of {s : State} {a : Addr} {c : Cell} (hf : Fit s) (A : Arr s s.heap a c .int) (hl : c.slots.size < 2 ^ 31) : ∃ vs : List Int32,c.slots = (vs.map Value.int).toArray:=by
  have h : ∀ v ∈ c.slots.toList,∃ x : Int32,v = .int x:=fun v hv => by
    obtain ⟨i,hi,e⟩:=List.getElem_of_mem hv
    have hi' : i < c.slots.size:=by simpa using hi
    have e1 : (Nat.toInt32 i).toNatClampNeg = i:=by simp only [Int32.toNatClampNeg,len_toInt (Nat.lt_trans hi' hl)]; rfl
    obtain ⟨w,h1,h2⟩:=elem_fit hf A (idx_in hi' hl)
    rw [e1] at h1
    have : w = v:=by rw [Array.getElem?_eq_getElem hi'] at h1; rw [← e]; simpa using (Option.some.inj h1).symm
    subst this
    exact fit_I h2 (by simp)
  have g : ∀ l : List Value,(∀ v ∈ l,∃ x : Int32,v = .int x)→∃ vs : List Int32,l = vs.map Value.int:=fun l => by
    induction l with
    | nil => exact fun _ => ⟨[],rfl⟩
    | cons v r ih =>
      intro q
      obtain ⟨x,rfl⟩:=q _ (List.mem_cons_self ..)
      obtain ⟨vs,e⟩:=ih fun w hw => q w (List.mem_cons_of_mem _ hw)
      exact ⟨x::vs,by rw [e]; rfl⟩
  obtain ⟨vs,e⟩:=g _ h
  exact ⟨vs,by rw [← e]⟩
end Jvm.Own
namespace Jvm.Own
open Sem ClassFile Op Lib Jvm.Stand Jvm.Free Jvm.LawKit Jvm.RoadKit
/-! OWN 8: small facts on arrays and ints -/
theorem toNat_eq (j : Int32) : j.toNatClampNeg = j.toInt.toNat:=rfl
theorem lt_i {x y : Int32} : x < y ↔ x.toInt < y.toInt:=Int32.lt_iff_toInt_lt
theorem inB_iff {α : Type} {j : Int32} {l : List α} : inB j l ↔ 0≤j.toInt∧j.toInt < (l.length : Int):=by
  have e0 : (0 : Int32).toInt = 0:=rfl
  unfold inB
  rw [lt_i,toNat_eq,e0]
  omega
theorem inB_lt {α : Type} {j n : Int32} {l : List α} (hl : (l.length : Int) = n.toInt) (h0 : ¬ j < 0) (h1 : j < n) : inB j l:=by
  have e0 : (0 : Int32).toInt = 0:=rfl
  rw [inB_iff]
  rw [lt_i] at h0 h1
  rw [e0] at h0
  omega
theorem setA_len {α : Type} (l : List α) (j : Int32) (v : α) : (setA l j v).length = l.length:=List.length_set
theorem getA_set {l : List Int32} {i j v : Int32} (h : inB i l) : getA (setA l i v) j = if j.toNatClampNeg = i.toNatClampNeg then v else getA l j:=by
  simp only [getA,setA,List.getD_eq_getElem?_getD,List.getElem?_set]
  by_cases e : j.toNatClampNeg = i.toNatClampNeg
  · rw [e]; simp [h.2]
  · simp [e,Ne.symm e]
theorem getA_set2 (l : List Int32) (i j v : Int32) : getA (setA l i v) j = if j.toNatClampNeg = i.toNatClampNeg∧i.toNatClampNeg < l.length then v else getA l j:=by
  simp only [getA,setA,List.getD_eq_getElem?_getD,List.getElem?_set]
  by_cases e : j.toNatClampNeg = i.toNatClampNeg
  · rw [e]
    by_cases q : i.toNatClampNeg < l.length <;> simp [q]
  · simp [e,Ne.symm e]
theorem len_ou {B A : Nat→List Int32} {j : Nat} {l : List Int32} (h : ∀ i,(A i).length = (B i).length) (hl : l.length = (B j).length) : ∀ i,(ou A j l i).length = (B i).length:=fun i => by
  rw [ou_a]
  split
  · rename_i e; rw [e]; exact hl
  · exact h i
end Jvm.Own
namespace Jvm.Own
open Sem ClassFile Op Lib Jvm.Stand Jvm.Free Jvm.LawKit Jvm.RoadKit
/-! OWN 9: a normal form of states; masks and ranges -/
theorem ou_same {α : Type} (s : Nat→α) (i : Nat) (v w : α) : ou (ou s i v) i w = ou s i w:=by
  funext j
  simp only [ou_a]
  by_cases h : j = i <;> simp [h]
theorem ou_comm {α : Type} {s : Nat→α} {i j : Nat} {v w : α} (h : j < i) : ou (ou s i v) j w = ou (ou s j w) (i + 0) v:=by
  show ou (ou s i v) j w = ou (ou s j w) i v
  funext k
  simp only [ou_a]
  by_cases h1 : k = j
  · have h2 : ¬ k = i:=by omega
    simp [h1]
    intro h3; omega
  · simp [h1]
theorem setA_same {α : Type} (l : List α) (i : Int32) (v w : α) : setA (setA l i v) i w = setA l i w:=by
  simp only [setA,List.set_set]
theorem clamp_ne {i j : Int32} (h0 : ¬ j < 0) (h : j < i) : j.toNatClampNeg ≠ i.toNatClampNeg:=by
  have e0 : (0 : Int32).toInt = 0:=rfl
  rw [lt_i] at *
  rw [toNat_eq,toNat_eq]
  omega
theorem setA_comm {α : Type} {l : List α} {i j : Int32} {v w : α} (h0 : ¬ j < 0) (h : j < i) : setA (setA l i v) j w = setA (setA l j w) (i + 0) v:=by
  rw [Int32.add_zero]
  simp only [setA]
  exact List.set_comm _ _ (Ne.symm (clamp_ne h0 h))
theorem lt_irr (x : Int32) : (x < x) = False:=by
  apply propext
  rw [lt_i]
  constructor
  · intro h; omega
  · exact False.elim
theorem bit1 (x : Int32) : x &&& 1 = 0 ∨ x &&& 1 = 1:=by
  have h : (x &&& 1).toBitVec.toNat = x.toBitVec.toNat % 2:=by
    rw [Int32.toBitVec_and,BitVec.toNat_and]
    exact Nat.and_one_is_mod _
  rcases Nat.mod_two_eq_zero_or_one x.toBitVec.toNat with e | e
  · exact Or.inl (Int32.toBitVec_inj.mp (BitVec.eq_of_toNat_eq (by rw [h,e]; rfl)))
  · exact Or.inr (Int32.toBitVec_inj.mp (BitVec.eq_of_toNat_eq (by rw [h,e]; rfl)))
theorem and_bd (x m : Int32) (hm : m.toBitVec.toNat < 2147483648) : 0≤(x &&& m).toInt∧(x &&& m).toInt≤(m.toBitVec.toNat : Int):=by
  have h : (x &&& m).toBitVec.toNat≤m.toBitVec.toNat:=by
    rw [Int32.toBitVec_and,BitVec.toNat_and]
    exact Nat.and_le_right
  have e : (x &&& m).toInt = ((x &&& m).toBitVec.toNat : Int):=BitVec.toInt_eq_toNat_of_lt (by omega)
  rw [e]
  omega
theorem rng {x : Int32} {n : Nat} (h0 : 0≤x.toInt) (h1 : x.toInt < n) : ∃ k,k < n∧x = Int32.ofNat k:=by
  have e : (x.toInt.toNat : Int) = x.toInt:=Int.toNat_of_nonneg h0
  refine ⟨x.toInt.toNat,by omega,?_⟩
  have e2 : Int32.ofNat x.toInt.toNat = Int32.ofInt (x.toInt.toNat : Int):=rfl
  rw [e2,e,Int32.ofInt_toInt]
theorem getL_rep (n : Nat) (j : Int32) : getL (List.replicate n 0) j = 0:=by
  simp only [getL,List.getD_eq_getElem?_getD,List.getElem?_replicate]
  split <;> rfl
theorem getL_set2 (l : List Int64) (i j : Int32) (v : Int64) : getL (setA l i v) j = if j.toNatClampNeg = i.toNatClampNeg∧i.toNatClampNeg < l.length then v else getL l j:=by
  simp only [getL,setA,List.getD_eq_getElem?_getD,List.getElem?_set]
  by_cases e : j.toNatClampNeg = i.toNatClampNeg
  · rw [e]
    by_cases q : i.toNatClampNeg < l.length <;> simp [q]
  · simp [e,Ne.symm e]
theorem add_i {a b : Int32} (h : -2147483648≤a.toInt + b.toInt) (h' : a.toInt + b.toInt < 2147483648) : (a + b).toInt = a.toInt + b.toInt:=by
  rw [Int32.toInt_add]
  have e : ((2 ^ 32 : Nat) : Int) = 4294967296:=rfl
  exact Int.bmod_eq_of_le (by rw [e]; omega) (by rw [e]; omega)
theorem sub_i {a b : Int32} (h : -2147483648≤a.toInt - b.toInt) (h' : a.toInt - b.toInt < 2147483648) : (a - b).toInt = a.toInt - b.toInt:=by
  rw [Int32.toInt_sub]
  have e : ((2 ^ 32 : Nat) : Int) = 4294967296:=rfl
  exact Int.bmod_eq_of_le (by rw [e]; omega) (by rw [e]; omega)
theorem mul_i {a b : Int32} (h : -2147483648≤a.toInt * b.toInt) (h' : a.toInt * b.toInt < 2147483648) : (a * b).toInt = a.toInt * b.toInt:=by
  rw [Int32.toInt_mul]
  have e : ((2 ^ 32 : Nat) : Int) = 4294967296:=rfl
  exact Int.bmod_eq_of_le (by rw [e]; omega) (by rw [e]; omega)
theorem i_0 : (0 : Int32).toInt = 0:=rfl
theorem i_1 : (1 : Int32).toInt = 1:=rfl
theorem add1_i {a : Int32} (h : a.toInt < 2147483647) : (a + 1).toInt = a.toInt + 1:=by
  have:=Int32.le_toInt a
  exact add_i (by rw [i_1]; omega) (by rw [i_1]; omega)
theorem nn_i {a : Int32} : ¬ a < 0 ↔ 0≤a.toInt:=by rw [lt_i,i_0]; omega
theorem succ_nn {a : Int32} (h0 : ¬ a < 0) (h : a.toInt < 2147483647) : ¬ a + 1 < 0:=by
  rw [nn_i] at *
  rw [add1_i h]
  omega
theorem inB_set {α : Type} {l : List α} {i j : Int32} {v : α} : inB j (setA l i v) = inB j l:=by
  simp only [inB,setA_len]
theorem pad_1 (c : FieldType × List Value) : pad 1 [c] = [c]:=rfl
def okS (l : Slot) : Prop:=l = .unset ∨ ∃ z : Int32,l = .val (.int z)
theorem okS_u : okS .unset:=Or.inl rfl
theorem okS_i (z : Int32) : okS (.val (.int z)):=Or.inr ⟨z,rfl⟩
end Jvm.Own
namespace Jvm.Pilot.@@N@@
open Jvm Jvm.ClassFile Sem Op Lib Jvm.Free Jvm.Stand Jvm.LawKit Jvm.RoadKit Bundle Jvm.Own Jvm.Pilot.@@N@@.Jvm.D
/-- frames and words that each method asks -/
def dn : Dn:=[(⟨"AgentExprDbg", "<init>", "(II)V"⟩,1,12),(⟨"AgentExprDbg", "setReg", "(II)Z"⟩,1,15),(⟨"AgentExprDbg", "inRange", "(III)Z"⟩,0,0),(⟨"AgentExprDbg", "setMem", "(II)Z"⟩,1,15),(⟨"AgentExprDbg", "setInstr", "(IIII)Z"⟩,3,45),(⟨"AgentExprDbg", "validInstr", "(IIII)Z"⟩,2,29),(⟨"AgentExprDbg", "validSecond", "(II)Z"⟩,1,15),(⟨"AgentExprDbg", "addToken", "(II)Z"⟩,1,15),(⟨"AgentExprDbg", "compile", "(I)I"⟩,7,101),(⟨"AgentExprDbg", "compileChecked", "(I)I"⟩,6,88),(⟨"AgentExprDbg", "parseAll", "()Z"⟩,5,72),(⟨"AgentExprDbg", "resetScratch", "()V"⟩,0,0),(⟨"AgentExprDbg", "parseOperand", "(II)Z"⟩,1,14),(⟨"AgentExprDbg", "pushNeed", "(I)Z"⟩,0,0),(⟨"AgentExprDbg", "emit", "(II)Z"⟩,0,0),(⟨"AgentExprDbg", "parseOperator", "(I)Z"⟩,4,59),(⟨"AgentExprDbg", "isBinary", "(I)Z"⟩,0,0),(⟨"AgentExprDbg", "binaryOperator", "(I)Z"⟩,3,44),(⟨"AgentExprDbg", "precedence", "(I)I"⟩,1,13),(⟨"AgentExprDbg", "reduceWhile", "(I)Z"⟩,2,29),(⟨"AgentExprDbg", "pushOp", "(II)Z"⟩,0,0),(⟨"AgentExprDbg", "endOfExpr", "()Z"⟩,3,44),(⟨"AgentExprDbg", "reduceOne", "(II)Z"⟩,1,15),(⟨"AgentExprDbg", "isUnary", "(I)Z"⟩,0,0),(⟨"AgentExprDbg", "combineNeed", "()Z"⟩,0,0),(⟨"AgentExprDbg", "closeExpr", "()Z"⟩,0,0),(⟨"AgentExprDbg", "finishSource", "()Z"⟩,3,44),(⟨"AgentExprDbg", "storeAgent", "(I)V"⟩,1,15),(⟨"AgentExprDbg", "install", "(III)Z"⟩,1,15),(⟨"AgentExprDbg", "slotAt", "(I)I"⟩,0,0),(⟨"AgentExprDbg", "run", "(I)I"⟩,10,155),(⟨"AgentExprDbg", "runLoop", "(I)I"⟩,9,140),(⟨"AgentExprDbg", "oneStep", "()I"⟩,8,125),(⟨"AgentExprDbg", "execute", "(I)V"⟩,1,16),(⟨"AgentExprDbg", "executeData", "(III)V"⟩,0,0),(⟨"AgentExprDbg", "agentHit", "(II)I"⟩,7,110),(⟨"AgentExprDbg", "evalExpr", "(II)I"⟩,5,75),(⟨"AgentExprDbg", "evalStep", "(III)I"⟩,4,59),(⟨"AgentExprDbg", "push", "(I)V"⟩,0,0),(⟨"AgentExprDbg", "binaryStep", "(I)V"⟩,3,43),(⟨"AgentExprDbg", "pop", "()I"⟩,0,0),(⟨"AgentExprDbg", "applyBinary", "(III)I"⟩,2,28),(⟨"AgentExprDbg", "compare", "(III)I"⟩,1,13),(⟨"AgentExprDbg", "boolInt", "(Z)I"⟩,0,0),(⟨"AgentExprDbg", "top", "()I"⟩,0,0),(⟨"AgentExprDbg", "status", "(I)I"⟩,1,13),(⟨"AgentExprDbg", "getReg", "(I)I"⟩,1,15),(⟨"AgentExprDbg", "slotInfo", "(II)I"⟩,1,15),(⟨"AgentExprDbg", "statusMore", "(I)I"⟩,0,0),(⟨"AgentExprDbg", "frame", "(II)I"⟩,1,15),(⟨"AgentExprDbg", "buildFrame", "(II)V"⟩,6,93),(⟨"AgentExprDbg", "divide", "(III)I"⟩,0,0),(⟨"AgentExprDbg", "unaryStep", "(I)V"⟩,2,29),(⟨"AgentExprDbg", "applyUnary", "(II)I"⟩,1,15),(⟨"AgentExprDbg", "storeFrame", "()Z"⟩,1,15),(⟨"AgentExprDbg", "writePending", "(I)V"⟩,0,0),(⟨"AgentExprDbg", "frameValue", "(II)I"⟩,0,0),(⟨"AgentExprDbgL3", "law", "(IIIIII)Z"⟩,11,170)]
/- scalars: 0=pc 1=halted 2=skip 3=stepsDone 4=lastStop 5=agentErr 6=hostErr 7=tokCount 8=sLen 9=sExprs 10=sCurStart 11=sMaxNeed 12=sExpectOperand 13=opTop 14=needTop 15=evSp 16=evErr 17=capacity 18=policy 19=frHead 20=frHeld 21=dropped 22=frameSeq 23=pendAddr 24=pendSlot 25=pendCount 26=pendMask 27=pendSeq; arrays: 0=reg@1 1=mem@2 2=progOp@3 3=progA@4 4=progB@5 5=tokKind@6 6=tokVal@7 7=slotState@8 8=slotAddr@9 9=slotMode@10 10=slotHits@11 11=slotExprs@12 12=slotLen@13 13=codeOp@14 14=codeArg@15 15=exprStart@16 16=exprEnd@17 17=sOp@18 18=sArg@19 19=sStart@20 20=sEnd@21 21=opKind@22 22=opAux@23 23=needStk@24 24=evStk@25 25=frAddr@26 26=frSlot@27 27=frCnt@28 28=frMask@29 29=frSeq@30 30=frVal@31 31=pendVal@32; longs: []; long arrays: [] -/
def objv (b : Nat) (s : Nat→Int32) : List Value:=[.ref (b + 1),.ref (b + 2),.ref (b + 3),.ref (b + 4),.ref (b + 5),.ref (b + 6),.ref (b + 7),.ref (b + 8),.ref (b + 9),.ref (b + 10),.ref (b + 11),.ref (b + 12),.ref (b + 13),.ref (b + 14),.ref (b + 15),.ref (b + 16),.ref (b + 17),.ref (b + 18),.ref (b + 19),.ref (b + 20),.ref (b + 21),.ref (b + 22),.ref (b + 23),.ref (b + 24),.ref (b + 25),.ref (b + 26),.ref (b + 27),.ref (b + 28),.ref (b + 29),.ref (b + 30),.ref (b + 31),.ref (b + 32),.int (s 17),.int (s 18),.int (s 4),.int (s 5),.int (s 6),.int (s 7),.int (s 8),.int (s 9),.int (s 10),.int (s 11),.int (s 12),.int (s 13),.int (s 14),.int (s 3),.int (s 1),.int (s 0),.int (s 2),.int (s 16),.int (s 15),.int (s 20),.int (s 22),.int (s 23),.int (s 24),.int (s 25),.int (s 26),.int (s 27),.int (s 19),.int (s 21)]
def put (b : Nat) (pre : AHeap) (s : Nat→Int32) (A : Nat→List Int32) (post : AHeap) : AHeap:=pad b pre ++ ((.object "AgentExprDbg", objv b s)::(.array .int,(A 0).map Value.int)::(.array .int,(A 1).map Value.int)::(.array .int,(A 2).map Value.int)::(.array .int,(A 3).map Value.int)::(.array .int,(A 4).map Value.int)::(.array .int,(A 5).map Value.int)::(.array .int,(A 6).map Value.int)::(.array .int,(A 7).map Value.int)::(.array .int,(A 8).map Value.int)::(.array .int,(A 9).map Value.int)::(.array .int,(A 10).map Value.int)::(.array .int,(A 11).map Value.int)::(.array .int,(A 12).map Value.int)::(.array .int,(A 13).map Value.int)::(.array .int,(A 14).map Value.int)::(.array .int,(A 15).map Value.int)::(.array .int,(A 16).map Value.int)::(.array .int,(A 17).map Value.int)::(.array .int,(A 18).map Value.int)::(.array .int,(A 19).map Value.int)::(.array .int,(A 20).map Value.int)::(.array .int,(A 21).map Value.int)::(.array .int,(A 22).map Value.int)::(.array .int,(A 23).map Value.int)::(.array .int,(A 24).map Value.int)::(.array .int,(A 25).map Value.int)::(.array .int,(A 26).map Value.int)::(.array .int,(A 27).map Value.int)::(.array .int,(A 28).map Value.int)::(.array .int,(A 29).map Value.int)::(.array .int,(A 30).map Value.int)::(.array .int,(A 31).map Value.int)::post)
theorem put_o {b : Nat} {pre : AHeap} {s : Nat→Int32} {A : Nat→List Int32} {post : AHeap} : (put b pre s A post)[b]? = some (.object "AgentExprDbg", objv b s):=pad_get0 _ _ _
theorem put_a0 {b : Nat} {pre : AHeap} {s : Nat→Int32} {A : Nat→List Int32} {post : AHeap} : (put b pre s A post)[b + 1]? = some (.array .int,(A 0).map Value.int):=pad_get _ _ _ 1
theorem put_w0 {b : Nat} {pre : AHeap} {s : Nat→Int32} {A : Nat→List Int32} {post : AHeap} {l : List Int32} : (put b pre s A post).set (b + 1) (.array .int,l.map Value.int) = put b pre s (ou A 0 l) post:=pad_set _ _ _ 1 _
theorem put_a1 {b : Nat} {pre : AHeap} {s : Nat→Int32} {A : Nat→List Int32} {post : AHeap} : (put b pre s A post)[b + 2]? = some (.array .int,(A 1).map Value.int):=pad_get _ _ _ 2
theorem put_w1 {b : Nat} {pre : AHeap} {s : Nat→Int32} {A : Nat→List Int32} {post : AHeap} {l : List Int32} : (put b pre s A post).set (b + 2) (.array .int,l.map Value.int) = put b pre s (ou A 1 l) post:=pad_set _ _ _ 2 _
theorem put_a2 {b : Nat} {pre : AHeap} {s : Nat→Int32} {A : Nat→List Int32} {post : AHeap} : (put b pre s A post)[b + 3]? = some (.array .int,(A 2).map Value.int):=pad_get _ _ _ 3
theorem put_w2 {b : Nat} {pre : AHeap} {s : Nat→Int32} {A : Nat→List Int32} {post : AHeap} {l : List Int32} : (put b pre s A post).set (b + 3) (.array .int,l.map Value.int) = put b pre s (ou A 2 l) post:=pad_set _ _ _ 3 _
theorem put_a3 {b : Nat} {pre : AHeap} {s : Nat→Int32} {A : Nat→List Int32} {post : AHeap} : (put b pre s A post)[b + 4]? = some (.array .int,(A 3).map Value.int):=pad_get _ _ _ 4
theorem put_w3 {b : Nat} {pre : AHeap} {s : Nat→Int32} {A : Nat→List Int32} {post : AHeap} {l : List Int32} : (put b pre s A post).set (b + 4) (.array .int,l.map Value.int) = put b pre s (ou A 3 l) post:=pad_set _ _ _ 4 _
theorem put_a4 {b : Nat} {pre : AHeap} {s : Nat→Int32} {A : Nat→List Int32} {post : AHeap} : (put b pre s A post)[b + 5]? = some (.array .int,(A 4).map Value.int):=pad_get _ _ _ 5
theorem put_w4 {b : Nat} {pre : AHeap} {s : Nat→Int32} {A : Nat→List Int32} {post : AHeap} {l : List Int32} : (put b pre s A post).set (b + 5) (.array .int,l.map Value.int) = put b pre s (ou A 4 l) post:=pad_set _ _ _ 5 _
theorem put_a5 {b : Nat} {pre : AHeap} {s : Nat→Int32} {A : Nat→List Int32} {post : AHeap} : (put b pre s A post)[b + 6]? = some (.array .int,(A 5).map Value.int):=pad_get _ _ _ 6
theorem put_w5 {b : Nat} {pre : AHeap} {s : Nat→Int32} {A : Nat→List Int32} {post : AHeap} {l : List Int32} : (put b pre s A post).set (b + 6) (.array .int,l.map Value.int) = put b pre s (ou A 5 l) post:=pad_set _ _ _ 6 _
theorem put_a6 {b : Nat} {pre : AHeap} {s : Nat→Int32} {A : Nat→List Int32} {post : AHeap} : (put b pre s A post)[b + 7]? = some (.array .int,(A 6).map Value.int):=pad_get _ _ _ 7
theorem put_w6 {b : Nat} {pre : AHeap} {s : Nat→Int32} {A : Nat→List Int32} {post : AHeap} {l : List Int32} : (put b pre s A post).set (b + 7) (.array .int,l.map Value.int) = put b pre s (ou A 6 l) post:=pad_set _ _ _ 7 _
theorem put_a7 {b : Nat} {pre : AHeap} {s : Nat→Int32} {A : Nat→List Int32} {post : AHeap} : (put b pre s A post)[b + 8]? = some (.array .int,(A 7).map Value.int):=pad_get _ _ _ 8
theorem put_w7 {b : Nat} {pre : AHeap} {s : Nat→Int32} {A : Nat→List Int32} {post : AHeap} {l : List Int32} : (put b pre s A post).set (b + 8) (.array .int,l.map Value.int) = put b pre s (ou A 7 l) post:=pad_set _ _ _ 8 _
theorem put_a8 {b : Nat} {pre : AHeap} {s : Nat→Int32} {A : Nat→List Int32} {post : AHeap} : (put b pre s A post)[b + 9]? = some (.array .int,(A 8).map Value.int):=pad_get _ _ _ 9
theorem put_w8 {b : Nat} {pre : AHeap} {s : Nat→Int32} {A : Nat→List Int32} {post : AHeap} {l : List Int32} : (put b pre s A post).set (b + 9) (.array .int,l.map Value.int) = put b pre s (ou A 8 l) post:=pad_set _ _ _ 9 _
theorem put_a9 {b : Nat} {pre : AHeap} {s : Nat→Int32} {A : Nat→List Int32} {post : AHeap} : (put b pre s A post)[b + 10]? = some (.array .int,(A 9).map Value.int):=pad_get _ _ _ 10
theorem put_w9 {b : Nat} {pre : AHeap} {s : Nat→Int32} {A : Nat→List Int32} {post : AHeap} {l : List Int32} : (put b pre s A post).set (b + 10) (.array .int,l.map Value.int) = put b pre s (ou A 9 l) post:=pad_set _ _ _ 10 _
theorem put_a10 {b : Nat} {pre : AHeap} {s : Nat→Int32} {A : Nat→List Int32} {post : AHeap} : (put b pre s A post)[b + 11]? = some (.array .int,(A 10).map Value.int):=pad_get _ _ _ 11
theorem put_w10 {b : Nat} {pre : AHeap} {s : Nat→Int32} {A : Nat→List Int32} {post : AHeap} {l : List Int32} : (put b pre s A post).set (b + 11) (.array .int,l.map Value.int) = put b pre s (ou A 10 l) post:=pad_set _ _ _ 11 _
theorem put_a11 {b : Nat} {pre : AHeap} {s : Nat→Int32} {A : Nat→List Int32} {post : AHeap} : (put b pre s A post)[b + 12]? = some (.array .int,(A 11).map Value.int):=pad_get _ _ _ 12
theorem put_w11 {b : Nat} {pre : AHeap} {s : Nat→Int32} {A : Nat→List Int32} {post : AHeap} {l : List Int32} : (put b pre s A post).set (b + 12) (.array .int,l.map Value.int) = put b pre s (ou A 11 l) post:=pad_set _ _ _ 12 _
theorem put_a12 {b : Nat} {pre : AHeap} {s : Nat→Int32} {A : Nat→List Int32} {post : AHeap} : (put b pre s A post)[b + 13]? = some (.array .int,(A 12).map Value.int):=pad_get _ _ _ 13
theorem put_w12 {b : Nat} {pre : AHeap} {s : Nat→Int32} {A : Nat→List Int32} {post : AHeap} {l : List Int32} : (put b pre s A post).set (b + 13) (.array .int,l.map Value.int) = put b pre s (ou A 12 l) post:=pad_set _ _ _ 13 _
theorem put_a13 {b : Nat} {pre : AHeap} {s : Nat→Int32} {A : Nat→List Int32} {post : AHeap} : (put b pre s A post)[b + 14]? = some (.array .int,(A 13).map Value.int):=pad_get _ _ _ 14
theorem put_w13 {b : Nat} {pre : AHeap} {s : Nat→Int32} {A : Nat→List Int32} {post : AHeap} {l : List Int32} : (put b pre s A post).set (b + 14) (.array .int,l.map Value.int) = put b pre s (ou A 13 l) post:=pad_set _ _ _ 14 _
theorem put_a14 {b : Nat} {pre : AHeap} {s : Nat→Int32} {A : Nat→List Int32} {post : AHeap} : (put b pre s A post)[b + 15]? = some (.array .int,(A 14).map Value.int):=pad_get _ _ _ 15
theorem put_w14 {b : Nat} {pre : AHeap} {s : Nat→Int32} {A : Nat→List Int32} {post : AHeap} {l : List Int32} : (put b pre s A post).set (b + 15) (.array .int,l.map Value.int) = put b pre s (ou A 14 l) post:=pad_set _ _ _ 15 _
theorem put_a15 {b : Nat} {pre : AHeap} {s : Nat→Int32} {A : Nat→List Int32} {post : AHeap} : (put b pre s A post)[b + 16]? = some (.array .int,(A 15).map Value.int):=pad_get _ _ _ 16
theorem put_w15 {b : Nat} {pre : AHeap} {s : Nat→Int32} {A : Nat→List Int32} {post : AHeap} {l : List Int32} : (put b pre s A post).set (b + 16) (.array .int,l.map Value.int) = put b pre s (ou A 15 l) post:=pad_set _ _ _ 16 _
theorem put_a16 {b : Nat} {pre : AHeap} {s : Nat→Int32} {A : Nat→List Int32} {post : AHeap} : (put b pre s A post)[b + 17]? = some (.array .int,(A 16).map Value.int):=pad_get _ _ _ 17
theorem put_w16 {b : Nat} {pre : AHeap} {s : Nat→Int32} {A : Nat→List Int32} {post : AHeap} {l : List Int32} : (put b pre s A post).set (b + 17) (.array .int,l.map Value.int) = put b pre s (ou A 16 l) post:=pad_set _ _ _ 17 _
theorem put_a17 {b : Nat} {pre : AHeap} {s : Nat→Int32} {A : Nat→List Int32} {post : AHeap} : (put b pre s A post)[b + 18]? = some (.array .int,(A 17).map Value.int):=pad_get _ _ _ 18
theorem put_w17 {b : Nat} {pre : AHeap} {s : Nat→Int32} {A : Nat→List Int32} {post : AHeap} {l : List Int32} : (put b pre s A post).set (b + 18) (.array .int,l.map Value.int) = put b pre s (ou A 17 l) post:=pad_set _ _ _ 18 _
theorem put_a18 {b : Nat} {pre : AHeap} {s : Nat→Int32} {A : Nat→List Int32} {post : AHeap} : (put b pre s A post)[b + 19]? = some (.array .int,(A 18).map Value.int):=pad_get _ _ _ 19
theorem put_w18 {b : Nat} {pre : AHeap} {s : Nat→Int32} {A : Nat→List Int32} {post : AHeap} {l : List Int32} : (put b pre s A post).set (b + 19) (.array .int,l.map Value.int) = put b pre s (ou A 18 l) post:=pad_set _ _ _ 19 _
theorem put_a19 {b : Nat} {pre : AHeap} {s : Nat→Int32} {A : Nat→List Int32} {post : AHeap} : (put b pre s A post)[b + 20]? = some (.array .int,(A 19).map Value.int):=pad_get _ _ _ 20
theorem put_w19 {b : Nat} {pre : AHeap} {s : Nat→Int32} {A : Nat→List Int32} {post : AHeap} {l : List Int32} : (put b pre s A post).set (b + 20) (.array .int,l.map Value.int) = put b pre s (ou A 19 l) post:=pad_set _ _ _ 20 _
theorem put_a20 {b : Nat} {pre : AHeap} {s : Nat→Int32} {A : Nat→List Int32} {post : AHeap} : (put b pre s A post)[b + 21]? = some (.array .int,(A 20).map Value.int):=pad_get _ _ _ 21
theorem put_w20 {b : Nat} {pre : AHeap} {s : Nat→Int32} {A : Nat→List Int32} {post : AHeap} {l : List Int32} : (put b pre s A post).set (b + 21) (.array .int,l.map Value.int) = put b pre s (ou A 20 l) post:=pad_set _ _ _ 21 _
theorem put_a21 {b : Nat} {pre : AHeap} {s : Nat→Int32} {A : Nat→List Int32} {post : AHeap} : (put b pre s A post)[b + 22]? = some (.array .int,(A 21).map Value.int):=pad_get _ _ _ 22
theorem put_w21 {b : Nat} {pre : AHeap} {s : Nat→Int32} {A : Nat→List Int32} {post : AHeap} {l : List Int32} : (put b pre s A post).set (b + 22) (.array .int,l.map Value.int) = put b pre s (ou A 21 l) post:=pad_set _ _ _ 22 _
theorem put_a22 {b : Nat} {pre : AHeap} {s : Nat→Int32} {A : Nat→List Int32} {post : AHeap} : (put b pre s A post)[b + 23]? = some (.array .int,(A 22).map Value.int):=pad_get _ _ _ 23
theorem put_w22 {b : Nat} {pre : AHeap} {s : Nat→Int32} {A : Nat→List Int32} {post : AHeap} {l : List Int32} : (put b pre s A post).set (b + 23) (.array .int,l.map Value.int) = put b pre s (ou A 22 l) post:=pad_set _ _ _ 23 _
theorem put_a23 {b : Nat} {pre : AHeap} {s : Nat→Int32} {A : Nat→List Int32} {post : AHeap} : (put b pre s A post)[b + 24]? = some (.array .int,(A 23).map Value.int):=pad_get _ _ _ 24
theorem put_w23 {b : Nat} {pre : AHeap} {s : Nat→Int32} {A : Nat→List Int32} {post : AHeap} {l : List Int32} : (put b pre s A post).set (b + 24) (.array .int,l.map Value.int) = put b pre s (ou A 23 l) post:=pad_set _ _ _ 24 _
theorem put_a24 {b : Nat} {pre : AHeap} {s : Nat→Int32} {A : Nat→List Int32} {post : AHeap} : (put b pre s A post)[b + 25]? = some (.array .int,(A 24).map Value.int):=pad_get _ _ _ 25
theorem put_w24 {b : Nat} {pre : AHeap} {s : Nat→Int32} {A : Nat→List Int32} {post : AHeap} {l : List Int32} : (put b pre s A post).set (b + 25) (.array .int,l.map Value.int) = put b pre s (ou A 24 l) post:=pad_set _ _ _ 25 _
theorem put_a25 {b : Nat} {pre : AHeap} {s : Nat→Int32} {A : Nat→List Int32} {post : AHeap} : (put b pre s A post)[b + 26]? = some (.array .int,(A 25).map Value.int):=pad_get _ _ _ 26
theorem put_w25 {b : Nat} {pre : AHeap} {s : Nat→Int32} {A : Nat→List Int32} {post : AHeap} {l : List Int32} : (put b pre s A post).set (b + 26) (.array .int,l.map Value.int) = put b pre s (ou A 25 l) post:=pad_set _ _ _ 26 _
theorem put_a26 {b : Nat} {pre : AHeap} {s : Nat→Int32} {A : Nat→List Int32} {post : AHeap} : (put b pre s A post)[b + 27]? = some (.array .int,(A 26).map Value.int):=pad_get _ _ _ 27
theorem put_w26 {b : Nat} {pre : AHeap} {s : Nat→Int32} {A : Nat→List Int32} {post : AHeap} {l : List Int32} : (put b pre s A post).set (b + 27) (.array .int,l.map Value.int) = put b pre s (ou A 26 l) post:=pad_set _ _ _ 27 _
theorem put_a27 {b : Nat} {pre : AHeap} {s : Nat→Int32} {A : Nat→List Int32} {post : AHeap} : (put b pre s A post)[b + 28]? = some (.array .int,(A 27).map Value.int):=pad_get _ _ _ 28
theorem put_w27 {b : Nat} {pre : AHeap} {s : Nat→Int32} {A : Nat→List Int32} {post : AHeap} {l : List Int32} : (put b pre s A post).set (b + 28) (.array .int,l.map Value.int) = put b pre s (ou A 27 l) post:=pad_set _ _ _ 28 _
theorem put_a28 {b : Nat} {pre : AHeap} {s : Nat→Int32} {A : Nat→List Int32} {post : AHeap} : (put b pre s A post)[b + 29]? = some (.array .int,(A 28).map Value.int):=pad_get _ _ _ 29
theorem put_w28 {b : Nat} {pre : AHeap} {s : Nat→Int32} {A : Nat→List Int32} {post : AHeap} {l : List Int32} : (put b pre s A post).set (b + 29) (.array .int,l.map Value.int) = put b pre s (ou A 28 l) post:=pad_set _ _ _ 29 _
theorem put_a29 {b : Nat} {pre : AHeap} {s : Nat→Int32} {A : Nat→List Int32} {post : AHeap} : (put b pre s A post)[b + 30]? = some (.array .int,(A 29).map Value.int):=pad_get _ _ _ 30
theorem put_w29 {b : Nat} {pre : AHeap} {s : Nat→Int32} {A : Nat→List Int32} {post : AHeap} {l : List Int32} : (put b pre s A post).set (b + 30) (.array .int,l.map Value.int) = put b pre s (ou A 29 l) post:=pad_set _ _ _ 30 _
theorem put_a30 {b : Nat} {pre : AHeap} {s : Nat→Int32} {A : Nat→List Int32} {post : AHeap} : (put b pre s A post)[b + 31]? = some (.array .int,(A 30).map Value.int):=pad_get _ _ _ 31
theorem put_w30 {b : Nat} {pre : AHeap} {s : Nat→Int32} {A : Nat→List Int32} {post : AHeap} {l : List Int32} : (put b pre s A post).set (b + 31) (.array .int,l.map Value.int) = put b pre s (ou A 30 l) post:=pad_set _ _ _ 31 _
theorem put_a31 {b : Nat} {pre : AHeap} {s : Nat→Int32} {A : Nat→List Int32} {post : AHeap} : (put b pre s A post)[b + 32]? = some (.array .int,(A 31).map Value.int):=pad_get _ _ _ 32
theorem put_w31 {b : Nat} {pre : AHeap} {s : Nat→Int32} {A : Nat→List Int32} {post : AHeap} {l : List Int32} : (put b pre s A post).set (b + 32) (.array .int,l.map Value.int) = put b pre s (ou A 31 l) post:=pad_set _ _ _ 32 _
theorem put_s17 {b : Nat} {pre : AHeap} {s : Nat→Int32} {A : Nat→List Int32} {post : AHeap} {v : Int32} : (put b pre s A post).set b (.object "AgentExprDbg", (objv b s).set 32 (.int v)) = put b pre (ou s 17 v) A post:=pad_set0 _ _ _ _
theorem put_s18 {b : Nat} {pre : AHeap} {s : Nat→Int32} {A : Nat→List Int32} {post : AHeap} {v : Int32} : (put b pre s A post).set b (.object "AgentExprDbg", (objv b s).set 33 (.int v)) = put b pre (ou s 18 v) A post:=pad_set0 _ _ _ _
theorem put_s4 {b : Nat} {pre : AHeap} {s : Nat→Int32} {A : Nat→List Int32} {post : AHeap} {v : Int32} : (put b pre s A post).set b (.object "AgentExprDbg", (objv b s).set 34 (.int v)) = put b pre (ou s 4 v) A post:=pad_set0 _ _ _ _
theorem put_s5 {b : Nat} {pre : AHeap} {s : Nat→Int32} {A : Nat→List Int32} {post : AHeap} {v : Int32} : (put b pre s A post).set b (.object "AgentExprDbg", (objv b s).set 35 (.int v)) = put b pre (ou s 5 v) A post:=pad_set0 _ _ _ _
theorem put_s6 {b : Nat} {pre : AHeap} {s : Nat→Int32} {A : Nat→List Int32} {post : AHeap} {v : Int32} : (put b pre s A post).set b (.object "AgentExprDbg", (objv b s).set 36 (.int v)) = put b pre (ou s 6 v) A post:=pad_set0 _ _ _ _
theorem put_s7 {b : Nat} {pre : AHeap} {s : Nat→Int32} {A : Nat→List Int32} {post : AHeap} {v : Int32} : (put b pre s A post).set b (.object "AgentExprDbg", (objv b s).set 37 (.int v)) = put b pre (ou s 7 v) A post:=pad_set0 _ _ _ _
theorem put_s8 {b : Nat} {pre : AHeap} {s : Nat→Int32} {A : Nat→List Int32} {post : AHeap} {v : Int32} : (put b pre s A post).set b (.object "AgentExprDbg", (objv b s).set 38 (.int v)) = put b pre (ou s 8 v) A post:=pad_set0 _ _ _ _
theorem put_s9 {b : Nat} {pre : AHeap} {s : Nat→Int32} {A : Nat→List Int32} {post : AHeap} {v : Int32} : (put b pre s A post).set b (.object "AgentExprDbg", (objv b s).set 39 (.int v)) = put b pre (ou s 9 v) A post:=pad_set0 _ _ _ _
theorem put_s10 {b : Nat} {pre : AHeap} {s : Nat→Int32} {A : Nat→List Int32} {post : AHeap} {v : Int32} : (put b pre s A post).set b (.object "AgentExprDbg", (objv b s).set 40 (.int v)) = put b pre (ou s 10 v) A post:=pad_set0 _ _ _ _
theorem put_s11 {b : Nat} {pre : AHeap} {s : Nat→Int32} {A : Nat→List Int32} {post : AHeap} {v : Int32} : (put b pre s A post).set b (.object "AgentExprDbg", (objv b s).set 41 (.int v)) = put b pre (ou s 11 v) A post:=pad_set0 _ _ _ _
theorem put_s12 {b : Nat} {pre : AHeap} {s : Nat→Int32} {A : Nat→List Int32} {post : AHeap} {v : Int32} : (put b pre s A post).set b (.object "AgentExprDbg", (objv b s).set 42 (.int v)) = put b pre (ou s 12 v) A post:=pad_set0 _ _ _ _
theorem put_s13 {b : Nat} {pre : AHeap} {s : Nat→Int32} {A : Nat→List Int32} {post : AHeap} {v : Int32} : (put b pre s A post).set b (.object "AgentExprDbg", (objv b s).set 43 (.int v)) = put b pre (ou s 13 v) A post:=pad_set0 _ _ _ _
theorem put_s14 {b : Nat} {pre : AHeap} {s : Nat→Int32} {A : Nat→List Int32} {post : AHeap} {v : Int32} : (put b pre s A post).set b (.object "AgentExprDbg", (objv b s).set 44 (.int v)) = put b pre (ou s 14 v) A post:=pad_set0 _ _ _ _
theorem put_s3 {b : Nat} {pre : AHeap} {s : Nat→Int32} {A : Nat→List Int32} {post : AHeap} {v : Int32} : (put b pre s A post).set b (.object "AgentExprDbg", (objv b s).set 45 (.int v)) = put b pre (ou s 3 v) A post:=pad_set0 _ _ _ _
theorem put_s1 {b : Nat} {pre : AHeap} {s : Nat→Int32} {A : Nat→List Int32} {post : AHeap} {v : Int32} : (put b pre s A post).set b (.object "AgentExprDbg", (objv b s).set 46 (.int v)) = put b pre (ou s 1 v) A post:=pad_set0 _ _ _ _
theorem put_s0 {b : Nat} {pre : AHeap} {s : Nat→Int32} {A : Nat→List Int32} {post : AHeap} {v : Int32} : (put b pre s A post).set b (.object "AgentExprDbg", (objv b s).set 47 (.int v)) = put b pre (ou s 0 v) A post:=pad_set0 _ _ _ _
theorem put_s2 {b : Nat} {pre : AHeap} {s : Nat→Int32} {A : Nat→List Int32} {post : AHeap} {v : Int32} : (put b pre s A post).set b (.object "AgentExprDbg", (objv b s).set 48 (.int v)) = put b pre (ou s 2 v) A post:=pad_set0 _ _ _ _
theorem put_s16 {b : Nat} {pre : AHeap} {s : Nat→Int32} {A : Nat→List Int32} {post : AHeap} {v : Int32} : (put b pre s A post).set b (.object "AgentExprDbg", (objv b s).set 49 (.int v)) = put b pre (ou s 16 v) A post:=pad_set0 _ _ _ _
theorem put_s15 {b : Nat} {pre : AHeap} {s : Nat→Int32} {A : Nat→List Int32} {post : AHeap} {v : Int32} : (put b pre s A post).set b (.object "AgentExprDbg", (objv b s).set 50 (.int v)) = put b pre (ou s 15 v) A post:=pad_set0 _ _ _ _
theorem put_s20 {b : Nat} {pre : AHeap} {s : Nat→Int32} {A : Nat→List Int32} {post : AHeap} {v : Int32} : (put b pre s A post).set b (.object "AgentExprDbg", (objv b s).set 51 (.int v)) = put b pre (ou s 20 v) A post:=pad_set0 _ _ _ _
theorem put_s22 {b : Nat} {pre : AHeap} {s : Nat→Int32} {A : Nat→List Int32} {post : AHeap} {v : Int32} : (put b pre s A post).set b (.object "AgentExprDbg", (objv b s).set 52 (.int v)) = put b pre (ou s 22 v) A post:=pad_set0 _ _ _ _
theorem put_s23 {b : Nat} {pre : AHeap} {s : Nat→Int32} {A : Nat→List Int32} {post : AHeap} {v : Int32} : (put b pre s A post).set b (.object "AgentExprDbg", (objv b s).set 53 (.int v)) = put b pre (ou s 23 v) A post:=pad_set0 _ _ _ _
theorem put_s24 {b : Nat} {pre : AHeap} {s : Nat→Int32} {A : Nat→List Int32} {post : AHeap} {v : Int32} : (put b pre s A post).set b (.object "AgentExprDbg", (objv b s).set 54 (.int v)) = put b pre (ou s 24 v) A post:=pad_set0 _ _ _ _
theorem put_s25 {b : Nat} {pre : AHeap} {s : Nat→Int32} {A : Nat→List Int32} {post : AHeap} {v : Int32} : (put b pre s A post).set b (.object "AgentExprDbg", (objv b s).set 55 (.int v)) = put b pre (ou s 25 v) A post:=pad_set0 _ _ _ _
theorem put_s26 {b : Nat} {pre : AHeap} {s : Nat→Int32} {A : Nat→List Int32} {post : AHeap} {v : Int32} : (put b pre s A post).set b (.object "AgentExprDbg", (objv b s).set 56 (.int v)) = put b pre (ou s 26 v) A post:=pad_set0 _ _ _ _
theorem put_s27 {b : Nat} {pre : AHeap} {s : Nat→Int32} {A : Nat→List Int32} {post : AHeap} {v : Int32} : (put b pre s A post).set b (.object "AgentExprDbg", (objv b s).set 57 (.int v)) = put b pre (ou s 27 v) A post:=pad_set0 _ _ _ _
theorem put_s19 {b : Nat} {pre : AHeap} {s : Nat→Int32} {A : Nat→List Int32} {post : AHeap} {v : Int32} : (put b pre s A post).set b (.object "AgentExprDbg", (objv b s).set 58 (.int v)) = put b pre (ou s 19 v) A post:=pad_set0 _ _ _ _
theorem put_s21 {b : Nat} {pre : AHeap} {s : Nat→Int32} {A : Nat→List Int32} {post : AHeap} {v : Int32} : (put b pre s A post).set b (.object "AgentExprDbg", (objv b s).set 59 (.int v)) = put b pre (ou s 21 v) A post:=pad_set0 _ _ _ _
theorem put_len {b : Nat} {pre : AHeap} {s : Nat→Int32} {A : Nat→List Int32} {post : AHeap} : (put b pre s A post).length = b + 33 + post.length:=by rw [put,List.length_append,pad_len]; simp only [List.length_cons]; omega
theorem inst0 : rInst tables_1 "AgentExprDbg" = some 60:=by decide +kernel
theorem put_tot {b : Nat} {pre : AHeap} {s : Nat→Int32} {A : Nat→List Int32} {post : AHeap} : tot tables_1 (put b pre s A post) = tot tables_1 (pad b pre) + (60 + ((A 0).length + ((A 1).length + ((A 2).length + ((A 3).length + ((A 4).length + ((A 5).length + ((A 6).length + ((A 7).length + ((A 8).length + ((A 9).length + ((A 10).length + ((A 11).length + ((A 12).length + ((A 13).length + ((A 14).length + ((A 15).length + ((A 16).length + ((A 17).length + ((A 18).length + ((A 19).length + ((A 20).length + ((A 21).length + ((A 22).length + ((A 23).length + ((A 24).length + ((A 25).length + ((A 26).length + ((A 27).length + ((A 28).length + ((A 29).length + ((A 30).length + ((A 31).length + tot tables_1 post))))))))))))))))))))))))))))))))):=by rw [put,tot_append]; simp only [tot_cons,cost,List.length_map,inst0,Option.getD_some]
def D0 : List Value:=[.null,.null,.null,.null,.null,.null,.null,.null,.null,.null,.null,.null,.null,.null,.null,.null,.null,.null,.null,.null,.null,.null,.null,.null,.null,.null,.null,.null,.null,.null,.null,.null,.int 0,.int 0,.int 0,.int 0,.int 0,.int 0,.int 0,.int 0,.int 0,.int 0,.int 0,.int 0,.int 0,.int 0,.int 0,.int 0,.int 0,.int 0,.int 0,.int 0,.int 0,.int 0,.int 0,.int 0,.int 0,.int 0,.int 0,.int 0]
theorem lay0 : (olay tables_1 "AgentExprDbg").map dflt = D0:=by decide +kernel
abbrev y0 : MethodName:=⟨"AgentExprDbg", "<init>", "(II)V"⟩
abbrev kb0 : ByteArray:=prog_1_method_1_code
def M0 (pc : Nat) (ls : List Slot) (st : List Value) (H : AHeap) (Q : Option Value→AHeap→Prop) : Prop:=W tables_1 dn 0 y0 prog_1_method_1_code none pc ls st H Q
abbrev y1 : MethodName:=⟨"AgentExprDbg", "setReg", "(II)Z"⟩
abbrev kb1 : ByteArray:=prog_1_method_5_code
def M1 (pc : Nat) (ls : List Slot) (st : List Value) (H : AHeap) (Q : Option Value→AHeap→Prop) : Prop:=W tables_1 dn 0 y1 prog_1_method_5_code (some .boolean) pc ls st H Q
abbrev y2 : MethodName:=⟨"AgentExprDbg", "inRange", "(III)Z"⟩
abbrev kb2 : ByteArray:=prog_1_method_64_code
def M2 (pc : Nat) (ls : List Slot) (st : List Value) (H : AHeap) (Q : Option Value→AHeap→Prop) : Prop:=W tables_1 dn 0 y2 prog_1_method_64_code (some .boolean) pc ls st H Q
abbrev y3 : MethodName:=⟨"AgentExprDbg", "setMem", "(II)Z"⟩
abbrev kb3 : ByteArray:=prog_1_method_6_code
def M3 (pc : Nat) (ls : List Slot) (st : List Value) (H : AHeap) (Q : Option Value→AHeap→Prop) : Prop:=W tables_1 dn 0 y3 prog_1_method_6_code (some .boolean) pc ls st H Q
abbrev y4 : MethodName:=⟨"AgentExprDbg", "setInstr", "(IIII)Z"⟩
abbrev kb4 : ByteArray:=prog_1_method_2_code
def M4 (pc : Nat) (ls : List Slot) (st : List Value) (H : AHeap) (Q : Option Value→AHeap→Prop) : Prop:=W tables_1 dn 0 y4 prog_1_method_2_code (some .boolean) pc ls st H Q
abbrev y5 : MethodName:=⟨"AgentExprDbg", "validInstr", "(IIII)Z"⟩
abbrev kb5 : ByteArray:=prog_1_method_3_code
def M5 (pc : Nat) (ls : List Slot) (st : List Value) (H : AHeap) (Q : Option Value→AHeap→Prop) : Prop:=W tables_1 dn 0 y5 prog_1_method_3_code (some .boolean) pc ls st H Q
abbrev y6 : MethodName:=⟨"AgentExprDbg", "validSecond", "(II)Z"⟩
abbrev kb6 : ByteArray:=prog_1_method_4_code
def M6 (pc : Nat) (ls : List Slot) (st : List Value) (H : AHeap) (Q : Option Value→AHeap→Prop) : Prop:=W tables_1 dn 0 y6 prog_1_method_4_code (some .boolean) pc ls st H Q
abbrev y7 : MethodName:=⟨"AgentExprDbg", "addToken", "(II)Z"⟩
abbrev kb7 : ByteArray:=prog_1_method_9_code
def M7 (pc : Nat) (ls : List Slot) (st : List Value) (H : AHeap) (Q : Option Value→AHeap→Prop) : Prop:=W tables_1 dn 0 y7 prog_1_method_9_code (some .boolean) pc ls st H Q
abbrev y8 : MethodName:=⟨"AgentExprDbg", "compile", "(I)I"⟩
abbrev kb8 : ByteArray:=prog_1_method_10_code
def M8 (pc : Nat) (ls : List Slot) (st : List Value) (H : AHeap) (Q : Option Value→AHeap→Prop) : Prop:=W tables_1 dn 0 y8 prog_1_method_10_code (some .int) pc ls st H Q
abbrev y9 : MethodName:=⟨"AgentExprDbg", "compileChecked", "(I)I"⟩
abbrev kb9 : ByteArray:=prog_1_method_11_code
def M9 (pc : Nat) (ls : List Slot) (st : List Value) (H : AHeap) (Q : Option Value→AHeap→Prop) : Prop:=W tables_1 dn 0 y9 prog_1_method_11_code (some .int) pc ls st H Q
abbrev y10 : MethodName:=⟨"AgentExprDbg", "parseAll", "()Z"⟩
abbrev kb10 : ByteArray:=prog_1_method_12_code
def M10 (pc : Nat) (ls : List Slot) (st : List Value) (H : AHeap) (Q : Option Value→AHeap→Prop) : Prop:=W tables_1 dn 0 y10 prog_1_method_12_code (some .boolean) pc ls st H Q
abbrev y11 : MethodName:=⟨"AgentExprDbg", "resetScratch", "()V"⟩
abbrev kb11 : ByteArray:=prog_1_method_13_code
def M11 (pc : Nat) (ls : List Slot) (st : List Value) (H : AHeap) (Q : Option Value→AHeap→Prop) : Prop:=W tables_1 dn 0 y11 prog_1_method_13_code none pc ls st H Q
abbrev y12 : MethodName:=⟨"AgentExprDbg", "parseOperand", "(II)Z"⟩
abbrev kb12 : ByteArray:=prog_1_method_14_code
def M12 (pc : Nat) (ls : List Slot) (st : List Value) (H : AHeap) (Q : Option Value→AHeap→Prop) : Prop:=W tables_1 dn 0 y12 prog_1_method_14_code (some .boolean) pc ls st H Q
abbrev y13 : MethodName:=⟨"AgentExprDbg", "pushNeed", "(I)Z"⟩
abbrev kb13 : ByteArray:=prog_1_method_24_code
def M13 (pc : Nat) (ls : List Slot) (st : List Value) (H : AHeap) (Q : Option Value→AHeap→Prop) : Prop:=W tables_1 dn 0 y13 prog_1_method_24_code (some .boolean) pc ls st H Q
abbrev y14 : MethodName:=⟨"AgentExprDbg", "emit", "(II)Z"⟩
abbrev kb14 : ByteArray:=prog_1_method_26_code
def M14 (pc : Nat) (ls : List Slot) (st : List Value) (H : AHeap) (Q : Option Value→AHeap→Prop) : Prop:=W tables_1 dn 0 y14 prog_1_method_26_code (some .boolean) pc ls st H Q
abbrev y15 : MethodName:=⟨"AgentExprDbg", "parseOperator", "(I)Z"⟩
abbrev kb15 : ByteArray:=prog_1_method_15_code
def M15 (pc : Nat) (ls : List Slot) (st : List Value) (H : AHeap) (Q : Option Value→AHeap→Prop) : Prop:=W tables_1 dn 0 y15 prog_1_method_15_code (some .boolean) pc ls st H Q
abbrev y16 : MethodName:=⟨"AgentExprDbg", "isBinary", "(I)Z"⟩
abbrev kb16 : ByteArray:=prog_1_method_29_code
def M16 (pc : Nat) (ls : List Slot) (st : List Value) (H : AHeap) (Q : Option Value→AHeap→Prop) : Prop:=W tables_1 dn 0 y16 prog_1_method_29_code (some .boolean) pc ls st H Q
abbrev y17 : MethodName:=⟨"AgentExprDbg", "binaryOperator", "(I)Z"⟩
abbrev kb17 : ByteArray:=prog_1_method_16_code
def M17 (pc : Nat) (ls : List Slot) (st : List Value) (H : AHeap) (Q : Option Value→AHeap→Prop) : Prop:=W tables_1 dn 0 y17 prog_1_method_16_code (some .boolean) pc ls st H Q
abbrev y18 : MethodName:=⟨"AgentExprDbg", "precedence", "(I)I"⟩
abbrev kb18 : ByteArray:=prog_1_method_27_code
def M18 (pc : Nat) (ls : List Slot) (st : List Value) (H : AHeap) (Q : Option Value→AHeap→Prop) : Prop:=W tables_1 dn 0 y18 prog_1_method_27_code (some .int) pc ls st H Q
abbrev y19 : MethodName:=⟨"AgentExprDbg", "reduceWhile", "(I)Z"⟩
abbrev kb19 : ByteArray:=prog_1_method_17_code
def M19 (pc : Nat) (ls : List Slot) (st : List Value) (H : AHeap) (Q : Option Value→AHeap→Prop) : Prop:=W tables_1 dn 0 y19 prog_1_method_17_code (some .boolean) pc ls st H Q
abbrev y20 : MethodName:=⟨"AgentExprDbg", "pushOp", "(II)Z"⟩
abbrev kb20 : ByteArray:=prog_1_method_25_code
def M20 (pc : Nat) (ls : List Slot) (st : List Value) (H : AHeap) (Q : Option Value→AHeap→Prop) : Prop:=W tables_1 dn 0 y20 prog_1_method_25_code (some .boolean) pc ls st H Q
abbrev y21 : MethodName:=⟨"AgentExprDbg", "endOfExpr", "()Z"⟩
abbrev kb21 : ByteArray:=prog_1_method_20_code
def M21 (pc : Nat) (ls : List Slot) (st : List Value) (H : AHeap) (Q : Option Value→AHeap→Prop) : Prop:=W tables_1 dn 0 y21 prog_1_method_20_code (some .boolean) pc ls st H Q
abbrev y22 : MethodName:=⟨"AgentExprDbg", "reduceOne", "(II)Z"⟩
abbrev kb22 : ByteArray:=prog_1_method_18_code
def M22 (pc : Nat) (ls : List Slot) (st : List Value) (H : AHeap) (Q : Option Value→AHeap→Prop) : Prop:=W tables_1 dn 0 y22 prog_1_method_18_code (some .boolean) pc ls st H Q
abbrev y23 : MethodName:=⟨"AgentExprDbg", "isUnary", "(I)Z"⟩
abbrev kb23 : ByteArray:=prog_1_method_28_code
def M23 (pc : Nat) (ls : List Slot) (st : List Value) (H : AHeap) (Q : Option Value→AHeap→Prop) : Prop:=W tables_1 dn 0 y23 prog_1_method_28_code (some .boolean) pc ls st H Q
abbrev y24 : MethodName:=⟨"AgentExprDbg", "combineNeed", "()Z"⟩
abbrev kb24 : ByteArray:=prog_1_method_23_code
def M24 (pc : Nat) (ls : List Slot) (st : List Value) (H : AHeap) (Q : Option Value→AHeap→Prop) : Prop:=W tables_1 dn 0 y24 prog_1_method_23_code (some .boolean) pc ls st H Q
abbrev y25 : MethodName:=⟨"AgentExprDbg", "closeExpr", "()Z"⟩
abbrev kb25 : ByteArray:=prog_1_method_21_code
def M25 (pc : Nat) (ls : List Slot) (st : List Value) (H : AHeap) (Q : Option Value→AHeap→Prop) : Prop:=W tables_1 dn 0 y25 prog_1_method_21_code (some .boolean) pc ls st H Q
abbrev y26 : MethodName:=⟨"AgentExprDbg", "finishSource", "()Z"⟩
abbrev kb26 : ByteArray:=prog_1_method_22_code
def M26 (pc : Nat) (ls : List Slot) (st : List Value) (H : AHeap) (Q : Option Value→AHeap→Prop) : Prop:=W tables_1 dn 0 y26 prog_1_method_22_code (some .boolean) pc ls st H Q
abbrev y27 : MethodName:=⟨"AgentExprDbg", "storeAgent", "(I)V"⟩
abbrev kb27 : ByteArray:=prog_1_method_30_code
def M27 (pc : Nat) (ls : List Slot) (st : List Value) (H : AHeap) (Q : Option Value→AHeap→Prop) : Prop:=W tables_1 dn 0 y27 prog_1_method_30_code none pc ls st H Q
abbrev y28 : MethodName:=⟨"AgentExprDbg", "install", "(III)Z"⟩
abbrev kb28 : ByteArray:=prog_1_method_31_code
def M28 (pc : Nat) (ls : List Slot) (st : List Value) (H : AHeap) (Q : Option Value→AHeap→Prop) : Prop:=W tables_1 dn 0 y28 prog_1_method_31_code (some .boolean) pc ls st H Q
abbrev y29 : MethodName:=⟨"AgentExprDbg", "slotAt", "(I)I"⟩
abbrev kb29 : ByteArray:=prog_1_method_33_code
def M29 (pc : Nat) (ls : List Slot) (st : List Value) (H : AHeap) (Q : Option Value→AHeap→Prop) : Prop:=W tables_1 dn 0 y29 prog_1_method_33_code (some .int) pc ls st H Q
abbrev y30 : MethodName:=⟨"AgentExprDbg", "run", "(I)I"⟩
abbrev kb30 : ByteArray:=prog_1_method_34_code
def M30 (pc : Nat) (ls : List Slot) (st : List Value) (H : AHeap) (Q : Option Value→AHeap→Prop) : Prop:=W tables_1 dn 0 y30 prog_1_method_34_code (some .int) pc ls st H Q
abbrev y31 : MethodName:=⟨"AgentExprDbg", "runLoop", "(I)I"⟩
abbrev kb31 : ByteArray:=prog_1_method_35_code
def M31 (pc : Nat) (ls : List Slot) (st : List Value) (H : AHeap) (Q : Option Value→AHeap→Prop) : Prop:=W tables_1 dn 0 y31 prog_1_method_35_code (some .int) pc ls st H Q
abbrev y32 : MethodName:=⟨"AgentExprDbg", "oneStep", "()I"⟩
abbrev kb32 : ByteArray:=prog_1_method_36_code
def M32 (pc : Nat) (ls : List Slot) (st : List Value) (H : AHeap) (Q : Option Value→AHeap→Prop) : Prop:=W tables_1 dn 0 y32 prog_1_method_36_code (some .int) pc ls st H Q
abbrev y33 : MethodName:=⟨"AgentExprDbg", "execute", "(I)V"⟩
abbrev kb33 : ByteArray:=prog_1_method_37_code
def M33 (pc : Nat) (ls : List Slot) (st : List Value) (H : AHeap) (Q : Option Value→AHeap→Prop) : Prop:=W tables_1 dn 0 y33 prog_1_method_37_code none pc ls st H Q
abbrev y34 : MethodName:=⟨"AgentExprDbg", "executeData", "(III)V"⟩
abbrev kb34 : ByteArray:=prog_1_method_38_code
def M34 (pc : Nat) (ls : List Slot) (st : List Value) (H : AHeap) (Q : Option Value→AHeap→Prop) : Prop:=W tables_1 dn 0 y34 prog_1_method_38_code none pc ls st H Q
abbrev y35 : MethodName:=⟨"AgentExprDbg", "agentHit", "(II)I"⟩
abbrev kb35 : ByteArray:=prog_1_method_39_code
def M35 (pc : Nat) (ls : List Slot) (st : List Value) (H : AHeap) (Q : Option Value→AHeap→Prop) : Prop:=W tables_1 dn 0 y35 prog_1_method_39_code (some .int) pc ls st H Q
abbrev y36 : MethodName:=⟨"AgentExprDbg", "evalExpr", "(II)I"⟩
abbrev kb36 : ByteArray:=prog_1_method_45_code
def M36 (pc : Nat) (ls : List Slot) (st : List Value) (H : AHeap) (Q : Option Value→AHeap→Prop) : Prop:=W tables_1 dn 0 y36 prog_1_method_45_code (some .int) pc ls st H Q
abbrev y37 : MethodName:=⟨"AgentExprDbg", "evalStep", "(III)I"⟩
abbrev kb37 : ByteArray:=prog_1_method_46_code
def M37 (pc : Nat) (ls : List Slot) (st : List Value) (H : AHeap) (Q : Option Value→AHeap→Prop) : Prop:=W tables_1 dn 0 y37 prog_1_method_46_code (some .int) pc ls st H Q
abbrev y38 : MethodName:=⟨"AgentExprDbg", "push", "(I)V"⟩
abbrev kb38 : ByteArray:=prog_1_method_54_code
def M38 (pc : Nat) (ls : List Slot) (st : List Value) (H : AHeap) (Q : Option Value→AHeap→Prop) : Prop:=W tables_1 dn 0 y38 prog_1_method_54_code none pc ls st H Q
abbrev y39 : MethodName:=⟨"AgentExprDbg", "binaryStep", "(I)V"⟩
abbrev kb39 : ByteArray:=prog_1_method_49_code
def M39 (pc : Nat) (ls : List Slot) (st : List Value) (H : AHeap) (Q : Option Value→AHeap→Prop) : Prop:=W tables_1 dn 0 y39 prog_1_method_49_code none pc ls st H Q
abbrev y40 : MethodName:=⟨"AgentExprDbg", "pop", "()I"⟩
abbrev kb40 : ByteArray:=prog_1_method_55_code
def M40 (pc : Nat) (ls : List Slot) (st : List Value) (H : AHeap) (Q : Option Value→AHeap→Prop) : Prop:=W tables_1 dn 0 y40 prog_1_method_55_code (some .int) pc ls st H Q
abbrev y41 : MethodName:=⟨"AgentExprDbg", "applyBinary", "(III)I"⟩
abbrev kb41 : ByteArray:=prog_1_method_51_code
def M41 (pc : Nat) (ls : List Slot) (st : List Value) (H : AHeap) (Q : Option Value→AHeap→Prop) : Prop:=W tables_1 dn 0 y41 prog_1_method_51_code (some .int) pc ls st H Q
abbrev y42 : MethodName:=⟨"AgentExprDbg", "compare", "(III)I"⟩
abbrev kb42 : ByteArray:=prog_1_method_53_code
def M42 (pc : Nat) (ls : List Slot) (st : List Value) (H : AHeap) (Q : Option Value→AHeap→Prop) : Prop:=W tables_1 dn 0 y42 prog_1_method_53_code (some .int) pc ls st H Q
abbrev y43 : MethodName:=⟨"AgentExprDbg", "boolInt", "(Z)I"⟩
abbrev kb43 : ByteArray:=prog_1_method_65_code
def M43 (pc : Nat) (ls : List Slot) (st : List Value) (H : AHeap) (Q : Option Value→AHeap→Prop) : Prop:=W tables_1 dn 0 y43 prog_1_method_65_code (some .int) pc ls st H Q
abbrev y44 : MethodName:=⟨"AgentExprDbg", "top", "()I"⟩
abbrev kb44 : ByteArray:=prog_1_method_56_code
def M44 (pc : Nat) (ls : List Slot) (st : List Value) (H : AHeap) (Q : Option Value→AHeap→Prop) : Prop:=W tables_1 dn 0 y44 prog_1_method_56_code (some .int) pc ls st H Q
abbrev y45 : MethodName:=⟨"AgentExprDbg", "status", "(I)I"⟩
abbrev kb45 : ByteArray:=prog_1_method_58_code
def M45 (pc : Nat) (ls : List Slot) (st : List Value) (H : AHeap) (Q : Option Value→AHeap→Prop) : Prop:=W tables_1 dn 0 y45 prog_1_method_58_code (some .int) pc ls st H Q
abbrev y46 : MethodName:=⟨"AgentExprDbg", "getReg", "(I)I"⟩
abbrev kb46 : ByteArray:=prog_1_method_7_code
def M46 (pc : Nat) (ls : List Slot) (st : List Value) (H : AHeap) (Q : Option Value→AHeap→Prop) : Prop:=W tables_1 dn 0 y46 prog_1_method_7_code (some .int) pc ls st H Q
abbrev y47 : MethodName:=⟨"AgentExprDbg", "slotInfo", "(II)I"⟩
abbrev kb47 : ByteArray:=prog_1_method_60_code
def M47 (pc : Nat) (ls : List Slot) (st : List Value) (H : AHeap) (Q : Option Value→AHeap→Prop) : Prop:=W tables_1 dn 0 y47 prog_1_method_60_code (some .int) pc ls st H Q
abbrev y48 : MethodName:=⟨"AgentExprDbg", "statusMore", "(I)I"⟩
abbrev kb48 : ByteArray:=prog_1_method_59_code
def M48 (pc : Nat) (ls : List Slot) (st : List Value) (H : AHeap) (Q : Option Value→AHeap→Prop) : Prop:=W tables_1 dn 0 y48 prog_1_method_59_code (some .int) pc ls st H Q
abbrev y49 : MethodName:=⟨"AgentExprDbg", "frame", "(II)I"⟩
abbrev kb49 : ByteArray:=prog_1_method_61_code
def M49 (pc : Nat) (ls : List Slot) (st : List Value) (H : AHeap) (Q : Option Value→AHeap→Prop) : Prop:=W tables_1 dn 0 y49 prog_1_method_61_code (some .int) pc ls st H Q
abbrev y50 : MethodName:=⟨"AgentExprDbg", "buildFrame", "(II)V"⟩
abbrev kb50 : ByteArray:=prog_1_method_40_code
def M50 (pc : Nat) (ls : List Slot) (st : List Value) (H : AHeap) (Q : Option Value→AHeap→Prop) : Prop:=W tables_1 dn 0 y50 prog_1_method_40_code none pc ls st H Q
abbrev y51 : MethodName:=⟨"AgentExprDbg", "divide", "(III)I"⟩
abbrev kb51 : ByteArray:=prog_1_method_52_code
def M51 (pc : Nat) (ls : List Slot) (st : List Value) (H : AHeap) (Q : Option Value→AHeap→Prop) : Prop:=W tables_1 dn 0 y51 prog_1_method_52_code (some .int) pc ls st H Q
abbrev y52 : MethodName:=⟨"AgentExprDbg", "unaryStep", "(I)V"⟩
abbrev kb52 : ByteArray:=prog_1_method_48_code
def M52 (pc : Nat) (ls : List Slot) (st : List Value) (H : AHeap) (Q : Option Value→AHeap→Prop) : Prop:=W tables_1 dn 0 y52 prog_1_method_48_code none pc ls st H Q
abbrev y53 : MethodName:=⟨"AgentExprDbg", "applyUnary", "(II)I"⟩
abbrev kb53 : ByteArray:=prog_1_method_50_code
def M53 (pc : Nat) (ls : List Slot) (st : List Value) (H : AHeap) (Q : Option Value→AHeap→Prop) : Prop:=W tables_1 dn 0 y53 prog_1_method_50_code (some .int) pc ls st H Q
abbrev y54 : MethodName:=⟨"AgentExprDbg", "storeFrame", "()Z"⟩
abbrev kb54 : ByteArray:=prog_1_method_41_code
def M54 (pc : Nat) (ls : List Slot) (st : List Value) (H : AHeap) (Q : Option Value→AHeap→Prop) : Prop:=W tables_1 dn 0 y54 prog_1_method_41_code (some .boolean) pc ls st H Q
abbrev y55 : MethodName:=⟨"AgentExprDbg", "writePending", "(I)V"⟩
abbrev kb55 : ByteArray:=prog_1_method_42_code
def M55 (pc : Nat) (ls : List Slot) (st : List Value) (H : AHeap) (Q : Option Value→AHeap→Prop) : Prop:=W tables_1 dn 0 y55 prog_1_method_42_code none pc ls st H Q
abbrev y56 : MethodName:=⟨"AgentExprDbg", "frameValue", "(II)I"⟩
abbrev kb56 : ByteArray:=prog_1_method_62_code
def M56 (pc : Nat) (ls : List Slot) (st : List Value) (H : AHeap) (Q : Option Value→AHeap→Prop) : Prop:=W tables_1 dn 0 y56 prog_1_method_62_code (some .int) pc ls st H Q
abbrev y57 : MethodName:=⟨"AgentExprDbgL3", "law", "(IIIIII)Z"⟩
abbrev kb57 : ByteArray:=code
def M57 (pc : Nat) (ls : List Slot) (st : List Value) (H : AHeap) (Q : Option Value→AHeap→Prop) : Prop:=W tables_1 dn 0 y57 code (some .boolean) pc ls st H Q
theorem dn_0 : dnOf dn y0 = some (1,12):=by decide +kernel
theorem rc_0 : rCode tables_1 y0 = some (prog_1_method_1_code,5,none):=rCode_of (i:=5) rfl (by decide +kernel)
theorem dn_1 : dnOf dn y1 = some (1,15):=by decide +kernel
theorem rc_1 : rCode tables_1 y1 = some (prog_1_method_5_code,3,some .boolean):=rCode_of (i:=88) rfl (by decide +kernel)
theorem dn_2 : dnOf dn y2 = some (0,0):=by decide +kernel
theorem rc_2 : rCode tables_1 y2 = some (prog_1_method_64_code,4,some .boolean):=rCode_of (i:=92) rfl (by decide +kernel)
theorem dn_3 : dnOf dn y3 = some (1,15):=by decide +kernel
theorem rc_3 : rCode tables_1 y3 = some (prog_1_method_6_code,3,some .boolean):=rCode_of (i:=97) rfl (by decide +kernel)
theorem dn_4 : dnOf dn y4 = some (3,45):=by decide +kernel
theorem rc_4 : rCode tables_1 y4 = some (prog_1_method_2_code,5,some .boolean):=rCode_of (i:=102) rfl (by decide +kernel)
theorem dn_5 : dnOf dn y5 = some (2,29):=by decide +kernel
theorem rc_5 : rCode tables_1 y5 = some (prog_1_method_3_code,5,some .boolean):=rCode_of (i:=106) rfl (by decide +kernel)
theorem dn_6 : dnOf dn y6 = some (1,15):=by decide +kernel
theorem rc_6 : rCode tables_1 y6 = some (prog_1_method_4_code,3,some .boolean):=rCode_of (i:=110) rfl (by decide +kernel)
theorem dn_7 : dnOf dn y7 = some (1,15):=by decide +kernel
theorem rc_7 : rCode tables_1 y7 = some (prog_1_method_9_code,3,some .boolean):=rCode_of (i:=115) rfl (by decide +kernel)
theorem dn_8 : dnOf dn y8 = some (7,101):=by decide +kernel
theorem rc_8 : rCode tables_1 y8 = some (prog_1_method_10_code,3,some .int):=rCode_of (i:=122) rfl (by decide +kernel)
theorem dn_9 : dnOf dn y9 = some (6,88):=by decide +kernel
theorem rc_9 : rCode tables_1 y9 = some (prog_1_method_11_code,2,some .int):=rCode_of (i:=126) rfl (by decide +kernel)
theorem dn_10 : dnOf dn y10 = some (5,72):=by decide +kernel
theorem rc_10 : rCode tables_1 y10 = some (prog_1_method_12_code,5,some .boolean):=rCode_of (i:=130) rfl (by decide +kernel)
theorem dn_11 : dnOf dn y11 = some (0,0):=by decide +kernel
theorem rc_11 : rCode tables_1 y11 = some (prog_1_method_13_code,1,none):=rCode_of (i:=134) rfl (by decide +kernel)
theorem dn_12 : dnOf dn y12 = some (1,14):=by decide +kernel
theorem rc_12 : rCode tables_1 y12 = some (prog_1_method_14_code,3,some .boolean):=rCode_of (i:=152) rfl (by decide +kernel)
theorem dn_13 : dnOf dn y13 = some (0,0):=by decide +kernel
theorem rc_13 : rCode tables_1 y13 = some (prog_1_method_24_code,2,some .boolean):=rCode_of (i:=156) rfl (by decide +kernel)
theorem dn_14 : dnOf dn y14 = some (0,0):=by decide +kernel
theorem rc_14 : rCode tables_1 y14 = some (prog_1_method_26_code,3,some .boolean):=rCode_of (i:=160) rfl (by decide +kernel)
theorem dn_15 : dnOf dn y15 = some (4,59):=by decide +kernel
theorem rc_15 : rCode tables_1 y15 = some (prog_1_method_15_code,2,some .boolean):=rCode_of (i:=164) rfl (by decide +kernel)
theorem dn_16 : dnOf dn y16 = some (0,0):=by decide +kernel
theorem rc_16 : rCode tables_1 y16 = some (prog_1_method_29_code,2,some .boolean):=rCode_of (i:=168) rfl (by decide +kernel)
theorem dn_17 : dnOf dn y17 = some (3,44):=by decide +kernel
theorem rc_17 : rCode tables_1 y17 = some (prog_1_method_16_code,4,some .boolean):=rCode_of (i:=172) rfl (by decide +kernel)
theorem dn_18 : dnOf dn y18 = some (1,13):=by decide +kernel
theorem rc_18 : rCode tables_1 y18 = some (prog_1_method_27_code,2,some .int):=rCode_of (i:=176) rfl (by decide +kernel)
theorem dn_19 : dnOf dn y19 = some (2,29):=by decide +kernel
theorem rc_19 : rCode tables_1 y19 = some (prog_1_method_17_code,4,some .boolean):=rCode_of (i:=180) rfl (by decide +kernel)
theorem dn_20 : dnOf dn y20 = some (0,0):=by decide +kernel
theorem rc_20 : rCode tables_1 y20 = some (prog_1_method_25_code,3,some .boolean):=rCode_of (i:=184) rfl (by decide +kernel)
theorem dn_21 : dnOf dn y21 = some (3,44):=by decide +kernel
theorem rc_21 : rCode tables_1 y21 = some (prog_1_method_20_code,1,some .boolean):=rCode_of (i:=188) rfl (by decide +kernel)
theorem dn_22 : dnOf dn y22 = some (1,15):=by decide +kernel
theorem rc_22 : rCode tables_1 y22 = some (prog_1_method_18_code,3,some .boolean):=rCode_of (i:=192) rfl (by decide +kernel)
theorem dn_23 : dnOf dn y23 = some (0,0):=by decide +kernel
theorem rc_23 : rCode tables_1 y23 = some (prog_1_method_28_code,2,some .boolean):=rCode_of (i:=196) rfl (by decide +kernel)
theorem dn_24 : dnOf dn y24 = some (0,0):=by decide +kernel
theorem rc_24 : rCode tables_1 y24 = some (prog_1_method_23_code,4,some .boolean):=rCode_of (i:=200) rfl (by decide +kernel)
theorem dn_25 : dnOf dn y25 = some (0,0):=by decide +kernel
theorem rc_25 : rCode tables_1 y25 = some (prog_1_method_21_code,2,some .boolean):=rCode_of (i:=204) rfl (by decide +kernel)
theorem dn_26 : dnOf dn y26 = some (3,44):=by decide +kernel
theorem rc_26 : rCode tables_1 y26 = some (prog_1_method_22_code,1,some .boolean):=rCode_of (i:=208) rfl (by decide +kernel)
theorem dn_27 : dnOf dn y27 = some (1,15):=by decide +kernel
theorem rc_27 : rCode tables_1 y27 = some (prog_1_method_30_code,5,none):=rCode_of (i:=212) rfl (by decide +kernel)
theorem dn_28 : dnOf dn y28 = some (1,15):=by decide +kernel
theorem rc_28 : rCode tables_1 y28 = some (prog_1_method_31_code,5,some .boolean):=rCode_of (i:=217) rfl (by decide +kernel)
theorem dn_29 : dnOf dn y29 = some (0,0):=by decide +kernel
theorem rc_29 : rCode tables_1 y29 = some (prog_1_method_33_code,3,some .int):=rCode_of (i:=221) rfl (by decide +kernel)
theorem dn_30 : dnOf dn y30 = some (10,155):=by decide +kernel
theorem rc_30 : rCode tables_1 y30 = some (prog_1_method_34_code,4,some .int):=rCode_of (i:=226) rfl (by decide +kernel)
theorem dn_31 : dnOf dn y31 = some (9,140):=by decide +kernel
theorem rc_31 : rCode tables_1 y31 = some (prog_1_method_35_code,4,some .int):=rCode_of (i:=234) rfl (by decide +kernel)
theorem dn_32 : dnOf dn y32 = some (8,125):=by decide +kernel
theorem rc_32 : rCode tables_1 y32 = some (prog_1_method_36_code,4,some .int):=rCode_of (i:=238) rfl (by decide +kernel)
theorem dn_33 : dnOf dn y33 = some (1,16):=by decide +kernel
theorem rc_33 : rCode tables_1 y33 = some (prog_1_method_37_code,6,none):=rCode_of (i:=246) rfl (by decide +kernel)
theorem dn_34 : dnOf dn y34 = some (0,0):=by decide +kernel
theorem rc_34 : rCode tables_1 y34 = some (prog_1_method_38_code,5,none):=rCode_of (i:=250) rfl (by decide +kernel)
theorem dn_35 : dnOf dn y35 = some (7,110):=by decide +kernel
theorem rc_35 : rCode tables_1 y35 = some (prog_1_method_39_code,4,some .int):=rCode_of (i:=254) rfl (by decide +kernel)
theorem dn_36 : dnOf dn y36 = some (5,75):=by decide +kernel
theorem rc_36 : rCode tables_1 y36 = some (prog_1_method_45_code,7,some .int):=rCode_of (i:=258) rfl (by decide +kernel)
theorem dn_37 : dnOf dn y37 = some (4,59):=by decide +kernel
theorem rc_37 : rCode tables_1 y37 = some (prog_1_method_46_code,5,some .int):=rCode_of (i:=266) rfl (by decide +kernel)
theorem dn_38 : dnOf dn y38 = some (0,0):=by decide +kernel
theorem rc_38 : rCode tables_1 y38 = some (prog_1_method_54_code,2,none):=rCode_of (i:=270) rfl (by decide +kernel)
theorem dn_39 : dnOf dn y39 = some (3,43):=by decide +kernel
theorem rc_39 : rCode tables_1 y39 = some (prog_1_method_49_code,5,none):=rCode_of (i:=274) rfl (by decide +kernel)
theorem dn_40 : dnOf dn y40 = some (0,0):=by decide +kernel
theorem rc_40 : rCode tables_1 y40 = some (prog_1_method_55_code,1,some .int):=rCode_of (i:=278) rfl (by decide +kernel)
theorem dn_41 : dnOf dn y41 = some (2,28):=by decide +kernel
theorem rc_41 : rCode tables_1 y41 = some (prog_1_method_51_code,4,some .int):=rCode_of (i:=282) rfl (by decide +kernel)
theorem dn_42 : dnOf dn y42 = some (1,13):=by decide +kernel
theorem rc_42 : rCode tables_1 y42 = some (prog_1_method_53_code,4,some .int):=rCode_of (i:=286) rfl (by decide +kernel)
theorem dn_43 : dnOf dn y43 = some (0,0):=by decide +kernel
theorem rc_43 : rCode tables_1 y43 = some (prog_1_method_65_code,2,some .int):=rCode_of (i:=290) rfl (by decide +kernel)
theorem dn_44 : dnOf dn y44 = some (0,0):=by decide +kernel
theorem rc_44 : rCode tables_1 y44 = some (prog_1_method_56_code,1,some .int):=rCode_of (i:=294) rfl (by decide +kernel)
theorem dn_45 : dnOf dn y45 = some (1,13):=by decide +kernel
theorem rc_45 : rCode tables_1 y45 = some (prog_1_method_58_code,2,some .int):=rCode_of (i:=299) rfl (by decide +kernel)
theorem dn_46 : dnOf dn y46 = some (1,15):=by decide +kernel
theorem rc_46 : rCode tables_1 y46 = some (prog_1_method_7_code,2,some .int):=rCode_of (i:=304) rfl (by decide +kernel)
theorem dn_47 : dnOf dn y47 = some (1,15):=by decide +kernel
theorem rc_47 : rCode tables_1 y47 = some (prog_1_method_60_code,4,some .int):=rCode_of (i:=309) rfl (by decide +kernel)
theorem dn_48 : dnOf dn y48 = some (0,0):=by decide +kernel
theorem rc_48 : rCode tables_1 y48 = some (prog_1_method_59_code,2,some .int):=rCode_of (i:=313) rfl (by decide +kernel)
theorem dn_49 : dnOf dn y49 = some (1,15):=by decide +kernel
theorem rc_49 : rCode tables_1 y49 = some (prog_1_method_61_code,4,some .int):=rCode_of (i:=320) rfl (by decide +kernel)
theorem dn_50 : dnOf dn y50 = some (6,93):=by decide +kernel
theorem rc_50 : rCode tables_1 y50 = some (prog_1_method_40_code,6,none):=rCode_of (i:=324) rfl (by decide +kernel)
theorem dn_51 : dnOf dn y51 = some (0,0):=by decide +kernel
theorem rc_51 : rCode tables_1 y51 = some (prog_1_method_52_code,4,some .int):=rCode_of (i:=340) rfl (by decide +kernel)
theorem dn_52 : dnOf dn y52 = some (2,29):=by decide +kernel
theorem rc_52 : rCode tables_1 y52 = some (prog_1_method_48_code,4,none):=rCode_of (i:=344) rfl (by decide +kernel)
theorem dn_53 : dnOf dn y53 = some (1,15):=by decide +kernel
theorem rc_53 : rCode tables_1 y53 = some (prog_1_method_50_code,3,some .int):=rCode_of (i:=348) rfl (by decide +kernel)
theorem dn_54 : dnOf dn y54 = some (1,15):=by decide +kernel
theorem rc_54 : rCode tables_1 y54 = some (prog_1_method_41_code,1,some .boolean):=rCode_of (i:=352) rfl (by decide +kernel)
theorem dn_55 : dnOf dn y55 = some (0,0):=by decide +kernel
theorem rc_55 : rCode tables_1 y55 = some (prog_1_method_42_code,4,none):=rCode_of (i:=358) rfl (by decide +kernel)
theorem dn_56 : dnOf dn y56 = some (0,0):=by decide +kernel
theorem rc_56 : rCode tables_1 y56 = some (prog_1_method_62_code,4,some .int):=rCode_of (i:=362) rfl (by decide +kernel)
theorem dn_57 : dnOf dn y57 = some (11,170):=by decide +kernel
theorem gf_7 : gfR tables_1 "AgentExprDbg" 7 = some ("AgentExprDbg", 0):=by decide +kernel
theorem gf_13 : gfR tables_1 "AgentExprDbg" 13 = some ("AgentExprDbg", 1):=by decide +kernel
theorem gf_16 : gfR tables_1 "AgentExprDbg" 16 = some ("AgentExprDbg", 2):=by decide +kernel
theorem gf_19 : gfR tables_1 "AgentExprDbg" 19 = some ("AgentExprDbg", 3):=by decide +kernel
theorem gf_22 : gfR tables_1 "AgentExprDbg" 22 = some ("AgentExprDbg", 4):=by decide +kernel
theorem gf_25 : gfR tables_1 "AgentExprDbg" 25 = some ("AgentExprDbg", 5):=by decide +kernel
theorem gf_28 : gfR tables_1 "AgentExprDbg" 28 = some ("AgentExprDbg", 6):=by decide +kernel
theorem gf_31 : gfR tables_1 "AgentExprDbg" 31 = some ("AgentExprDbg", 7):=by decide +kernel
theorem gf_34 : gfR tables_1 "AgentExprDbg" 34 = some ("AgentExprDbg", 8):=by decide +kernel
theorem gf_37 : gfR tables_1 "AgentExprDbg" 37 = some ("AgentExprDbg", 9):=by decide +kernel
theorem gf_40 : gfR tables_1 "AgentExprDbg" 40 = some ("AgentExprDbg", 10):=by decide +kernel
theorem gf_43 : gfR tables_1 "AgentExprDbg" 43 = some ("AgentExprDbg", 11):=by decide +kernel
theorem gf_46 : gfR tables_1 "AgentExprDbg" 46 = some ("AgentExprDbg", 12):=by decide +kernel
theorem gf_49 : gfR tables_1 "AgentExprDbg" 49 = some ("AgentExprDbg", 13):=by decide +kernel
theorem gf_52 : gfR tables_1 "AgentExprDbg" 52 = some ("AgentExprDbg", 14):=by decide +kernel
theorem gf_55 : gfR tables_1 "AgentExprDbg" 55 = some ("AgentExprDbg", 15):=by decide +kernel
theorem gf_58 : gfR tables_1 "AgentExprDbg" 58 = some ("AgentExprDbg", 16):=by decide +kernel
theorem gf_61 : gfR tables_1 "AgentExprDbg" 61 = some ("AgentExprDbg", 17):=by decide +kernel
theorem gf_64 : gfR tables_1 "AgentExprDbg" 64 = some ("AgentExprDbg", 18):=by decide +kernel
theorem gf_67 : gfR tables_1 "AgentExprDbg" 67 = some ("AgentExprDbg", 19):=by decide +kernel
theorem gf_70 : gfR tables_1 "AgentExprDbg" 70 = some ("AgentExprDbg", 20):=by decide +kernel
theorem gf_73 : gfR tables_1 "AgentExprDbg" 73 = some ("AgentExprDbg", 21):=by decide +kernel
theorem gf_76 : gfR tables_1 "AgentExprDbg" 76 = some ("AgentExprDbg", 22):=by decide +kernel
theorem gf_79 : gfR tables_1 "AgentExprDbg" 79 = some ("AgentExprDbg", 23):=by decide +kernel
theorem gf_82 : gfR tables_1 "AgentExprDbg" 82 = some ("AgentExprDbg", 24):=by decide +kernel
theorem gf_85 : gfR tables_1 "AgentExprDbg" 85 = some ("AgentExprDbg", 25):=by decide +kernel
theorem gf_88 : gfR tables_1 "AgentExprDbg" 88 = some ("AgentExprDbg", 26):=by decide +kernel
theorem gf_91 : gfR tables_1 "AgentExprDbg" 91 = some ("AgentExprDbg", 27):=by decide +kernel
theorem gf_94 : gfR tables_1 "AgentExprDbg" 94 = some ("AgentExprDbg", 28):=by decide +kernel
theorem gf_97 : gfR tables_1 "AgentExprDbg" 97 = some ("AgentExprDbg", 29):=by decide +kernel
theorem gf_100 : gfR tables_1 "AgentExprDbg" 100 = some ("AgentExprDbg", 30):=by decide +kernel
theorem gf_103 : gfR tables_1 "AgentExprDbg" 103 = some ("AgentExprDbg", 31):=by decide +kernel
theorem gf_106 : gfR tables_1 "AgentExprDbg" 106 = some ("AgentExprDbg", 32):=by decide +kernel
theorem gf_110 : gfR tables_1 "AgentExprDbg" 110 = some ("AgentExprDbg", 33):=by decide +kernel
theorem gf_113 : gfR tables_1 "AgentExprDbg" 113 = some ("AgentExprDbg", 34):=by decide +kernel
theorem gf_116 : gfR tables_1 "AgentExprDbg" 116 = some ("AgentExprDbg", 35):=by decide +kernel
theorem gf_119 : gfR tables_1 "AgentExprDbg" 119 = some ("AgentExprDbg", 36):=by decide +kernel
theorem gf_134 : gfR tables_1 "AgentExprDbg" 134 = some ("AgentExprDbg", 47):=by decide +kernel
theorem gf_137 : gfR tables_1 "AgentExprDbg" 137 = some ("AgentExprDbg", 46):=by decide +kernel
theorem gf_141 : gfR tables_1 "AgentExprDbg" 141 = some ("AgentExprDbg", 48):=by decide +kernel
theorem gf_144 : gfR tables_1 "AgentExprDbg" 144 = some ("AgentExprDbg", 37):=by decide +kernel
theorem gf_155 : gfR tables_1 "AgentExprDbg" 155 = some ("AgentExprDbg", 39):=by decide +kernel
theorem gf_158 : gfR tables_1 "AgentExprDbg" 158 = some ("AgentExprDbg", 41):=by decide +kernel
theorem gf_168 : gfR tables_1 "AgentExprDbg" 168 = some ("AgentExprDbg", 42):=by decide +kernel
theorem gf_181 : gfR tables_1 "AgentExprDbg" 181 = some ("AgentExprDbg", 38):=by decide +kernel
theorem gf_184 : gfR tables_1 "AgentExprDbg" 184 = some ("AgentExprDbg", 40):=by decide +kernel
theorem gf_187 : gfR tables_1 "AgentExprDbg" 187 = some ("AgentExprDbg", 43):=by decide +kernel
theorem gf_190 : gfR tables_1 "AgentExprDbg" 190 = some ("AgentExprDbg", 44):=by decide +kernel
theorem gf_235 : gfR tables_1 "AgentExprDbg" 235 = some ("AgentExprDbg", 45):=by decide +kernel
theorem gf_259 : gfR tables_1 "AgentExprDbg" 259 = some ("AgentExprDbg", 49):=by decide +kernel
theorem gf_269 : gfR tables_1 "AgentExprDbg" 269 = some ("AgentExprDbg", 52):=by decide +kernel
theorem gf_272 : gfR tables_1 "AgentExprDbg" 272 = some ("AgentExprDbg", 53):=by decide +kernel
theorem gf_275 : gfR tables_1 "AgentExprDbg" 275 = some ("AgentExprDbg", 54):=by decide +kernel
theorem gf_278 : gfR tables_1 "AgentExprDbg" 278 = some ("AgentExprDbg", 55):=by decide +kernel
theorem gf_281 : gfR tables_1 "AgentExprDbg" 281 = some ("AgentExprDbg", 56):=by decide +kernel
theorem gf_284 : gfR tables_1 "AgentExprDbg" 284 = some ("AgentExprDbg", 57):=by decide +kernel
theorem gf_287 : gfR tables_1 "AgentExprDbg" 287 = some ("AgentExprDbg", 51):=by decide +kernel
theorem gf_290 : gfR tables_1 "AgentExprDbg" 290 = some ("AgentExprDbg", 58):=by decide +kernel
theorem gf_296 : gfR tables_1 "AgentExprDbg" 296 = some ("AgentExprDbg", 59):=by decide +kernel
theorem gf_302 : gfR tables_1 "AgentExprDbg" 302 = some ("AgentExprDbg", 50):=by decide +kernel
section Rules
variable {b r q : Nat} {pre : AHeap} {s : Nat→Int32} {A : Nat→List Int32} {post : AHeap} {ls : List Slot} {st : List Value} {H R : AHeap} {Q : Option Value→AHeap→Prop} {x y v z j : Int32} {J1 J2 : Int64} {sc : List Int32} {l0 l1 l2 l3 l4 l5 l6 l7 l8 l9 l10 l11 l12 l13 l14 l15 l16 l17 : Slot}
theorem m0_0 : M0 0 [.val (.ref r),l1,l2,l3,l4] st H Q = M0 1 [.val (.ref r),l1,l2,l3,l4] (.ref r::st) H Q:=w_x (show decode kb0 0 = .ok (.aload_n 0,1) from by decide +kernel) rfl
theorem m0_1 : M0 1 ls [.ref r] H Q = M0 4 ls [] H Q:=w_obj (show decode kb0 1 = .ok (.invokespecial 1,3) from by decide +kernel) (sl:=0) (by decide +kernel) (by decide)
theorem m0_4 : M0 4 [.val (.ref r),l1,l2,l3,l4] st H Q = M0 5 [.val (.ref r),l1,l2,l3,l4] (.ref r::st) H Q:=w_x (show decode kb0 4 = .ok (.aload_n 0,1) from by decide +kernel) rfl
theorem m0_5 : M0 5 ls st H Q = M0 7 ls (.int 8::st) H Q:=w_con (show decode kb0 5 = .ok (.bipush 8,2) from by decide +kernel) rfl (by decide)
theorem m0_12 : M0 12 [.val (.ref r),l1,l2,l3,l4] st H Q = M0 13 [.val (.ref r),l1,l2,l3,l4] (.ref r::st) H Q:=w_x (show decode kb0 12 = .ok (.aload_n 0,1) from by decide +kernel) rfl
theorem m0_13 : M0 13 ls st H Q = M0 15 ls (.int 32::st) H Q:=w_con (show decode kb0 13 = .ok (.bipush 32,2) from by decide +kernel) rfl (by decide)
theorem m0_20 : M0 20 [.val (.ref r),l1,l2,l3,l4] st H Q = M0 21 [.val (.ref r),l1,l2,l3,l4] (.ref r::st) H Q:=w_x (show decode kb0 20 = .ok (.aload_n 0,1) from by decide +kernel) rfl
theorem m0_21 : M0 21 ls st H Q = M0 23 ls (.int 32::st) H Q:=w_con (show decode kb0 21 = .ok (.bipush 32,2) from by decide +kernel) rfl (by decide)
theorem m0_28 : M0 28 [.val (.ref r),l1,l2,l3,l4] st H Q = M0 29 [.val (.ref r),l1,l2,l3,l4] (.ref r::st) H Q:=w_x (show decode kb0 28 = .ok (.aload_n 0,1) from by decide +kernel) rfl
theorem m0_29 : M0 29 ls st H Q = M0 31 ls (.int 32::st) H Q:=w_con (show decode kb0 29 = .ok (.bipush 32,2) from by decide +kernel) rfl (by decide)
theorem m0_36 : M0 36 [.val (.ref r),l1,l2,l3,l4] st H Q = M0 37 [.val (.ref r),l1,l2,l3,l4] (.ref r::st) H Q:=w_x (show decode kb0 36 = .ok (.aload_n 0,1) from by decide +kernel) rfl
theorem m0_37 : M0 37 ls st H Q = M0 39 ls (.int 32::st) H Q:=w_con (show decode kb0 37 = .ok (.bipush 32,2) from by decide +kernel) rfl (by decide)
theorem m0_44 : M0 44 [.val (.ref r),l1,l2,l3,l4] st H Q = M0 45 [.val (.ref r),l1,l2,l3,l4] (.ref r::st) H Q:=w_x (show decode kb0 44 = .ok (.aload_n 0,1) from by decide +kernel) rfl
theorem m0_45 : M0 45 ls st H Q = M0 47 ls (.int 32::st) H Q:=w_con (show decode kb0 45 = .ok (.bipush 32,2) from by decide +kernel) rfl (by decide)
theorem m0_52 : M0 52 [.val (.ref r),l1,l2,l3,l4] st H Q = M0 53 [.val (.ref r),l1,l2,l3,l4] (.ref r::st) H Q:=w_x (show decode kb0 52 = .ok (.aload_n 0,1) from by decide +kernel) rfl
theorem m0_53 : M0 53 ls st H Q = M0 55 ls (.int 32::st) H Q:=w_con (show decode kb0 53 = .ok (.bipush 32,2) from by decide +kernel) rfl (by decide)
theorem m0_60 : M0 60 [.val (.ref r),l1,l2,l3,l4] st H Q = M0 61 [.val (.ref r),l1,l2,l3,l4] (.ref r::st) H Q:=w_x (show decode kb0 60 = .ok (.aload_n 0,1) from by decide +kernel) rfl
theorem m0_61 : M0 61 ls st H Q = M0 62 ls (.int 4::st) H Q:=w_con (show decode kb0 61 = .ok (.iconst 4,1) from by decide +kernel) rfl (by decide)
theorem m0_67 : M0 67 [.val (.ref r),l1,l2,l3,l4] st H Q = M0 68 [.val (.ref r),l1,l2,l3,l4] (.ref r::st) H Q:=w_x (show decode kb0 67 = .ok (.aload_n 0,1) from by decide +kernel) rfl
theorem m0_68 : M0 68 ls st H Q = M0 69 ls (.int 4::st) H Q:=w_con (show decode kb0 68 = .ok (.iconst 4,1) from by decide +kernel) rfl (by decide)
theorem m0_74 : M0 74 [.val (.ref r),l1,l2,l3,l4] st H Q = M0 75 [.val (.ref r),l1,l2,l3,l4] (.ref r::st) H Q:=w_x (show decode kb0 74 = .ok (.aload_n 0,1) from by decide +kernel) rfl
theorem m0_75 : M0 75 ls st H Q = M0 76 ls (.int 4::st) H Q:=w_con (show decode kb0 75 = .ok (.iconst 4,1) from by decide +kernel) rfl (by decide)
theorem m0_81 : M0 81 [.val (.ref r),l1,l2,l3,l4] st H Q = M0 82 [.val (.ref r),l1,l2,l3,l4] (.ref r::st) H Q:=w_x (show decode kb0 81 = .ok (.aload_n 0,1) from by decide +kernel) rfl
theorem m0_82 : M0 82 ls st H Q = M0 83 ls (.int 4::st) H Q:=w_con (show decode kb0 82 = .ok (.iconst 4,1) from by decide +kernel) rfl (by decide)
theorem m0_88 : M0 88 [.val (.ref r),l1,l2,l3,l4] st H Q = M0 89 [.val (.ref r),l1,l2,l3,l4] (.ref r::st) H Q:=w_x (show decode kb0 88 = .ok (.aload_n 0,1) from by decide +kernel) rfl
theorem m0_89 : M0 89 ls st H Q = M0 90 ls (.int 4::st) H Q:=w_con (show decode kb0 89 = .ok (.iconst 4,1) from by decide +kernel) rfl (by decide)
theorem m0_95 : M0 95 [.val (.ref r),l1,l2,l3,l4] st H Q = M0 96 [.val (.ref r),l1,l2,l3,l4] (.ref r::st) H Q:=w_x (show decode kb0 95 = .ok (.aload_n 0,1) from by decide +kernel) rfl
theorem m0_96 : M0 96 ls st H Q = M0 97 ls (.int 4::st) H Q:=w_con (show decode kb0 96 = .ok (.iconst 4,1) from by decide +kernel) rfl (by decide)
theorem m0_102 : M0 102 [.val (.ref r),l1,l2,l3,l4] st H Q = M0 103 [.val (.ref r),l1,l2,l3,l4] (.ref r::st) H Q:=w_x (show decode kb0 102 = .ok (.aload_n 0,1) from by decide +kernel) rfl
theorem m0_103 : M0 103 ls st H Q = M0 106 ls (.int 256::st) H Q:=w_con (show decode kb0 103 = .ok (.sipush 256,3) from by decide +kernel) rfl (by decide)
theorem m0_111 : M0 111 [.val (.ref r),l1,l2,l3,l4] st H Q = M0 112 [.val (.ref r),l1,l2,l3,l4] (.ref r::st) H Q:=w_x (show decode kb0 111 = .ok (.aload_n 0,1) from by decide +kernel) rfl
theorem m0_112 : M0 112 ls st H Q = M0 115 ls (.int 256::st) H Q:=w_con (show decode kb0 112 = .ok (.sipush 256,3) from by decide +kernel) rfl (by decide)
theorem m0_120 : M0 120 [.val (.ref r),l1,l2,l3,l4] st H Q = M0 121 [.val (.ref r),l1,l2,l3,l4] (.ref r::st) H Q:=w_x (show decode kb0 120 = .ok (.aload_n 0,1) from by decide +kernel) rfl
theorem m0_121 : M0 121 ls st H Q = M0 123 ls (.int 16::st) H Q:=w_con (show decode kb0 121 = .ok (.bipush 16,2) from by decide +kernel) rfl (by decide)
theorem m0_128 : M0 128 [.val (.ref r),l1,l2,l3,l4] st H Q = M0 129 [.val (.ref r),l1,l2,l3,l4] (.ref r::st) H Q:=w_x (show decode kb0 128 = .ok (.aload_n 0,1) from by decide +kernel) rfl
theorem m0_129 : M0 129 ls st H Q = M0 131 ls (.int 16::st) H Q:=w_con (show decode kb0 129 = .ok (.bipush 16,2) from by decide +kernel) rfl (by decide)
theorem m0_136 : M0 136 [.val (.ref r),l1,l2,l3,l4] st H Q = M0 137 [.val (.ref r),l1,l2,l3,l4] (.ref r::st) H Q:=w_x (show decode kb0 136 = .ok (.aload_n 0,1) from by decide +kernel) rfl
theorem m0_137 : M0 137 ls st H Q = M0 139 ls (.int 64::st) H Q:=w_con (show decode kb0 137 = .ok (.bipush 64,2) from by decide +kernel) rfl (by decide)
theorem m0_144 : M0 144 [.val (.ref r),l1,l2,l3,l4] st H Q = M0 145 [.val (.ref r),l1,l2,l3,l4] (.ref r::st) H Q:=w_x (show decode kb0 144 = .ok (.aload_n 0,1) from by decide +kernel) rfl
theorem m0_145 : M0 145 ls st H Q = M0 147 ls (.int 64::st) H Q:=w_con (show decode kb0 145 = .ok (.bipush 64,2) from by decide +kernel) rfl (by decide)
theorem m0_152 : M0 152 [.val (.ref r),l1,l2,l3,l4] st H Q = M0 153 [.val (.ref r),l1,l2,l3,l4] (.ref r::st) H Q:=w_x (show decode kb0 152 = .ok (.aload_n 0,1) from by decide +kernel) rfl
theorem m0_153 : M0 153 ls st H Q = M0 154 ls (.int 4::st) H Q:=w_con (show decode kb0 153 = .ok (.iconst 4,1) from by decide +kernel) rfl (by decide)
theorem m0_159 : M0 159 [.val (.ref r),l1,l2,l3,l4] st H Q = M0 160 [.val (.ref r),l1,l2,l3,l4] (.ref r::st) H Q:=w_x (show decode kb0 159 = .ok (.aload_n 0,1) from by decide +kernel) rfl
theorem m0_160 : M0 160 ls st H Q = M0 161 ls (.int 4::st) H Q:=w_con (show decode kb0 160 = .ok (.iconst 4,1) from by decide +kernel) rfl (by decide)
theorem m0_166 : M0 166 [.val (.ref r),l1,l2,l3,l4] st H Q = M0 167 [.val (.ref r),l1,l2,l3,l4] (.ref r::st) H Q:=w_x (show decode kb0 166 = .ok (.aload_n 0,1) from by decide +kernel) rfl
theorem m0_167 : M0 167 ls st H Q = M0 169 ls (.int 32::st) H Q:=w_con (show decode kb0 167 = .ok (.bipush 32,2) from by decide +kernel) rfl (by decide)
theorem m0_174 : M0 174 [.val (.ref r),l1,l2,l3,l4] st H Q = M0 175 [.val (.ref r),l1,l2,l3,l4] (.ref r::st) H Q:=w_x (show decode kb0 174 = .ok (.aload_n 0,1) from by decide +kernel) rfl
theorem m0_175 : M0 175 ls st H Q = M0 177 ls (.int 32::st) H Q:=w_con (show decode kb0 175 = .ok (.bipush 32,2) from by decide +kernel) rfl (by decide)
theorem m0_182 : M0 182 [.val (.ref r),l1,l2,l3,l4] st H Q = M0 183 [.val (.ref r),l1,l2,l3,l4] (.ref r::st) H Q:=w_x (show decode kb0 182 = .ok (.aload_n 0,1) from by decide +kernel) rfl
theorem m0_183 : M0 183 ls st H Q = M0 185 ls (.int 32::st) H Q:=w_con (show decode kb0 183 = .ok (.bipush 32,2) from by decide +kernel) rfl (by decide)
theorem m0_190 : M0 190 [.val (.ref r),l1,l2,l3,l4] st H Q = M0 191 [.val (.ref r),l1,l2,l3,l4] (.ref r::st) H Q:=w_x (show decode kb0 190 = .ok (.aload_n 0,1) from by decide +kernel) rfl
theorem m0_191 : M0 191 ls st H Q = M0 193 ls (.int 40::st) H Q:=w_con (show decode kb0 191 = .ok (.bipush 40,2) from by decide +kernel) rfl (by decide)
theorem m0_198 : M0 198 [.val (.ref r),l1,l2,l3,l4] st H Q = M0 199 [.val (.ref r),l1,l2,l3,l4] (.ref r::st) H Q:=w_x (show decode kb0 198 = .ok (.aload_n 0,1) from by decide +kernel) rfl
theorem m0_199 : M0 199 ls st H Q = M0 201 ls (.int 8::st) H Q:=w_con (show decode kb0 199 = .ok (.bipush 8,2) from by decide +kernel) rfl (by decide)
theorem m0_206 : M0 206 [.val (.ref r),l1,l2,l3,l4] st H Q = M0 207 [.val (.ref r),l1,l2,l3,l4] (.ref r::st) H Q:=w_x (show decode kb0 206 = .ok (.aload_n 0,1) from by decide +kernel) rfl
theorem m0_207 : M0 207 ls st H Q = M0 209 ls (.int 8::st) H Q:=w_con (show decode kb0 207 = .ok (.bipush 8,2) from by decide +kernel) rfl (by decide)
theorem m0_214 : M0 214 [.val (.ref r),l1,l2,l3,l4] st H Q = M0 215 [.val (.ref r),l1,l2,l3,l4] (.ref r::st) H Q:=w_x (show decode kb0 214 = .ok (.aload_n 0,1) from by decide +kernel) rfl
theorem m0_215 : M0 215 ls st H Q = M0 217 ls (.int 8::st) H Q:=w_con (show decode kb0 215 = .ok (.bipush 8,2) from by decide +kernel) rfl (by decide)
theorem m0_222 : M0 222 [.val (.ref r),l1,l2,l3,l4] st H Q = M0 223 [.val (.ref r),l1,l2,l3,l4] (.ref r::st) H Q:=w_x (show decode kb0 222 = .ok (.aload_n 0,1) from by decide +kernel) rfl
theorem m0_223 : M0 223 ls st H Q = M0 225 ls (.int 8::st) H Q:=w_con (show decode kb0 223 = .ok (.bipush 8,2) from by decide +kernel) rfl (by decide)
theorem m0_230 : M0 230 [.val (.ref r),l1,l2,l3,l4] st H Q = M0 231 [.val (.ref r),l1,l2,l3,l4] (.ref r::st) H Q:=w_x (show decode kb0 230 = .ok (.aload_n 0,1) from by decide +kernel) rfl
theorem m0_231 : M0 231 ls st H Q = M0 233 ls (.int 8::st) H Q:=w_con (show decode kb0 231 = .ok (.bipush 8,2) from by decide +kernel) rfl (by decide)
theorem m0_238 : M0 238 [.val (.ref r),l1,l2,l3,l4] st H Q = M0 239 [.val (.ref r),l1,l2,l3,l4] (.ref r::st) H Q:=w_x (show decode kb0 238 = .ok (.aload_n 0,1) from by decide +kernel) rfl
theorem m0_239 : M0 239 ls st H Q = M0 241 ls (.int 24::st) H Q:=w_con (show decode kb0 239 = .ok (.bipush 24,2) from by decide +kernel) rfl (by decide)
theorem m0_246 : M0 246 [.val (.ref r),l1,l2,l3,l4] st H Q = M0 247 [.val (.ref r),l1,l2,l3,l4] (.ref r::st) H Q:=w_x (show decode kb0 246 = .ok (.aload_n 0,1) from by decide +kernel) rfl
theorem m0_247 : M0 247 ls st H Q = M0 248 ls (.int 3::st) H Q:=w_con (show decode kb0 247 = .ok (.iconst 3,1) from by decide +kernel) rfl (by decide)
theorem m0_253 : M0 253 [l0,.val (.int v),l2,l3,l4] st H Q = M0 254 [l0,.val (.int v),l2,l3,l4] (.int v::st) H Q:=w_x (show decode kb0 253 = .ok (.iload_n 1,1) from by decide +kernel) rfl
theorem m0_254u : M0 254 [l0,l1,l2,.unset,l4] ((.int v)::st) H Q = M0 255 [l0,l1,l2,.val (.int v),l4] st H Q:=w_st (i:=3) (p:=isI) (show decode kb0 254 = .ok (.istore_n 3,1) from by decide +kernel) rfl rfl rfl rfl rfl rfl
theorem m0_255 : M0 255 [l0,l1,l2,.val (.int v),l4] st H Q = M0 256 [l0,l1,l2,.val (.int v),l4] (.int v::st) H Q:=w_x (show decode kb0 255 = .ok (.iload_n 3,1) from by decide +kernel) rfl
theorem m0_256 : M0 256 ls st H Q = M0 257 ls (.int 2::st) H Q:=w_con (show decode kb0 256 = .ok (.iconst 2,1) from by decide +kernel) rfl (by decide)
theorem m0_257 : M0 257 ls (.int y::.int x::st) H Q = if x < y then M0 260 ls st H Q else M0 262 ls st H Q:=w_icmpN (show decode kb0 257 = .ok (.if_icmp .ge 5,3) from by decide +kernel) (i_ge x y) rfl
theorem m0_260 : M0 260 ls st H Q = M0 261 ls (.int 2::st) H Q:=w_con (show decode kb0 260 = .ok (.iconst 2,1) from by decide +kernel) rfl (by decide)
theorem m0_261i : M0 261 [l0,l1,l2,.val (.int z),l4] ((.int v)::st) H Q = M0 262 [l0,l1,l2,.val (.int v),l4] st H Q:=w_st (i:=3) (p:=isI) (show decode kb0 261 = .ok (.istore_n 3,1) from by decide +kernel) rfl rfl rfl rfl rfl rfl
theorem m0_262 : M0 262 [l0,l1,l2,.val (.int v),l4] st H Q = M0 263 [l0,l1,l2,.val (.int v),l4] (.int v::st) H Q:=w_x (show decode kb0 262 = .ok (.iload_n 3,1) from by decide +kernel) rfl
theorem m0_263 : M0 263 ls st H Q = M0 265 ls (.int 8::st) H Q:=w_con (show decode kb0 263 = .ok (.bipush 8,2) from by decide +kernel) rfl (by decide)
theorem m0_265 : M0 265 ls (.int y::.int x::st) H Q = if y < x then M0 268 ls st H Q else M0 271 ls st H Q:=w_icmpN (show decode kb0 265 = .ok (.if_icmp .le 6,3) from by decide +kernel) (i_le x y) rfl
theorem m0_268 : M0 268 ls st H Q = M0 270 ls (.int 8::st) H Q:=w_con (show decode kb0 268 = .ok (.bipush 8,2) from by decide +kernel) rfl (by decide)
theorem m0_270i : M0 270 [l0,l1,l2,.val (.int z),l4] ((.int v)::st) H Q = M0 271 [l0,l1,l2,.val (.int v),l4] st H Q:=w_st (i:=3) (p:=isI) (show decode kb0 270 = .ok (.istore_n 3,1) from by decide +kernel) rfl rfl rfl rfl rfl rfl
theorem m0_271 : M0 271 [.val (.ref r),l1,l2,l3,l4] st H Q = M0 272 [.val (.ref r),l1,l2,l3,l4] (.ref r::st) H Q:=w_x (show decode kb0 271 = .ok (.aload_n 0,1) from by decide +kernel) rfl
theorem m0_272 : M0 272 [l0,l1,l2,.val (.int v),l4] st H Q = M0 273 [l0,l1,l2,.val (.int v),l4] (.int v::st) H Q:=w_x (show decode kb0 272 = .ok (.iload_n 3,1) from by decide +kernel) rfl
theorem pf0_106 : pfR tables_1 y0.cls y0.name 106 = some ("AgentExprDbg", 32,.int):=by decide +kernel
theorem m0_273 : M0 273 ls (.int v::.ref b::st) (put b pre s A post) Q = M0 276 ls st (put b pre (ou s 17 v) A post) Q:=w_put (show decode kb0 273 = .ok (.putfield 106,3) from by decide +kernel) pf0_106 put_o (Nat.zero_le _) (by show 32 < 60; omega) rfl put_s17
theorem m0_276 : M0 276 [l0,l1,.val (.int v),l3,l4] st H Q = M0 277 [l0,l1,.val (.int v),l3,l4] (.int v::st) H Q:=w_x (show decode kb0 276 = .ok (.iload_n 2,1) from by decide +kernel) rfl
theorem m0_277u : M0 277 [l0,l1,l2,l3,.unset] ((.int v)::st) H Q = M0 279 [l0,l1,l2,l3,.val (.int v)] st H Q:=w_st (i:=4) (p:=isI) (show decode kb0 277 = .ok (.istore 4,2) from by decide +kernel) rfl rfl rfl rfl rfl rfl
theorem m0_279 : M0 279 [l0,l1,l2,l3,.val (.int v)] st H Q = M0 281 [l0,l1,l2,l3,.val (.int v)] (.int v::st) H Q:=w_x (show decode kb0 279 = .ok (.iload 4,2) from by decide +kernel) rfl
theorem m0_281 : M0 281 ls (.int x::st) H Q = if x < 0 then M0 284 ls st H Q else M0 287 ls st H Q:=w_ifN (show decode kb0 281 = .ok (.ifCond .ge 6,3) from by decide +kernel) (z_ge x) rfl
theorem m0_284 : M0 284 ls st H Q = M0 285 ls (.int 0::st) H Q:=w_con (show decode kb0 284 = .ok (.iconst 0,1) from by decide +kernel) rfl (by decide)
theorem m0_285i : M0 285 [l0,l1,l2,l3,.val (.int z)] ((.int v)::st) H Q = M0 287 [l0,l1,l2,l3,.val (.int v)] st H Q:=w_st (i:=4) (p:=isI) (show decode kb0 285 = .ok (.istore 4,2) from by decide +kernel) rfl rfl rfl rfl rfl rfl
theorem m0_287 : M0 287 [l0,l1,l2,l3,.val (.int v)] st H Q = M0 289 [l0,l1,l2,l3,.val (.int v)] (.int v::st) H Q:=w_x (show decode kb0 287 = .ok (.iload 4,2) from by decide +kernel) rfl
theorem m0_289 : M0 289 ls st H Q = M0 290 ls (.int 1::st) H Q:=w_con (show decode kb0 289 = .ok (.iconst 1,1) from by decide +kernel) rfl (by decide)
theorem m0_290 : M0 290 ls (.int y::.int x::st) H Q = if y < x then M0 293 ls st H Q else M0 296 ls st H Q:=w_icmpN (show decode kb0 290 = .ok (.if_icmp .le 6,3) from by decide +kernel) (i_le x y) rfl
theorem m0_293 : M0 293 ls st H Q = M0 294 ls (.int 1::st) H Q:=w_con (show decode kb0 293 = .ok (.iconst 1,1) from by decide +kernel) rfl (by decide)
theorem m0_294i : M0 294 [l0,l1,l2,l3,.val (.int z)] ((.int v)::st) H Q = M0 296 [l0,l1,l2,l3,.val (.int v)] st H Q:=w_st (i:=4) (p:=isI) (show decode kb0 294 = .ok (.istore 4,2) from by decide +kernel) rfl rfl rfl rfl rfl rfl
theorem m0_296 : M0 296 [.val (.ref r),l1,l2,l3,l4] st H Q = M0 297 [.val (.ref r),l1,l2,l3,l4] (.ref r::st) H Q:=w_x (show decode kb0 296 = .ok (.aload_n 0,1) from by decide +kernel) rfl
theorem m0_297 : M0 297 [l0,l1,l2,l3,.val (.int v)] st H Q = M0 299 [l0,l1,l2,l3,.val (.int v)] (.int v::st) H Q:=w_x (show decode kb0 297 = .ok (.iload 4,2) from by decide +kernel) rfl
theorem pf0_110 : pfR tables_1 y0.cls y0.name 110 = some ("AgentExprDbg", 33,.int):=by decide +kernel
theorem m0_299 : M0 299 ls (.int v::.ref b::st) (put b pre s A post) Q = M0 302 ls st (put b pre (ou s 18 v) A post) Q:=w_put (show decode kb0 299 = .ok (.putfield 110,3) from by decide +kernel) pf0_110 put_o (Nat.zero_le _) (by show 33 < 60; omega) rfl put_s18
theorem m0_302 : M0 302 [.val (.ref r),l1,l2,l3,l4] st H Q = M0 303 [.val (.ref r),l1,l2,l3,l4] (.ref r::st) H Q:=w_x (show decode kb0 302 = .ok (.aload_n 0,1) from by decide +kernel) rfl
theorem m0_303 : M0 303 ls st H Q = M0 304 ls (.int 0::st) H Q:=w_con (show decode kb0 303 = .ok (.iconst 0,1) from by decide +kernel) rfl (by decide)
theorem pf0_113 : pfR tables_1 y0.cls y0.name 113 = some ("AgentExprDbg", 34,.int):=by decide +kernel
theorem m0_304 : M0 304 ls (.int v::.ref b::st) (put b pre s A post) Q = M0 307 ls st (put b pre (ou s 4 v) A post) Q:=w_put (show decode kb0 304 = .ok (.putfield 113,3) from by decide +kernel) pf0_113 put_o (Nat.zero_le _) (by show 34 < 60; omega) rfl put_s4
theorem m0_307 : M0 307 [.val (.ref r),l1,l2,l3,l4] st H Q = M0 308 [.val (.ref r),l1,l2,l3,l4] (.ref r::st) H Q:=w_x (show decode kb0 307 = .ok (.aload_n 0,1) from by decide +kernel) rfl
theorem m0_308 : M0 308 ls st H Q = M0 309 ls (.int 0::st) H Q:=w_con (show decode kb0 308 = .ok (.iconst 0,1) from by decide +kernel) rfl (by decide)
theorem pf0_116 : pfR tables_1 y0.cls y0.name 116 = some ("AgentExprDbg", 35,.int):=by decide +kernel
theorem m0_309 : M0 309 ls (.int v::.ref b::st) (put b pre s A post) Q = M0 312 ls st (put b pre (ou s 5 v) A post) Q:=w_put (show decode kb0 309 = .ok (.putfield 116,3) from by decide +kernel) pf0_116 put_o (Nat.zero_le _) (by show 35 < 60; omega) rfl put_s5
theorem m0_312 : M0 312 [.val (.ref r),l1,l2,l3,l4] st H Q = M0 313 [.val (.ref r),l1,l2,l3,l4] (.ref r::st) H Q:=w_x (show decode kb0 312 = .ok (.aload_n 0,1) from by decide +kernel) rfl
theorem m0_313 : M0 313 ls st H Q = M0 314 ls (.int 0::st) H Q:=w_con (show decode kb0 313 = .ok (.iconst 0,1) from by decide +kernel) rfl (by decide)
theorem pf0_119 : pfR tables_1 y0.cls y0.name 119 = some ("AgentExprDbg", 36,.int):=by decide +kernel
theorem m0_314 : M0 314 ls (.int v::.ref b::st) (put b pre s A post) Q = M0 317 ls st (put b pre (ou s 6 v) A post) Q:=w_put (show decode kb0 314 = .ok (.putfield 119,3) from by decide +kernel) pf0_119 put_o (Nat.zero_le _) (by show 36 < 60; omega) rfl put_s6
theorem m0_317 : M0 317 ls [] H Q = Q none H:=w_vret (show decode kb0 317 = .ok (.return_,1) from by decide +kernel) rfl
theorem m1_0 : M1 0 [.val (.ref r),l1,l2] st H Q = M1 1 [.val (.ref r),l1,l2] (.ref r::st) H Q:=w_x (show decode kb1 0 = .ok (.aload_n 0,1) from by decide +kernel) rfl
theorem m1_1 : M1 1 [l0,.val (.int v),l2] st H Q = M1 2 [l0,.val (.int v),l2] (.int v::st) H Q:=w_x (show decode kb1 1 = .ok (.iload_n 1,1) from by decide +kernel) rfl
theorem m1_2 : M1 2 ls st H Q = M1 3 ls (.int 0::st) H Q:=w_con (show decode kb1 2 = .ok (.iconst 0,1) from by decide +kernel) rfl (by decide)
theorem m1_3 : M1 3 ls st H Q = M1 5 ls (.int 7::st) H Q:=w_con (show decode kb1 3 = .ok (.bipush 7,2) from by decide +kernel) rfl (by decide)
theorem cr1_126 : vR tables_1 dn y1 126 = some (true,y2,prog_1_method_64_code,4,(some .boolean),3,0):=pR_of (cR_of (by decide +kernel) rc_2 dn_2 dn_1 (sig:=⟨[.int,.int,.int],some .boolean⟩) (by decide +kernel) (by decide +kernel) rfl rfl) (by decide +kernel) (by decide +kernel)
theorem m1_5 (a0 : Int32) (a1 : Int32) (a2 : Int32) : M1 5 ls [.int a2,.int a1,.int a0,.ref b] (put b pre s A post) Q = M2 0 [.val (.ref b),.val (.int a0),.val (.int a1),.val (.int a2)] [] (put b pre s A post) (fun v H1 => M1 8 ls (v.toList ++ []) H1 Q):=w_virt (as:=[.int a2,.int a1,.int a0]) (rest:=[]) (a:=b) (show decode kb1 5 = .ok (.invokevirtual 126,3) from by decide +kernel) cr1_126 put_o rfl rfl (Nat.le_of_ble_eq_true rfl) (by show 4≤4; omega) rfl
theorem m1_8 : M1 8 ls (.int x::st) H Q = if x = 0 then M1 20 ls st H Q else M1 11 ls st H Q:=w_if (show decode kb1 8 = .ok (.ifCond .eq 12,3) from by decide +kernel) (z_eq x) rfl
theorem m1_11 : M1 11 [.val (.ref r),l1,l2] st H Q = M1 12 [.val (.ref r),l1,l2] (.ref r::st) H Q:=w_x (show decode kb1 11 = .ok (.aload_n 0,1) from by decide +kernel) rfl
theorem m1_12 : M1 12 ls (.ref b::st) (put b pre s A post) Q = M1 15 ls (.ref (b + 1)::st) (put b pre s A post) Q:=w_get (show decode kb1 12 = .ok (.getfield 7,3) from by decide +kernel) gf_7 put_o rfl
theorem m1_15 : M1 15 [l0,.val (.int v),l2] st H Q = M1 16 [l0,.val (.int v),l2] (.int v::st) H Q:=w_x (show decode kb1 15 = .ok (.iload_n 1,1) from by decide +kernel) rfl
theorem m1_16 : M1 16 [l0,l1,.val (.int v)] st H Q = M1 17 [l0,l1,.val (.int v)] (.int v::st) H Q:=w_x (show decode kb1 16 = .ok (.iload_n 2,1) from by decide +kernel) rfl
theorem m1_17  : M1 17 ls (.int v::.int j::.ref (b + 1)::st) (put b pre s A post) Q = (inB j (A 0)∧M1 18 ls st (put b pre s (ou A 0 (setA (A 0) j v)) post) Q):=w_ist (show decode kb1 17 = .ok (.iastore,1) from by decide +kernel) rfl put_a0 (Nat.zero_le _) rfl put_w0
theorem m1_18 : M1 18 ls st H Q = M1 19 ls (.int 1::st) H Q:=w_con (show decode kb1 18 = .ok (.iconst 1,1) from by decide +kernel) rfl (by decide)
theorem m1_19 : M1 19 ls (.int z::st) H Q = Q (some (.int (nar .boolean z))) H:=w_iretN (show decode kb1 19 = .ok (.ireturn,1) from by decide +kernel) rfl (by simp)
theorem m2_0 : M2 0 [l0,.val (.int v),l2,l3] st H Q = M2 1 [l0,.val (.int v),l2,l3] (.int v::st) H Q:=w_x (show decode kb2 0 = .ok (.iload_n 1,1) from by decide +kernel) rfl
theorem m2_1 : M2 1 [l0,l1,.val (.int v),l3] st H Q = M2 2 [l0,l1,.val (.int v),l3] (.int v::st) H Q:=w_x (show decode kb2 1 = .ok (.iload_n 2,1) from by decide +kernel) rfl
theorem m2_2 : M2 2 ls (.int y::.int x::st) H Q = if x < y then M2 14 ls st H Q else M2 5 ls st H Q:=w_icmp (show decode kb2 2 = .ok (.if_icmp .lt 12,3) from by decide +kernel) (i_lt x y) rfl
theorem m2_5 : M2 5 [l0,.val (.int v),l2,l3] st H Q = M2 6 [l0,.val (.int v),l2,l3] (.int v::st) H Q:=w_x (show decode kb2 5 = .ok (.iload_n 1,1) from by decide +kernel) rfl
theorem m2_6 : M2 6 [l0,l1,l2,.val (.int v)] st H Q = M2 7 [l0,l1,l2,.val (.int v)] (.int v::st) H Q:=w_x (show decode kb2 6 = .ok (.iload_n 3,1) from by decide +kernel) rfl
theorem m2_7 : M2 7 ls (.int y::.int x::st) H Q = if y < x then M2 14 ls st H Q else M2 10 ls st H Q:=w_icmp (show decode kb2 7 = .ok (.if_icmp .gt 7,3) from by decide +kernel) (i_gt x y) rfl
theorem m2_10 : M2 10 ls st H Q = M2 11 ls (.int 1::st) H Q:=w_con (show decode kb2 10 = .ok (.iconst 1,1) from by decide +kernel) rfl (by decide)
theorem m2_11 : M2 11 ls st H Q = M2 15 ls st H Q:=w_x (show decode kb2 11 = .ok (.goto 4,3) from by decide +kernel) rfl
theorem m2_14 : M2 14 ls st H Q = M2 15 ls (.int 0::st) H Q:=w_con (show decode kb2 14 = .ok (.iconst 0,1) from by decide +kernel) rfl (by decide)
theorem m2_15 : M2 15 ls (.int z::st) H Q = Q (some (.int (nar .boolean z))) H:=w_iretN (show decode kb2 15 = .ok (.ireturn,1) from by decide +kernel) rfl (by simp)
theorem m3_0 : M3 0 [.val (.ref r),l1,l2] st H Q = M3 1 [.val (.ref r),l1,l2] (.ref r::st) H Q:=w_x (show decode kb3 0 = .ok (.aload_n 0,1) from by decide +kernel) rfl
theorem m3_1 : M3 1 [l0,.val (.int v),l2] st H Q = M3 2 [l0,.val (.int v),l2] (.int v::st) H Q:=w_x (show decode kb3 1 = .ok (.iload_n 1,1) from by decide +kernel) rfl
theorem m3_2 : M3 2 ls st H Q = M3 3 ls (.int 0::st) H Q:=w_con (show decode kb3 2 = .ok (.iconst 0,1) from by decide +kernel) rfl (by decide)
theorem m3_3 : M3 3 ls st H Q = M3 5 ls (.int 31::st) H Q:=w_con (show decode kb3 3 = .ok (.bipush 31,2) from by decide +kernel) rfl (by decide)
theorem cr3_126 : vR tables_1 dn y3 126 = some (true,y2,prog_1_method_64_code,4,(some .boolean),3,0):=pR_of (cR_of (by decide +kernel) rc_2 dn_2 dn_3 (sig:=⟨[.int,.int,.int],some .boolean⟩) (by decide +kernel) (by decide +kernel) rfl rfl) (by decide +kernel) (by decide +kernel)
theorem m3_5 (a0 : Int32) (a1 : Int32) (a2 : Int32) : M3 5 ls [.int a2,.int a1,.int a0,.ref b] (put b pre s A post) Q = M2 0 [.val (.ref b),.val (.int a0),.val (.int a1),.val (.int a2)] [] (put b pre s A post) (fun v H1 => M3 8 ls (v.toList ++ []) H1 Q):=w_virt (as:=[.int a2,.int a1,.int a0]) (rest:=[]) (a:=b) (show decode kb3 5 = .ok (.invokevirtual 126,3) from by decide +kernel) cr3_126 put_o rfl rfl (Nat.le_of_ble_eq_true rfl) (by show 4≤4; omega) rfl
theorem m3_8 : M3 8 ls (.int x::st) H Q = if x = 0 then M3 11 ls st H Q else M3 13 ls st H Q:=w_ifN (show decode kb3 8 = .ok (.ifCond .ne 5,3) from by decide +kernel) (z_ne x) rfl
theorem m3_11 : M3 11 ls st H Q = M3 12 ls (.int 0::st) H Q:=w_con (show decode kb3 11 = .ok (.iconst 0,1) from by decide +kernel) rfl (by decide)
theorem m3_12 : M3 12 ls (.int z::st) H Q = Q (some (.int (nar .boolean z))) H:=w_iretN (show decode kb3 12 = .ok (.ireturn,1) from by decide +kernel) rfl (by simp)
theorem m3_13 : M3 13 [.val (.ref r),l1,l2] st H Q = M3 14 [.val (.ref r),l1,l2] (.ref r::st) H Q:=w_x (show decode kb3 13 = .ok (.aload_n 0,1) from by decide +kernel) rfl
theorem m3_14 : M3 14 ls (.ref b::st) (put b pre s A post) Q = M3 17 ls (.ref (b + 2)::st) (put b pre s A post) Q:=w_get (show decode kb3 14 = .ok (.getfield 13,3) from by decide +kernel) gf_13 put_o rfl
theorem m3_17 : M3 17 [l0,.val (.int v),l2] st H Q = M3 18 [l0,.val (.int v),l2] (.int v::st) H Q:=w_x (show decode kb3 17 = .ok (.iload_n 1,1) from by decide +kernel) rfl
theorem m3_18 : M3 18 [l0,l1,.val (.int v)] st H Q = M3 19 [l0,l1,.val (.int v)] (.int v::st) H Q:=w_x (show decode kb3 18 = .ok (.iload_n 2,1) from by decide +kernel) rfl
theorem m3_19  : M3 19 ls (.int v::.int j::.ref (b + 2)::st) (put b pre s A post) Q = (inB j (A 1)∧M3 20 ls st (put b pre s (ou A 1 (setA (A 1) j v)) post) Q):=w_ist (show decode kb3 19 = .ok (.iastore,1) from by decide +kernel) rfl put_a1 (Nat.zero_le _) rfl put_w1
theorem m3_20 : M3 20 ls st H Q = M3 21 ls (.int 1::st) H Q:=w_con (show decode kb3 20 = .ok (.iconst 1,1) from by decide +kernel) rfl (by decide)
theorem m3_21 : M3 21 ls (.int z::st) H Q = Q (some (.int (nar .boolean z))) H:=w_iretN (show decode kb3 21 = .ok (.ireturn,1) from by decide +kernel) rfl (by simp)
theorem m4_0 : M4 0 [.val (.ref r),l1,l2,l3,l4] st H Q = M4 1 [.val (.ref r),l1,l2,l3,l4] (.ref r::st) H Q:=w_x (show decode kb4 0 = .ok (.aload_n 0,1) from by decide +kernel) rfl
theorem m4_1 : M4 1 [l0,.val (.int v),l2,l3,l4] st H Q = M4 2 [l0,.val (.int v),l2,l3,l4] (.int v::st) H Q:=w_x (show decode kb4 1 = .ok (.iload_n 1,1) from by decide +kernel) rfl
theorem m4_2 : M4 2 [l0,l1,.val (.int v),l3,l4] st H Q = M4 3 [l0,l1,.val (.int v),l3,l4] (.int v::st) H Q:=w_x (show decode kb4 2 = .ok (.iload_n 2,1) from by decide +kernel) rfl
theorem m4_3 : M4 3 [l0,l1,l2,.val (.int v),l4] st H Q = M4 4 [l0,l1,l2,.val (.int v),l4] (.int v::st) H Q:=w_x (show decode kb4 3 = .ok (.iload_n 3,1) from by decide +kernel) rfl
theorem m4_4 : M4 4 [l0,l1,l2,l3,.val (.int v)] st H Q = M4 6 [l0,l1,l2,l3,.val (.int v)] (.int v::st) H Q:=w_x (show decode kb4 4 = .ok (.iload 4,2) from by decide +kernel) rfl
theorem cr4_122 : vR tables_1 dn y4 122 = some (true,y5,prog_1_method_3_code,5,(some .boolean),4,0):=pR_of (cR_of (by decide +kernel) rc_5 dn_5 dn_4 (sig:=⟨[.int,.int,.int,.int],some .boolean⟩) (by decide +kernel) (by decide +kernel) rfl rfl) (by decide +kernel) (by decide +kernel)
theorem m4_6 (a0 : Int32) (a1 : Int32) (a2 : Int32) (a3 : Int32) : M4 6 ls [.int a3,.int a2,.int a1,.int a0,.ref b] (put b pre s A post) Q = M5 0 [.val (.ref b),.val (.int a0),.val (.int a1),.val (.int a2),.val (.int a3)] [] (put b pre s A post) (fun v H1 => M4 9 ls (v.toList ++ []) H1 Q):=w_virt (as:=[.int a3,.int a2,.int a1,.int a0]) (rest:=[]) (a:=b) (show decode kb4 6 = .ok (.invokevirtual 122,3) from by decide +kernel) cr4_122 put_o rfl rfl (Nat.le_of_ble_eq_true rfl) (by show 5≤5; omega) rfl
theorem m4_9 : M4 9 ls (.int x::st) H Q = if x = 0 then M4 12 ls st H Q else M4 14 ls st H Q:=w_ifN (show decode kb4 9 = .ok (.ifCond .ne 5,3) from by decide +kernel) (z_ne x) rfl
theorem m4_14 : M4 14 [l0,l1,.val (.int v),l3,l4] st H Q = M4 15 [l0,l1,.val (.int v),l3,l4] (.int v::st) H Q:=w_x (show decode kb4 14 = .ok (.iload_n 2,1) from by decide +kernel) rfl
theorem m4_15 : M4 15 ls (.int x::st) H Q = if x = 0 then M4 18 ls st H Q else M4 41 ls st H Q:=w_ifN (show decode kb4 15 = .ok (.ifCond .ne 26,3) from by decide +kernel) (z_ne x) rfl
theorem m4_41 : M4 41 [.val (.ref r),l1,l2,l3,l4] st H Q = M4 42 [.val (.ref r),l1,l2,l3,l4] (.ref r::st) H Q:=w_x (show decode kb4 41 = .ok (.aload_n 0,1) from by decide +kernel) rfl
theorem m4_42 : M4 42 ls (.ref b::st) (put b pre s A post) Q = M4 45 ls (.ref (b + 3)::st) (put b pre s A post) Q:=w_get (show decode kb4 42 = .ok (.getfield 16,3) from by decide +kernel) gf_16 put_o rfl
theorem m4_45 : M4 45 [l0,.val (.int v),l2,l3,l4] st H Q = M4 46 [l0,.val (.int v),l2,l3,l4] (.int v::st) H Q:=w_x (show decode kb4 45 = .ok (.iload_n 1,1) from by decide +kernel) rfl
theorem m4_46 : M4 46 [l0,l1,.val (.int v),l3,l4] st H Q = M4 47 [l0,l1,.val (.int v),l3,l4] (.int v::st) H Q:=w_x (show decode kb4 46 = .ok (.iload_n 2,1) from by decide +kernel) rfl
theorem m4_47  : M4 47 ls (.int v::.int j::.ref (b + 3)::st) (put b pre s A post) Q = (inB j (A 2)∧M4 48 ls st (put b pre s (ou A 2 (setA (A 2) j v)) post) Q):=w_ist (show decode kb4 47 = .ok (.iastore,1) from by decide +kernel) rfl put_a2 (Nat.zero_le _) rfl put_w2
theorem m4_48 : M4 48 [.val (.ref r),l1,l2,l3,l4] st H Q = M4 49 [.val (.ref r),l1,l2,l3,l4] (.ref r::st) H Q:=w_x (show decode kb4 48 = .ok (.aload_n 0,1) from by decide +kernel) rfl
theorem m4_49 : M4 49 ls (.ref b::st) (put b pre s A post) Q = M4 52 ls (.ref (b + 4)::st) (put b pre s A post) Q:=w_get (show decode kb4 49 = .ok (.getfield 19,3) from by decide +kernel) gf_19 put_o rfl
theorem m4_52 : M4 52 [l0,.val (.int v),l2,l3,l4] st H Q = M4 53 [l0,.val (.int v),l2,l3,l4] (.int v::st) H Q:=w_x (show decode kb4 52 = .ok (.iload_n 1,1) from by decide +kernel) rfl
theorem m4_53 : M4 53 [l0,l1,l2,.val (.int v),l4] st H Q = M4 54 [l0,l1,l2,.val (.int v),l4] (.int v::st) H Q:=w_x (show decode kb4 53 = .ok (.iload_n 3,1) from by decide +kernel) rfl
theorem m4_54  : M4 54 ls (.int v::.int j::.ref (b + 4)::st) (put b pre s A post) Q = (inB j (A 3)∧M4 55 ls st (put b pre s (ou A 3 (setA (A 3) j v)) post) Q):=w_ist (show decode kb4 54 = .ok (.iastore,1) from by decide +kernel) rfl put_a3 (Nat.zero_le _) rfl put_w3
theorem m4_55 : M4 55 [.val (.ref r),l1,l2,l3,l4] st H Q = M4 56 [.val (.ref r),l1,l2,l3,l4] (.ref r::st) H Q:=w_x (show decode kb4 55 = .ok (.aload_n 0,1) from by decide +kernel) rfl
theorem m4_56 : M4 56 ls (.ref b::st) (put b pre s A post) Q = M4 59 ls (.ref (b + 5)::st) (put b pre s A post) Q:=w_get (show decode kb4 56 = .ok (.getfield 22,3) from by decide +kernel) gf_22 put_o rfl
theorem m4_59 : M4 59 [l0,.val (.int v),l2,l3,l4] st H Q = M4 60 [l0,.val (.int v),l2,l3,l4] (.int v::st) H Q:=w_x (show decode kb4 59 = .ok (.iload_n 1,1) from by decide +kernel) rfl
theorem m4_60 : M4 60 [l0,l1,l2,l3,.val (.int v)] st H Q = M4 62 [l0,l1,l2,l3,.val (.int v)] (.int v::st) H Q:=w_x (show decode kb4 60 = .ok (.iload 4,2) from by decide +kernel) rfl
theorem m4_62  : M4 62 ls (.int v::.int j::.ref (b + 5)::st) (put b pre s A post) Q = (inB j (A 4)∧M4 63 ls st (put b pre s (ou A 4 (setA (A 4) j v)) post) Q):=w_ist (show decode kb4 62 = .ok (.iastore,1) from by decide +kernel) rfl put_a4 (Nat.zero_le _) rfl put_w4
theorem m4_63 : M4 63 ls st H Q = M4 64 ls (.int 1::st) H Q:=w_con (show decode kb4 63 = .ok (.iconst 1,1) from by decide +kernel) rfl (by decide)
theorem m4_64 : M4 64 ls (.int z::st) H Q = Q (some (.int (nar .boolean z))) H:=w_iretN (show decode kb4 64 = .ok (.ireturn,1) from by decide +kernel) rfl (by simp)
theorem m5_0 : M5 0 [.val (.ref r),l1,l2,l3,l4] st H Q = M5 1 [.val (.ref r),l1,l2,l3,l4] (.ref r::st) H Q:=w_x (show decode kb5 0 = .ok (.aload_n 0,1) from by decide +kernel) rfl
theorem m5_1 : M5 1 [l0,.val (.int v),l2,l3,l4] st H Q = M5 2 [l0,.val (.int v),l2,l3,l4] (.int v::st) H Q:=w_x (show decode kb5 1 = .ok (.iload_n 1,1) from by decide +kernel) rfl
theorem m5_2 : M5 2 ls st H Q = M5 3 ls (.int 0::st) H Q:=w_con (show decode kb5 2 = .ok (.iconst 0,1) from by decide +kernel) rfl (by decide)
theorem m5_3 : M5 3 ls st H Q = M5 5 ls (.int 31::st) H Q:=w_con (show decode kb5 3 = .ok (.bipush 31,2) from by decide +kernel) rfl (by decide)
theorem cr5_126 : vR tables_1 dn y5 126 = some (true,y2,prog_1_method_64_code,4,(some .boolean),3,14):=pR_of (cR_of (by decide +kernel) rc_2 dn_2 dn_5 (sig:=⟨[.int,.int,.int],some .boolean⟩) (by decide +kernel) (by decide +kernel) rfl rfl) (by decide +kernel) (by decide +kernel)
theorem m5_5 (a0 : Int32) (a1 : Int32) (a2 : Int32) : M5 5 ls [.int a2,.int a1,.int a0,.ref b] (put b pre s A post) Q = M2 0 [.val (.ref b),.val (.int a0),.val (.int a1),.val (.int a2)] [] (put b pre s A post) (fun v H1 => M5 8 ls (v.toList ++ []) H1 Q):=w_virt (as:=[.int a2,.int a1,.int a0]) (rest:=[]) (a:=b) (show decode kb5 5 = .ok (.invokevirtual 126,3) from by decide +kernel) cr5_126 put_o rfl rfl (Nat.le_of_ble_eq_true rfl) (by show 4≤4; omega) rfl
theorem m5_8 : M5 8 ls (.int x::st) H Q = if x = 0 then M5 11 ls st H Q else M5 13 ls st H Q:=w_ifN (show decode kb5 8 = .ok (.ifCond .ne 5,3) from by decide +kernel) (z_ne x) rfl
theorem m5_13 : M5 13 [.val (.ref r),l1,l2,l3,l4] st H Q = M5 14 [.val (.ref r),l1,l2,l3,l4] (.ref r::st) H Q:=w_x (show decode kb5 13 = .ok (.aload_n 0,1) from by decide +kernel) rfl
theorem m5_14 : M5 14 [l0,l1,.val (.int v),l3,l4] st H Q = M5 15 [l0,l1,.val (.int v),l3,l4] (.int v::st) H Q:=w_x (show decode kb5 14 = .ok (.iload_n 2,1) from by decide +kernel) rfl
theorem m5_15 : M5 15 ls st H Q = M5 16 ls (.int 0::st) H Q:=w_con (show decode kb5 15 = .ok (.iconst 0,1) from by decide +kernel) rfl (by decide)
theorem m5_16 : M5 16 ls st H Q = M5 18 ls (.int 7::st) H Q:=w_con (show decode kb5 16 = .ok (.bipush 7,2) from by decide +kernel) rfl (by decide)
theorem m5_18 (a0 : Int32) (a1 : Int32) (a2 : Int32) : M5 18 ls [.int a2,.int a1,.int a0,.ref b] (put b pre s A post) Q = M2 0 [.val (.ref b),.val (.int a0),.val (.int a1),.val (.int a2)] [] (put b pre s A post) (fun v H1 => M5 21 ls (v.toList ++ []) H1 Q):=w_virt (as:=[.int a2,.int a1,.int a0]) (rest:=[]) (a:=b) (show decode kb5 18 = .ok (.invokevirtual 126,3) from by decide +kernel) cr5_126 put_o rfl rfl (Nat.le_of_ble_eq_true rfl) (by show 4≤4; omega) rfl
theorem m5_21 : M5 21 ls (.int x::st) H Q = if x = 0 then M5 24 ls st H Q else M5 26 ls st H Q:=w_ifN (show decode kb5 21 = .ok (.ifCond .ne 5,3) from by decide +kernel) (z_ne x) rfl
theorem m5_26 : M5 26 [l0,l1,.val (.int v),l3,l4] st H Q = M5 27 [l0,l1,.val (.int v),l3,l4] (.int v::st) H Q:=w_x (show decode kb5 26 = .ok (.iload_n 2,1) from by decide +kernel) rfl
theorem m5_27 : M5 27 ls (.int x::st) H Q = if x = 0 then M5 30 ls st H Q else M5 32 ls st H Q:=w_ifN (show decode kb5 27 = .ok (.ifCond .ne 5,3) from by decide +kernel) (z_ne x) rfl
theorem m5_32 : M5 32 [.val (.ref r),l1,l2,l3,l4] st H Q = M5 33 [.val (.ref r),l1,l2,l3,l4] (.ref r::st) H Q:=w_x (show decode kb5 32 = .ok (.aload_n 0,1) from by decide +kernel) rfl
theorem m5_33 : M5 33 [l0,l1,l2,.val (.int v),l4] st H Q = M5 34 [l0,l1,l2,.val (.int v),l4] (.int v::st) H Q:=w_x (show decode kb5 33 = .ok (.iload_n 3,1) from by decide +kernel) rfl
theorem m5_34 : M5 34 ls st H Q = M5 35 ls (.int 0::st) H Q:=w_con (show decode kb5 34 = .ok (.iconst 0,1) from by decide +kernel) rfl (by decide)
theorem m5_35 : M5 35 ls st H Q = M5 37 ls (.int 7::st) H Q:=w_con (show decode kb5 35 = .ok (.bipush 7,2) from by decide +kernel) rfl (by decide)
theorem m5_37 (a0 : Int32) (a1 : Int32) (a2 : Int32) : M5 37 ls [.int a2,.int a1,.int a0,.ref b] (put b pre s A post) Q = M2 0 [.val (.ref b),.val (.int a0),.val (.int a1),.val (.int a2)] [] (put b pre s A post) (fun v H1 => M5 40 ls (v.toList ++ []) H1 Q):=w_virt (as:=[.int a2,.int a1,.int a0]) (rest:=[]) (a:=b) (show decode kb5 37 = .ok (.invokevirtual 126,3) from by decide +kernel) cr5_126 put_o rfl rfl (Nat.le_of_ble_eq_true rfl) (by show 4≤4; omega) rfl
theorem m5_40 : M5 40 ls (.int x::st) H Q = if x = 0 then M5 43 ls st H Q else M5 45 ls st H Q:=w_ifN (show decode kb5 40 = .ok (.ifCond .ne 5,3) from by decide +kernel) (z_ne x) rfl
theorem m5_45 : M5 45 [.val (.ref r),l1,l2,l3,l4] st H Q = M5 46 [.val (.ref r),l1,l2,l3,l4] (.ref r::st) H Q:=w_x (show decode kb5 45 = .ok (.aload_n 0,1) from by decide +kernel) rfl
theorem m5_46 : M5 46 [l0,l1,.val (.int v),l3,l4] st H Q = M5 47 [l0,l1,.val (.int v),l3,l4] (.int v::st) H Q:=w_x (show decode kb5 46 = .ok (.iload_n 2,1) from by decide +kernel) rfl
theorem m5_47 : M5 47 [l0,l1,l2,l3,.val (.int v)] st H Q = M5 49 [l0,l1,l2,l3,.val (.int v)] (.int v::st) H Q:=w_x (show decode kb5 47 = .ok (.iload 4,2) from by decide +kernel) rfl
theorem cr5_130 : vR tables_1 dn y5 130 = some (true,y6,prog_1_method_4_code,3,(some .boolean),2,0):=pR_of (cR_of (by decide +kernel) rc_6 dn_6 dn_5 (sig:=⟨[.int,.int],some .boolean⟩) (by decide +kernel) (by decide +kernel) rfl rfl) (by decide +kernel) (by decide +kernel)
theorem m5_49 (a0 : Int32) (a1 : Int32) : M5 49 ls [.int a1,.int a0,.ref b] (put b pre s A post) Q = M6 0 [.val (.ref b),.val (.int a0),.val (.int a1)] [] (put b pre s A post) (fun v H1 => M5 52 ls (v.toList ++ []) H1 Q):=w_virt (as:=[.int a1,.int a0]) (rest:=[]) (a:=b) (show decode kb5 49 = .ok (.invokevirtual 130,3) from by decide +kernel) cr5_130 put_o rfl rfl (Nat.le_of_ble_eq_true rfl) (by show 3≤3; omega) rfl
theorem m5_52 : M5 52 ls (.int z::st) H Q = Q (some (.int (nar .boolean z))) H:=w_iretN (show decode kb5 52 = .ok (.ireturn,1) from by decide +kernel) rfl (by simp)
theorem m6_0 : M6 0 [l0,.val (.int v),l2] st H Q = M6 1 [l0,.val (.int v),l2] (.int v::st) H Q:=w_x (show decode kb6 0 = .ok (.iload_n 1,1) from by decide +kernel) rfl
theorem m6_1 : M6 1 ls st H Q = M6 2 ls (.int 2::st) H Q:=w_con (show decode kb6 1 = .ok (.iconst 2,1) from by decide +kernel) rfl (by decide)
theorem m6_2 : M6 2 ls (.int y::.int x::st) H Q = if x = y then M6 21 ls st H Q else M6 5 ls st H Q:=w_icmp (show decode kb6 2 = .ok (.if_icmp .eq 19,3) from by decide +kernel) (i_eq x y) rfl
theorem m6_5 : M6 5 [l0,.val (.int v),l2] st H Q = M6 6 [l0,.val (.int v),l2] (.int v::st) H Q:=w_x (show decode kb6 5 = .ok (.iload_n 1,1) from by decide +kernel) rfl
theorem m6_6 : M6 6 ls st H Q = M6 7 ls (.int 3::st) H Q:=w_con (show decode kb6 6 = .ok (.iconst 3,1) from by decide +kernel) rfl (by decide)
theorem m6_7 : M6 7 ls (.int y::.int x::st) H Q = if x = y then M6 21 ls st H Q else M6 10 ls st H Q:=w_icmp (show decode kb6 7 = .ok (.if_icmp .eq 14,3) from by decide +kernel) (i_eq x y) rfl
theorem m6_10 : M6 10 [l0,.val (.int v),l2] st H Q = M6 11 [l0,.val (.int v),l2] (.int v::st) H Q:=w_x (show decode kb6 10 = .ok (.iload_n 1,1) from by decide +kernel) rfl
theorem m6_11 : M6 11 ls st H Q = M6 12 ls (.int 5::st) H Q:=w_con (show decode kb6 11 = .ok (.iconst 5,1) from by decide +kernel) rfl (by decide)
theorem m6_12 : M6 12 ls (.int y::.int x::st) H Q = if x = y then M6 21 ls st H Q else M6 15 ls st H Q:=w_icmp (show decode kb6 12 = .ok (.if_icmp .eq 9,3) from by decide +kernel) (i_eq x y) rfl
theorem m6_15 : M6 15 [l0,.val (.int v),l2] st H Q = M6 16 [l0,.val (.int v),l2] (.int v::st) H Q:=w_x (show decode kb6 15 = .ok (.iload_n 1,1) from by decide +kernel) rfl
theorem m6_16 : M6 16 ls st H Q = M6 18 ls (.int 6::st) H Q:=w_con (show decode kb6 16 = .ok (.bipush 6,2) from by decide +kernel) rfl (by decide)
theorem m6_18 : M6 18 ls (.int y::.int x::st) H Q = if x = y then M6 21 ls st H Q else M6 30 ls st H Q:=w_icmpN (show decode kb6 18 = .ok (.if_icmp .ne 12,3) from by decide +kernel) (i_ne x y) rfl
theorem m6_30 : M6 30 [l0,.val (.int v),l2] st H Q = M6 31 [l0,.val (.int v),l2] (.int v::st) H Q:=w_x (show decode kb6 30 = .ok (.iload_n 1,1) from by decide +kernel) rfl
theorem m6_31 : M6 31 ls st H Q = M6 33 ls (.int 7::st) H Q:=w_con (show decode kb6 31 = .ok (.bipush 7,2) from by decide +kernel) rfl (by decide)
theorem m6_33 : M6 33 ls (.int y::.int x::st) H Q = if x = y then M6 36 ls st H Q else M6 45 ls st H Q:=w_icmpN (show decode kb6 33 = .ok (.if_icmp .ne 12,3) from by decide +kernel) (i_ne x y) rfl
theorem m6_45 : M6 45 ls st H Q = M6 46 ls (.int 1::st) H Q:=w_con (show decode kb6 45 = .ok (.iconst 1,1) from by decide +kernel) rfl (by decide)
theorem m6_46 : M6 46 ls (.int z::st) H Q = Q (some (.int (nar .boolean z))) H:=w_iretN (show decode kb6 46 = .ok (.ireturn,1) from by decide +kernel) rfl (by simp)
theorem m7_0 : M7 0 [.val (.ref r),l1,l2] st H Q = M7 1 [.val (.ref r),l1,l2] (.ref r::st) H Q:=w_x (show decode kb7 0 = .ok (.aload_n 0,1) from by decide +kernel) rfl
theorem m7_1 : M7 1 ls (.ref b::st) (put b pre s A post) Q = M7 4 ls (.int (s 7)::st) (put b pre s A post) Q:=w_get (show decode kb7 1 = .ok (.getfield 144,3) from by decide +kernel) gf_144 put_o rfl
theorem m7_4 : M7 4 ls (.int x::st) H Q = if x < 0 then M7 16 ls st H Q else M7 7 ls st H Q:=w_if (show decode kb7 4 = .ok (.ifCond .lt 12,3) from by decide +kernel) (z_lt x) rfl
theorem m7_7 : M7 7 [.val (.ref r),l1,l2] st H Q = M7 8 [.val (.ref r),l1,l2] (.ref r::st) H Q:=w_x (show decode kb7 7 = .ok (.aload_n 0,1) from by decide +kernel) rfl
theorem m7_8 : M7 8 ls (.ref b::st) (put b pre s A post) Q = M7 11 ls (.int (s 7)::st) (put b pre s A post) Q:=w_get (show decode kb7 8 = .ok (.getfield 144,3) from by decide +kernel) gf_144 put_o rfl
theorem m7_11 : M7 11 ls st H Q = M7 13 ls (.int 32::st) H Q:=w_con (show decode kb7 11 = .ok (.bipush 32,2) from by decide +kernel) rfl (by decide)
theorem m7_13 : M7 13 ls (.int y::.int x::st) H Q = if x < y then M7 18 ls st H Q else M7 16 ls st H Q:=w_icmp (show decode kb7 13 = .ok (.if_icmp .lt 5,3) from by decide +kernel) (i_lt x y) rfl
theorem m7_18 : M7 18 [.val (.ref r),l1,l2] st H Q = M7 19 [.val (.ref r),l1,l2] (.ref r::st) H Q:=w_x (show decode kb7 18 = .ok (.aload_n 0,1) from by decide +kernel) rfl
theorem m7_19 : M7 19 [l0,.val (.int v),l2] st H Q = M7 20 [l0,.val (.int v),l2] (.int v::st) H Q:=w_x (show decode kb7 19 = .ok (.iload_n 1,1) from by decide +kernel) rfl
theorem m7_20 : M7 20 ls st H Q = M7 21 ls (.int 0::st) H Q:=w_con (show decode kb7 20 = .ok (.iconst 0,1) from by decide +kernel) rfl (by decide)
theorem m7_21 : M7 21 ls st H Q = M7 23 ls (.int 20::st) H Q:=w_con (show decode kb7 21 = .ok (.bipush 20,2) from by decide +kernel) rfl (by decide)
theorem cr7_126 : vR tables_1 dn y7 126 = some (true,y2,prog_1_method_64_code,4,(some .boolean),3,0):=pR_of (cR_of (by decide +kernel) rc_2 dn_2 dn_7 (sig:=⟨[.int,.int,.int],some .boolean⟩) (by decide +kernel) (by decide +kernel) rfl rfl) (by decide +kernel) (by decide +kernel)
theorem m7_23 (a0 : Int32) (a1 : Int32) (a2 : Int32) : M7 23 ls [.int a2,.int a1,.int a0,.ref b] (put b pre s A post) Q = M2 0 [.val (.ref b),.val (.int a0),.val (.int a1),.val (.int a2)] [] (put b pre s A post) (fun v H1 => M7 26 ls (v.toList ++ []) H1 Q):=w_virt (as:=[.int a2,.int a1,.int a0]) (rest:=[]) (a:=b) (show decode kb7 23 = .ok (.invokevirtual 126,3) from by decide +kernel) cr7_126 put_o rfl rfl (Nat.le_of_ble_eq_true rfl) (by show 4≤4; omega) rfl
theorem m7_26 : M7 26 ls (.int x::st) H Q = if x = 0 then M7 29 ls st H Q else M7 31 ls st H Q:=w_ifN (show decode kb7 26 = .ok (.ifCond .ne 5,3) from by decide +kernel) (z_ne x) rfl
theorem m7_31 : M7 31 [l0,.val (.int v),l2] st H Q = M7 32 [l0,.val (.int v),l2] (.int v::st) H Q:=w_x (show decode kb7 31 = .ok (.iload_n 1,1) from by decide +kernel) rfl
theorem m7_32 : M7 32 ls st H Q = M7 33 ls (.int 1::st) H Q:=w_con (show decode kb7 32 = .ok (.iconst 1,1) from by decide +kernel) rfl (by decide)
theorem m7_33 : M7 33 ls (.int y::.int x::st) H Q = if x = y then M7 36 ls st H Q else M7 49 ls st H Q:=w_icmpN (show decode kb7 33 = .ok (.if_icmp .ne 16,3) from by decide +kernel) (i_ne x y) rfl
theorem m7_36 : M7 36 [.val (.ref r),l1,l2] st H Q = M7 37 [.val (.ref r),l1,l2] (.ref r::st) H Q:=w_x (show decode kb7 36 = .ok (.aload_n 0,1) from by decide +kernel) rfl
theorem m7_37 : M7 37 [l0,l1,.val (.int v)] st H Q = M7 38 [l0,l1,.val (.int v)] (.int v::st) H Q:=w_x (show decode kb7 37 = .ok (.iload_n 2,1) from by decide +kernel) rfl
theorem m7_38 : M7 38 ls st H Q = M7 39 ls (.int 0::st) H Q:=w_con (show decode kb7 38 = .ok (.iconst 0,1) from by decide +kernel) rfl (by decide)
theorem m7_39 : M7 39 ls st H Q = M7 41 ls (.int 7::st) H Q:=w_con (show decode kb7 39 = .ok (.bipush 7,2) from by decide +kernel) rfl (by decide)
theorem m7_41 (a0 : Int32) (a1 : Int32) (a2 : Int32) : M7 41 ls [.int a2,.int a1,.int a0,.ref b] (put b pre s A post) Q = M2 0 [.val (.ref b),.val (.int a0),.val (.int a1),.val (.int a2)] [] (put b pre s A post) (fun v H1 => M7 44 ls (v.toList ++ []) H1 Q):=w_virt (as:=[.int a2,.int a1,.int a0]) (rest:=[]) (a:=b) (show decode kb7 41 = .ok (.invokevirtual 126,3) from by decide +kernel) cr7_126 put_o rfl rfl (Nat.le_of_ble_eq_true rfl) (by show 4≤4; omega) rfl
theorem m7_44 : M7 44 ls (.int x::st) H Q = if x = 0 then M7 47 ls st H Q else M7 49 ls st H Q:=w_ifN (show decode kb7 44 = .ok (.ifCond .ne 5,3) from by decide +kernel) (z_ne x) rfl
theorem m7_49 : M7 49 [.val (.ref r),l1,l2] st H Q = M7 50 [.val (.ref r),l1,l2] (.ref r::st) H Q:=w_x (show decode kb7 49 = .ok (.aload_n 0,1) from by decide +kernel) rfl
theorem m7_50 : M7 50 ls (.ref b::st) (put b pre s A post) Q = M7 53 ls (.ref (b + 6)::st) (put b pre s A post) Q:=w_get (show decode kb7 50 = .ok (.getfield 25,3) from by decide +kernel) gf_25 put_o rfl
theorem m7_53 : M7 53 [.val (.ref r),l1,l2] st H Q = M7 54 [.val (.ref r),l1,l2] (.ref r::st) H Q:=w_x (show decode kb7 53 = .ok (.aload_n 0,1) from by decide +kernel) rfl
theorem m7_54 : M7 54 ls (.ref b::st) (put b pre s A post) Q = M7 57 ls (.int (s 7)::st) (put b pre s A post) Q:=w_get (show decode kb7 54 = .ok (.getfield 144,3) from by decide +kernel) gf_144 put_o rfl
theorem m7_57 : M7 57 [l0,.val (.int v),l2] st H Q = M7 58 [l0,.val (.int v),l2] (.int v::st) H Q:=w_x (show decode kb7 57 = .ok (.iload_n 1,1) from by decide +kernel) rfl
theorem m7_58  : M7 58 ls (.int v::.int j::.ref (b + 6)::st) (put b pre s A post) Q = (inB j (A 5)∧M7 59 ls st (put b pre s (ou A 5 (setA (A 5) j v)) post) Q):=w_ist (show decode kb7 58 = .ok (.iastore,1) from by decide +kernel) rfl put_a5 (Nat.zero_le _) rfl put_w5
theorem m7_59 : M7 59 [l0,.val (.int v),l2] st H Q = M7 60 [l0,.val (.int v),l2] (.int v::st) H Q:=w_x (show decode kb7 59 = .ok (.iload_n 1,1) from by decide +kernel) rfl
theorem m7_60 : M7 60 ls (.int x::st) H Q = if x = 0 then M7 68 ls st H Q else M7 63 ls st H Q:=w_if (show decode kb7 60 = .ok (.ifCond .eq 8,3) from by decide +kernel) (z_eq x) rfl
theorem m7_63 : M7 63 [l0,.val (.int v),l2] st H Q = M7 64 [l0,.val (.int v),l2] (.int v::st) H Q:=w_x (show decode kb7 63 = .ok (.iload_n 1,1) from by decide +kernel) rfl
theorem m7_64 : M7 64 ls st H Q = M7 65 ls (.int 1::st) H Q:=w_con (show decode kb7 64 = .ok (.iconst 1,1) from by decide +kernel) rfl (by decide)
theorem m7_65 : M7 65 ls (.int y::.int x::st) H Q = if x = y then M7 68 ls st H Q else M7 81 ls st H Q:=w_icmpN (show decode kb7 65 = .ok (.if_icmp .ne 16,3) from by decide +kernel) (i_ne x y) rfl
theorem m7_68 : M7 68 [.val (.ref r),l1,l2] st H Q = M7 69 [.val (.ref r),l1,l2] (.ref r::st) H Q:=w_x (show decode kb7 68 = .ok (.aload_n 0,1) from by decide +kernel) rfl
theorem m7_69 : M7 69 ls (.ref b::st) (put b pre s A post) Q = M7 72 ls (.ref (b + 7)::st) (put b pre s A post) Q:=w_get (show decode kb7 69 = .ok (.getfield 28,3) from by decide +kernel) gf_28 put_o rfl
theorem m7_72 : M7 72 [.val (.ref r),l1,l2] st H Q = M7 73 [.val (.ref r),l1,l2] (.ref r::st) H Q:=w_x (show decode kb7 72 = .ok (.aload_n 0,1) from by decide +kernel) rfl
theorem m7_73 : M7 73 ls (.ref b::st) (put b pre s A post) Q = M7 76 ls (.int (s 7)::st) (put b pre s A post) Q:=w_get (show decode kb7 73 = .ok (.getfield 144,3) from by decide +kernel) gf_144 put_o rfl
theorem m7_76 : M7 76 [l0,l1,.val (.int v)] st H Q = M7 77 [l0,l1,.val (.int v)] (.int v::st) H Q:=w_x (show decode kb7 76 = .ok (.iload_n 2,1) from by decide +kernel) rfl
theorem m7_77  : M7 77 ls (.int v::.int j::.ref (b + 7)::st) (put b pre s A post) Q = (inB j (A 6)∧M7 78 ls st (put b pre s (ou A 6 (setA (A 6) j v)) post) Q):=w_ist (show decode kb7 77 = .ok (.iastore,1) from by decide +kernel) rfl put_a6 (Nat.zero_le _) rfl put_w6
theorem m7_78 : M7 78 ls st H Q = M7 91 ls st H Q:=w_x (show decode kb7 78 = .ok (.goto 13,3) from by decide +kernel) rfl
theorem m7_81 : M7 81 [.val (.ref r),l1,l2] st H Q = M7 82 [.val (.ref r),l1,l2] (.ref r::st) H Q:=w_x (show decode kb7 81 = .ok (.aload_n 0,1) from by decide +kernel) rfl
theorem m7_82 : M7 82 ls (.ref b::st) (put b pre s A post) Q = M7 85 ls (.ref (b + 7)::st) (put b pre s A post) Q:=w_get (show decode kb7 82 = .ok (.getfield 28,3) from by decide +kernel) gf_28 put_o rfl
theorem m7_85 : M7 85 [.val (.ref r),l1,l2] st H Q = M7 86 [.val (.ref r),l1,l2] (.ref r::st) H Q:=w_x (show decode kb7 85 = .ok (.aload_n 0,1) from by decide +kernel) rfl
theorem m7_86 : M7 86 ls (.ref b::st) (put b pre s A post) Q = M7 89 ls (.int (s 7)::st) (put b pre s A post) Q:=w_get (show decode kb7 86 = .ok (.getfield 144,3) from by decide +kernel) gf_144 put_o rfl
theorem m7_89 : M7 89 ls st H Q = M7 90 ls (.int 0::st) H Q:=w_con (show decode kb7 89 = .ok (.iconst 0,1) from by decide +kernel) rfl (by decide)
theorem m7_90  : M7 90 ls (.int v::.int j::.ref (b + 7)::st) (put b pre s A post) Q = (inB j (A 6)∧M7 91 ls st (put b pre s (ou A 6 (setA (A 6) j v)) post) Q):=w_ist (show decode kb7 90 = .ok (.iastore,1) from by decide +kernel) rfl put_a6 (Nat.zero_le _) rfl put_w6
theorem m7_91 : M7 91 [.val (.ref r),l1,l2] st H Q = M7 92 [.val (.ref r),l1,l2] (.ref r::st) H Q:=w_x (show decode kb7 91 = .ok (.aload_n 0,1) from by decide +kernel) rfl
theorem m7_92 : M7 92 [.val (.ref r),l1,l2] st H Q = M7 93 [.val (.ref r),l1,l2] (.ref r::st) H Q:=w_x (show decode kb7 92 = .ok (.aload_n 0,1) from by decide +kernel) rfl
theorem m7_93 : M7 93 ls (.ref b::st) (put b pre s A post) Q = M7 96 ls (.int (s 7)::st) (put b pre s A post) Q:=w_get (show decode kb7 93 = .ok (.getfield 144,3) from by decide +kernel) gf_144 put_o rfl
theorem m7_96 : M7 96 ls st H Q = M7 97 ls (.int 1::st) H Q:=w_con (show decode kb7 96 = .ok (.iconst 1,1) from by decide +kernel) rfl (by decide)
theorem m7_97 : M7 97 ls (.int y::.int x::st) H Q = M7 98 ls (.int (x + y)::st) H Q:=w_x (show decode kb7 97 = .ok (.iadd,1) from by decide +kernel) rfl
theorem pf7_144 : pfR tables_1 y7.cls y7.name 144 = some ("AgentExprDbg", 37,.int):=by decide +kernel
theorem m7_98 : M7 98 ls (.int v::.ref b::st) (put b pre s A post) Q = M7 101 ls st (put b pre (ou s 7 v) A post) Q:=w_put (show decode kb7 98 = .ok (.putfield 144,3) from by decide +kernel) pf7_144 put_o (Nat.zero_le _) (by show 37 < 60; omega) rfl put_s7
theorem m7_101 : M7 101 ls st H Q = M7 102 ls (.int 1::st) H Q:=w_con (show decode kb7 101 = .ok (.iconst 1,1) from by decide +kernel) rfl (by decide)
theorem m7_102 : M7 102 ls (.int z::st) H Q = Q (some (.int (nar .boolean z))) H:=w_iretN (show decode kb7 102 = .ok (.ireturn,1) from by decide +kernel) rfl (by simp)
theorem m8_0 : M8 0 [.val (.ref r),l1,l2] st H Q = M8 1 [.val (.ref r),l1,l2] (.ref r::st) H Q:=w_x (show decode kb8 0 = .ok (.aload_n 0,1) from by decide +kernel) rfl
theorem m8_1 : M8 1 [l0,.val (.int v),l2] st H Q = M8 2 [l0,.val (.int v),l2] (.int v::st) H Q:=w_x (show decode kb8 1 = .ok (.iload_n 1,1) from by decide +kernel) rfl
theorem cr8_147 : vR tables_1 dn y8 147 = some (true,y9,prog_1_method_11_code,2,(some .int),1,0):=pR_of (cR_of (by decide +kernel) rc_9 dn_9 dn_8 (sig:=⟨[.int],some .int⟩) (by decide +kernel) (by decide +kernel) rfl rfl) (by decide +kernel) (by decide +kernel)
theorem m8_2 (a0 : Int32) : M8 2 ls [.int a0,.ref b] (put b pre s A post) Q = M9 0 [.val (.ref b),.val (.int a0)] [] (put b pre s A post) (fun v H1 => M8 5 ls (v.toList ++ []) H1 Q):=w_virt (as:=[.int a0]) (rest:=[]) (a:=b) (show decode kb8 2 = .ok (.invokevirtual 147,3) from by decide +kernel) cr8_147 put_o rfl rfl (Nat.le_of_ble_eq_true rfl) (by show 2≤2; omega) rfl
theorem m8_5u : M8 5 [l0,l1,.unset] ((.int v)::st) H Q = M8 6 [l0,l1,.val (.int v)] st H Q:=w_st (i:=2) (p:=isI) (show decode kb8 5 = .ok (.istore_n 2,1) from by decide +kernel) rfl rfl rfl rfl rfl rfl
theorem m8_6 : M8 6 [.val (.ref r),l1,l2] st H Q = M8 7 [.val (.ref r),l1,l2] (.ref r::st) H Q:=w_x (show decode kb8 6 = .ok (.aload_n 0,1) from by decide +kernel) rfl
theorem m8_7 : M8 7 ls st H Q = M8 8 ls (.int 0::st) H Q:=w_con (show decode kb8 7 = .ok (.iconst 0,1) from by decide +kernel) rfl (by decide)
theorem pf8_144 : pfR tables_1 y8.cls y8.name 144 = some ("AgentExprDbg", 37,.int):=by decide +kernel
theorem m8_8 : M8 8 ls (.int v::.ref b::st) (put b pre s A post) Q = M8 11 ls st (put b pre (ou s 7 v) A post) Q:=w_put (show decode kb8 8 = .ok (.putfield 144,3) from by decide +kernel) pf8_144 put_o (Nat.zero_le _) (by show 37 < 60; omega) rfl put_s7
theorem m8_11 : M8 11 [l0,l1,.val (.int v)] st H Q = M8 12 [l0,l1,.val (.int v)] (.int v::st) H Q:=w_x (show decode kb8 11 = .ok (.iload_n 2,1) from by decide +kernel) rfl
theorem m8_12 : M8 12 ls (.int z::st) H Q = Q (some (.int z)) H:=w_iret (show decode kb8 12 = .ok (.ireturn,1) from by decide +kernel) rfl
theorem m9_0 : M9 0 [.val (.ref r),l1] st H Q = M9 1 [.val (.ref r),l1] (.ref r::st) H Q:=w_x (show decode kb9 0 = .ok (.aload_n 0,1) from by decide +kernel) rfl
theorem m9_1 : M9 1 [l0,.val (.int v)] st H Q = M9 2 [l0,.val (.int v)] (.int v::st) H Q:=w_x (show decode kb9 1 = .ok (.iload_n 1,1) from by decide +kernel) rfl
theorem m9_2 : M9 2 ls st H Q = M9 3 ls (.int 0::st) H Q:=w_con (show decode kb9 2 = .ok (.iconst 0,1) from by decide +kernel) rfl (by decide)
theorem m9_3 : M9 3 ls st H Q = M9 4 ls (.int 3::st) H Q:=w_con (show decode kb9 3 = .ok (.iconst 3,1) from by decide +kernel) rfl (by decide)
theorem cr9_126 : vR tables_1 dn y9 126 = some (true,y2,prog_1_method_64_code,4,(some .boolean),3,73):=pR_of (cR_of (by decide +kernel) rc_2 dn_2 dn_9 (sig:=⟨[.int,.int,.int],some .boolean⟩) (by decide +kernel) (by decide +kernel) rfl rfl) (by decide +kernel) (by decide +kernel)
theorem m9_4 (a0 : Int32) (a1 : Int32) (a2 : Int32) : M9 4 ls [.int a2,.int a1,.int a0,.ref b] (put b pre s A post) Q = M2 0 [.val (.ref b),.val (.int a0),.val (.int a1),.val (.int a2)] [] (put b pre s A post) (fun v H1 => M9 7 ls (v.toList ++ []) H1 Q):=w_virt (as:=[.int a2,.int a1,.int a0]) (rest:=[]) (a:=b) (show decode kb9 4 = .ok (.invokevirtual 126,3) from by decide +kernel) cr9_126 put_o rfl rfl (Nat.le_of_ble_eq_true rfl) (by show 4≤4; omega) rfl
theorem m9_7 : M9 7 ls (.int x::st) H Q = if x = 0 then M9 10 ls st H Q else M9 12 ls st H Q:=w_ifN (show decode kb9 7 = .ok (.ifCond .ne 5,3) from by decide +kernel) (z_ne x) rfl
theorem m9_12 : M9 12 [.val (.ref r),l1] st H Q = M9 13 [.val (.ref r),l1] (.ref r::st) H Q:=w_x (show decode kb9 12 = .ok (.aload_n 0,1) from by decide +kernel) rfl
theorem cr9_151 : vR tables_1 dn y9 151 = some (true,y10,prog_1_method_12_code,5,(some .boolean),0,0):=pR_of (cR_of (by decide +kernel) rc_10 dn_10 dn_9 (sig:=⟨[],some .boolean⟩) (by decide +kernel) (by decide +kernel) rfl rfl) (by decide +kernel) (by decide +kernel)
theorem m9_13 : M9 13 ls [.ref b] (put b pre s A post) Q = M10 0 [.val (.ref b),.unset,.unset,.unset,.unset] [] (put b pre s A post) (fun v H1 => M9 16 ls (v.toList ++ []) H1 Q):=w_virt (as:=[]) (rest:=[]) (a:=b) (show decode kb9 13 = .ok (.invokevirtual 151,3) from by decide +kernel) cr9_151 put_o rfl rfl (Nat.le_of_ble_eq_true rfl) (by show 1≤5; omega) rfl
theorem m9_16 : M9 16 ls (.int x::st) H Q = if x = 0 then M9 19 ls st H Q else M9 21 ls st H Q:=w_ifN (show decode kb9 16 = .ok (.ifCond .ne 5,3) from by decide +kernel) (z_ne x) rfl
theorem m9_21 : M9 21 [.val (.ref r),l1] st H Q = M9 22 [.val (.ref r),l1] (.ref r::st) H Q:=w_x (show decode kb9 21 = .ok (.aload_n 0,1) from by decide +kernel) rfl
theorem m9_22 : M9 22 ls (.ref b::st) (put b pre s A post) Q = M9 25 ls (.int (s 9)::st) (put b pre s A post) Q:=w_get (show decode kb9 22 = .ok (.getfield 155,3) from by decide +kernel) gf_155 put_o rfl
theorem m9_25 : M9 25 ls st H Q = M9 26 ls (.int 4::st) H Q:=w_con (show decode kb9 25 = .ok (.iconst 4,1) from by decide +kernel) rfl (by decide)
theorem m9_26 : M9 26 ls (.int y::.int x::st) H Q = if y < x then M9 29 ls st H Q else M9 31 ls st H Q:=w_icmpN (show decode kb9 26 = .ok (.if_icmp .le 5,3) from by decide +kernel) (i_le x y) rfl
theorem m9_31 : M9 31 [.val (.ref r),l1] st H Q = M9 32 [.val (.ref r),l1] (.ref r::st) H Q:=w_x (show decode kb9 31 = .ok (.aload_n 0,1) from by decide +kernel) rfl
theorem m9_32 : M9 32 ls (.ref b::st) (put b pre s A post) Q = M9 35 ls (.int (s 11)::st) (put b pre s A post) Q:=w_get (show decode kb9 32 = .ok (.getfield 158,3) from by decide +kernel) gf_158 put_o rfl
theorem m9_35 : M9 35 ls st H Q = M9 37 ls (.int 6::st) H Q:=w_con (show decode kb9 35 = .ok (.bipush 6,2) from by decide +kernel) rfl (by decide)
theorem m9_37 : M9 37 ls (.int y::.int x::st) H Q = if y < x then M9 40 ls st H Q else M9 42 ls st H Q:=w_icmpN (show decode kb9 37 = .ok (.if_icmp .le 5,3) from by decide +kernel) (i_le x y) rfl
theorem m9_42 : M9 42 [.val (.ref r),l1] st H Q = M9 43 [.val (.ref r),l1] (.ref r::st) H Q:=w_x (show decode kb9 42 = .ok (.aload_n 0,1) from by decide +kernel) rfl
theorem m9_43 : M9 43 [l0,.val (.int v)] st H Q = M9 44 [l0,.val (.int v)] (.int v::st) H Q:=w_x (show decode kb9 43 = .ok (.iload_n 1,1) from by decide +kernel) rfl
theorem cr9_161 : vR tables_1 dn y9 161 = some (true,y27,prog_1_method_30_code,5,none,1,57):=pR_of (cR_of (by decide +kernel) rc_27 dn_27 dn_9 (sig:=⟨[.int],none⟩) (by decide +kernel) (by decide +kernel) rfl rfl) (by decide +kernel) (by decide +kernel)
theorem m9_44 (a0 : Int32) : M9 44 ls [.int a0,.ref b] (put b pre s A post) Q = M27 0 [.val (.ref b),.val (.int a0),.unset,.unset,.unset] [] (put b pre s A post) (fun v H1 => M9 47 ls (v.toList ++ []) H1 Q):=w_virt (as:=[.int a0]) (rest:=[]) (a:=b) (show decode kb9 44 = .ok (.invokevirtual 161,3) from by decide +kernel) cr9_161 put_o rfl rfl (Nat.le_of_ble_eq_true rfl) (by show 2≤5; omega) rfl
theorem m9_47 : M9 47 ls st H Q = M9 48 ls (.int 0::st) H Q:=w_con (show decode kb9 47 = .ok (.iconst 0,1) from by decide +kernel) rfl (by decide)
theorem m9_48 : M9 48 ls (.int z::st) H Q = Q (some (.int z)) H:=w_iret (show decode kb9 48 = .ok (.ireturn,1) from by decide +kernel) rfl
theorem m10_0 : M10 0 [.val (.ref r),l1,l2,l3,l4] st H Q = M10 1 [.val (.ref r),l1,l2,l3,l4] (.ref r::st) H Q:=w_x (show decode kb10 0 = .ok (.aload_n 0,1) from by decide +kernel) rfl
theorem cr10_165 : vR tables_1 dn y10 165 = some (true,y11,prog_1_method_13_code,1,none,0,60):=pR_of (cR_of (by decide +kernel) rc_11 dn_11 dn_10 (sig:=⟨[],none⟩) (by decide +kernel) (by decide +kernel) rfl rfl) (by decide +kernel) (by decide +kernel)
theorem m10_1 : M10 1 ls [.ref b] (put b pre s A post) Q = M11 0 [.val (.ref b)] [] (put b pre s A post) (fun v H1 => M10 4 ls (v.toList ++ []) H1 Q):=w_virt (as:=[]) (rest:=[]) (a:=b) (show decode kb10 1 = .ok (.invokevirtual 165,3) from by decide +kernel) cr10_165 put_o rfl rfl (Nat.le_of_ble_eq_true rfl) (by show 1≤1; omega) rfl
theorem m10_4 : M10 4 [.val (.ref r),l1,l2,l3,l4] st H Q = M10 5 [.val (.ref r),l1,l2,l3,l4] (.ref r::st) H Q:=w_x (show decode kb10 4 = .ok (.aload_n 0,1) from by decide +kernel) rfl
theorem m10_5 : M10 5 ls (.ref b::st) (put b pre s A post) Q = M10 8 ls (.int (s 7)::st) (put b pre s A post) Q:=w_get (show decode kb10 5 = .ok (.getfield 144,3) from by decide +kernel) gf_144 put_o rfl
theorem m10_8 : M10 8 ls (.int x::st) H Q = if 0 < x then M10 13 ls st H Q else M10 11 ls st H Q:=w_if (show decode kb10 8 = .ok (.ifCond .gt 5,3) from by decide +kernel) (z_gt x) rfl
theorem m10_13 : M10 13 ls st H Q = M10 14 ls (.int 0::st) H Q:=w_con (show decode kb10 13 = .ok (.iconst 0,1) from by decide +kernel) rfl (by decide)
theorem m10_14u : M10 14 [l0,.unset,l2,l3,l4] ((.int v)::st) H Q = M10 15 [l0,.val (.int v),l2,l3,l4] st H Q:=w_st (i:=1) (p:=isI) (show decode kb10 14 = .ok (.istore_n 1,1) from by decide +kernel) rfl rfl rfl rfl rfl rfl
theorem m10_15 : M10 15 [l0,.val (.int v),l2,l3,l4] st H Q = M10 16 [l0,.val (.int v),l2,l3,l4] (.int v::st) H Q:=w_x (show decode kb10 15 = .ok (.iload_n 1,1) from by decide +kernel) rfl
theorem m10_16 : M10 16 ls st H Q = M10 18 ls (.int 32::st) H Q:=w_con (show decode kb10 16 = .ok (.bipush 32,2) from by decide +kernel) rfl (by decide)
theorem m10_18 : M10 18 ls (.int y::.int x::st) H Q = if x < y then M10 21 ls st H Q else M10 79 ls st H Q:=w_icmpN (show decode kb10 18 = .ok (.if_icmp .ge 61,3) from by decide +kernel) (i_ge x y) rfl
theorem m10_21 : M10 21 [l0,.val (.int v),l2,l3,l4] st H Q = M10 22 [l0,.val (.int v),l2,l3,l4] (.int v::st) H Q:=w_x (show decode kb10 21 = .ok (.iload_n 1,1) from by decide +kernel) rfl
theorem m10_22 : M10 22 [.val (.ref r),l1,l2,l3,l4] st H Q = M10 23 [.val (.ref r),l1,l2,l3,l4] (.ref r::st) H Q:=w_x (show decode kb10 22 = .ok (.aload_n 0,1) from by decide +kernel) rfl
theorem m10_23 : M10 23 ls (.ref b::st) (put b pre s A post) Q = M10 26 ls (.int (s 7)::st) (put b pre s A post) Q:=w_get (show decode kb10 23 = .ok (.getfield 144,3) from by decide +kernel) gf_144 put_o rfl
theorem m10_26 : M10 26 ls (.int y::.int x::st) H Q = if x < y then M10 29 ls st H Q else M10 79 ls st H Q:=w_icmpN (show decode kb10 26 = .ok (.if_icmp .ge 53,3) from by decide +kernel) (i_ge x y) rfl
theorem m10_29 : M10 29 [.val (.ref r),l1,l2,l3,l4] st H Q = M10 30 [.val (.ref r),l1,l2,l3,l4] (.ref r::st) H Q:=w_x (show decode kb10 29 = .ok (.aload_n 0,1) from by decide +kernel) rfl
theorem m10_30 : M10 30 ls (.ref b::st) (put b pre s A post) Q = M10 33 ls (.ref (b + 6)::st) (put b pre s A post) Q:=w_get (show decode kb10 30 = .ok (.getfield 25,3) from by decide +kernel) gf_25 put_o rfl
theorem m10_33 : M10 33 [l0,.val (.int v),l2,l3,l4] st H Q = M10 34 [l0,.val (.int v),l2,l3,l4] (.int v::st) H Q:=w_x (show decode kb10 33 = .ok (.iload_n 1,1) from by decide +kernel) rfl
theorem m10_34  : M10 34 ls (.int j::.ref (b + 6)::st) (put b pre s A post) Q = (inB j (A 5)∧M10 35 ls (.int (getA (A 5) j)::st) (put b pre s A post) Q):=w_ild (show decode kb10 34 = .ok (.iaload,1) from by decide +kernel) rfl put_a5
theorem m10_35u : M10 35 [l0,l1,.unset,l3,l4] ((.int v)::st) H Q = M10 36 [l0,l1,.val (.int v),l3,l4] st H Q:=w_st (i:=2) (p:=isI) (show decode kb10 35 = .ok (.istore_n 2,1) from by decide +kernel) rfl rfl rfl rfl rfl rfl
theorem m10_35i : M10 35 [l0,l1,.val (.int z),l3,l4] ((.int v)::st) H Q = M10 36 [l0,l1,.val (.int v),l3,l4] st H Q:=w_st (i:=2) (p:=isI) (show decode kb10 35 = .ok (.istore_n 2,1) from by decide +kernel) rfl rfl rfl rfl rfl rfl
theorem m10_35r : M10 35 [l0,l1,.val (.ref q),l3,l4] ((.int v)::st) H Q = M10 36 [l0,l1,.val (.int v),l3,l4] st H Q:=w_st (i:=2) (p:=isI) (show decode kb10 35 = .ok (.istore_n 2,1) from by decide +kernel) rfl rfl rfl rfl rfl rfl
theorem m10_36 : M10 36 [.val (.ref r),l1,l2,l3,l4] st H Q = M10 37 [.val (.ref r),l1,l2,l3,l4] (.ref r::st) H Q:=w_x (show decode kb10 36 = .ok (.aload_n 0,1) from by decide +kernel) rfl
theorem m10_37 : M10 37 ls (.ref b::st) (put b pre s A post) Q = M10 40 ls (.ref (b + 7)::st) (put b pre s A post) Q:=w_get (show decode kb10 37 = .ok (.getfield 28,3) from by decide +kernel) gf_28 put_o rfl
theorem m10_40 : M10 40 [l0,.val (.int v),l2,l3,l4] st H Q = M10 41 [l0,.val (.int v),l2,l3,l4] (.int v::st) H Q:=w_x (show decode kb10 40 = .ok (.iload_n 1,1) from by decide +kernel) rfl
theorem m10_41  : M10 41 ls (.int j::.ref (b + 7)::st) (put b pre s A post) Q = (inB j (A 6)∧M10 42 ls (.int (getA (A 6) j)::st) (put b pre s A post) Q):=w_ild (show decode kb10 41 = .ok (.iaload,1) from by decide +kernel) rfl put_a6
theorem m10_42u : M10 42 [l0,l1,l2,.unset,l4] ((.int v)::st) H Q = M10 43 [l0,l1,l2,.val (.int v),l4] st H Q:=w_st (i:=3) (p:=isI) (show decode kb10 42 = .ok (.istore_n 3,1) from by decide +kernel) rfl rfl rfl rfl rfl rfl
theorem m10_42i : M10 42 [l0,l1,l2,.val (.int z),l4] ((.int v)::st) H Q = M10 43 [l0,l1,l2,.val (.int v),l4] st H Q:=w_st (i:=3) (p:=isI) (show decode kb10 42 = .ok (.istore_n 3,1) from by decide +kernel) rfl rfl rfl rfl rfl rfl
theorem m10_42r : M10 42 [l0,l1,l2,.val (.ref q),l4] ((.int v)::st) H Q = M10 43 [l0,l1,l2,.val (.int v),l4] st H Q:=w_st (i:=3) (p:=isI) (show decode kb10 42 = .ok (.istore_n 3,1) from by decide +kernel) rfl rfl rfl rfl rfl rfl
theorem m10_43 : M10 43 [.val (.ref r),l1,l2,l3,l4] st H Q = M10 44 [.val (.ref r),l1,l2,l3,l4] (.ref r::st) H Q:=w_x (show decode kb10 43 = .ok (.aload_n 0,1) from by decide +kernel) rfl
theorem m10_44 : M10 44 ls (.ref b::st) (put b pre s A post) Q = M10 47 ls (.int (s 12)::st) (put b pre s A post) Q:=w_get (show decode kb10 44 = .ok (.getfield 168,3) from by decide +kernel) gf_168 put_o rfl
theorem m10_47 : M10 47 ls (.int x::st) H Q = if x = 0 then M10 59 ls st H Q else M10 50 ls st H Q:=w_if (show decode kb10 47 = .ok (.ifCond .eq 12,3) from by decide +kernel) (z_eq x) rfl
theorem m10_50 : M10 50 [.val (.ref r),l1,l2,l3,l4] st H Q = M10 51 [.val (.ref r),l1,l2,l3,l4] (.ref r::st) H Q:=w_x (show decode kb10 50 = .ok (.aload_n 0,1) from by decide +kernel) rfl
theorem m10_51 : M10 51 [l0,l1,.val (.int v),l3,l4] st H Q = M10 52 [l0,l1,.val (.int v),l3,l4] (.int v::st) H Q:=w_x (show decode kb10 51 = .ok (.iload_n 2,1) from by decide +kernel) rfl
theorem m10_52 : M10 52 [l0,l1,l2,.val (.int v),l4] st H Q = M10 53 [l0,l1,l2,.val (.int v),l4] (.int v::st) H Q:=w_x (show decode kb10 52 = .ok (.iload_n 3,1) from by decide +kernel) rfl
theorem cr10_171 : vR tables_1 dn y10 171 = some (true,y12,prog_1_method_14_code,3,(some .boolean),2,44):=pR_of (cR_of (by decide +kernel) rc_12 dn_12 dn_10 (sig:=⟨[.int,.int],some .boolean⟩) (by decide +kernel) (by decide +kernel) rfl rfl) (by decide +kernel) (by decide +kernel)
theorem m10_53 (a0 : Int32) (a1 : Int32) : M10 53 ls [.int a1,.int a0,.ref b] (put b pre s A post) Q = M12 0 [.val (.ref b),.val (.int a0),.val (.int a1)] [] (put b pre s A post) (fun v H1 => M10 56 ls (v.toList ++ []) H1 Q):=w_virt (as:=[.int a1,.int a0]) (rest:=[]) (a:=b) (show decode kb10 53 = .ok (.invokevirtual 171,3) from by decide +kernel) cr10_171 put_o rfl rfl (Nat.le_of_ble_eq_true rfl) (by show 3≤3; omega) rfl
theorem m10_56 : M10 56 ls st H Q = M10 64 ls st H Q:=w_x (show decode kb10 56 = .ok (.goto 8,3) from by decide +kernel) rfl
theorem m10_59 : M10 59 [.val (.ref r),l1,l2,l3,l4] st H Q = M10 60 [.val (.ref r),l1,l2,l3,l4] (.ref r::st) H Q:=w_x (show decode kb10 59 = .ok (.aload_n 0,1) from by decide +kernel) rfl
theorem m10_60 : M10 60 [l0,l1,.val (.int v),l3,l4] st H Q = M10 61 [l0,l1,.val (.int v),l3,l4] (.int v::st) H Q:=w_x (show decode kb10 60 = .ok (.iload_n 2,1) from by decide +kernel) rfl
theorem cr10_174 : vR tables_1 dn y10 174 = some (true,y15,prog_1_method_15_code,2,(some .boolean),1,0):=pR_of (cR_of (by decide +kernel) rc_15 dn_15 dn_10 (sig:=⟨[.int],some .boolean⟩) (by decide +kernel) (by decide +kernel) rfl rfl) (by decide +kernel) (by decide +kernel)
theorem m10_61 (a0 : Int32) : M10 61 ls [.int a0,.ref b] (put b pre s A post) Q = M15 0 [.val (.ref b),.val (.int a0)] [] (put b pre s A post) (fun v H1 => M10 64 ls (v.toList ++ []) H1 Q):=w_virt (as:=[.int a0]) (rest:=[]) (a:=b) (show decode kb10 61 = .ok (.invokevirtual 174,3) from by decide +kernel) cr10_174 put_o rfl rfl (Nat.le_of_ble_eq_true rfl) (by show 2≤2; omega) rfl
theorem m10_64u : M10 64 [l0,l1,l2,l3,.unset] ((.int v)::st) H Q = M10 66 [l0,l1,l2,l3,.val (.int v)] st H Q:=w_st (i:=4) (p:=isI) (show decode kb10 64 = .ok (.istore 4,2) from by decide +kernel) rfl rfl rfl rfl rfl rfl
theorem m10_64i : M10 64 [l0,l1,l2,l3,.val (.int z)] ((.int v)::st) H Q = M10 66 [l0,l1,l2,l3,.val (.int v)] st H Q:=w_st (i:=4) (p:=isI) (show decode kb10 64 = .ok (.istore 4,2) from by decide +kernel) rfl rfl rfl rfl rfl rfl
theorem m10_64r : M10 64 [l0,l1,l2,l3,.val (.ref q)] ((.int v)::st) H Q = M10 66 [l0,l1,l2,l3,.val (.int v)] st H Q:=w_st (i:=4) (p:=isI) (show decode kb10 64 = .ok (.istore 4,2) from by decide +kernel) rfl rfl rfl rfl rfl rfl
theorem m10_66 : M10 66 [l0,l1,l2,l3,.val (.int v)] st H Q = M10 68 [l0,l1,l2,l3,.val (.int v)] (.int v::st) H Q:=w_x (show decode kb10 66 = .ok (.iload 4,2) from by decide +kernel) rfl
theorem m10_68 : M10 68 ls (.int x::st) H Q = if x = 0 then M10 71 ls st H Q else M10 73 ls st H Q:=w_ifN (show decode kb10 68 = .ok (.ifCond .ne 5,3) from by decide +kernel) (z_ne x) rfl
theorem m10_73 : M10 73 [l0,.val (.int v),l2,l3,l4] st H Q = M10 76 [l0,.val (.int (v + 1)),l2,l3,l4] st H Q:=w_iinc (show decode kb10 73 = .ok (.iinc 1 1,3) from by decide +kernel) rfl (by decide) rfl
theorem m10_76 : M10 76 ls st H Q = M10 15 ls st H Q:=w_x (show decode kb10 76 = .ok (.goto (-61),3) from by decide +kernel) rfl
theorem m10_79 : M10 79 [.val (.ref r),l1,l2,l3,l4] st H Q = M10 80 [.val (.ref r),l1,l2,l3,l4] (.ref r::st) H Q:=w_x (show decode kb10 79 = .ok (.aload_n 0,1) from by decide +kernel) rfl
theorem cr10_178 : vR tables_1 dn y10 178 = some (true,y26,prog_1_method_22_code,1,(some .boolean),0,16):=pR_of (cR_of (by decide +kernel) rc_26 dn_26 dn_10 (sig:=⟨[],some .boolean⟩) (by decide +kernel) (by decide +kernel) rfl rfl) (by decide +kernel) (by decide +kernel)
theorem m10_80 : M10 80 ls [.ref b] (put b pre s A post) Q = M26 0 [.val (.ref b)] [] (put b pre s A post) (fun v H1 => M10 83 ls (v.toList ++ []) H1 Q):=w_virt (as:=[]) (rest:=[]) (a:=b) (show decode kb10 80 = .ok (.invokevirtual 178,3) from by decide +kernel) cr10_178 put_o rfl rfl (Nat.le_of_ble_eq_true rfl) (by show 1≤1; omega) rfl
theorem m10_83 : M10 83 ls (.int z::st) H Q = Q (some (.int (nar .boolean z))) H:=w_iretN (show decode kb10 83 = .ok (.ireturn,1) from by decide +kernel) rfl (by simp)
theorem m11_0 : M11 0 [.val (.ref r)] st H Q = M11 1 [.val (.ref r)] (.ref r::st) H Q:=w_x (show decode kb11 0 = .ok (.aload_n 0,1) from by decide +kernel) rfl
theorem m11_1 : M11 1 ls st H Q = M11 2 ls (.int 0::st) H Q:=w_con (show decode kb11 1 = .ok (.iconst 0,1) from by decide +kernel) rfl (by decide)
theorem pf11_181 : pfR tables_1 y11.cls y11.name 181 = some ("AgentExprDbg", 38,.int):=by decide +kernel
theorem m11_2 : M11 2 ls (.int v::.ref b::st) (put b pre s A post) Q = M11 5 ls st (put b pre (ou s 8 v) A post) Q:=w_put (show decode kb11 2 = .ok (.putfield 181,3) from by decide +kernel) pf11_181 put_o (Nat.zero_le _) (by show 38 < 60; omega) rfl put_s8
theorem m11_5 : M11 5 [.val (.ref r)] st H Q = M11 6 [.val (.ref r)] (.ref r::st) H Q:=w_x (show decode kb11 5 = .ok (.aload_n 0,1) from by decide +kernel) rfl
theorem m11_6 : M11 6 ls st H Q = M11 7 ls (.int 0::st) H Q:=w_con (show decode kb11 6 = .ok (.iconst 0,1) from by decide +kernel) rfl (by decide)
theorem pf11_155 : pfR tables_1 y11.cls y11.name 155 = some ("AgentExprDbg", 39,.int):=by decide +kernel
theorem m11_7 : M11 7 ls (.int v::.ref b::st) (put b pre s A post) Q = M11 10 ls st (put b pre (ou s 9 v) A post) Q:=w_put (show decode kb11 7 = .ok (.putfield 155,3) from by decide +kernel) pf11_155 put_o (Nat.zero_le _) (by show 39 < 60; omega) rfl put_s9
theorem m11_10 : M11 10 [.val (.ref r)] st H Q = M11 11 [.val (.ref r)] (.ref r::st) H Q:=w_x (show decode kb11 10 = .ok (.aload_n 0,1) from by decide +kernel) rfl
theorem m11_11 : M11 11 ls st H Q = M11 12 ls (.int 0::st) H Q:=w_con (show decode kb11 11 = .ok (.iconst 0,1) from by decide +kernel) rfl (by decide)
theorem pf11_184 : pfR tables_1 y11.cls y11.name 184 = some ("AgentExprDbg", 40,.int):=by decide +kernel
theorem m11_12 : M11 12 ls (.int v::.ref b::st) (put b pre s A post) Q = M11 15 ls st (put b pre (ou s 10 v) A post) Q:=w_put (show decode kb11 12 = .ok (.putfield 184,3) from by decide +kernel) pf11_184 put_o (Nat.zero_le _) (by show 40 < 60; omega) rfl put_s10
theorem m11_15 : M11 15 [.val (.ref r)] st H Q = M11 16 [.val (.ref r)] (.ref r::st) H Q:=w_x (show decode kb11 15 = .ok (.aload_n 0,1) from by decide +kernel) rfl
theorem m11_16 : M11 16 ls st H Q = M11 17 ls (.int 0::st) H Q:=w_con (show decode kb11 16 = .ok (.iconst 0,1) from by decide +kernel) rfl (by decide)
theorem pf11_158 : pfR tables_1 y11.cls y11.name 158 = some ("AgentExprDbg", 41,.int):=by decide +kernel
theorem m11_17 : M11 17 ls (.int v::.ref b::st) (put b pre s A post) Q = M11 20 ls st (put b pre (ou s 11 v) A post) Q:=w_put (show decode kb11 17 = .ok (.putfield 158,3) from by decide +kernel) pf11_158 put_o (Nat.zero_le _) (by show 41 < 60; omega) rfl put_s11
theorem m11_20 : M11 20 [.val (.ref r)] st H Q = M11 21 [.val (.ref r)] (.ref r::st) H Q:=w_x (show decode kb11 20 = .ok (.aload_n 0,1) from by decide +kernel) rfl
theorem m11_21 : M11 21 ls st H Q = M11 22 ls (.int 1::st) H Q:=w_con (show decode kb11 21 = .ok (.iconst 1,1) from by decide +kernel) rfl (by decide)
theorem pf11_168 : pfR tables_1 y11.cls y11.name 168 = some ("AgentExprDbg", 42,.boolean):=by decide +kernel
theorem m11_22 : M11 22 ls (.int v::.ref b::st) (put b pre s A post) Q = M11 25 ls st (put b pre (ou s 12 (nar .boolean v)) A post) Q:=w_put (show decode kb11 22 = .ok (.putfield 168,3) from by decide +kernel) pf11_168 put_o (Nat.zero_le _) (by show 42 < 60; omega) rfl put_s12
theorem m11_25 : M11 25 [.val (.ref r)] st H Q = M11 26 [.val (.ref r)] (.ref r::st) H Q:=w_x (show decode kb11 25 = .ok (.aload_n 0,1) from by decide +kernel) rfl
theorem m11_26 : M11 26 ls st H Q = M11 27 ls (.int 0::st) H Q:=w_con (show decode kb11 26 = .ok (.iconst 0,1) from by decide +kernel) rfl (by decide)
theorem pf11_187 : pfR tables_1 y11.cls y11.name 187 = some ("AgentExprDbg", 43,.int):=by decide +kernel
theorem m11_27 : M11 27 ls (.int v::.ref b::st) (put b pre s A post) Q = M11 30 ls st (put b pre (ou s 13 v) A post) Q:=w_put (show decode kb11 27 = .ok (.putfield 187,3) from by decide +kernel) pf11_187 put_o (Nat.zero_le _) (by show 43 < 60; omega) rfl put_s13
theorem m11_30 : M11 30 [.val (.ref r)] st H Q = M11 31 [.val (.ref r)] (.ref r::st) H Q:=w_x (show decode kb11 30 = .ok (.aload_n 0,1) from by decide +kernel) rfl
theorem m11_31 : M11 31 ls st H Q = M11 32 ls (.int 0::st) H Q:=w_con (show decode kb11 31 = .ok (.iconst 0,1) from by decide +kernel) rfl (by decide)
theorem pf11_190 : pfR tables_1 y11.cls y11.name 190 = some ("AgentExprDbg", 44,.int):=by decide +kernel
theorem m11_32 : M11 32 ls (.int v::.ref b::st) (put b pre s A post) Q = M11 35 ls st (put b pre (ou s 14 v) A post) Q:=w_put (show decode kb11 32 = .ok (.putfield 190,3) from by decide +kernel) pf11_190 put_o (Nat.zero_le _) (by show 44 < 60; omega) rfl put_s14
theorem m11_35 : M11 35 ls [] H Q = Q none H:=w_vret (show decode kb11 35 = .ok (.return_,1) from by decide +kernel) rfl
theorem m12_0 : M12 0 [l0,.val (.int v),l2] st H Q = M12 1 [l0,.val (.int v),l2] (.int v::st) H Q:=w_x (show decode kb12 0 = .ok (.iload_n 1,1) from by decide +kernel) rfl
theorem m12_1 : M12 1 ls (.int x::st) H Q = if x = 0 then M12 9 ls st H Q else M12 4 ls st H Q:=w_if (show decode kb12 1 = .ok (.ifCond .eq 8,3) from by decide +kernel) (z_eq x) rfl
theorem m12_4 : M12 4 [l0,.val (.int v),l2] st H Q = M12 5 [l0,.val (.int v),l2] (.int v::st) H Q:=w_x (show decode kb12 4 = .ok (.iload_n 1,1) from by decide +kernel) rfl
theorem m12_5 : M12 5 ls st H Q = M12 6 ls (.int 1::st) H Q:=w_con (show decode kb12 5 = .ok (.iconst 1,1) from by decide +kernel) rfl (by decide)
theorem m12_6 : M12 6 ls (.int y::.int x::st) H Q = if x = y then M12 9 ls st H Q else M12 37 ls st H Q:=w_icmpN (show decode kb12 6 = .ok (.if_icmp .ne 31,3) from by decide +kernel) (i_ne x y) rfl
theorem m12_9 : M12 9 [.val (.ref r),l1,l2] st H Q = M12 10 [.val (.ref r),l1,l2] (.ref r::st) H Q:=w_x (show decode kb12 9 = .ok (.aload_n 0,1) from by decide +kernel) rfl
theorem m12_10 : M12 10 ls st H Q = M12 11 ls (.int 1::st) H Q:=w_con (show decode kb12 10 = .ok (.iconst 1,1) from by decide +kernel) rfl (by decide)
theorem cr12_193 : vR tables_1 dn y12 193 = some (true,y13,prog_1_method_24_code,2,(some .boolean),1,1):=pR_of (cR_of (by decide +kernel) rc_13 dn_13 dn_12 (sig:=⟨[.int],some .boolean⟩) (by decide +kernel) (by decide +kernel) rfl rfl) (by decide +kernel) (by decide +kernel)
theorem m12_11 (a0 : Int32) : M12 11 ls [.int a0,.ref b] (put b pre s A post) Q = M13 0 [.val (.ref b),.val (.int a0)] [] (put b pre s A post) (fun v H1 => M12 14 ls (v.toList ++ []) H1 Q):=w_virt (as:=[.int a0]) (rest:=[]) (a:=b) (show decode kb12 11 = .ok (.invokevirtual 193,3) from by decide +kernel) cr12_193 put_o rfl rfl (Nat.le_of_ble_eq_true rfl) (by show 2≤2; omega) rfl
theorem m12_14 : M12 14 ls (.int x::st) H Q = if x = 0 then M12 17 ls st H Q else M12 19 ls st H Q:=w_ifN (show decode kb12 14 = .ok (.ifCond .ne 5,3) from by decide +kernel) (z_ne x) rfl
theorem m12_19 : M12 19 [.val (.ref r),l1,l2] st H Q = M12 20 [.val (.ref r),l1,l2] (.ref r::st) H Q:=w_x (show decode kb12 19 = .ok (.aload_n 0,1) from by decide +kernel) rfl
theorem m12_20 : M12 20 [l0,.val (.int v),l2] st H Q = M12 21 [l0,.val (.int v),l2] (.int v::st) H Q:=w_x (show decode kb12 20 = .ok (.iload_n 1,1) from by decide +kernel) rfl
theorem m12_21 : M12 21 [l0,l1,.val (.int v)] st H Q = M12 22 [l0,l1,.val (.int v)] (.int v::st) H Q:=w_x (show decode kb12 21 = .ok (.iload_n 2,1) from by decide +kernel) rfl
theorem cr12_196 : vR tables_1 dn y12 196 = some (true,y14,prog_1_method_26_code,3,(some .boolean),2,0):=pR_of (cR_of (by decide +kernel) rc_14 dn_14 dn_12 (sig:=⟨[.int,.int],some .boolean⟩) (by decide +kernel) (by decide +kernel) rfl rfl) (by decide +kernel) (by decide +kernel)
theorem m12_22 (a0 : Int32) (a1 : Int32) : M12 22 ls [.int a1,.int a0,.ref b] (put b pre s A post) Q = M14 0 [.val (.ref b),.val (.int a0),.val (.int a1)] [] (put b pre s A post) (fun v H1 => M12 25 ls (v.toList ++ []) H1 Q):=w_virt (as:=[.int a1,.int a0]) (rest:=[]) (a:=b) (show decode kb12 22 = .ok (.invokevirtual 196,3) from by decide +kernel) cr12_196 put_o rfl rfl (Nat.le_of_ble_eq_true rfl) (by show 3≤3; omega) rfl
theorem m12_25 : M12 25 ls (.int x::st) H Q = if x = 0 then M12 28 ls st H Q else M12 30 ls st H Q:=w_ifN (show decode kb12 25 = .ok (.ifCond .ne 5,3) from by decide +kernel) (z_ne x) rfl
theorem m12_30 : M12 30 [.val (.ref r),l1,l2] st H Q = M12 31 [.val (.ref r),l1,l2] (.ref r::st) H Q:=w_x (show decode kb12 30 = .ok (.aload_n 0,1) from by decide +kernel) rfl
theorem m12_31 : M12 31 ls st H Q = M12 32 ls (.int 0::st) H Q:=w_con (show decode kb12 31 = .ok (.iconst 0,1) from by decide +kernel) rfl (by decide)
theorem pf12_168 : pfR tables_1 y12.cls y12.name 168 = some ("AgentExprDbg", 42,.boolean):=by decide +kernel
theorem m12_32 : M12 32 ls (.int v::.ref b::st) (put b pre s A post) Q = M12 35 ls st (put b pre (ou s 12 (nar .boolean v)) A post) Q:=w_put (show decode kb12 32 = .ok (.putfield 168,3) from by decide +kernel) pf12_168 put_o (Nat.zero_le _) (by show 42 < 60; omega) rfl put_s12
theorem m12_35 : M12 35 ls st H Q = M12 36 ls (.int 1::st) H Q:=w_con (show decode kb12 35 = .ok (.iconst 1,1) from by decide +kernel) rfl (by decide)
theorem m12_36 : M12 36 ls (.int z::st) H Q = Q (some (.int (nar .boolean z))) H:=w_iretN (show decode kb12 36 = .ok (.ireturn,1) from by decide +kernel) rfl (by simp)
theorem m12_37 : M12 37 [.val (.ref r),l1,l2] st H Q = M12 38 [.val (.ref r),l1,l2] (.ref r::st) H Q:=w_x (show decode kb12 37 = .ok (.aload_n 0,1) from by decide +kernel) rfl
theorem m12_38 : M12 38 [l0,.val (.int v),l2] st H Q = M12 39 [l0,.val (.int v),l2] (.int v::st) H Q:=w_x (show decode kb12 38 = .ok (.iload_n 1,1) from by decide +kernel) rfl
theorem cr12_199 : vR tables_1 dn y12 199 = some (true,y23,prog_1_method_28_code,2,(some .boolean),1,1):=pR_of (cR_of (by decide +kernel) rc_23 dn_23 dn_12 (sig:=⟨[.int],some .boolean⟩) (by decide +kernel) (by decide +kernel) rfl rfl) (by decide +kernel) (by decide +kernel)
theorem m12_39 (a0 : Int32) : M12 39 ls [.int a0,.ref b] (put b pre s A post) Q = M23 0 [.val (.ref b),.val (.int a0)] [] (put b pre s A post) (fun v H1 => M12 42 ls (v.toList ++ []) H1 Q):=w_virt (as:=[.int a0]) (rest:=[]) (a:=b) (show decode kb12 39 = .ok (.invokevirtual 199,3) from by decide +kernel) cr12_199 put_o rfl rfl (Nat.le_of_ble_eq_true rfl) (by show 2≤2; omega) rfl
theorem m12_42 : M12 42 ls (.int x::st) H Q = if x = 0 then M12 45 ls st H Q else M12 50 ls st H Q:=w_ifN (show decode kb12 42 = .ok (.ifCond .ne 8,3) from by decide +kernel) (z_ne x) rfl
theorem m12_50 : M12 50 [.val (.ref r),l1,l2] st H Q = M12 51 [.val (.ref r),l1,l2] (.ref r::st) H Q:=w_x (show decode kb12 50 = .ok (.aload_n 0,1) from by decide +kernel) rfl
theorem m12_51 : M12 51 [l0,.val (.int v),l2] st H Q = M12 52 [l0,.val (.int v),l2] (.int v::st) H Q:=w_x (show decode kb12 51 = .ok (.iload_n 1,1) from by decide +kernel) rfl
theorem m12_52 : M12 52 ls st H Q = M12 53 ls (.int 0::st) H Q:=w_con (show decode kb12 52 = .ok (.iconst 0,1) from by decide +kernel) rfl (by decide)
theorem cr12_202 : vR tables_1 dn y12 202 = some (true,y20,prog_1_method_25_code,3,(some .boolean),2,0):=pR_of (cR_of (by decide +kernel) rc_20 dn_20 dn_12 (sig:=⟨[.int,.int],some .boolean⟩) (by decide +kernel) (by decide +kernel) rfl rfl) (by decide +kernel) (by decide +kernel)
theorem m12_53 (a0 : Int32) (a1 : Int32) : M12 53 ls [.int a1,.int a0,.ref b] (put b pre s A post) Q = M20 0 [.val (.ref b),.val (.int a0),.val (.int a1)] [] (put b pre s A post) (fun v H1 => M12 56 ls (v.toList ++ []) H1 Q):=w_virt (as:=[.int a1,.int a0]) (rest:=[]) (a:=b) (show decode kb12 53 = .ok (.invokevirtual 202,3) from by decide +kernel) cr12_202 put_o rfl rfl (Nat.le_of_ble_eq_true rfl) (by show 3≤3; omega) rfl
theorem m12_56 : M12 56 ls (.int z::st) H Q = Q (some (.int (nar .boolean z))) H:=w_iretN (show decode kb12 56 = .ok (.ireturn,1) from by decide +kernel) rfl (by simp)
theorem m13_0 : M13 0 [.val (.ref r),l1] st H Q = M13 1 [.val (.ref r),l1] (.ref r::st) H Q:=w_x (show decode kb13 0 = .ok (.aload_n 0,1) from by decide +kernel) rfl
theorem m13_1 : M13 1 ls (.ref b::st) (put b pre s A post) Q = M13 4 ls (.int (s 14)::st) (put b pre s A post) Q:=w_get (show decode kb13 1 = .ok (.getfield 190,3) from by decide +kernel) gf_190 put_o rfl
theorem m13_4 : M13 4 ls (.int x::st) H Q = if x < 0 then M13 16 ls st H Q else M13 7 ls st H Q:=w_if (show decode kb13 4 = .ok (.ifCond .lt 12,3) from by decide +kernel) (z_lt x) rfl
theorem m13_7 : M13 7 [.val (.ref r),l1] st H Q = M13 8 [.val (.ref r),l1] (.ref r::st) H Q:=w_x (show decode kb13 7 = .ok (.aload_n 0,1) from by decide +kernel) rfl
theorem m13_8 : M13 8 ls (.ref b::st) (put b pre s A post) Q = M13 11 ls (.int (s 14)::st) (put b pre s A post) Q:=w_get (show decode kb13 8 = .ok (.getfield 190,3) from by decide +kernel) gf_190 put_o rfl
theorem m13_11 : M13 11 ls st H Q = M13 13 ls (.int 32::st) H Q:=w_con (show decode kb13 11 = .ok (.bipush 32,2) from by decide +kernel) rfl (by decide)
theorem m13_13 : M13 13 ls (.int y::.int x::st) H Q = if x < y then M13 18 ls st H Q else M13 16 ls st H Q:=w_icmp (show decode kb13 13 = .ok (.if_icmp .lt 5,3) from by decide +kernel) (i_lt x y) rfl
theorem m13_18 : M13 18 [.val (.ref r),l1] st H Q = M13 19 [.val (.ref r),l1] (.ref r::st) H Q:=w_x (show decode kb13 18 = .ok (.aload_n 0,1) from by decide +kernel) rfl
theorem m13_19 : M13 19 ls (.ref b::st) (put b pre s A post) Q = M13 22 ls (.ref (b + 24)::st) (put b pre s A post) Q:=w_get (show decode kb13 19 = .ok (.getfield 79,3) from by decide +kernel) gf_79 put_o rfl
theorem m13_22 : M13 22 [.val (.ref r),l1] st H Q = M13 23 [.val (.ref r),l1] (.ref r::st) H Q:=w_x (show decode kb13 22 = .ok (.aload_n 0,1) from by decide +kernel) rfl
theorem m13_23 : M13 23 ls (.ref b::st) (put b pre s A post) Q = M13 26 ls (.int (s 14)::st) (put b pre s A post) Q:=w_get (show decode kb13 23 = .ok (.getfield 190,3) from by decide +kernel) gf_190 put_o rfl
theorem m13_26 : M13 26 [l0,.val (.int v)] st H Q = M13 27 [l0,.val (.int v)] (.int v::st) H Q:=w_x (show decode kb13 26 = .ok (.iload_n 1,1) from by decide +kernel) rfl
theorem m13_27  : M13 27 ls (.int v::.int j::.ref (b + 24)::st) (put b pre s A post) Q = (inB j (A 23)∧M13 28 ls st (put b pre s (ou A 23 (setA (A 23) j v)) post) Q):=w_ist (show decode kb13 27 = .ok (.iastore,1) from by decide +kernel) rfl put_a23 (Nat.zero_le _) rfl put_w23
theorem m13_28 : M13 28 [.val (.ref r),l1] st H Q = M13 29 [.val (.ref r),l1] (.ref r::st) H Q:=w_x (show decode kb13 28 = .ok (.aload_n 0,1) from by decide +kernel) rfl
theorem m13_29 : M13 29 [.val (.ref r),l1] st H Q = M13 30 [.val (.ref r),l1] (.ref r::st) H Q:=w_x (show decode kb13 29 = .ok (.aload_n 0,1) from by decide +kernel) rfl
theorem m13_30 : M13 30 ls (.ref b::st) (put b pre s A post) Q = M13 33 ls (.int (s 14)::st) (put b pre s A post) Q:=w_get (show decode kb13 30 = .ok (.getfield 190,3) from by decide +kernel) gf_190 put_o rfl
theorem m13_33 : M13 33 ls st H Q = M13 34 ls (.int 1::st) H Q:=w_con (show decode kb13 33 = .ok (.iconst 1,1) from by decide +kernel) rfl (by decide)
theorem m13_34 : M13 34 ls (.int y::.int x::st) H Q = M13 35 ls (.int (x + y)::st) H Q:=w_x (show decode kb13 34 = .ok (.iadd,1) from by decide +kernel) rfl
theorem pf13_190 : pfR tables_1 y13.cls y13.name 190 = some ("AgentExprDbg", 44,.int):=by decide +kernel
theorem m13_35 : M13 35 ls (.int v::.ref b::st) (put b pre s A post) Q = M13 38 ls st (put b pre (ou s 14 v) A post) Q:=w_put (show decode kb13 35 = .ok (.putfield 190,3) from by decide +kernel) pf13_190 put_o (Nat.zero_le _) (by show 44 < 60; omega) rfl put_s14
theorem m13_38 : M13 38 ls st H Q = M13 39 ls (.int 1::st) H Q:=w_con (show decode kb13 38 = .ok (.iconst 1,1) from by decide +kernel) rfl (by decide)
theorem m13_39 : M13 39 ls (.int z::st) H Q = Q (some (.int (nar .boolean z))) H:=w_iretN (show decode kb13 39 = .ok (.ireturn,1) from by decide +kernel) rfl (by simp)
theorem m14_0 : M14 0 [.val (.ref r),l1,l2] st H Q = M14 1 [.val (.ref r),l1,l2] (.ref r::st) H Q:=w_x (show decode kb14 0 = .ok (.aload_n 0,1) from by decide +kernel) rfl
theorem m14_1 : M14 1 ls (.ref b::st) (put b pre s A post) Q = M14 4 ls (.int (s 8)::st) (put b pre s A post) Q:=w_get (show decode kb14 1 = .ok (.getfield 181,3) from by decide +kernel) gf_181 put_o rfl
theorem m14_4 : M14 4 ls (.int x::st) H Q = if x < 0 then M14 16 ls st H Q else M14 7 ls st H Q:=w_if (show decode kb14 4 = .ok (.ifCond .lt 12,3) from by decide +kernel) (z_lt x) rfl
theorem m14_7 : M14 7 [.val (.ref r),l1,l2] st H Q = M14 8 [.val (.ref r),l1,l2] (.ref r::st) H Q:=w_x (show decode kb14 7 = .ok (.aload_n 0,1) from by decide +kernel) rfl
theorem m14_8 : M14 8 ls (.ref b::st) (put b pre s A post) Q = M14 11 ls (.int (s 8)::st) (put b pre s A post) Q:=w_get (show decode kb14 8 = .ok (.getfield 181,3) from by decide +kernel) gf_181 put_o rfl
theorem m14_11 : M14 11 ls st H Q = M14 13 ls (.int 64::st) H Q:=w_con (show decode kb14 11 = .ok (.bipush 64,2) from by decide +kernel) rfl (by decide)
theorem m14_13 : M14 13 ls (.int y::.int x::st) H Q = if x < y then M14 18 ls st H Q else M14 16 ls st H Q:=w_icmp (show decode kb14 13 = .ok (.if_icmp .lt 5,3) from by decide +kernel) (i_lt x y) rfl
theorem m14_18 : M14 18 [.val (.ref r),l1,l2] st H Q = M14 19 [.val (.ref r),l1,l2] (.ref r::st) H Q:=w_x (show decode kb14 18 = .ok (.aload_n 0,1) from by decide +kernel) rfl
theorem m14_19 : M14 19 ls (.ref b::st) (put b pre s A post) Q = M14 22 ls (.ref (b + 18)::st) (put b pre s A post) Q:=w_get (show decode kb14 19 = .ok (.getfield 61,3) from by decide +kernel) gf_61 put_o rfl
theorem m14_22 : M14 22 [.val (.ref r),l1,l2] st H Q = M14 23 [.val (.ref r),l1,l2] (.ref r::st) H Q:=w_x (show decode kb14 22 = .ok (.aload_n 0,1) from by decide +kernel) rfl
theorem m14_23 : M14 23 ls (.ref b::st) (put b pre s A post) Q = M14 26 ls (.int (s 8)::st) (put b pre s A post) Q:=w_get (show decode kb14 23 = .ok (.getfield 181,3) from by decide +kernel) gf_181 put_o rfl
theorem m14_26 : M14 26 [l0,.val (.int v),l2] st H Q = M14 27 [l0,.val (.int v),l2] (.int v::st) H Q:=w_x (show decode kb14 26 = .ok (.iload_n 1,1) from by decide +kernel) rfl
theorem m14_27  : M14 27 ls (.int v::.int j::.ref (b + 18)::st) (put b pre s A post) Q = (inB j (A 17)∧M14 28 ls st (put b pre s (ou A 17 (setA (A 17) j v)) post) Q):=w_ist (show decode kb14 27 = .ok (.iastore,1) from by decide +kernel) rfl put_a17 (Nat.zero_le _) rfl put_w17
theorem m14_28 : M14 28 [.val (.ref r),l1,l2] st H Q = M14 29 [.val (.ref r),l1,l2] (.ref r::st) H Q:=w_x (show decode kb14 28 = .ok (.aload_n 0,1) from by decide +kernel) rfl
theorem m14_29 : M14 29 ls (.ref b::st) (put b pre s A post) Q = M14 32 ls (.ref (b + 19)::st) (put b pre s A post) Q:=w_get (show decode kb14 29 = .ok (.getfield 64,3) from by decide +kernel) gf_64 put_o rfl
theorem m14_32 : M14 32 [.val (.ref r),l1,l2] st H Q = M14 33 [.val (.ref r),l1,l2] (.ref r::st) H Q:=w_x (show decode kb14 32 = .ok (.aload_n 0,1) from by decide +kernel) rfl
theorem m14_33 : M14 33 ls (.ref b::st) (put b pre s A post) Q = M14 36 ls (.int (s 8)::st) (put b pre s A post) Q:=w_get (show decode kb14 33 = .ok (.getfield 181,3) from by decide +kernel) gf_181 put_o rfl
theorem m14_36 : M14 36 [l0,l1,.val (.int v)] st H Q = M14 37 [l0,l1,.val (.int v)] (.int v::st) H Q:=w_x (show decode kb14 36 = .ok (.iload_n 2,1) from by decide +kernel) rfl
theorem m14_37  : M14 37 ls (.int v::.int j::.ref (b + 19)::st) (put b pre s A post) Q = (inB j (A 18)∧M14 38 ls st (put b pre s (ou A 18 (setA (A 18) j v)) post) Q):=w_ist (show decode kb14 37 = .ok (.iastore,1) from by decide +kernel) rfl put_a18 (Nat.zero_le _) rfl put_w18
theorem m14_38 : M14 38 [.val (.ref r),l1,l2] st H Q = M14 39 [.val (.ref r),l1,l2] (.ref r::st) H Q:=w_x (show decode kb14 38 = .ok (.aload_n 0,1) from by decide +kernel) rfl
theorem m14_39 : M14 39 [.val (.ref r),l1,l2] st H Q = M14 40 [.val (.ref r),l1,l2] (.ref r::st) H Q:=w_x (show decode kb14 39 = .ok (.aload_n 0,1) from by decide +kernel) rfl
theorem m14_40 : M14 40 ls (.ref b::st) (put b pre s A post) Q = M14 43 ls (.int (s 8)::st) (put b pre s A post) Q:=w_get (show decode kb14 40 = .ok (.getfield 181,3) from by decide +kernel) gf_181 put_o rfl
theorem m14_43 : M14 43 ls st H Q = M14 44 ls (.int 1::st) H Q:=w_con (show decode kb14 43 = .ok (.iconst 1,1) from by decide +kernel) rfl (by decide)
theorem m14_44 : M14 44 ls (.int y::.int x::st) H Q = M14 45 ls (.int (x + y)::st) H Q:=w_x (show decode kb14 44 = .ok (.iadd,1) from by decide +kernel) rfl
theorem pf14_181 : pfR tables_1 y14.cls y14.name 181 = some ("AgentExprDbg", 38,.int):=by decide +kernel
theorem m14_45 : M14 45 ls (.int v::.ref b::st) (put b pre s A post) Q = M14 48 ls st (put b pre (ou s 8 v) A post) Q:=w_put (show decode kb14 45 = .ok (.putfield 181,3) from by decide +kernel) pf14_181 put_o (Nat.zero_le _) (by show 38 < 60; omega) rfl put_s8
theorem m14_48 : M14 48 ls st H Q = M14 49 ls (.int 1::st) H Q:=w_con (show decode kb14 48 = .ok (.iconst 1,1) from by decide +kernel) rfl (by decide)
theorem m14_49 : M14 49 ls (.int z::st) H Q = Q (some (.int (nar .boolean z))) H:=w_iretN (show decode kb14 49 = .ok (.ireturn,1) from by decide +kernel) rfl (by simp)
theorem m15_0 : M15 0 [l0,.val (.int v)] st H Q = M15 1 [l0,.val (.int v)] (.int v::st) H Q:=w_x (show decode kb15 0 = .ok (.iload_n 1,1) from by decide +kernel) rfl
theorem m15_1 : M15 1 ls st H Q = M15 2 ls (.int 3::st) H Q:=w_con (show decode kb15 1 = .ok (.iconst 3,1) from by decide +kernel) rfl (by decide)
theorem m15_2 : M15 2 ls (.int y::.int x::st) H Q = if x = y then M15 5 ls st H Q else M15 10 ls st H Q:=w_icmpN (show decode kb15 2 = .ok (.if_icmp .ne 8,3) from by decide +kernel) (i_ne x y) rfl
theorem m15_10 : M15 10 [l0,.val (.int v)] st H Q = M15 11 [l0,.val (.int v)] (.int v::st) H Q:=w_x (show decode kb15 10 = .ok (.iload_n 1,1) from by decide +kernel) rfl
theorem m15_11 : M15 11 ls st H Q = M15 12 ls (.int 4::st) H Q:=w_con (show decode kb15 11 = .ok (.iconst 4,1) from by decide +kernel) rfl (by decide)
theorem m15_12 : M15 12 ls (.int y::.int x::st) H Q = if x = y then M15 15 ls st H Q else M15 20 ls st H Q:=w_icmpN (show decode kb15 12 = .ok (.if_icmp .ne 8,3) from by decide +kernel) (i_ne x y) rfl
theorem m15_15 : M15 15 [.val (.ref r),l1] st H Q = M15 16 [.val (.ref r),l1] (.ref r::st) H Q:=w_x (show decode kb15 15 = .ok (.aload_n 0,1) from by decide +kernel) rfl
theorem cr15_208 : vR tables_1 dn y15 208 = some (true,y21,prog_1_method_20_code,1,(some .boolean),0,3):=pR_of (cR_of (by decide +kernel) rc_21 dn_21 dn_15 (sig:=⟨[],some .boolean⟩) (by decide +kernel) (by decide +kernel) rfl rfl) (by decide +kernel) (by decide +kernel)
theorem m15_16 : M15 16 ls [.ref b] (put b pre s A post) Q = M21 0 [.val (.ref b)] [] (put b pre s A post) (fun v H1 => M15 19 ls (v.toList ++ []) H1 Q):=w_virt (as:=[]) (rest:=[]) (a:=b) (show decode kb15 16 = .ok (.invokevirtual 208,3) from by decide +kernel) cr15_208 put_o rfl rfl (Nat.le_of_ble_eq_true rfl) (by show 1≤1; omega) rfl
theorem m15_19 : M15 19 ls (.int z::st) H Q = Q (some (.int (nar .boolean z))) H:=w_iretN (show decode kb15 19 = .ok (.ireturn,1) from by decide +kernel) rfl (by simp)
theorem m15_20 : M15 20 [.val (.ref r),l1] st H Q = M15 21 [.val (.ref r),l1] (.ref r::st) H Q:=w_x (show decode kb15 20 = .ok (.aload_n 0,1) from by decide +kernel) rfl
theorem m15_21 : M15 21 [l0,.val (.int v)] st H Q = M15 22 [l0,.val (.int v)] (.int v::st) H Q:=w_x (show decode kb15 21 = .ok (.iload_n 1,1) from by decide +kernel) rfl
theorem cr15_211 : vR tables_1 dn y15 211 = some (true,y16,prog_1_method_29_code,2,(some .boolean),1,46):=pR_of (cR_of (by decide +kernel) rc_16 dn_16 dn_15 (sig:=⟨[.int],some .boolean⟩) (by decide +kernel) (by decide +kernel) rfl rfl) (by decide +kernel) (by decide +kernel)
theorem m15_22 (a0 : Int32) : M15 22 ls [.int a0,.ref b] (put b pre s A post) Q = M16 0 [.val (.ref b),.val (.int a0)] [] (put b pre s A post) (fun v H1 => M15 25 ls (v.toList ++ []) H1 Q):=w_virt (as:=[.int a0]) (rest:=[]) (a:=b) (show decode kb15 22 = .ok (.invokevirtual 211,3) from by decide +kernel) cr15_211 put_o rfl rfl (Nat.le_of_ble_eq_true rfl) (by show 2≤2; omega) rfl
theorem m15_25 : M15 25 ls (.int x::st) H Q = if x = 0 then M15 28 ls st H Q else M15 30 ls st H Q:=w_ifN (show decode kb15 25 = .ok (.ifCond .ne 5,3) from by decide +kernel) (z_ne x) rfl
theorem m15_30 : M15 30 [.val (.ref r),l1] st H Q = M15 31 [.val (.ref r),l1] (.ref r::st) H Q:=w_x (show decode kb15 30 = .ok (.aload_n 0,1) from by decide +kernel) rfl
theorem m15_31 : M15 31 [l0,.val (.int v)] st H Q = M15 32 [l0,.val (.int v)] (.int v::st) H Q:=w_x (show decode kb15 31 = .ok (.iload_n 1,1) from by decide +kernel) rfl
theorem cr15_214 : vR tables_1 dn y15 214 = some (true,y17,prog_1_method_16_code,4,(some .boolean),1,0):=pR_of (cR_of (by decide +kernel) rc_17 dn_17 dn_15 (sig:=⟨[.int],some .boolean⟩) (by decide +kernel) (by decide +kernel) rfl rfl) (by decide +kernel) (by decide +kernel)
theorem m15_32 (a0 : Int32) : M15 32 ls [.int a0,.ref b] (put b pre s A post) Q = M17 0 [.val (.ref b),.val (.int a0),.unset,.unset] [] (put b pre s A post) (fun v H1 => M15 35 ls (v.toList ++ []) H1 Q):=w_virt (as:=[.int a0]) (rest:=[]) (a:=b) (show decode kb15 32 = .ok (.invokevirtual 214,3) from by decide +kernel) cr15_214 put_o rfl rfl (Nat.le_of_ble_eq_true rfl) (by show 2≤4; omega) rfl
theorem m15_35 : M15 35 ls (.int z::st) H Q = Q (some (.int (nar .boolean z))) H:=w_iretN (show decode kb15 35 = .ok (.ireturn,1) from by decide +kernel) rfl (by simp)
theorem m16_0 : M16 0 [l0,.val (.int v)] st H Q = M16 1 [l0,.val (.int v)] (.int v::st) H Q:=w_x (show decode kb16 0 = .ok (.iload_n 1,1) from by decide +kernel) rfl
theorem m16_1 : M16 1 ls st H Q = M16 3 ls (.int 8::st) H Q:=w_con (show decode kb16 1 = .ok (.bipush 8,2) from by decide +kernel) rfl (by decide)
theorem m16_3 : M16 3 ls (.int y::.int x::st) H Q = if x < y then M16 16 ls st H Q else M16 6 ls st H Q:=w_icmp (show decode kb16 3 = .ok (.if_icmp .lt 13,3) from by decide +kernel) (i_lt x y) rfl
theorem m16_6 : M16 6 [l0,.val (.int v)] st H Q = M16 7 [l0,.val (.int v)] (.int v::st) H Q:=w_x (show decode kb16 6 = .ok (.iload_n 1,1) from by decide +kernel) rfl
theorem m16_7 : M16 7 ls st H Q = M16 9 ls (.int 20::st) H Q:=w_con (show decode kb16 7 = .ok (.bipush 20,2) from by decide +kernel) rfl (by decide)
theorem m16_9 : M16 9 ls (.int y::.int x::st) H Q = if y < x then M16 16 ls st H Q else M16 12 ls st H Q:=w_icmp (show decode kb16 9 = .ok (.if_icmp .gt 7,3) from by decide +kernel) (i_gt x y) rfl
theorem m16_12 : M16 12 ls st H Q = M16 13 ls (.int 1::st) H Q:=w_con (show decode kb16 12 = .ok (.iconst 1,1) from by decide +kernel) rfl (by decide)
theorem m16_13 : M16 13 ls st H Q = M16 17 ls st H Q:=w_x (show decode kb16 13 = .ok (.goto 4,3) from by decide +kernel) rfl
theorem m16_17 : M16 17 ls (.int z::st) H Q = Q (some (.int (nar .boolean z))) H:=w_iretN (show decode kb16 17 = .ok (.ireturn,1) from by decide +kernel) rfl (by simp)
theorem m17_0 : M17 0 [.val (.ref r),l1,l2,l3] st H Q = M17 1 [.val (.ref r),l1,l2,l3] (.ref r::st) H Q:=w_x (show decode kb17 0 = .ok (.aload_n 0,1) from by decide +kernel) rfl
theorem m17_1 : M17 1 [l0,.val (.int v),l2,l3] st H Q = M17 2 [l0,.val (.int v),l2,l3] (.int v::st) H Q:=w_x (show decode kb17 1 = .ok (.iload_n 1,1) from by decide +kernel) rfl
theorem cr17_217 : vR tables_1 dn y17 217 = some (true,y18,prog_1_method_27_code,2,(some .int),1,18):=pR_of (cR_of (by decide +kernel) rc_18 dn_18 dn_17 (sig:=⟨[.int],some .int⟩) (by decide +kernel) (by decide +kernel) rfl rfl) (by decide +kernel) (by decide +kernel)
theorem m17_2 (a0 : Int32) : M17 2 ls [.int a0,.ref b] (put b pre s A post) Q = M18 0 [.val (.ref b),.val (.int a0)] [] (put b pre s A post) (fun v H1 => M17 5 ls (v.toList ++ []) H1 Q):=w_virt (as:=[.int a0]) (rest:=[]) (a:=b) (show decode kb17 2 = .ok (.invokevirtual 217,3) from by decide +kernel) cr17_217 put_o rfl rfl (Nat.le_of_ble_eq_true rfl) (by show 2≤2; omega) rfl
theorem m17_5u : M17 5 [l0,l1,.unset,l3] ((.int v)::st) H Q = M17 6 [l0,l1,.val (.int v),l3] st H Q:=w_st (i:=2) (p:=isI) (show decode kb17 5 = .ok (.istore_n 2,1) from by decide +kernel) rfl rfl rfl rfl rfl rfl
theorem m17_6 : M17 6 [.val (.ref r),l1,l2,l3] st H Q = M17 7 [.val (.ref r),l1,l2,l3] (.ref r::st) H Q:=w_x (show decode kb17 6 = .ok (.aload_n 0,1) from by decide +kernel) rfl
theorem m17_7 : M17 7 [l0,l1,.val (.int v),l3] st H Q = M17 8 [l0,l1,.val (.int v),l3] (.int v::st) H Q:=w_x (show decode kb17 7 = .ok (.iload_n 2,1) from by decide +kernel) rfl
theorem cr17_220 : vR tables_1 dn y17 220 = some (true,y19,prog_1_method_17_code,4,(some .boolean),1,0):=pR_of (cR_of (by decide +kernel) rc_19 dn_19 dn_17 (sig:=⟨[.int],some .boolean⟩) (by decide +kernel) (by decide +kernel) rfl rfl) (by decide +kernel) (by decide +kernel)
theorem m17_8 (a0 : Int32) : M17 8 ls [.int a0,.ref b] (put b pre s A post) Q = M19 0 [.val (.ref b),.val (.int a0),.unset,.unset] [] (put b pre s A post) (fun v H1 => M17 11 ls (v.toList ++ []) H1 Q):=w_virt (as:=[.int a0]) (rest:=[]) (a:=b) (show decode kb17 8 = .ok (.invokevirtual 220,3) from by decide +kernel) cr17_220 put_o rfl rfl (Nat.le_of_ble_eq_true rfl) (by show 2≤4; omega) rfl
theorem m17_11 : M17 11 ls (.int x::st) H Q = if x = 0 then M17 14 ls st H Q else M17 16 ls st H Q:=w_ifN (show decode kb17 11 = .ok (.ifCond .ne 5,3) from by decide +kernel) (z_ne x) rfl
theorem m17_16 : M17 16 [.val (.ref r),l1,l2,l3] st H Q = M17 17 [.val (.ref r),l1,l2,l3] (.ref r::st) H Q:=w_x (show decode kb17 16 = .ok (.aload_n 0,1) from by decide +kernel) rfl
theorem m17_17 : M17 17 ls (.ref b::st) (put b pre s A post) Q = M17 20 ls (.int (s 8)::st) (put b pre s A post) Q:=w_get (show decode kb17 17 = .ok (.getfield 181,3) from by decide +kernel) gf_181 put_o rfl
theorem m17_20u : M17 20 [l0,l1,l2,.unset] ((.int v)::st) H Q = M17 21 [l0,l1,l2,.val (.int v)] st H Q:=w_st (i:=3) (p:=isI) (show decode kb17 20 = .ok (.istore_n 3,1) from by decide +kernel) rfl rfl rfl rfl rfl rfl
theorem m17_21 : M17 21 [l0,.val (.int v),l2,l3] st H Q = M17 22 [l0,.val (.int v),l2,l3] (.int v::st) H Q:=w_x (show decode kb17 21 = .ok (.iload_n 1,1) from by decide +kernel) rfl
theorem m17_22 : M17 22 ls st H Q = M17 24 ls (.int 19::st) H Q:=w_con (show decode kb17 22 = .ok (.bipush 19,2) from by decide +kernel) rfl (by decide)
theorem m17_24 : M17 24 ls (.int y::.int x::st) H Q = if x = y then M17 33 ls st H Q else M17 27 ls st H Q:=w_icmp (show decode kb17 24 = .ok (.if_icmp .eq 9,3) from by decide +kernel) (i_eq x y) rfl
theorem m17_27 : M17 27 [l0,.val (.int v),l2,l3] st H Q = M17 28 [l0,.val (.int v),l2,l3] (.int v::st) H Q:=w_x (show decode kb17 27 = .ok (.iload_n 1,1) from by decide +kernel) rfl
theorem m17_28 : M17 28 ls st H Q = M17 30 ls (.int 20::st) H Q:=w_con (show decode kb17 28 = .ok (.bipush 20,2) from by decide +kernel) rfl (by decide)
theorem m17_30 : M17 30 ls (.int y::.int x::st) H Q = if x = y then M17 33 ls st H Q else M17 44 ls st H Q:=w_icmpN (show decode kb17 30 = .ok (.if_icmp .ne 14,3) from by decide +kernel) (i_ne x y) rfl
theorem m17_44 : M17 44 [.val (.ref r),l1,l2,l3] st H Q = M17 45 [.val (.ref r),l1,l2,l3] (.ref r::st) H Q:=w_x (show decode kb17 44 = .ok (.aload_n 0,1) from by decide +kernel) rfl
theorem m17_45 : M17 45 [l0,.val (.int v),l2,l3] st H Q = M17 46 [l0,.val (.int v),l2,l3] (.int v::st) H Q:=w_x (show decode kb17 45 = .ok (.iload_n 1,1) from by decide +kernel) rfl
theorem m17_46 : M17 46 [l0,l1,l2,.val (.int v)] st H Q = M17 47 [l0,l1,l2,.val (.int v)] (.int v::st) H Q:=w_x (show decode kb17 46 = .ok (.iload_n 3,1) from by decide +kernel) rfl
theorem cr17_202 : vR tables_1 dn y17 202 = some (true,y20,prog_1_method_25_code,3,(some .boolean),2,30):=pR_of (cR_of (by decide +kernel) rc_20 dn_20 dn_17 (sig:=⟨[.int,.int],some .boolean⟩) (by decide +kernel) (by decide +kernel) rfl rfl) (by decide +kernel) (by decide +kernel)
theorem m17_47 (a0 : Int32) (a1 : Int32) : M17 47 ls [.int a1,.int a0,.ref b] (put b pre s A post) Q = M20 0 [.val (.ref b),.val (.int a0),.val (.int a1)] [] (put b pre s A post) (fun v H1 => M17 50 ls (v.toList ++ []) H1 Q):=w_virt (as:=[.int a1,.int a0]) (rest:=[]) (a:=b) (show decode kb17 47 = .ok (.invokevirtual 202,3) from by decide +kernel) cr17_202 put_o rfl rfl (Nat.le_of_ble_eq_true rfl) (by show 3≤3; omega) rfl
theorem m17_50 : M17 50 ls (.int x::st) H Q = if x = 0 then M17 53 ls st H Q else M17 55 ls st H Q:=w_ifN (show decode kb17 50 = .ok (.ifCond .ne 5,3) from by decide +kernel) (z_ne x) rfl
theorem m17_55 : M17 55 [.val (.ref r),l1,l2,l3] st H Q = M17 56 [.val (.ref r),l1,l2,l3] (.ref r::st) H Q:=w_x (show decode kb17 55 = .ok (.aload_n 0,1) from by decide +kernel) rfl
theorem m17_56 : M17 56 ls st H Q = M17 57 ls (.int 1::st) H Q:=w_con (show decode kb17 56 = .ok (.iconst 1,1) from by decide +kernel) rfl (by decide)
theorem pf17_168 : pfR tables_1 y17.cls y17.name 168 = some ("AgentExprDbg", 42,.boolean):=by decide +kernel
theorem m17_57 : M17 57 ls (.int v::.ref b::st) (put b pre s A post) Q = M17 60 ls st (put b pre (ou s 12 (nar .boolean v)) A post) Q:=w_put (show decode kb17 57 = .ok (.putfield 168,3) from by decide +kernel) pf17_168 put_o (Nat.zero_le _) (by show 42 < 60; omega) rfl put_s12
theorem m17_60 : M17 60 ls st H Q = M17 61 ls (.int 1::st) H Q:=w_con (show decode kb17 60 = .ok (.iconst 1,1) from by decide +kernel) rfl (by decide)
theorem m17_61 : M17 61 ls (.int z::st) H Q = Q (some (.int (nar .boolean z))) H:=w_iretN (show decode kb17 61 = .ok (.ireturn,1) from by decide +kernel) rfl (by simp)
theorem m18_0 : M18 0 [l0,.val (.int v)] st H Q = M18 1 [l0,.val (.int v)] (.int v::st) H Q:=w_x (show decode kb18 0 = .ok (.iload_n 1,1) from by decide +kernel) rfl
theorem m18_1 : M18 1 ls st H Q = M18 3 ls (.int 8::st) H Q:=w_con (show decode kb18 1 = .ok (.bipush 8,2) from by decide +kernel) rfl (by decide)
theorem m18_3 : M18 3 ls (.int y::.int x::st) H Q = if x = y then M18 18 ls st H Q else M18 6 ls st H Q:=w_icmp (show decode kb18 3 = .ok (.if_icmp .eq 15,3) from by decide +kernel) (i_eq x y) rfl
theorem m18_6 : M18 6 [l0,.val (.int v)] st H Q = M18 7 [l0,.val (.int v)] (.int v::st) H Q:=w_x (show decode kb18 6 = .ok (.iload_n 1,1) from by decide +kernel) rfl
theorem m18_7 : M18 7 ls st H Q = M18 9 ls (.int 9::st) H Q:=w_con (show decode kb18 7 = .ok (.bipush 9,2) from by decide +kernel) rfl (by decide)
theorem m18_9 : M18 9 ls (.int y::.int x::st) H Q = if x = y then M18 18 ls st H Q else M18 12 ls st H Q:=w_icmp (show decode kb18 9 = .ok (.if_icmp .eq 9,3) from by decide +kernel) (i_eq x y) rfl
theorem m18_12 : M18 12 [l0,.val (.int v)] st H Q = M18 13 [l0,.val (.int v)] (.int v::st) H Q:=w_x (show decode kb18 12 = .ok (.iload_n 1,1) from by decide +kernel) rfl
theorem m18_13 : M18 13 ls st H Q = M18 15 ls (.int 10::st) H Q:=w_con (show decode kb18 13 = .ok (.bipush 10,2) from by decide +kernel) rfl (by decide)
theorem m18_15 : M18 15 ls (.int y::.int x::st) H Q = if x = y then M18 18 ls st H Q else M18 21 ls st H Q:=w_icmpN (show decode kb18 15 = .ok (.if_icmp .ne 6,3) from by decide +kernel) (i_ne x y) rfl
theorem m18_18 : M18 18 ls st H Q = M18 20 ls (.int 6::st) H Q:=w_con (show decode kb18 18 = .ok (.bipush 6,2) from by decide +kernel) rfl (by decide)
theorem m18_20 : M18 20 ls (.int z::st) H Q = Q (some (.int z)) H:=w_iret (show decode kb18 20 = .ok (.ireturn,1) from by decide +kernel) rfl
theorem m18_21 : M18 21 [l0,.val (.int v)] st H Q = M18 22 [l0,.val (.int v)] (.int v::st) H Q:=w_x (show decode kb18 21 = .ok (.iload_n 1,1) from by decide +kernel) rfl
theorem m18_22 : M18 22 ls st H Q = M18 24 ls (.int 11::st) H Q:=w_con (show decode kb18 22 = .ok (.bipush 11,2) from by decide +kernel) rfl (by decide)
theorem m18_24 : M18 24 ls (.int y::.int x::st) H Q = if x = y then M18 33 ls st H Q else M18 27 ls st H Q:=w_icmp (show decode kb18 24 = .ok (.if_icmp .eq 9,3) from by decide +kernel) (i_eq x y) rfl
theorem m18_27 : M18 27 [l0,.val (.int v)] st H Q = M18 28 [l0,.val (.int v)] (.int v::st) H Q:=w_x (show decode kb18 27 = .ok (.iload_n 1,1) from by decide +kernel) rfl
theorem m18_28 : M18 28 ls st H Q = M18 30 ls (.int 12::st) H Q:=w_con (show decode kb18 28 = .ok (.bipush 12,2) from by decide +kernel) rfl (by decide)
theorem m18_30 : M18 30 ls (.int y::.int x::st) H Q = if x = y then M18 33 ls st H Q else M18 35 ls st H Q:=w_icmpN (show decode kb18 30 = .ok (.if_icmp .ne 5,3) from by decide +kernel) (i_ne x y) rfl
theorem m18_33 : M18 33 ls st H Q = M18 34 ls (.int 5::st) H Q:=w_con (show decode kb18 33 = .ok (.iconst 5,1) from by decide +kernel) rfl (by decide)
theorem m18_34 : M18 34 ls (.int z::st) H Q = Q (some (.int z)) H:=w_iret (show decode kb18 34 = .ok (.ireturn,1) from by decide +kernel) rfl
theorem m18_35 : M18 35 [l0,.val (.int v)] st H Q = M18 36 [l0,.val (.int v)] (.int v::st) H Q:=w_x (show decode kb18 35 = .ok (.iload_n 1,1) from by decide +kernel) rfl
theorem m18_36 : M18 36 ls st H Q = M18 38 ls (.int 13::st) H Q:=w_con (show decode kb18 36 = .ok (.bipush 13,2) from by decide +kernel) rfl (by decide)
theorem m18_38 : M18 38 ls (.int y::.int x::st) H Q = if x < y then M18 49 ls st H Q else M18 41 ls st H Q:=w_icmp (show decode kb18 38 = .ok (.if_icmp .lt 11,3) from by decide +kernel) (i_lt x y) rfl
theorem m18_41 : M18 41 [l0,.val (.int v)] st H Q = M18 42 [l0,.val (.int v)] (.int v::st) H Q:=w_x (show decode kb18 41 = .ok (.iload_n 1,1) from by decide +kernel) rfl
theorem m18_42 : M18 42 ls st H Q = M18 44 ls (.int 16::st) H Q:=w_con (show decode kb18 42 = .ok (.bipush 16,2) from by decide +kernel) rfl (by decide)
theorem m18_44 : M18 44 ls (.int y::.int x::st) H Q = if y < x then M18 49 ls st H Q else M18 47 ls st H Q:=w_icmp (show decode kb18 44 = .ok (.if_icmp .gt 5,3) from by decide +kernel) (i_gt x y) rfl
theorem m18_47 : M18 47 ls st H Q = M18 48 ls (.int 4::st) H Q:=w_con (show decode kb18 47 = .ok (.iconst 4,1) from by decide +kernel) rfl (by decide)
theorem m18_48 : M18 48 ls (.int z::st) H Q = Q (some (.int z)) H:=w_iret (show decode kb18 48 = .ok (.ireturn,1) from by decide +kernel) rfl
theorem m18_49 : M18 49 [l0,.val (.int v)] st H Q = M18 50 [l0,.val (.int v)] (.int v::st) H Q:=w_x (show decode kb18 49 = .ok (.iload_n 1,1) from by decide +kernel) rfl
theorem m18_50 : M18 50 ls st H Q = M18 52 ls (.int 17::st) H Q:=w_con (show decode kb18 50 = .ok (.bipush 17,2) from by decide +kernel) rfl (by decide)
theorem m18_52 : M18 52 ls (.int y::.int x::st) H Q = if x = y then M18 61 ls st H Q else M18 55 ls st H Q:=w_icmp (show decode kb18 52 = .ok (.if_icmp .eq 9,3) from by decide +kernel) (i_eq x y) rfl
theorem m18_55 : M18 55 [l0,.val (.int v)] st H Q = M18 56 [l0,.val (.int v)] (.int v::st) H Q:=w_x (show decode kb18 55 = .ok (.iload_n 1,1) from by decide +kernel) rfl
theorem m18_56 : M18 56 ls st H Q = M18 58 ls (.int 18::st) H Q:=w_con (show decode kb18 56 = .ok (.bipush 18,2) from by decide +kernel) rfl (by decide)
theorem m18_58 : M18 58 ls (.int y::.int x::st) H Q = if x = y then M18 61 ls st H Q else M18 63 ls st H Q:=w_icmpN (show decode kb18 58 = .ok (.if_icmp .ne 5,3) from by decide +kernel) (i_ne x y) rfl
theorem m18_63 : M18 63 [l0,.val (.int v)] st H Q = M18 64 [l0,.val (.int v)] (.int v::st) H Q:=w_x (show decode kb18 63 = .ok (.iload_n 1,1) from by decide +kernel) rfl
theorem m18_64 : M18 64 ls st H Q = M18 66 ls (.int 19::st) H Q:=w_con (show decode kb18 64 = .ok (.bipush 19,2) from by decide +kernel) rfl (by decide)
theorem m18_66 : M18 66 ls (.int y::.int x::st) H Q = if x = y then M18 69 ls st H Q else M18 71 ls st H Q:=w_icmpN (show decode kb18 66 = .ok (.if_icmp .ne 5,3) from by decide +kernel) (i_ne x y) rfl
theorem m18_71 : M18 71 [l0,.val (.int v)] st H Q = M18 72 [l0,.val (.int v)] (.int v::st) H Q:=w_x (show decode kb18 71 = .ok (.iload_n 1,1) from by decide +kernel) rfl
theorem m18_72 : M18 72 ls st H Q = M18 74 ls (.int 20::st) H Q:=w_con (show decode kb18 72 = .ok (.bipush 20,2) from by decide +kernel) rfl (by decide)
theorem m18_74 : M18 74 ls (.int y::.int x::st) H Q = if x = y then M18 77 ls st H Q else M18 79 ls st H Q:=w_icmpN (show decode kb18 74 = .ok (.if_icmp .ne 5,3) from by decide +kernel) (i_ne x y) rfl
theorem m18_79 : M18 79 [.val (.ref r),l1] st H Q = M18 80 [.val (.ref r),l1] (.ref r::st) H Q:=w_x (show decode kb18 79 = .ok (.aload_n 0,1) from by decide +kernel) rfl
theorem m18_80 : M18 80 [l0,.val (.int v)] st H Q = M18 81 [l0,.val (.int v)] (.int v::st) H Q:=w_x (show decode kb18 80 = .ok (.iload_n 1,1) from by decide +kernel) rfl
theorem cr18_199 : vR tables_1 dn y18 199 = some (true,y23,prog_1_method_28_code,2,(some .boolean),1,0):=pR_of (cR_of (by decide +kernel) rc_23 dn_23 dn_18 (sig:=⟨[.int],some .boolean⟩) (by decide +kernel) (by decide +kernel) rfl rfl) (by decide +kernel) (by decide +kernel)
theorem m18_81 (a0 : Int32) : M18 81 ls [.int a0,.ref b] (put b pre s A post) Q = M23 0 [.val (.ref b),.val (.int a0)] [] (put b pre s A post) (fun v H1 => M18 84 ls (v.toList ++ []) H1 Q):=w_virt (as:=[.int a0]) (rest:=[]) (a:=b) (show decode kb18 81 = .ok (.invokevirtual 199,3) from by decide +kernel) cr18_199 put_o rfl rfl (Nat.le_of_ble_eq_true rfl) (by show 2≤2; omega) rfl
theorem m18_84 : M18 84 ls (.int x::st) H Q = if x = 0 then M18 90 ls st H Q else M18 87 ls st H Q:=w_if (show decode kb18 84 = .ok (.ifCond .eq 6,3) from by decide +kernel) (z_eq x) rfl
theorem m18_87 : M18 87 ls st H Q = M18 89 ls (.int 7::st) H Q:=w_con (show decode kb18 87 = .ok (.bipush 7,2) from by decide +kernel) rfl (by decide)
theorem m18_89 : M18 89 ls (.int z::st) H Q = Q (some (.int z)) H:=w_iret (show decode kb18 89 = .ok (.ireturn,1) from by decide +kernel) rfl
theorem m19_0 : M19 0 ls st H Q = M19 1 ls (.int 0::st) H Q:=w_con (show decode kb19 0 = .ok (.iconst 0,1) from by decide +kernel) rfl (by decide)
theorem m19_1u : M19 1 [l0,l1,.unset,l3] ((.int v)::st) H Q = M19 2 [l0,l1,.val (.int v),l3] st H Q:=w_st (i:=2) (p:=isI) (show decode kb19 1 = .ok (.istore_n 2,1) from by decide +kernel) rfl rfl rfl rfl rfl rfl
theorem m19_2 : M19 2 [l0,l1,.val (.int v),l3] st H Q = M19 3 [l0,l1,.val (.int v),l3] (.int v::st) H Q:=w_x (show decode kb19 2 = .ok (.iload_n 2,1) from by decide +kernel) rfl
theorem m19_3 : M19 3 ls st H Q = M19 5 ls (.int 32::st) H Q:=w_con (show decode kb19 3 = .ok (.bipush 32,2) from by decide +kernel) rfl (by decide)
theorem m19_5 : M19 5 ls (.int y::.int x::st) H Q = if x < y then M19 8 ls st H Q else M19 80 ls st H Q:=w_icmpN (show decode kb19 5 = .ok (.if_icmp .ge 75,3) from by decide +kernel) (i_ge x y) rfl
theorem m19_8 : M19 8 [.val (.ref r),l1,l2,l3] st H Q = M19 9 [.val (.ref r),l1,l2,l3] (.ref r::st) H Q:=w_x (show decode kb19 8 = .ok (.aload_n 0,1) from by decide +kernel) rfl
theorem m19_9 : M19 9 ls (.ref b::st) (put b pre s A post) Q = M19 12 ls (.int (s 13)::st) (put b pre s A post) Q:=w_get (show decode kb19 9 = .ok (.getfield 187,3) from by decide +kernel) gf_187 put_o rfl
theorem m19_12 : M19 12 ls (.int x::st) H Q = if 0 < x then M19 15 ls st H Q else M19 80 ls st H Q:=w_ifN (show decode kb19 12 = .ok (.ifCond .le 68,3) from by decide +kernel) (z_le x) rfl
theorem m19_15 : M19 15 [.val (.ref r),l1,l2,l3] st H Q = M19 16 [.val (.ref r),l1,l2,l3] (.ref r::st) H Q:=w_x (show decode kb19 15 = .ok (.aload_n 0,1) from by decide +kernel) rfl
theorem m19_16 : M19 16 ls (.ref b::st) (put b pre s A post) Q = M19 19 ls (.ref (b + 22)::st) (put b pre s A post) Q:=w_get (show decode kb19 16 = .ok (.getfield 73,3) from by decide +kernel) gf_73 put_o rfl
theorem m19_19 : M19 19 [.val (.ref r),l1,l2,l3] st H Q = M19 20 [.val (.ref r),l1,l2,l3] (.ref r::st) H Q:=w_x (show decode kb19 19 = .ok (.aload_n 0,1) from by decide +kernel) rfl
theorem m19_20 : M19 20 ls (.ref b::st) (put b pre s A post) Q = M19 23 ls (.int (s 13)::st) (put b pre s A post) Q:=w_get (show decode kb19 20 = .ok (.getfield 187,3) from by decide +kernel) gf_187 put_o rfl
theorem m19_23 : M19 23 ls st H Q = M19 24 ls (.int 1::st) H Q:=w_con (show decode kb19 23 = .ok (.iconst 1,1) from by decide +kernel) rfl (by decide)
theorem m19_24 : M19 24 ls (.int y::.int x::st) H Q = M19 25 ls (.int (x - y)::st) H Q:=w_x (show decode kb19 24 = .ok (.isub,1) from by decide +kernel) rfl
theorem m19_25  : M19 25 ls (.int j::.ref (b + 22)::st) (put b pre s A post) Q = (inB j (A 21)∧M19 26 ls (.int (getA (A 21) j)::st) (put b pre s A post) Q):=w_ild (show decode kb19 25 = .ok (.iaload,1) from by decide +kernel) rfl put_a21
theorem m19_26u : M19 26 [l0,l1,l2,.unset] ((.int v)::st) H Q = M19 27 [l0,l1,l2,.val (.int v)] st H Q:=w_st (i:=3) (p:=isI) (show decode kb19 26 = .ok (.istore_n 3,1) from by decide +kernel) rfl rfl rfl rfl rfl rfl
theorem m19_26i : M19 26 [l0,l1,l2,.val (.int z)] ((.int v)::st) H Q = M19 27 [l0,l1,l2,.val (.int v)] st H Q:=w_st (i:=3) (p:=isI) (show decode kb19 26 = .ok (.istore_n 3,1) from by decide +kernel) rfl rfl rfl rfl rfl rfl
theorem m19_26r : M19 26 [l0,l1,l2,.val (.ref q)] ((.int v)::st) H Q = M19 27 [l0,l1,l2,.val (.int v)] st H Q:=w_st (i:=3) (p:=isI) (show decode kb19 26 = .ok (.istore_n 3,1) from by decide +kernel) rfl rfl rfl rfl rfl rfl
theorem m19_27 : M19 27 [l0,l1,l2,.val (.int v)] st H Q = M19 28 [l0,l1,l2,.val (.int v)] (.int v::st) H Q:=w_x (show decode kb19 27 = .ok (.iload_n 3,1) from by decide +kernel) rfl
theorem m19_28 : M19 28 ls st H Q = M19 29 ls (.int 2::st) H Q:=w_con (show decode kb19 28 = .ok (.iconst 2,1) from by decide +kernel) rfl (by decide)
theorem m19_29 : M19 29 ls (.int y::.int x::st) H Q = if x = y then M19 32 ls st H Q else M19 34 ls st H Q:=w_icmpN (show decode kb19 29 = .ok (.if_icmp .ne 5,3) from by decide +kernel) (i_ne x y) rfl
theorem m19_34 : M19 34 [.val (.ref r),l1,l2,l3] st H Q = M19 35 [.val (.ref r),l1,l2,l3] (.ref r::st) H Q:=w_x (show decode kb19 34 = .ok (.aload_n 0,1) from by decide +kernel) rfl
theorem m19_35 : M19 35 [l0,l1,l2,.val (.int v)] st H Q = M19 36 [l0,l1,l2,.val (.int v)] (.int v::st) H Q:=w_x (show decode kb19 35 = .ok (.iload_n 3,1) from by decide +kernel) rfl
theorem cr19_217 : vR tables_1 dn y19 217 = some (true,y18,prog_1_method_27_code,2,(some .int),1,3):=pR_of (cR_of (by decide +kernel) rc_18 dn_18 dn_19 (sig:=⟨[.int],some .int⟩) (by decide +kernel) (by decide +kernel) rfl rfl) (by decide +kernel) (by decide +kernel)
theorem m19_36 (a0 : Int32) : M19 36 ls [.int a0,.ref b] (put b pre s A post) Q = M18 0 [.val (.ref b),.val (.int a0)] [] (put b pre s A post) (fun v H1 => M19 39 ls (v.toList ++ []) H1 Q):=w_virt (as:=[.int a0]) (rest:=[]) (a:=b) (show decode kb19 36 = .ok (.invokevirtual 217,3) from by decide +kernel) cr19_217 put_o rfl rfl (Nat.le_of_ble_eq_true rfl) (by show 2≤2; omega) rfl
theorem m19_39 : M19 39 [l0,.val (.int v),l2,l3] st H Q = M19 40 [l0,.val (.int v),l2,l3] (.int v::st) H Q:=w_x (show decode kb19 39 = .ok (.iload_n 1,1) from by decide +kernel) rfl
theorem m19_40 : M19 40 ls (.int y::.int x::st) H Q = if x < y then M19 43 ls st H Q else M19 45 ls st H Q:=w_icmpN (show decode kb19 40 = .ok (.if_icmp .ge 5,3) from by decide +kernel) (i_ge x y) rfl
theorem m19_45 : M19 45 [.val (.ref r),l1,l2,l3] st H Q = M19 46 [.val (.ref r),l1,l2,l3] (.ref r::st) H Q:=w_x (show decode kb19 45 = .ok (.aload_n 0,1) from by decide +kernel) rfl
theorem m19_46 : M19 46 [.val (.ref r),l1,l2,l3] st H Q = M19 47 [.val (.ref r),l1,l2,l3] (.ref r::st) H Q:=w_x (show decode kb19 46 = .ok (.aload_n 0,1) from by decide +kernel) rfl
theorem m19_47 : M19 47 ls (.ref b::st) (put b pre s A post) Q = M19 50 ls (.int (s 13)::st) (put b pre s A post) Q:=w_get (show decode kb19 47 = .ok (.getfield 187,3) from by decide +kernel) gf_187 put_o rfl
theorem m19_50 : M19 50 ls st H Q = M19 51 ls (.int 1::st) H Q:=w_con (show decode kb19 50 = .ok (.iconst 1,1) from by decide +kernel) rfl (by decide)
theorem m19_51 : M19 51 ls (.int y::.int x::st) H Q = M19 52 ls (.int (x - y)::st) H Q:=w_x (show decode kb19 51 = .ok (.isub,1) from by decide +kernel) rfl
theorem pf19_187 : pfR tables_1 y19.cls y19.name 187 = some ("AgentExprDbg", 43,.int):=by decide +kernel
theorem m19_52 : M19 52 ls (.int v::.ref b::st) (put b pre s A post) Q = M19 55 ls st (put b pre (ou s 13 v) A post) Q:=w_put (show decode kb19 52 = .ok (.putfield 187,3) from by decide +kernel) pf19_187 put_o (Nat.zero_le _) (by show 43 < 60; omega) rfl put_s13
theorem m19_55 : M19 55 [.val (.ref r),l1,l2,l3] st H Q = M19 56 [.val (.ref r),l1,l2,l3] (.ref r::st) H Q:=w_x (show decode kb19 55 = .ok (.aload_n 0,1) from by decide +kernel) rfl
theorem m19_56 : M19 56 [l0,l1,l2,.val (.int v)] st H Q = M19 57 [l0,l1,l2,.val (.int v)] (.int v::st) H Q:=w_x (show decode kb19 56 = .ok (.iload_n 3,1) from by decide +kernel) rfl
theorem m19_57 : M19 57 [.val (.ref r),l1,l2,l3] st H Q = M19 58 [.val (.ref r),l1,l2,l3] (.ref r::st) H Q:=w_x (show decode kb19 57 = .ok (.aload_n 0,1) from by decide +kernel) rfl
theorem m19_58 : M19 58 ls (.ref b::st) (put b pre s A post) Q = M19 61 ls (.ref (b + 23)::st) (put b pre s A post) Q:=w_get (show decode kb19 58 = .ok (.getfield 76,3) from by decide +kernel) gf_76 put_o rfl
theorem m19_61 : M19 61 [.val (.ref r),l1,l2,l3] st H Q = M19 62 [.val (.ref r),l1,l2,l3] (.ref r::st) H Q:=w_x (show decode kb19 61 = .ok (.aload_n 0,1) from by decide +kernel) rfl
theorem m19_62 : M19 62 ls (.ref b::st) (put b pre s A post) Q = M19 65 ls (.int (s 13)::st) (put b pre s A post) Q:=w_get (show decode kb19 62 = .ok (.getfield 187,3) from by decide +kernel) gf_187 put_o rfl
theorem m19_65  : M19 65 ls (.int j::.ref (b + 23)::st) (put b pre s A post) Q = (inB j (A 22)∧M19 66 ls (.int (getA (A 22) j)::st) (put b pre s A post) Q):=w_ild (show decode kb19 65 = .ok (.iaload,1) from by decide +kernel) rfl put_a22
theorem cr19_223 : vR tables_1 dn y19 223 = some (true,y22,prog_1_method_18_code,3,(some .boolean),2,0):=pR_of (cR_of (by decide +kernel) rc_22 dn_22 dn_19 (sig:=⟨[.int,.int],some .boolean⟩) (by decide +kernel) (by decide +kernel) rfl rfl) (by decide +kernel) (by decide +kernel)
theorem m19_66 (a0 : Int32) (a1 : Int32) : M19 66 ls [.int a1,.int a0,.ref b] (put b pre s A post) Q = M22 0 [.val (.ref b),.val (.int a0),.val (.int a1)] [] (put b pre s A post) (fun v H1 => M19 69 ls (v.toList ++ []) H1 Q):=w_virt (as:=[.int a1,.int a0]) (rest:=[]) (a:=b) (show decode kb19 66 = .ok (.invokevirtual 223,3) from by decide +kernel) cr19_223 put_o rfl rfl (Nat.le_of_ble_eq_true rfl) (by show 3≤3; omega) rfl
theorem m19_69 : M19 69 ls (.int x::st) H Q = if x = 0 then M19 72 ls st H Q else M19 74 ls st H Q:=w_ifN (show decode kb19 69 = .ok (.ifCond .ne 5,3) from by decide +kernel) (z_ne x) rfl
theorem m19_74 : M19 74 [l0,l1,.val (.int v),l3] st H Q = M19 77 [l0,l1,.val (.int (v + 1)),l3] st H Q:=w_iinc (show decode kb19 74 = .ok (.iinc 2 1,3) from by decide +kernel) rfl (by decide) rfl
theorem m19_77 : M19 77 ls st H Q = M19 2 ls st H Q:=w_x (show decode kb19 77 = .ok (.goto (-75),3) from by decide +kernel) rfl
theorem m19_80 : M19 80 ls st H Q = M19 81 ls (.int 1::st) H Q:=w_con (show decode kb19 80 = .ok (.iconst 1,1) from by decide +kernel) rfl (by decide)
theorem m19_81 : M19 81 ls (.int z::st) H Q = Q (some (.int (nar .boolean z))) H:=w_iretN (show decode kb19 81 = .ok (.ireturn,1) from by decide +kernel) rfl (by simp)
theorem m20_0 : M20 0 [.val (.ref r),l1,l2] st H Q = M20 1 [.val (.ref r),l1,l2] (.ref r::st) H Q:=w_x (show decode kb20 0 = .ok (.aload_n 0,1) from by decide +kernel) rfl
theorem m20_1 : M20 1 ls (.ref b::st) (put b pre s A post) Q = M20 4 ls (.int (s 13)::st) (put b pre s A post) Q:=w_get (show decode kb20 1 = .ok (.getfield 187,3) from by decide +kernel) gf_187 put_o rfl
theorem m20_4 : M20 4 ls (.int x::st) H Q = if x < 0 then M20 16 ls st H Q else M20 7 ls st H Q:=w_if (show decode kb20 4 = .ok (.ifCond .lt 12,3) from by decide +kernel) (z_lt x) rfl
theorem m20_7 : M20 7 [.val (.ref r),l1,l2] st H Q = M20 8 [.val (.ref r),l1,l2] (.ref r::st) H Q:=w_x (show decode kb20 7 = .ok (.aload_n 0,1) from by decide +kernel) rfl
theorem m20_8 : M20 8 ls (.ref b::st) (put b pre s A post) Q = M20 11 ls (.int (s 13)::st) (put b pre s A post) Q:=w_get (show decode kb20 8 = .ok (.getfield 187,3) from by decide +kernel) gf_187 put_o rfl
theorem m20_11 : M20 11 ls st H Q = M20 13 ls (.int 32::st) H Q:=w_con (show decode kb20 11 = .ok (.bipush 32,2) from by decide +kernel) rfl (by decide)
theorem m20_13 : M20 13 ls (.int y::.int x::st) H Q = if x < y then M20 18 ls st H Q else M20 16 ls st H Q:=w_icmp (show decode kb20 13 = .ok (.if_icmp .lt 5,3) from by decide +kernel) (i_lt x y) rfl
theorem m20_18 : M20 18 [.val (.ref r),l1,l2] st H Q = M20 19 [.val (.ref r),l1,l2] (.ref r::st) H Q:=w_x (show decode kb20 18 = .ok (.aload_n 0,1) from by decide +kernel) rfl
theorem m20_19 : M20 19 ls (.ref b::st) (put b pre s A post) Q = M20 22 ls (.ref (b + 22)::st) (put b pre s A post) Q:=w_get (show decode kb20 19 = .ok (.getfield 73,3) from by decide +kernel) gf_73 put_o rfl
theorem m20_22 : M20 22 [.val (.ref r),l1,l2] st H Q = M20 23 [.val (.ref r),l1,l2] (.ref r::st) H Q:=w_x (show decode kb20 22 = .ok (.aload_n 0,1) from by decide +kernel) rfl
theorem m20_23 : M20 23 ls (.ref b::st) (put b pre s A post) Q = M20 26 ls (.int (s 13)::st) (put b pre s A post) Q:=w_get (show decode kb20 23 = .ok (.getfield 187,3) from by decide +kernel) gf_187 put_o rfl
theorem m20_26 : M20 26 [l0,.val (.int v),l2] st H Q = M20 27 [l0,.val (.int v),l2] (.int v::st) H Q:=w_x (show decode kb20 26 = .ok (.iload_n 1,1) from by decide +kernel) rfl
theorem m20_27  : M20 27 ls (.int v::.int j::.ref (b + 22)::st) (put b pre s A post) Q = (inB j (A 21)∧M20 28 ls st (put b pre s (ou A 21 (setA (A 21) j v)) post) Q):=w_ist (show decode kb20 27 = .ok (.iastore,1) from by decide +kernel) rfl put_a21 (Nat.zero_le _) rfl put_w21
theorem m20_28 : M20 28 [.val (.ref r),l1,l2] st H Q = M20 29 [.val (.ref r),l1,l2] (.ref r::st) H Q:=w_x (show decode kb20 28 = .ok (.aload_n 0,1) from by decide +kernel) rfl
theorem m20_29 : M20 29 ls (.ref b::st) (put b pre s A post) Q = M20 32 ls (.ref (b + 23)::st) (put b pre s A post) Q:=w_get (show decode kb20 29 = .ok (.getfield 76,3) from by decide +kernel) gf_76 put_o rfl
theorem m20_32 : M20 32 [.val (.ref r),l1,l2] st H Q = M20 33 [.val (.ref r),l1,l2] (.ref r::st) H Q:=w_x (show decode kb20 32 = .ok (.aload_n 0,1) from by decide +kernel) rfl
theorem m20_33 : M20 33 ls (.ref b::st) (put b pre s A post) Q = M20 36 ls (.int (s 13)::st) (put b pre s A post) Q:=w_get (show decode kb20 33 = .ok (.getfield 187,3) from by decide +kernel) gf_187 put_o rfl
theorem m20_36 : M20 36 [l0,l1,.val (.int v)] st H Q = M20 37 [l0,l1,.val (.int v)] (.int v::st) H Q:=w_x (show decode kb20 36 = .ok (.iload_n 2,1) from by decide +kernel) rfl
theorem m20_37  : M20 37 ls (.int v::.int j::.ref (b + 23)::st) (put b pre s A post) Q = (inB j (A 22)∧M20 38 ls st (put b pre s (ou A 22 (setA (A 22) j v)) post) Q):=w_ist (show decode kb20 37 = .ok (.iastore,1) from by decide +kernel) rfl put_a22 (Nat.zero_le _) rfl put_w22
theorem m20_38 : M20 38 [.val (.ref r),l1,l2] st H Q = M20 39 [.val (.ref r),l1,l2] (.ref r::st) H Q:=w_x (show decode kb20 38 = .ok (.aload_n 0,1) from by decide +kernel) rfl
theorem m20_39 : M20 39 [.val (.ref r),l1,l2] st H Q = M20 40 [.val (.ref r),l1,l2] (.ref r::st) H Q:=w_x (show decode kb20 39 = .ok (.aload_n 0,1) from by decide +kernel) rfl
theorem m20_40 : M20 40 ls (.ref b::st) (put b pre s A post) Q = M20 43 ls (.int (s 13)::st) (put b pre s A post) Q:=w_get (show decode kb20 40 = .ok (.getfield 187,3) from by decide +kernel) gf_187 put_o rfl
theorem m20_43 : M20 43 ls st H Q = M20 44 ls (.int 1::st) H Q:=w_con (show decode kb20 43 = .ok (.iconst 1,1) from by decide +kernel) rfl (by decide)
theorem m20_44 : M20 44 ls (.int y::.int x::st) H Q = M20 45 ls (.int (x + y)::st) H Q:=w_x (show decode kb20 44 = .ok (.iadd,1) from by decide +kernel) rfl
theorem pf20_187 : pfR tables_1 y20.cls y20.name 187 = some ("AgentExprDbg", 43,.int):=by decide +kernel
theorem m20_45 : M20 45 ls (.int v::.ref b::st) (put b pre s A post) Q = M20 48 ls st (put b pre (ou s 13 v) A post) Q:=w_put (show decode kb20 45 = .ok (.putfield 187,3) from by decide +kernel) pf20_187 put_o (Nat.zero_le _) (by show 43 < 60; omega) rfl put_s13
theorem m20_48 : M20 48 ls st H Q = M20 49 ls (.int 1::st) H Q:=w_con (show decode kb20 48 = .ok (.iconst 1,1) from by decide +kernel) rfl (by decide)
theorem m20_49 : M20 49 ls (.int z::st) H Q = Q (some (.int (nar .boolean z))) H:=w_iretN (show decode kb20 49 = .ok (.ireturn,1) from by decide +kernel) rfl (by simp)
theorem m21_0 : M21 0 [.val (.ref r)] st H Q = M21 1 [.val (.ref r)] (.ref r::st) H Q:=w_x (show decode kb21 0 = .ok (.aload_n 0,1) from by decide +kernel) rfl
theorem m21_1 : M21 1 ls st H Q = M21 2 ls (.int 1::st) H Q:=w_con (show decode kb21 1 = .ok (.iconst 1,1) from by decide +kernel) rfl (by decide)
theorem cr21_220 : vR tables_1 dn y21 220 = some (true,y19,prog_1_method_17_code,4,(some .boolean),1,0):=pR_of (cR_of (by decide +kernel) rc_19 dn_19 dn_21 (sig:=⟨[.int],some .boolean⟩) (by decide +kernel) (by decide +kernel) rfl rfl) (by decide +kernel) (by decide +kernel)
theorem m21_2 (a0 : Int32) : M21 2 ls [.int a0,.ref b] (put b pre s A post) Q = M19 0 [.val (.ref b),.val (.int a0),.unset,.unset] [] (put b pre s A post) (fun v H1 => M21 5 ls (v.toList ++ []) H1 Q):=w_virt (as:=[.int a0]) (rest:=[]) (a:=b) (show decode kb21 2 = .ok (.invokevirtual 220,3) from by decide +kernel) cr21_220 put_o rfl rfl (Nat.le_of_ble_eq_true rfl) (by show 2≤4; omega) rfl
theorem m21_5 : M21 5 ls (.int x::st) H Q = if x = 0 then M21 8 ls st H Q else M21 10 ls st H Q:=w_ifN (show decode kb21 5 = .ok (.ifCond .ne 5,3) from by decide +kernel) (z_ne x) rfl
theorem m21_10 : M21 10 [.val (.ref r)] st H Q = M21 11 [.val (.ref r)] (.ref r::st) H Q:=w_x (show decode kb21 10 = .ok (.aload_n 0,1) from by decide +kernel) rfl
theorem m21_11 : M21 11 ls (.ref b::st) (put b pre s A post) Q = M21 14 ls (.int (s 13)::st) (put b pre s A post) Q:=w_get (show decode kb21 11 = .ok (.getfield 187,3) from by decide +kernel) gf_187 put_o rfl
theorem m21_14 : M21 14 ls (.int x::st) H Q = if x = 0 then M21 19 ls st H Q else M21 17 ls st H Q:=w_if (show decode kb21 14 = .ok (.ifCond .eq 5,3) from by decide +kernel) (z_eq x) rfl
theorem m21_19 : M21 19 [.val (.ref r)] st H Q = M21 20 [.val (.ref r)] (.ref r::st) H Q:=w_x (show decode kb21 19 = .ok (.aload_n 0,1) from by decide +kernel) rfl
theorem cr21_229 : vR tables_1 dn y21 229 = some (true,y25,prog_1_method_21_code,2,(some .boolean),0,31):=pR_of (cR_of (by decide +kernel) rc_25 dn_25 dn_21 (sig:=⟨[],some .boolean⟩) (by decide +kernel) (by decide +kernel) rfl rfl) (by decide +kernel) (by decide +kernel)
theorem m21_20 : M21 20 ls [.ref b] (put b pre s A post) Q = M25 0 [.val (.ref b),.unset] [] (put b pre s A post) (fun v H1 => M21 23 ls (v.toList ++ []) H1 Q):=w_virt (as:=[]) (rest:=[]) (a:=b) (show decode kb21 20 = .ok (.invokevirtual 229,3) from by decide +kernel) cr21_229 put_o rfl rfl (Nat.le_of_ble_eq_true rfl) (by show 1≤2; omega) rfl
theorem m21_23 : M21 23 ls (.int x::st) H Q = if x = 0 then M21 26 ls st H Q else M21 28 ls st H Q:=w_ifN (show decode kb21 23 = .ok (.ifCond .ne 5,3) from by decide +kernel) (z_ne x) rfl
theorem m21_28 : M21 28 [.val (.ref r)] st H Q = M21 29 [.val (.ref r)] (.ref r::st) H Q:=w_x (show decode kb21 28 = .ok (.aload_n 0,1) from by decide +kernel) rfl
theorem m21_29 : M21 29 ls st H Q = M21 30 ls (.int 1::st) H Q:=w_con (show decode kb21 29 = .ok (.iconst 1,1) from by decide +kernel) rfl (by decide)
theorem pf21_168 : pfR tables_1 y21.cls y21.name 168 = some ("AgentExprDbg", 42,.boolean):=by decide +kernel
theorem m21_30 : M21 30 ls (.int v::.ref b::st) (put b pre s A post) Q = M21 33 ls st (put b pre (ou s 12 (nar .boolean v)) A post) Q:=w_put (show decode kb21 30 = .ok (.putfield 168,3) from by decide +kernel) pf21_168 put_o (Nat.zero_le _) (by show 42 < 60; omega) rfl put_s12
theorem m21_33 : M21 33 ls st H Q = M21 34 ls (.int 1::st) H Q:=w_con (show decode kb21 33 = .ok (.iconst 1,1) from by decide +kernel) rfl (by decide)
theorem m21_34 : M21 34 ls (.int z::st) H Q = Q (some (.int (nar .boolean z))) H:=w_iretN (show decode kb21 34 = .ok (.ireturn,1) from by decide +kernel) rfl (by simp)
theorem m22_0 : M22 0 [.val (.ref r),l1,l2] st H Q = M22 1 [.val (.ref r),l1,l2] (.ref r::st) H Q:=w_x (show decode kb22 0 = .ok (.aload_n 0,1) from by decide +kernel) rfl
theorem m22_1 : M22 1 [l0,.val (.int v),l2] st H Q = M22 2 [l0,.val (.int v),l2] (.int v::st) H Q:=w_x (show decode kb22 1 = .ok (.iload_n 1,1) from by decide +kernel) rfl
theorem cr22_199 : vR tables_1 dn y22 199 = some (true,y23,prog_1_method_28_code,2,(some .boolean),1,2):=pR_of (cR_of (by decide +kernel) rc_23 dn_23 dn_22 (sig:=⟨[.int],some .boolean⟩) (by decide +kernel) (by decide +kernel) rfl rfl) (by decide +kernel) (by decide +kernel)
theorem m22_2 (a0 : Int32) : M22 2 ls [.int a0,.ref b] (put b pre s A post) Q = M23 0 [.val (.ref b),.val (.int a0)] [] (put b pre s A post) (fun v H1 => M22 5 ls (v.toList ++ []) H1 Q):=w_virt (as:=[.int a0]) (rest:=[]) (a:=b) (show decode kb22 2 = .ok (.invokevirtual 199,3) from by decide +kernel) cr22_199 put_o rfl rfl (Nat.le_of_ble_eq_true rfl) (by show 2≤2; omega) rfl
theorem m22_5 : M22 5 ls (.int x::st) H Q = if x = 0 then M22 25 ls st H Q else M22 8 ls st H Q:=w_if (show decode kb22 5 = .ok (.ifCond .eq 20,3) from by decide +kernel) (z_eq x) rfl
theorem m22_8 : M22 8 [.val (.ref r),l1,l2] st H Q = M22 9 [.val (.ref r),l1,l2] (.ref r::st) H Q:=w_x (show decode kb22 8 = .ok (.aload_n 0,1) from by decide +kernel) rfl
theorem m22_9 : M22 9 ls (.ref b::st) (put b pre s A post) Q = M22 12 ls (.int (s 14)::st) (put b pre s A post) Q:=w_get (show decode kb22 9 = .ok (.getfield 190,3) from by decide +kernel) gf_190 put_o rfl
theorem m22_12 : M22 12 ls st H Q = M22 13 ls (.int 1::st) H Q:=w_con (show decode kb22 12 = .ok (.iconst 1,1) from by decide +kernel) rfl (by decide)
theorem m22_13 : M22 13 ls (.int y::.int x::st) H Q = if x < y then M22 16 ls st H Q else M22 18 ls st H Q:=w_icmpN (show decode kb22 13 = .ok (.if_icmp .ge 5,3) from by decide +kernel) (i_ge x y) rfl
theorem m22_18 : M22 18 [.val (.ref r),l1,l2] st H Q = M22 19 [.val (.ref r),l1,l2] (.ref r::st) H Q:=w_x (show decode kb22 18 = .ok (.aload_n 0,1) from by decide +kernel) rfl
theorem m22_19 : M22 19 [l0,.val (.int v),l2] st H Q = M22 20 [l0,.val (.int v),l2] (.int v::st) H Q:=w_x (show decode kb22 19 = .ok (.iload_n 1,1) from by decide +kernel) rfl
theorem m22_20 : M22 20 ls st H Q = M22 21 ls (.int 0::st) H Q:=w_con (show decode kb22 20 = .ok (.iconst 0,1) from by decide +kernel) rfl (by decide)
theorem cr22_196 : vR tables_1 dn y22 196 = some (true,y14,prog_1_method_26_code,3,(some .boolean),2,1):=pR_of (cR_of (by decide +kernel) rc_14 dn_14 dn_22 (sig:=⟨[.int,.int],some .boolean⟩) (by decide +kernel) (by decide +kernel) rfl rfl) (by decide +kernel) (by decide +kernel)
theorem m22_21 (a0 : Int32) (a1 : Int32) : M22 21 ls [.int a1,.int a0,.ref b] (put b pre s A post) Q = M14 0 [.val (.ref b),.val (.int a0),.val (.int a1)] [] (put b pre s A post) (fun v H1 => M22 24 ls (v.toList ++ []) H1 Q):=w_virt (as:=[.int a1,.int a0]) (rest:=[]) (a:=b) (show decode kb22 21 = .ok (.invokevirtual 196,3) from by decide +kernel) cr22_196 put_o rfl rfl (Nat.le_of_ble_eq_true rfl) (by show 3≤3; omega) rfl
theorem m22_24 : M22 24 ls (.int z::st) H Q = Q (some (.int (nar .boolean z))) H:=w_iretN (show decode kb22 24 = .ok (.ireturn,1) from by decide +kernel) rfl (by simp)
theorem m22_25 : M22 25 [.val (.ref r),l1,l2] st H Q = M22 26 [.val (.ref r),l1,l2] (.ref r::st) H Q:=w_x (show decode kb22 25 = .ok (.aload_n 0,1) from by decide +kernel) rfl
theorem cr22_226 : vR tables_1 dn y22 226 = some (true,y24,prog_1_method_23_code,4,(some .boolean),0,0):=pR_of (cR_of (by decide +kernel) rc_24 dn_24 dn_22 (sig:=⟨[],some .boolean⟩) (by decide +kernel) (by decide +kernel) rfl rfl) (by decide +kernel) (by decide +kernel)
theorem m22_26 : M22 26 ls [.ref b] (put b pre s A post) Q = M24 0 [.val (.ref b),.unset,.unset,.unset] [] (put b pre s A post) (fun v H1 => M22 29 ls (v.toList ++ []) H1 Q):=w_virt (as:=[]) (rest:=[]) (a:=b) (show decode kb22 26 = .ok (.invokevirtual 226,3) from by decide +kernel) cr22_226 put_o rfl rfl (Nat.le_of_ble_eq_true rfl) (by show 1≤4; omega) rfl
theorem m22_29 : M22 29 ls (.int x::st) H Q = if x = 0 then M22 32 ls st H Q else M22 34 ls st H Q:=w_ifN (show decode kb22 29 = .ok (.ifCond .ne 5,3) from by decide +kernel) (z_ne x) rfl
theorem m22_34 : M22 34 [l0,.val (.int v),l2] st H Q = M22 35 [l0,.val (.int v),l2] (.int v::st) H Q:=w_x (show decode kb22 34 = .ok (.iload_n 1,1) from by decide +kernel) rfl
theorem m22_35 : M22 35 ls st H Q = M22 37 ls (.int 19::st) H Q:=w_con (show decode kb22 35 = .ok (.bipush 19,2) from by decide +kernel) rfl (by decide)
theorem m22_37 : M22 37 ls (.int y::.int x::st) H Q = if x = y then M22 46 ls st H Q else M22 40 ls st H Q:=w_icmp (show decode kb22 37 = .ok (.if_icmp .eq 9,3) from by decide +kernel) (i_eq x y) rfl
theorem m22_40 : M22 40 [l0,.val (.int v),l2] st H Q = M22 41 [l0,.val (.int v),l2] (.int v::st) H Q:=w_x (show decode kb22 40 = .ok (.iload_n 1,1) from by decide +kernel) rfl
theorem m22_41 : M22 41 ls st H Q = M22 43 ls (.int 20::st) H Q:=w_con (show decode kb22 41 = .ok (.bipush 20,2) from by decide +kernel) rfl (by decide)
theorem m22_43 : M22 43 ls (.int y::.int x::st) H Q = if x = y then M22 46 ls st H Q else M22 80 ls st H Q:=w_icmpN (show decode kb22 43 = .ok (.if_icmp .ne 37,3) from by decide +kernel) (i_ne x y) rfl
theorem m22_80 : M22 80 [.val (.ref r),l1,l2] st H Q = M22 81 [.val (.ref r),l1,l2] (.ref r::st) H Q:=w_x (show decode kb22 80 = .ok (.aload_n 0,1) from by decide +kernel) rfl
theorem m22_81 : M22 81 [l0,.val (.int v),l2] st H Q = M22 82 [l0,.val (.int v),l2] (.int v::st) H Q:=w_x (show decode kb22 81 = .ok (.iload_n 1,1) from by decide +kernel) rfl
theorem m22_82 : M22 82 ls st H Q = M22 83 ls (.int 0::st) H Q:=w_con (show decode kb22 82 = .ok (.iconst 0,1) from by decide +kernel) rfl (by decide)
theorem m22_83 (a0 : Int32) (a1 : Int32) : M22 83 ls [.int a1,.int a0,.ref b] (put b pre s A post) Q = M14 0 [.val (.ref b),.val (.int a0),.val (.int a1)] [] (put b pre s A post) (fun v H1 => M22 86 ls (v.toList ++ []) H1 Q):=w_virt (as:=[.int a1,.int a0]) (rest:=[]) (a:=b) (show decode kb22 83 = .ok (.invokevirtual 196,3) from by decide +kernel) cr22_196 put_o rfl rfl (Nat.le_of_ble_eq_true rfl) (by show 3≤3; omega) rfl
theorem m22_86 : M22 86 ls (.int z::st) H Q = Q (some (.int (nar .boolean z))) H:=w_iretN (show decode kb22 86 = .ok (.ireturn,1) from by decide +kernel) rfl (by simp)
theorem m23_0 : M23 0 [l0,.val (.int v)] st H Q = M23 1 [l0,.val (.int v)] (.int v::st) H Q:=w_x (show decode kb23 0 = .ok (.iload_n 1,1) from by decide +kernel) rfl
theorem m23_1 : M23 1 ls st H Q = M23 2 ls (.int 5::st) H Q:=w_con (show decode kb23 1 = .ok (.iconst 5,1) from by decide +kernel) rfl (by decide)
theorem m23_2 : M23 2 ls (.int y::.int x::st) H Q = if x = y then M23 17 ls st H Q else M23 5 ls st H Q:=w_icmp (show decode kb23 2 = .ok (.if_icmp .eq 15,3) from by decide +kernel) (i_eq x y) rfl
theorem m23_5 : M23 5 [l0,.val (.int v)] st H Q = M23 6 [l0,.val (.int v)] (.int v::st) H Q:=w_x (show decode kb23 5 = .ok (.iload_n 1,1) from by decide +kernel) rfl
theorem m23_6 : M23 6 ls st H Q = M23 8 ls (.int 6::st) H Q:=w_con (show decode kb23 6 = .ok (.bipush 6,2) from by decide +kernel) rfl (by decide)
theorem m23_8 : M23 8 ls (.int y::.int x::st) H Q = if x = y then M23 17 ls st H Q else M23 11 ls st H Q:=w_icmp (show decode kb23 8 = .ok (.if_icmp .eq 9,3) from by decide +kernel) (i_eq x y) rfl
theorem m23_11 : M23 11 [l0,.val (.int v)] st H Q = M23 12 [l0,.val (.int v)] (.int v::st) H Q:=w_x (show decode kb23 11 = .ok (.iload_n 1,1) from by decide +kernel) rfl
theorem m23_12 : M23 12 ls st H Q = M23 14 ls (.int 7::st) H Q:=w_con (show decode kb23 12 = .ok (.bipush 7,2) from by decide +kernel) rfl (by decide)
theorem m23_14 : M23 14 ls (.int y::.int x::st) H Q = if x = y then M23 17 ls st H Q else M23 21 ls st H Q:=w_icmpN (show decode kb23 14 = .ok (.if_icmp .ne 7,3) from by decide +kernel) (i_ne x y) rfl
theorem m23_17 : M23 17 ls st H Q = M23 18 ls (.int 1::st) H Q:=w_con (show decode kb23 17 = .ok (.iconst 1,1) from by decide +kernel) rfl (by decide)
theorem m23_18 : M23 18 ls st H Q = M23 22 ls st H Q:=w_x (show decode kb23 18 = .ok (.goto 4,3) from by decide +kernel) rfl
theorem m23_21 : M23 21 ls st H Q = M23 22 ls (.int 0::st) H Q:=w_con (show decode kb23 21 = .ok (.iconst 0,1) from by decide +kernel) rfl (by decide)
theorem m23_22 : M23 22 ls (.int z::st) H Q = Q (some (.int (nar .boolean z))) H:=w_iretN (show decode kb23 22 = .ok (.ireturn,1) from by decide +kernel) rfl (by simp)
theorem m24_0 : M24 0 [.val (.ref r),l1,l2,l3] st H Q = M24 1 [.val (.ref r),l1,l2,l3] (.ref r::st) H Q:=w_x (show decode kb24 0 = .ok (.aload_n 0,1) from by decide +kernel) rfl
theorem m24_1 : M24 1 ls (.ref b::st) (put b pre s A post) Q = M24 4 ls (.int (s 14)::st) (put b pre s A post) Q:=w_get (show decode kb24 1 = .ok (.getfield 190,3) from by decide +kernel) gf_190 put_o rfl
theorem m24_4 : M24 4 ls st H Q = M24 5 ls (.int 2::st) H Q:=w_con (show decode kb24 4 = .ok (.iconst 2,1) from by decide +kernel) rfl (by decide)
theorem m24_5 : M24 5 ls (.int y::.int x::st) H Q = if x < y then M24 17 ls st H Q else M24 8 ls st H Q:=w_icmp (show decode kb24 5 = .ok (.if_icmp .lt 12,3) from by decide +kernel) (i_lt x y) rfl
theorem m24_8 : M24 8 [.val (.ref r),l1,l2,l3] st H Q = M24 9 [.val (.ref r),l1,l2,l3] (.ref r::st) H Q:=w_x (show decode kb24 8 = .ok (.aload_n 0,1) from by decide +kernel) rfl
theorem m24_9 : M24 9 ls (.ref b::st) (put b pre s A post) Q = M24 12 ls (.int (s 14)::st) (put b pre s A post) Q:=w_get (show decode kb24 9 = .ok (.getfield 190,3) from by decide +kernel) gf_190 put_o rfl
theorem m24_12 : M24 12 ls st H Q = M24 14 ls (.int 32::st) H Q:=w_con (show decode kb24 12 = .ok (.bipush 32,2) from by decide +kernel) rfl (by decide)
theorem m24_14 : M24 14 ls (.int y::.int x::st) H Q = if y < x then M24 17 ls st H Q else M24 19 ls st H Q:=w_icmpN (show decode kb24 14 = .ok (.if_icmp .le 5,3) from by decide +kernel) (i_le x y) rfl
theorem m24_19 : M24 19 [.val (.ref r),l1,l2,l3] st H Q = M24 20 [.val (.ref r),l1,l2,l3] (.ref r::st) H Q:=w_x (show decode kb24 19 = .ok (.aload_n 0,1) from by decide +kernel) rfl
theorem m24_20 : M24 20 ls (.ref b::st) (put b pre s A post) Q = M24 23 ls (.ref (b + 24)::st) (put b pre s A post) Q:=w_get (show decode kb24 20 = .ok (.getfield 79,3) from by decide +kernel) gf_79 put_o rfl
theorem m24_23 : M24 23 [.val (.ref r),l1,l2,l3] st H Q = M24 24 [.val (.ref r),l1,l2,l3] (.ref r::st) H Q:=w_x (show decode kb24 23 = .ok (.aload_n 0,1) from by decide +kernel) rfl
theorem m24_24 : M24 24 ls (.ref b::st) (put b pre s A post) Q = M24 27 ls (.int (s 14)::st) (put b pre s A post) Q:=w_get (show decode kb24 24 = .ok (.getfield 190,3) from by decide +kernel) gf_190 put_o rfl
theorem m24_27 : M24 27 ls st H Q = M24 28 ls (.int 1::st) H Q:=w_con (show decode kb24 27 = .ok (.iconst 1,1) from by decide +kernel) rfl (by decide)
theorem m24_28 : M24 28 ls (.int y::.int x::st) H Q = M24 29 ls (.int (x - y)::st) H Q:=w_x (show decode kb24 28 = .ok (.isub,1) from by decide +kernel) rfl
theorem m24_29  : M24 29 ls (.int j::.ref (b + 24)::st) (put b pre s A post) Q = (inB j (A 23)∧M24 30 ls (.int (getA (A 23) j)::st) (put b pre s A post) Q):=w_ild (show decode kb24 29 = .ok (.iaload,1) from by decide +kernel) rfl put_a23
theorem m24_30u : M24 30 [l0,.unset,l2,l3] ((.int v)::st) H Q = M24 31 [l0,.val (.int v),l2,l3] st H Q:=w_st (i:=1) (p:=isI) (show decode kb24 30 = .ok (.istore_n 1,1) from by decide +kernel) rfl rfl rfl rfl rfl rfl
theorem m24_31 : M24 31 [.val (.ref r),l1,l2,l3] st H Q = M24 32 [.val (.ref r),l1,l2,l3] (.ref r::st) H Q:=w_x (show decode kb24 31 = .ok (.aload_n 0,1) from by decide +kernel) rfl
theorem m24_32 : M24 32 ls (.ref b::st) (put b pre s A post) Q = M24 35 ls (.ref (b + 24)::st) (put b pre s A post) Q:=w_get (show decode kb24 32 = .ok (.getfield 79,3) from by decide +kernel) gf_79 put_o rfl
theorem m24_35 : M24 35 [.val (.ref r),l1,l2,l3] st H Q = M24 36 [.val (.ref r),l1,l2,l3] (.ref r::st) H Q:=w_x (show decode kb24 35 = .ok (.aload_n 0,1) from by decide +kernel) rfl
theorem m24_36 : M24 36 ls (.ref b::st) (put b pre s A post) Q = M24 39 ls (.int (s 14)::st) (put b pre s A post) Q:=w_get (show decode kb24 36 = .ok (.getfield 190,3) from by decide +kernel) gf_190 put_o rfl
theorem m24_39 : M24 39 ls st H Q = M24 40 ls (.int 2::st) H Q:=w_con (show decode kb24 39 = .ok (.iconst 2,1) from by decide +kernel) rfl (by decide)
theorem m24_40 : M24 40 ls (.int y::.int x::st) H Q = M24 41 ls (.int (x - y)::st) H Q:=w_x (show decode kb24 40 = .ok (.isub,1) from by decide +kernel) rfl
theorem m24_41  : M24 41 ls (.int j::.ref (b + 24)::st) (put b pre s A post) Q = (inB j (A 23)∧M24 42 ls (.int (getA (A 23) j)::st) (put b pre s A post) Q):=w_ild (show decode kb24 41 = .ok (.iaload,1) from by decide +kernel) rfl put_a23
theorem m24_42u : M24 42 [l0,l1,.unset,l3] ((.int v)::st) H Q = M24 43 [l0,l1,.val (.int v),l3] st H Q:=w_st (i:=2) (p:=isI) (show decode kb24 42 = .ok (.istore_n 2,1) from by decide +kernel) rfl rfl rfl rfl rfl rfl
theorem m24_43 : M24 43 [.val (.ref r),l1,l2,l3] st H Q = M24 44 [.val (.ref r),l1,l2,l3] (.ref r::st) H Q:=w_x (show decode kb24 43 = .ok (.aload_n 0,1) from by decide +kernel) rfl
theorem m24_44 : M24 44 [.val (.ref r),l1,l2,l3] st H Q = M24 45 [.val (.ref r),l1,l2,l3] (.ref r::st) H Q:=w_x (show decode kb24 44 = .ok (.aload_n 0,1) from by decide +kernel) rfl
theorem m24_45 : M24 45 ls (.ref b::st) (put b pre s A post) Q = M24 48 ls (.int (s 14)::st) (put b pre s A post) Q:=w_get (show decode kb24 45 = .ok (.getfield 190,3) from by decide +kernel) gf_190 put_o rfl
theorem m24_48 : M24 48 ls st H Q = M24 49 ls (.int 1::st) H Q:=w_con (show decode kb24 48 = .ok (.iconst 1,1) from by decide +kernel) rfl (by decide)
theorem m24_49 : M24 49 ls (.int y::.int x::st) H Q = M24 50 ls (.int (x - y)::st) H Q:=w_x (show decode kb24 49 = .ok (.isub,1) from by decide +kernel) rfl
theorem pf24_190 : pfR tables_1 y24.cls y24.name 190 = some ("AgentExprDbg", 44,.int):=by decide +kernel
theorem m24_50 : M24 50 ls (.int v::.ref b::st) (put b pre s A post) Q = M24 53 ls st (put b pre (ou s 14 v) A post) Q:=w_put (show decode kb24 50 = .ok (.putfield 190,3) from by decide +kernel) pf24_190 put_o (Nat.zero_le _) (by show 44 < 60; omega) rfl put_s14
theorem m24_53 : M24 53 [l0,.val (.int v),l2,l3] st H Q = M24 54 [l0,.val (.int v),l2,l3] (.int v::st) H Q:=w_x (show decode kb24 53 = .ok (.iload_n 1,1) from by decide +kernel) rfl
theorem m24_54 : M24 54 ls st H Q = M24 55 ls (.int 1::st) H Q:=w_con (show decode kb24 54 = .ok (.iconst 1,1) from by decide +kernel) rfl (by decide)
theorem m24_55 : M24 55 ls (.int y::.int x::st) H Q = M24 56 ls (.int (x + y)::st) H Q:=w_x (show decode kb24 55 = .ok (.iadd,1) from by decide +kernel) rfl
theorem m24_56u : M24 56 [l0,l1,l2,.unset] ((.int v)::st) H Q = M24 57 [l0,l1,l2,.val (.int v)] st H Q:=w_st (i:=3) (p:=isI) (show decode kb24 56 = .ok (.istore_n 3,1) from by decide +kernel) rfl rfl rfl rfl rfl rfl
theorem m24_57 : M24 57 [.val (.ref r),l1,l2,l3] st H Q = M24 58 [.val (.ref r),l1,l2,l3] (.ref r::st) H Q:=w_x (show decode kb24 57 = .ok (.aload_n 0,1) from by decide +kernel) rfl
theorem m24_58 : M24 58 ls (.ref b::st) (put b pre s A post) Q = M24 61 ls (.ref (b + 24)::st) (put b pre s A post) Q:=w_get (show decode kb24 58 = .ok (.getfield 79,3) from by decide +kernel) gf_79 put_o rfl
theorem m24_61 : M24 61 [.val (.ref r),l1,l2,l3] st H Q = M24 62 [.val (.ref r),l1,l2,l3] (.ref r::st) H Q:=w_x (show decode kb24 61 = .ok (.aload_n 0,1) from by decide +kernel) rfl
theorem m24_62 : M24 62 ls (.ref b::st) (put b pre s A post) Q = M24 65 ls (.int (s 14)::st) (put b pre s A post) Q:=w_get (show decode kb24 62 = .ok (.getfield 190,3) from by decide +kernel) gf_190 put_o rfl
theorem m24_65 : M24 65 ls st H Q = M24 66 ls (.int 1::st) H Q:=w_con (show decode kb24 65 = .ok (.iconst 1,1) from by decide +kernel) rfl (by decide)
theorem m24_66 : M24 66 ls (.int y::.int x::st) H Q = M24 67 ls (.int (x - y)::st) H Q:=w_x (show decode kb24 66 = .ok (.isub,1) from by decide +kernel) rfl
theorem m24_67 : M24 67 [l0,l1,.val (.int v),l3] st H Q = M24 68 [l0,l1,.val (.int v),l3] (.int v::st) H Q:=w_x (show decode kb24 67 = .ok (.iload_n 2,1) from by decide +kernel) rfl
theorem m24_68 : M24 68 [l0,l1,l2,.val (.int v)] st H Q = M24 69 [l0,l1,l2,.val (.int v)] (.int v::st) H Q:=w_x (show decode kb24 68 = .ok (.iload_n 3,1) from by decide +kernel) rfl
theorem m24_69 : M24 69 ls (.int y::.int x::st) H Q = if y < x then M24 72 ls st H Q else M24 76 ls st H Q:=w_icmpN (show decode kb24 69 = .ok (.if_icmp .le 7,3) from by decide +kernel) (i_le x y) rfl
theorem m24_76 : M24 76 [l0,l1,l2,.val (.int v)] st H Q = M24 77 [l0,l1,l2,.val (.int v)] (.int v::st) H Q:=w_x (show decode kb24 76 = .ok (.iload_n 3,1) from by decide +kernel) rfl
theorem m24_77  : M24 77 ls (.int v::.int j::.ref (b + 24)::st) (put b pre s A post) Q = (inB j (A 23)∧M24 78 ls st (put b pre s (ou A 23 (setA (A 23) j v)) post) Q):=w_ist (show decode kb24 77 = .ok (.iastore,1) from by decide +kernel) rfl put_a23 (Nat.zero_le _) rfl put_w23
theorem m24_78 : M24 78 ls st H Q = M24 79 ls (.int 1::st) H Q:=w_con (show decode kb24 78 = .ok (.iconst 1,1) from by decide +kernel) rfl (by decide)
theorem m24_79 : M24 79 ls (.int z::st) H Q = Q (some (.int (nar .boolean z))) H:=w_iretN (show decode kb24 79 = .ok (.ireturn,1) from by decide +kernel) rfl (by simp)
theorem m25_0 : M25 0 [.val (.ref r),l1] st H Q = M25 1 [.val (.ref r),l1] (.ref r::st) H Q:=w_x (show decode kb25 0 = .ok (.aload_n 0,1) from by decide +kernel) rfl
theorem m25_1 : M25 1 ls (.ref b::st) (put b pre s A post) Q = M25 4 ls (.int (s 14)::st) (put b pre s A post) Q:=w_get (show decode kb25 1 = .ok (.getfield 190,3) from by decide +kernel) gf_190 put_o rfl
theorem m25_4 : M25 4 ls st H Q = M25 5 ls (.int 1::st) H Q:=w_con (show decode kb25 4 = .ok (.iconst 1,1) from by decide +kernel) rfl (by decide)
theorem m25_5 : M25 5 ls (.int y::.int x::st) H Q = if x = y then M25 10 ls st H Q else M25 8 ls st H Q:=w_icmp (show decode kb25 5 = .ok (.if_icmp .eq 5,3) from by decide +kernel) (i_eq x y) rfl
theorem m25_10 : M25 10 [.val (.ref r),l1] st H Q = M25 11 [.val (.ref r),l1] (.ref r::st) H Q:=w_x (show decode kb25 10 = .ok (.aload_n 0,1) from by decide +kernel) rfl
theorem m25_11 : M25 11 ls (.ref b::st) (put b pre s A post) Q = M25 14 ls (.ref (b + 24)::st) (put b pre s A post) Q:=w_get (show decode kb25 11 = .ok (.getfield 79,3) from by decide +kernel) gf_79 put_o rfl
theorem m25_14 : M25 14 ls st H Q = M25 15 ls (.int 0::st) H Q:=w_con (show decode kb25 14 = .ok (.iconst 0,1) from by decide +kernel) rfl (by decide)
theorem m25_15  : M25 15 ls (.int j::.ref (b + 24)::st) (put b pre s A post) Q = (inB j (A 23)∧M25 16 ls (.int (getA (A 23) j)::st) (put b pre s A post) Q):=w_ild (show decode kb25 15 = .ok (.iaload,1) from by decide +kernel) rfl put_a23
theorem m25_16u : M25 16 [l0,.unset] ((.int v)::st) H Q = M25 17 [l0,.val (.int v)] st H Q:=w_st (i:=1) (p:=isI) (show decode kb25 16 = .ok (.istore_n 1,1) from by decide +kernel) rfl rfl rfl rfl rfl rfl
theorem m25_17 : M25 17 [l0,.val (.int v)] st H Q = M25 18 [l0,.val (.int v)] (.int v::st) H Q:=w_x (show decode kb25 17 = .ok (.iload_n 1,1) from by decide +kernel) rfl
theorem m25_18 : M25 18 [.val (.ref r),l1] st H Q = M25 19 [.val (.ref r),l1] (.ref r::st) H Q:=w_x (show decode kb25 18 = .ok (.aload_n 0,1) from by decide +kernel) rfl
theorem m25_19 : M25 19 ls (.ref b::st) (put b pre s A post) Q = M25 22 ls (.int (s 11)::st) (put b pre s A post) Q:=w_get (show decode kb25 19 = .ok (.getfield 158,3) from by decide +kernel) gf_158 put_o rfl
theorem m25_22 : M25 22 ls (.int y::.int x::st) H Q = if y < x then M25 25 ls st H Q else M25 30 ls st H Q:=w_icmpN (show decode kb25 22 = .ok (.if_icmp .le 8,3) from by decide +kernel) (i_le x y) rfl
theorem m25_25 : M25 25 [.val (.ref r),l1] st H Q = M25 26 [.val (.ref r),l1] (.ref r::st) H Q:=w_x (show decode kb25 25 = .ok (.aload_n 0,1) from by decide +kernel) rfl
theorem m25_26 : M25 26 [l0,.val (.int v)] st H Q = M25 27 [l0,.val (.int v)] (.int v::st) H Q:=w_x (show decode kb25 26 = .ok (.iload_n 1,1) from by decide +kernel) rfl
theorem pf25_158 : pfR tables_1 y25.cls y25.name 158 = some ("AgentExprDbg", 41,.int):=by decide +kernel
theorem m25_27 : M25 27 ls (.int v::.ref b::st) (put b pre s A post) Q = M25 30 ls st (put b pre (ou s 11 v) A post) Q:=w_put (show decode kb25 27 = .ok (.putfield 158,3) from by decide +kernel) pf25_158 put_o (Nat.zero_le _) (by show 41 < 60; omega) rfl put_s11
theorem m25_30 : M25 30 [.val (.ref r),l1] st H Q = M25 31 [.val (.ref r),l1] (.ref r::st) H Q:=w_x (show decode kb25 30 = .ok (.aload_n 0,1) from by decide +kernel) rfl
theorem m25_31 : M25 31 ls (.ref b::st) (put b pre s A post) Q = M25 34 ls (.int (s 9)::st) (put b pre s A post) Q:=w_get (show decode kb25 31 = .ok (.getfield 155,3) from by decide +kernel) gf_155 put_o rfl
theorem m25_34 : M25 34 ls (.int x::st) H Q = if x < 0 then M25 71 ls st H Q else M25 37 ls st H Q:=w_if (show decode kb25 34 = .ok (.ifCond .lt 37,3) from by decide +kernel) (z_lt x) rfl
theorem m25_37 : M25 37 [.val (.ref r),l1] st H Q = M25 38 [.val (.ref r),l1] (.ref r::st) H Q:=w_x (show decode kb25 37 = .ok (.aload_n 0,1) from by decide +kernel) rfl
theorem m25_38 : M25 38 ls (.ref b::st) (put b pre s A post) Q = M25 41 ls (.int (s 9)::st) (put b pre s A post) Q:=w_get (show decode kb25 38 = .ok (.getfield 155,3) from by decide +kernel) gf_155 put_o rfl
theorem m25_41 : M25 41 ls st H Q = M25 42 ls (.int 4::st) H Q:=w_con (show decode kb25 41 = .ok (.iconst 4,1) from by decide +kernel) rfl (by decide)
theorem m25_42 : M25 42 ls (.int y::.int x::st) H Q = if x < y then M25 45 ls st H Q else M25 71 ls st H Q:=w_icmpN (show decode kb25 42 = .ok (.if_icmp .ge 29,3) from by decide +kernel) (i_ge x y) rfl
theorem m25_45 : M25 45 [.val (.ref r),l1] st H Q = M25 46 [.val (.ref r),l1] (.ref r::st) H Q:=w_x (show decode kb25 45 = .ok (.aload_n 0,1) from by decide +kernel) rfl
theorem m25_46 : M25 46 ls (.ref b::st) (put b pre s A post) Q = M25 49 ls (.ref (b + 20)::st) (put b pre s A post) Q:=w_get (show decode kb25 46 = .ok (.getfield 67,3) from by decide +kernel) gf_67 put_o rfl
theorem m25_49 : M25 49 [.val (.ref r),l1] st H Q = M25 50 [.val (.ref r),l1] (.ref r::st) H Q:=w_x (show decode kb25 49 = .ok (.aload_n 0,1) from by decide +kernel) rfl
theorem m25_50 : M25 50 ls (.ref b::st) (put b pre s A post) Q = M25 53 ls (.int (s 9)::st) (put b pre s A post) Q:=w_get (show decode kb25 50 = .ok (.getfield 155,3) from by decide +kernel) gf_155 put_o rfl
theorem m25_53 : M25 53 [.val (.ref r),l1] st H Q = M25 54 [.val (.ref r),l1] (.ref r::st) H Q:=w_x (show decode kb25 53 = .ok (.aload_n 0,1) from by decide +kernel) rfl
theorem m25_54 : M25 54 ls (.ref b::st) (put b pre s A post) Q = M25 57 ls (.int (s 10)::st) (put b pre s A post) Q:=w_get (show decode kb25 54 = .ok (.getfield 184,3) from by decide +kernel) gf_184 put_o rfl
theorem m25_57  : M25 57 ls (.int v::.int j::.ref (b + 20)::st) (put b pre s A post) Q = (inB j (A 19)∧M25 58 ls st (put b pre s (ou A 19 (setA (A 19) j v)) post) Q):=w_ist (show decode kb25 57 = .ok (.iastore,1) from by decide +kernel) rfl put_a19 (Nat.zero_le _) rfl put_w19
theorem m25_58 : M25 58 [.val (.ref r),l1] st H Q = M25 59 [.val (.ref r),l1] (.ref r::st) H Q:=w_x (show decode kb25 58 = .ok (.aload_n 0,1) from by decide +kernel) rfl
theorem m25_59 : M25 59 ls (.ref b::st) (put b pre s A post) Q = M25 62 ls (.ref (b + 21)::st) (put b pre s A post) Q:=w_get (show decode kb25 59 = .ok (.getfield 70,3) from by decide +kernel) gf_70 put_o rfl
theorem m25_62 : M25 62 [.val (.ref r),l1] st H Q = M25 63 [.val (.ref r),l1] (.ref r::st) H Q:=w_x (show decode kb25 62 = .ok (.aload_n 0,1) from by decide +kernel) rfl
theorem m25_63 : M25 63 ls (.ref b::st) (put b pre s A post) Q = M25 66 ls (.int (s 9)::st) (put b pre s A post) Q:=w_get (show decode kb25 63 = .ok (.getfield 155,3) from by decide +kernel) gf_155 put_o rfl
theorem m25_66 : M25 66 [.val (.ref r),l1] st H Q = M25 67 [.val (.ref r),l1] (.ref r::st) H Q:=w_x (show decode kb25 66 = .ok (.aload_n 0,1) from by decide +kernel) rfl
theorem m25_67 : M25 67 ls (.ref b::st) (put b pre s A post) Q = M25 70 ls (.int (s 8)::st) (put b pre s A post) Q:=w_get (show decode kb25 67 = .ok (.getfield 181,3) from by decide +kernel) gf_181 put_o rfl
theorem m25_70  : M25 70 ls (.int v::.int j::.ref (b + 21)::st) (put b pre s A post) Q = (inB j (A 20)∧M25 71 ls st (put b pre s (ou A 20 (setA (A 20) j v)) post) Q):=w_ist (show decode kb25 70 = .ok (.iastore,1) from by decide +kernel) rfl put_a20 (Nat.zero_le _) rfl put_w20
theorem m25_71 : M25 71 [.val (.ref r),l1] st H Q = M25 72 [.val (.ref r),l1] (.ref r::st) H Q:=w_x (show decode kb25 71 = .ok (.aload_n 0,1) from by decide +kernel) rfl
theorem m25_72 : M25 72 [.val (.ref r),l1] st H Q = M25 73 [.val (.ref r),l1] (.ref r::st) H Q:=w_x (show decode kb25 72 = .ok (.aload_n 0,1) from by decide +kernel) rfl
theorem m25_73 : M25 73 ls (.ref b::st) (put b pre s A post) Q = M25 76 ls (.int (s 9)::st) (put b pre s A post) Q:=w_get (show decode kb25 73 = .ok (.getfield 155,3) from by decide +kernel) gf_155 put_o rfl
theorem m25_76 : M25 76 ls st H Q = M25 77 ls (.int 1::st) H Q:=w_con (show decode kb25 76 = .ok (.iconst 1,1) from by decide +kernel) rfl (by decide)
theorem m25_77 : M25 77 ls (.int y::.int x::st) H Q = M25 78 ls (.int (x + y)::st) H Q:=w_x (show decode kb25 77 = .ok (.iadd,1) from by decide +kernel) rfl
theorem pf25_155 : pfR tables_1 y25.cls y25.name 155 = some ("AgentExprDbg", 39,.int):=by decide +kernel
theorem m25_78 : M25 78 ls (.int v::.ref b::st) (put b pre s A post) Q = M25 81 ls st (put b pre (ou s 9 v) A post) Q:=w_put (show decode kb25 78 = .ok (.putfield 155,3) from by decide +kernel) pf25_155 put_o (Nat.zero_le _) (by show 39 < 60; omega) rfl put_s9
theorem m25_81 : M25 81 [.val (.ref r),l1] st H Q = M25 82 [.val (.ref r),l1] (.ref r::st) H Q:=w_x (show decode kb25 81 = .ok (.aload_n 0,1) from by decide +kernel) rfl
theorem m25_82 : M25 82 [.val (.ref r),l1] st H Q = M25 83 [.val (.ref r),l1] (.ref r::st) H Q:=w_x (show decode kb25 82 = .ok (.aload_n 0,1) from by decide +kernel) rfl
theorem m25_83 : M25 83 ls (.ref b::st) (put b pre s A post) Q = M25 86 ls (.int (s 8)::st) (put b pre s A post) Q:=w_get (show decode kb25 83 = .ok (.getfield 181,3) from by decide +kernel) gf_181 put_o rfl
theorem pf25_184 : pfR tables_1 y25.cls y25.name 184 = some ("AgentExprDbg", 40,.int):=by decide +kernel
theorem m25_86 : M25 86 ls (.int v::.ref b::st) (put b pre s A post) Q = M25 89 ls st (put b pre (ou s 10 v) A post) Q:=w_put (show decode kb25 86 = .ok (.putfield 184,3) from by decide +kernel) pf25_184 put_o (Nat.zero_le _) (by show 40 < 60; omega) rfl put_s10
theorem m25_89 : M25 89 [.val (.ref r),l1] st H Q = M25 90 [.val (.ref r),l1] (.ref r::st) H Q:=w_x (show decode kb25 89 = .ok (.aload_n 0,1) from by decide +kernel) rfl
theorem m25_90 : M25 90 ls st H Q = M25 91 ls (.int 0::st) H Q:=w_con (show decode kb25 90 = .ok (.iconst 0,1) from by decide +kernel) rfl (by decide)
theorem pf25_190 : pfR tables_1 y25.cls y25.name 190 = some ("AgentExprDbg", 44,.int):=by decide +kernel
theorem m25_91 : M25 91 ls (.int v::.ref b::st) (put b pre s A post) Q = M25 94 ls st (put b pre (ou s 14 v) A post) Q:=w_put (show decode kb25 91 = .ok (.putfield 190,3) from by decide +kernel) pf25_190 put_o (Nat.zero_le _) (by show 44 < 60; omega) rfl put_s14
theorem m25_94 : M25 94 ls st H Q = M25 95 ls (.int 1::st) H Q:=w_con (show decode kb25 94 = .ok (.iconst 1,1) from by decide +kernel) rfl (by decide)
theorem m25_95 : M25 95 ls (.int z::st) H Q = Q (some (.int (nar .boolean z))) H:=w_iretN (show decode kb25 95 = .ok (.ireturn,1) from by decide +kernel) rfl (by simp)
theorem m26_0 : M26 0 [.val (.ref r)] st H Q = M26 1 [.val (.ref r)] (.ref r::st) H Q:=w_x (show decode kb26 0 = .ok (.aload_n 0,1) from by decide +kernel) rfl
theorem m26_1 : M26 1 ls (.ref b::st) (put b pre s A post) Q = M26 4 ls (.int (s 12)::st) (put b pre s A post) Q:=w_get (show decode kb26 1 = .ok (.getfield 168,3) from by decide +kernel) gf_168 put_o rfl
theorem m26_4 : M26 4 ls (.int x::st) H Q = if x = 0 then M26 9 ls st H Q else M26 7 ls st H Q:=w_if (show decode kb26 4 = .ok (.ifCond .eq 5,3) from by decide +kernel) (z_eq x) rfl
theorem m26_9 : M26 9 [.val (.ref r)] st H Q = M26 10 [.val (.ref r)] (.ref r::st) H Q:=w_x (show decode kb26 9 = .ok (.aload_n 0,1) from by decide +kernel) rfl
theorem m26_10 : M26 10 ls st H Q = M26 11 ls (.int 1::st) H Q:=w_con (show decode kb26 10 = .ok (.iconst 1,1) from by decide +kernel) rfl (by decide)
theorem cr26_220 : vR tables_1 dn y26 220 = some (true,y19,prog_1_method_17_code,4,(some .boolean),1,0):=pR_of (cR_of (by decide +kernel) rc_19 dn_19 dn_26 (sig:=⟨[.int],some .boolean⟩) (by decide +kernel) (by decide +kernel) rfl rfl) (by decide +kernel) (by decide +kernel)
theorem m26_11 (a0 : Int32) : M26 11 ls [.int a0,.ref b] (put b pre s A post) Q = M19 0 [.val (.ref b),.val (.int a0),.unset,.unset] [] (put b pre s A post) (fun v H1 => M26 14 ls (v.toList ++ []) H1 Q):=w_virt (as:=[.int a0]) (rest:=[]) (a:=b) (show decode kb26 11 = .ok (.invokevirtual 220,3) from by decide +kernel) cr26_220 put_o rfl rfl (Nat.le_of_ble_eq_true rfl) (by show 2≤4; omega) rfl
theorem m26_14 : M26 14 ls (.int x::st) H Q = if x = 0 then M26 17 ls st H Q else M26 19 ls st H Q:=w_ifN (show decode kb26 14 = .ok (.ifCond .ne 5,3) from by decide +kernel) (z_ne x) rfl
theorem m26_19 : M26 19 [.val (.ref r)] st H Q = M26 20 [.val (.ref r)] (.ref r::st) H Q:=w_x (show decode kb26 19 = .ok (.aload_n 0,1) from by decide +kernel) rfl
theorem m26_20 : M26 20 ls (.ref b::st) (put b pre s A post) Q = M26 23 ls (.int (s 13)::st) (put b pre s A post) Q:=w_get (show decode kb26 20 = .ok (.getfield 187,3) from by decide +kernel) gf_187 put_o rfl
theorem m26_23 : M26 23 ls (.int x::st) H Q = if x = 0 then M26 28 ls st H Q else M26 26 ls st H Q:=w_if (show decode kb26 23 = .ok (.ifCond .eq 5,3) from by decide +kernel) (z_eq x) rfl
theorem m26_28 : M26 28 [.val (.ref r)] st H Q = M26 29 [.val (.ref r)] (.ref r::st) H Q:=w_x (show decode kb26 28 = .ok (.aload_n 0,1) from by decide +kernel) rfl
theorem cr26_229 : vR tables_1 dn y26 229 = some (true,y25,prog_1_method_21_code,2,(some .boolean),0,31):=pR_of (cR_of (by decide +kernel) rc_25 dn_25 dn_26 (sig:=⟨[],some .boolean⟩) (by decide +kernel) (by decide +kernel) rfl rfl) (by decide +kernel) (by decide +kernel)
theorem m26_29 : M26 29 ls [.ref b] (put b pre s A post) Q = M25 0 [.val (.ref b),.unset] [] (put b pre s A post) (fun v H1 => M26 32 ls (v.toList ++ []) H1 Q):=w_virt (as:=[]) (rest:=[]) (a:=b) (show decode kb26 29 = .ok (.invokevirtual 229,3) from by decide +kernel) cr26_229 put_o rfl rfl (Nat.le_of_ble_eq_true rfl) (by show 1≤2; omega) rfl
theorem m26_32 : M26 32 ls (.int z::st) H Q = Q (some (.int (nar .boolean z))) H:=w_iretN (show decode kb26 32 = .ok (.ireturn,1) from by decide +kernel) rfl (by simp)
theorem m27_0 : M27 0 [.val (.ref r),l1,l2,l3,l4] st H Q = M27 1 [.val (.ref r),l1,l2,l3,l4] (.ref r::st) H Q:=w_x (show decode kb27 0 = .ok (.aload_n 0,1) from by decide +kernel) rfl
theorem m27_1 : M27 1 [l0,.val (.int v),l2,l3,l4] st H Q = M27 2 [l0,.val (.int v),l2,l3,l4] (.int v::st) H Q:=w_x (show decode kb27 1 = .ok (.iload_n 1,1) from by decide +kernel) rfl
theorem m27_2 : M27 2 ls st H Q = M27 3 ls (.int 0::st) H Q:=w_con (show decode kb27 2 = .ok (.iconst 0,1) from by decide +kernel) rfl (by decide)
theorem m27_3 : M27 3 ls st H Q = M27 4 ls (.int 3::st) H Q:=w_con (show decode kb27 3 = .ok (.iconst 3,1) from by decide +kernel) rfl (by decide)
theorem cr27_126 : vR tables_1 dn y27 126 = some (true,y2,prog_1_method_64_code,4,(some .boolean),3,0):=pR_of (cR_of (by decide +kernel) rc_2 dn_2 dn_27 (sig:=⟨[.int,.int,.int],some .boolean⟩) (by decide +kernel) (by decide +kernel) rfl rfl) (by decide +kernel) (by decide +kernel)
theorem m27_4 (a0 : Int32) (a1 : Int32) (a2 : Int32) : M27 4 ls [.int a2,.int a1,.int a0,.ref b] (put b pre s A post) Q = M2 0 [.val (.ref b),.val (.int a0),.val (.int a1),.val (.int a2)] [] (put b pre s A post) (fun v H1 => M27 7 ls (v.toList ++ []) H1 Q):=w_virt (as:=[.int a2,.int a1,.int a0]) (rest:=[]) (a:=b) (show decode kb27 4 = .ok (.invokevirtual 126,3) from by decide +kernel) cr27_126 put_o rfl rfl (Nat.le_of_ble_eq_true rfl) (by show 4≤4; omega) rfl
theorem m27_7 : M27 7 ls (.int x::st) H Q = if x = 0 then M27 10 ls st H Q else M27 11 ls st H Q:=w_ifN (show decode kb27 7 = .ok (.ifCond .ne 4,3) from by decide +kernel) (z_ne x) rfl
theorem m27_11 : M27 11 [l0,.val (.int v),l2,l3,l4] st H Q = M27 12 [l0,.val (.int v),l2,l3,l4] (.int v::st) H Q:=w_x (show decode kb27 11 = .ok (.iload_n 1,1) from by decide +kernel) rfl
theorem m27_12 : M27 12 ls st H Q = M27 14 ls (.int 64::st) H Q:=w_con (show decode kb27 12 = .ok (.bipush 64,2) from by decide +kernel) rfl (by decide)
theorem m27_14 : M27 14 ls (.int y::.int x::st) H Q = M27 15 ls (.int (x * y)::st) H Q:=w_x (show decode kb27 14 = .ok (.imul,1) from by decide +kernel) rfl
theorem m27_15u : M27 15 [l0,l1,.unset,l3,l4] ((.int v)::st) H Q = M27 16 [l0,l1,.val (.int v),l3,l4] st H Q:=w_st (i:=2) (p:=isI) (show decode kb27 15 = .ok (.istore_n 2,1) from by decide +kernel) rfl rfl rfl rfl rfl rfl
theorem m27_16 : M27 16 ls st H Q = M27 17 ls (.int 0::st) H Q:=w_con (show decode kb27 16 = .ok (.iconst 0,1) from by decide +kernel) rfl (by decide)
theorem m27_17u : M27 17 [l0,l1,l2,.unset,l4] ((.int v)::st) H Q = M27 18 [l0,l1,l2,.val (.int v),l4] st H Q:=w_st (i:=3) (p:=isI) (show decode kb27 17 = .ok (.istore_n 3,1) from by decide +kernel) rfl rfl rfl rfl rfl rfl
theorem m27_18 : M27 18 [l0,l1,l2,.val (.int v),l4] st H Q = M27 19 [l0,l1,l2,.val (.int v),l4] (.int v::st) H Q:=w_x (show decode kb27 18 = .ok (.iload_n 3,1) from by decide +kernel) rfl
theorem m27_19 : M27 19 ls st H Q = M27 21 ls (.int 64::st) H Q:=w_con (show decode kb27 19 = .ok (.bipush 64,2) from by decide +kernel) rfl (by decide)
theorem m27_21 : M27 21 ls (.int y::.int x::st) H Q = if x < y then M27 24 ls st H Q else M27 91 ls st H Q:=w_icmpN (show decode kb27 21 = .ok (.if_icmp .ge 70,3) from by decide +kernel) (i_ge x y) rfl
theorem m27_24 : M27 24 [l0,l1,l2,.val (.int v),l4] st H Q = M27 25 [l0,l1,l2,.val (.int v),l4] (.int v::st) H Q:=w_x (show decode kb27 24 = .ok (.iload_n 3,1) from by decide +kernel) rfl
theorem m27_25 : M27 25 [.val (.ref r),l1,l2,l3,l4] st H Q = M27 26 [.val (.ref r),l1,l2,l3,l4] (.ref r::st) H Q:=w_x (show decode kb27 25 = .ok (.aload_n 0,1) from by decide +kernel) rfl
theorem m27_26 : M27 26 ls (.ref b::st) (put b pre s A post) Q = M27 29 ls (.int (s 8)::st) (put b pre s A post) Q:=w_get (show decode kb27 26 = .ok (.getfield 181,3) from by decide +kernel) gf_181 put_o rfl
theorem m27_29 : M27 29 ls (.int y::.int x::st) H Q = if x < y then M27 32 ls st H Q else M27 36 ls st H Q:=w_icmpN (show decode kb27 29 = .ok (.if_icmp .ge 7,3) from by decide +kernel) (i_ge x y) rfl
theorem m27_32 : M27 32 ls st H Q = M27 33 ls (.int 1::st) H Q:=w_con (show decode kb27 32 = .ok (.iconst 1,1) from by decide +kernel) rfl (by decide)
theorem m27_33 : M27 33 ls st H Q = M27 37 ls st H Q:=w_x (show decode kb27 33 = .ok (.goto 4,3) from by decide +kernel) rfl
theorem m27_36 : M27 36 ls st H Q = M27 37 ls (.int 0::st) H Q:=w_con (show decode kb27 36 = .ok (.iconst 0,1) from by decide +kernel) rfl (by decide)
theorem m27_37u : M27 37 [l0,l1,l2,l3,.unset] ((.int v)::st) H Q = M27 39 [l0,l1,l2,l3,.val (.int v)] st H Q:=w_st (i:=4) (p:=isI) (show decode kb27 37 = .ok (.istore 4,2) from by decide +kernel) rfl rfl rfl rfl rfl rfl
theorem m27_37i : M27 37 [l0,l1,l2,l3,.val (.int z)] ((.int v)::st) H Q = M27 39 [l0,l1,l2,l3,.val (.int v)] st H Q:=w_st (i:=4) (p:=isI) (show decode kb27 37 = .ok (.istore 4,2) from by decide +kernel) rfl rfl rfl rfl rfl rfl
theorem m27_37r : M27 37 [l0,l1,l2,l3,.val (.ref q)] ((.int v)::st) H Q = M27 39 [l0,l1,l2,l3,.val (.int v)] st H Q:=w_st (i:=4) (p:=isI) (show decode kb27 37 = .ok (.istore 4,2) from by decide +kernel) rfl rfl rfl rfl rfl rfl
theorem m27_39 : M27 39 [.val (.ref r),l1,l2,l3,l4] st H Q = M27 40 [.val (.ref r),l1,l2,l3,l4] (.ref r::st) H Q:=w_x (show decode kb27 39 = .ok (.aload_n 0,1) from by decide +kernel) rfl
theorem m27_40 : M27 40 ls (.ref b::st) (put b pre s A post) Q = M27 43 ls (.ref (b + 14)::st) (put b pre s A post) Q:=w_get (show decode kb27 40 = .ok (.getfield 49,3) from by decide +kernel) gf_49 put_o rfl
theorem m27_43 : M27 43 [l0,l1,.val (.int v),l3,l4] st H Q = M27 44 [l0,l1,.val (.int v),l3,l4] (.int v::st) H Q:=w_x (show decode kb27 43 = .ok (.iload_n 2,1) from by decide +kernel) rfl
theorem m27_44 : M27 44 [l0,l1,l2,.val (.int v),l4] st H Q = M27 45 [l0,l1,l2,.val (.int v),l4] (.int v::st) H Q:=w_x (show decode kb27 44 = .ok (.iload_n 3,1) from by decide +kernel) rfl
theorem m27_45 : M27 45 ls (.int y::.int x::st) H Q = M27 46 ls (.int (x + y)::st) H Q:=w_x (show decode kb27 45 = .ok (.iadd,1) from by decide +kernel) rfl
theorem m27_46 : M27 46 [l0,l1,l2,l3,.val (.int v)] st H Q = M27 48 [l0,l1,l2,l3,.val (.int v)] (.int v::st) H Q:=w_x (show decode kb27 46 = .ok (.iload 4,2) from by decide +kernel) rfl
theorem m27_48 : M27 48 ls (.int x::st) H Q = if x = 0 then M27 60 ls st H Q else M27 51 ls st H Q:=w_if (show decode kb27 48 = .ok (.ifCond .eq 12,3) from by decide +kernel) (z_eq x) rfl
theorem m27_51 : M27 51 [.val (.ref r),l1,l2,l3,l4] st H Q = M27 52 [.val (.ref r),l1,l2,l3,l4] (.ref r::st) H Q:=w_x (show decode kb27 51 = .ok (.aload_n 0,1) from by decide +kernel) rfl
theorem m27_52 : M27 52 ls (.ref b::st) (put b pre s A post) Q = M27 55 ls (.ref (b + 18)::st) (put b pre s A post) Q:=w_get (show decode kb27 52 = .ok (.getfield 61,3) from by decide +kernel) gf_61 put_o rfl
theorem m27_55 : M27 55 [l0,l1,l2,.val (.int v),l4] st H Q = M27 56 [l0,l1,l2,.val (.int v),l4] (.int v::st) H Q:=w_x (show decode kb27 55 = .ok (.iload_n 3,1) from by decide +kernel) rfl
theorem m27_56  : M27 56 ls (.int j::.ref (b + 18)::st) (put b pre s A post) Q = (inB j (A 17)∧M27 57 ls (.int (getA (A 17) j)::st) (put b pre s A post) Q):=w_ild (show decode kb27 56 = .ok (.iaload,1) from by decide +kernel) rfl put_a17
theorem m27_57 : M27 57 ls st H Q = M27 61 ls st H Q:=w_x (show decode kb27 57 = .ok (.goto 4,3) from by decide +kernel) rfl
theorem m27_60 : M27 60 ls st H Q = M27 61 ls (.int 0::st) H Q:=w_con (show decode kb27 60 = .ok (.iconst 0,1) from by decide +kernel) rfl (by decide)
theorem m27_61  : M27 61 ls (.int v::.int j::.ref (b + 14)::st) (put b pre s A post) Q = (inB j (A 13)∧M27 62 ls st (put b pre s (ou A 13 (setA (A 13) j v)) post) Q):=w_ist (show decode kb27 61 = .ok (.iastore,1) from by decide +kernel) rfl put_a13 (Nat.zero_le _) rfl put_w13
theorem m27_62 : M27 62 [.val (.ref r),l1,l2,l3,l4] st H Q = M27 63 [.val (.ref r),l1,l2,l3,l4] (.ref r::st) H Q:=w_x (show decode kb27 62 = .ok (.aload_n 0,1) from by decide +kernel) rfl
theorem m27_63 : M27 63 ls (.ref b::st) (put b pre s A post) Q = M27 66 ls (.ref (b + 15)::st) (put b pre s A post) Q:=w_get (show decode kb27 63 = .ok (.getfield 52,3) from by decide +kernel) gf_52 put_o rfl
theorem m27_66 : M27 66 [l0,l1,.val (.int v),l3,l4] st H Q = M27 67 [l0,l1,.val (.int v),l3,l4] (.int v::st) H Q:=w_x (show decode kb27 66 = .ok (.iload_n 2,1) from by decide +kernel) rfl
theorem m27_67 : M27 67 [l0,l1,l2,.val (.int v),l4] st H Q = M27 68 [l0,l1,l2,.val (.int v),l4] (.int v::st) H Q:=w_x (show decode kb27 67 = .ok (.iload_n 3,1) from by decide +kernel) rfl
theorem m27_68 : M27 68 ls (.int y::.int x::st) H Q = M27 69 ls (.int (x + y)::st) H Q:=w_x (show decode kb27 68 = .ok (.iadd,1) from by decide +kernel) rfl
theorem m27_69 : M27 69 [l0,l1,l2,l3,.val (.int v)] st H Q = M27 71 [l0,l1,l2,l3,.val (.int v)] (.int v::st) H Q:=w_x (show decode kb27 69 = .ok (.iload 4,2) from by decide +kernel) rfl
theorem m27_71 : M27 71 ls (.int x::st) H Q = if x = 0 then M27 83 ls st H Q else M27 74 ls st H Q:=w_if (show decode kb27 71 = .ok (.ifCond .eq 12,3) from by decide +kernel) (z_eq x) rfl
theorem m27_74 : M27 74 [.val (.ref r),l1,l2,l3,l4] st H Q = M27 75 [.val (.ref r),l1,l2,l3,l4] (.ref r::st) H Q:=w_x (show decode kb27 74 = .ok (.aload_n 0,1) from by decide +kernel) rfl
theorem m27_75 : M27 75 ls (.ref b::st) (put b pre s A post) Q = M27 78 ls (.ref (b + 19)::st) (put b pre s A post) Q:=w_get (show decode kb27 75 = .ok (.getfield 64,3) from by decide +kernel) gf_64 put_o rfl
theorem m27_78 : M27 78 [l0,l1,l2,.val (.int v),l4] st H Q = M27 79 [l0,l1,l2,.val (.int v),l4] (.int v::st) H Q:=w_x (show decode kb27 78 = .ok (.iload_n 3,1) from by decide +kernel) rfl
theorem m27_79  : M27 79 ls (.int j::.ref (b + 19)::st) (put b pre s A post) Q = (inB j (A 18)∧M27 80 ls (.int (getA (A 18) j)::st) (put b pre s A post) Q):=w_ild (show decode kb27 79 = .ok (.iaload,1) from by decide +kernel) rfl put_a18
theorem m27_80 : M27 80 ls st H Q = M27 84 ls st H Q:=w_x (show decode kb27 80 = .ok (.goto 4,3) from by decide +kernel) rfl
theorem m27_83 : M27 83 ls st H Q = M27 84 ls (.int 0::st) H Q:=w_con (show decode kb27 83 = .ok (.iconst 0,1) from by decide +kernel) rfl (by decide)
theorem m27_84  : M27 84 ls (.int v::.int j::.ref (b + 15)::st) (put b pre s A post) Q = (inB j (A 14)∧M27 85 ls st (put b pre s (ou A 14 (setA (A 14) j v)) post) Q):=w_ist (show decode kb27 84 = .ok (.iastore,1) from by decide +kernel) rfl put_a14 (Nat.zero_le _) rfl put_w14
theorem m27_85 : M27 85 [l0,l1,l2,.val (.int v),l4] st H Q = M27 88 [l0,l1,l2,.val (.int (v + 1)),l4] st H Q:=w_iinc (show decode kb27 85 = .ok (.iinc 3 1,3) from by decide +kernel) rfl (by decide) rfl
theorem m27_88 : M27 88 ls st H Q = M27 18 ls st H Q:=w_x (show decode kb27 88 = .ok (.goto (-70),3) from by decide +kernel) rfl
theorem m27_91 : M27 91 ls st H Q = M27 92 ls (.int 0::st) H Q:=w_con (show decode kb27 91 = .ok (.iconst 0,1) from by decide +kernel) rfl (by decide)
theorem m27_92i : M27 92 [l0,l1,l2,.val (.int z),l4] ((.int v)::st) H Q = M27 93 [l0,l1,l2,.val (.int v),l4] st H Q:=w_st (i:=3) (p:=isI) (show decode kb27 92 = .ok (.istore_n 3,1) from by decide +kernel) rfl rfl rfl rfl rfl rfl
theorem m27_93 : M27 93 [l0,l1,l2,.val (.int v),l4] st H Q = M27 94 [l0,l1,l2,.val (.int v),l4] (.int v::st) H Q:=w_x (show decode kb27 93 = .ok (.iload_n 3,1) from by decide +kernel) rfl
theorem m27_94 : M27 94 ls st H Q = M27 95 ls (.int 4::st) H Q:=w_con (show decode kb27 94 = .ok (.iconst 4,1) from by decide +kernel) rfl (by decide)
theorem m27_95 : M27 95 ls (.int y::.int x::st) H Q = if x < y then M27 98 ls st H Q else M27 169 ls st H Q:=w_icmpN (show decode kb27 95 = .ok (.if_icmp .ge 74,3) from by decide +kernel) (i_ge x y) rfl
theorem m27_98 : M27 98 [l0,l1,l2,.val (.int v),l4] st H Q = M27 99 [l0,l1,l2,.val (.int v),l4] (.int v::st) H Q:=w_x (show decode kb27 98 = .ok (.iload_n 3,1) from by decide +kernel) rfl
theorem m27_99 : M27 99 [.val (.ref r),l1,l2,l3,l4] st H Q = M27 100 [.val (.ref r),l1,l2,l3,l4] (.ref r::st) H Q:=w_x (show decode kb27 99 = .ok (.aload_n 0,1) from by decide +kernel) rfl
theorem m27_100 : M27 100 ls (.ref b::st) (put b pre s A post) Q = M27 103 ls (.int (s 9)::st) (put b pre s A post) Q:=w_get (show decode kb27 100 = .ok (.getfield 155,3) from by decide +kernel) gf_155 put_o rfl
theorem m27_103 : M27 103 ls (.int y::.int x::st) H Q = if x < y then M27 106 ls st H Q else M27 110 ls st H Q:=w_icmpN (show decode kb27 103 = .ok (.if_icmp .ge 7,3) from by decide +kernel) (i_ge x y) rfl
theorem m27_106 : M27 106 ls st H Q = M27 107 ls (.int 1::st) H Q:=w_con (show decode kb27 106 = .ok (.iconst 1,1) from by decide +kernel) rfl (by decide)
theorem m27_107 : M27 107 ls st H Q = M27 111 ls st H Q:=w_x (show decode kb27 107 = .ok (.goto 4,3) from by decide +kernel) rfl
theorem m27_111u : M27 111 [l0,l1,l2,l3,.unset] ((.int v)::st) H Q = M27 113 [l0,l1,l2,l3,.val (.int v)] st H Q:=w_st (i:=4) (p:=isI) (show decode kb27 111 = .ok (.istore 4,2) from by decide +kernel) rfl rfl rfl rfl rfl rfl
theorem m27_111i : M27 111 [l0,l1,l2,l3,.val (.int z)] ((.int v)::st) H Q = M27 113 [l0,l1,l2,l3,.val (.int v)] st H Q:=w_st (i:=4) (p:=isI) (show decode kb27 111 = .ok (.istore 4,2) from by decide +kernel) rfl rfl rfl rfl rfl rfl
theorem m27_111r : M27 111 [l0,l1,l2,l3,.val (.ref q)] ((.int v)::st) H Q = M27 113 [l0,l1,l2,l3,.val (.int v)] st H Q:=w_st (i:=4) (p:=isI) (show decode kb27 111 = .ok (.istore 4,2) from by decide +kernel) rfl rfl rfl rfl rfl rfl
theorem m27_113 : M27 113 [.val (.ref r),l1,l2,l3,l4] st H Q = M27 114 [.val (.ref r),l1,l2,l3,l4] (.ref r::st) H Q:=w_x (show decode kb27 113 = .ok (.aload_n 0,1) from by decide +kernel) rfl
theorem m27_114 : M27 114 ls (.ref b::st) (put b pre s A post) Q = M27 117 ls (.ref (b + 16)::st) (put b pre s A post) Q:=w_get (show decode kb27 114 = .ok (.getfield 55,3) from by decide +kernel) gf_55 put_o rfl
theorem m27_117 : M27 117 [l0,.val (.int v),l2,l3,l4] st H Q = M27 118 [l0,.val (.int v),l2,l3,l4] (.int v::st) H Q:=w_x (show decode kb27 117 = .ok (.iload_n 1,1) from by decide +kernel) rfl
theorem m27_118 : M27 118 ls st H Q = M27 119 ls (.int 4::st) H Q:=w_con (show decode kb27 118 = .ok (.iconst 4,1) from by decide +kernel) rfl (by decide)
theorem m27_119 : M27 119 ls (.int y::.int x::st) H Q = M27 120 ls (.int (x * y)::st) H Q:=w_x (show decode kb27 119 = .ok (.imul,1) from by decide +kernel) rfl
theorem m27_120 : M27 120 [l0,l1,l2,.val (.int v),l4] st H Q = M27 121 [l0,l1,l2,.val (.int v),l4] (.int v::st) H Q:=w_x (show decode kb27 120 = .ok (.iload_n 3,1) from by decide +kernel) rfl
theorem m27_121 : M27 121 ls (.int y::.int x::st) H Q = M27 122 ls (.int (x + y)::st) H Q:=w_x (show decode kb27 121 = .ok (.iadd,1) from by decide +kernel) rfl
theorem m27_122 : M27 122 [l0,l1,l2,l3,.val (.int v)] st H Q = M27 124 [l0,l1,l2,l3,.val (.int v)] (.int v::st) H Q:=w_x (show decode kb27 122 = .ok (.iload 4,2) from by decide +kernel) rfl
theorem m27_124 : M27 124 ls (.int x::st) H Q = if x = 0 then M27 136 ls st H Q else M27 127 ls st H Q:=w_if (show decode kb27 124 = .ok (.ifCond .eq 12,3) from by decide +kernel) (z_eq x) rfl
theorem m27_127 : M27 127 [.val (.ref r),l1,l2,l3,l4] st H Q = M27 128 [.val (.ref r),l1,l2,l3,l4] (.ref r::st) H Q:=w_x (show decode kb27 127 = .ok (.aload_n 0,1) from by decide +kernel) rfl
theorem m27_128 : M27 128 ls (.ref b::st) (put b pre s A post) Q = M27 131 ls (.ref (b + 20)::st) (put b pre s A post) Q:=w_get (show decode kb27 128 = .ok (.getfield 67,3) from by decide +kernel) gf_67 put_o rfl
theorem m27_131 : M27 131 [l0,l1,l2,.val (.int v),l4] st H Q = M27 132 [l0,l1,l2,.val (.int v),l4] (.int v::st) H Q:=w_x (show decode kb27 131 = .ok (.iload_n 3,1) from by decide +kernel) rfl
theorem m27_132  : M27 132 ls (.int j::.ref (b + 20)::st) (put b pre s A post) Q = (inB j (A 19)∧M27 133 ls (.int (getA (A 19) j)::st) (put b pre s A post) Q):=w_ild (show decode kb27 132 = .ok (.iaload,1) from by decide +kernel) rfl put_a19
theorem m27_133 : M27 133 ls st H Q = M27 137 ls st H Q:=w_x (show decode kb27 133 = .ok (.goto 4,3) from by decide +kernel) rfl
theorem m27_137  : M27 137 ls (.int v::.int j::.ref (b + 16)::st) (put b pre s A post) Q = (inB j (A 15)∧M27 138 ls st (put b pre s (ou A 15 (setA (A 15) j v)) post) Q):=w_ist (show decode kb27 137 = .ok (.iastore,1) from by decide +kernel) rfl put_a15 (Nat.zero_le _) rfl put_w15
theorem m27_138 : M27 138 [.val (.ref r),l1,l2,l3,l4] st H Q = M27 139 [.val (.ref r),l1,l2,l3,l4] (.ref r::st) H Q:=w_x (show decode kb27 138 = .ok (.aload_n 0,1) from by decide +kernel) rfl
theorem m27_139 : M27 139 ls (.ref b::st) (put b pre s A post) Q = M27 142 ls (.ref (b + 17)::st) (put b pre s A post) Q:=w_get (show decode kb27 139 = .ok (.getfield 58,3) from by decide +kernel) gf_58 put_o rfl
theorem m27_142 : M27 142 [l0,.val (.int v),l2,l3,l4] st H Q = M27 143 [l0,.val (.int v),l2,l3,l4] (.int v::st) H Q:=w_x (show decode kb27 142 = .ok (.iload_n 1,1) from by decide +kernel) rfl
theorem m27_143 : M27 143 ls st H Q = M27 144 ls (.int 4::st) H Q:=w_con (show decode kb27 143 = .ok (.iconst 4,1) from by decide +kernel) rfl (by decide)
theorem m27_144 : M27 144 ls (.int y::.int x::st) H Q = M27 145 ls (.int (x * y)::st) H Q:=w_x (show decode kb27 144 = .ok (.imul,1) from by decide +kernel) rfl
theorem m27_145 : M27 145 [l0,l1,l2,.val (.int v),l4] st H Q = M27 146 [l0,l1,l2,.val (.int v),l4] (.int v::st) H Q:=w_x (show decode kb27 145 = .ok (.iload_n 3,1) from by decide +kernel) rfl
theorem m27_146 : M27 146 ls (.int y::.int x::st) H Q = M27 147 ls (.int (x + y)::st) H Q:=w_x (show decode kb27 146 = .ok (.iadd,1) from by decide +kernel) rfl
theorem m27_147 : M27 147 [l0,l1,l2,l3,.val (.int v)] st H Q = M27 149 [l0,l1,l2,l3,.val (.int v)] (.int v::st) H Q:=w_x (show decode kb27 147 = .ok (.iload 4,2) from by decide +kernel) rfl
theorem m27_149 : M27 149 ls (.int x::st) H Q = if x = 0 then M27 161 ls st H Q else M27 152 ls st H Q:=w_if (show decode kb27 149 = .ok (.ifCond .eq 12,3) from by decide +kernel) (z_eq x) rfl
theorem m27_152 : M27 152 [.val (.ref r),l1,l2,l3,l4] st H Q = M27 153 [.val (.ref r),l1,l2,l3,l4] (.ref r::st) H Q:=w_x (show decode kb27 152 = .ok (.aload_n 0,1) from by decide +kernel) rfl
theorem m27_153 : M27 153 ls (.ref b::st) (put b pre s A post) Q = M27 156 ls (.ref (b + 21)::st) (put b pre s A post) Q:=w_get (show decode kb27 153 = .ok (.getfield 70,3) from by decide +kernel) gf_70 put_o rfl
theorem m27_156 : M27 156 [l0,l1,l2,.val (.int v),l4] st H Q = M27 157 [l0,l1,l2,.val (.int v),l4] (.int v::st) H Q:=w_x (show decode kb27 156 = .ok (.iload_n 3,1) from by decide +kernel) rfl
theorem m27_157  : M27 157 ls (.int j::.ref (b + 21)::st) (put b pre s A post) Q = (inB j (A 20)∧M27 158 ls (.int (getA (A 20) j)::st) (put b pre s A post) Q):=w_ild (show decode kb27 157 = .ok (.iaload,1) from by decide +kernel) rfl put_a20
theorem m27_158 : M27 158 ls st H Q = M27 162 ls st H Q:=w_x (show decode kb27 158 = .ok (.goto 4,3) from by decide +kernel) rfl
theorem m27_162  : M27 162 ls (.int v::.int j::.ref (b + 17)::st) (put b pre s A post) Q = (inB j (A 16)∧M27 163 ls st (put b pre s (ou A 16 (setA (A 16) j v)) post) Q):=w_ist (show decode kb27 162 = .ok (.iastore,1) from by decide +kernel) rfl put_a16 (Nat.zero_le _) rfl put_w16
theorem m27_163 : M27 163 [l0,l1,l2,.val (.int v),l4] st H Q = M27 166 [l0,l1,l2,.val (.int (v + 1)),l4] st H Q:=w_iinc (show decode kb27 163 = .ok (.iinc 3 1,3) from by decide +kernel) rfl (by decide) rfl
theorem m27_166 : M27 166 ls st H Q = M27 93 ls st H Q:=w_x (show decode kb27 166 = .ok (.goto (-73),3) from by decide +kernel) rfl
theorem m27_169 : M27 169 [.val (.ref r),l1,l2,l3,l4] st H Q = M27 170 [.val (.ref r),l1,l2,l3,l4] (.ref r::st) H Q:=w_x (show decode kb27 169 = .ok (.aload_n 0,1) from by decide +kernel) rfl
theorem m27_170 : M27 170 ls (.ref b::st) (put b pre s A post) Q = M27 173 ls (.ref (b + 13)::st) (put b pre s A post) Q:=w_get (show decode kb27 170 = .ok (.getfield 46,3) from by decide +kernel) gf_46 put_o rfl
theorem m27_173 : M27 173 [l0,.val (.int v),l2,l3,l4] st H Q = M27 174 [l0,.val (.int v),l2,l3,l4] (.int v::st) H Q:=w_x (show decode kb27 173 = .ok (.iload_n 1,1) from by decide +kernel) rfl
theorem m27_174 : M27 174 [.val (.ref r),l1,l2,l3,l4] st H Q = M27 175 [.val (.ref r),l1,l2,l3,l4] (.ref r::st) H Q:=w_x (show decode kb27 174 = .ok (.aload_n 0,1) from by decide +kernel) rfl
theorem m27_175 : M27 175 ls (.ref b::st) (put b pre s A post) Q = M27 178 ls (.int (s 8)::st) (put b pre s A post) Q:=w_get (show decode kb27 175 = .ok (.getfield 181,3) from by decide +kernel) gf_181 put_o rfl
theorem m27_178  : M27 178 ls (.int v::.int j::.ref (b + 13)::st) (put b pre s A post) Q = (inB j (A 12)∧M27 179 ls st (put b pre s (ou A 12 (setA (A 12) j v)) post) Q):=w_ist (show decode kb27 178 = .ok (.iastore,1) from by decide +kernel) rfl put_a12 (Nat.zero_le _) rfl put_w12
theorem m27_179 : M27 179 [.val (.ref r),l1,l2,l3,l4] st H Q = M27 180 [.val (.ref r),l1,l2,l3,l4] (.ref r::st) H Q:=w_x (show decode kb27 179 = .ok (.aload_n 0,1) from by decide +kernel) rfl
theorem m27_180 : M27 180 ls (.ref b::st) (put b pre s A post) Q = M27 183 ls (.ref (b + 12)::st) (put b pre s A post) Q:=w_get (show decode kb27 180 = .ok (.getfield 43,3) from by decide +kernel) gf_43 put_o rfl
theorem m27_183 : M27 183 [l0,.val (.int v),l2,l3,l4] st H Q = M27 184 [l0,.val (.int v),l2,l3,l4] (.int v::st) H Q:=w_x (show decode kb27 183 = .ok (.iload_n 1,1) from by decide +kernel) rfl
theorem m27_184 : M27 184 [.val (.ref r),l1,l2,l3,l4] st H Q = M27 185 [.val (.ref r),l1,l2,l3,l4] (.ref r::st) H Q:=w_x (show decode kb27 184 = .ok (.aload_n 0,1) from by decide +kernel) rfl
theorem m27_185 : M27 185 ls (.ref b::st) (put b pre s A post) Q = M27 188 ls (.int (s 9)::st) (put b pre s A post) Q:=w_get (show decode kb27 185 = .ok (.getfield 155,3) from by decide +kernel) gf_155 put_o rfl
theorem m27_188  : M27 188 ls (.int v::.int j::.ref (b + 12)::st) (put b pre s A post) Q = (inB j (A 11)∧M27 189 ls st (put b pre s (ou A 11 (setA (A 11) j v)) post) Q):=w_ist (show decode kb27 188 = .ok (.iastore,1) from by decide +kernel) rfl put_a11 (Nat.zero_le _) rfl put_w11
theorem m27_189 : M27 189 [.val (.ref r),l1,l2,l3,l4] st H Q = M27 190 [.val (.ref r),l1,l2,l3,l4] (.ref r::st) H Q:=w_x (show decode kb27 189 = .ok (.aload_n 0,1) from by decide +kernel) rfl
theorem m27_190 : M27 190 ls (.ref b::st) (put b pre s A post) Q = M27 193 ls (.ref (b + 8)::st) (put b pre s A post) Q:=w_get (show decode kb27 190 = .ok (.getfield 31,3) from by decide +kernel) gf_31 put_o rfl
theorem m27_193 : M27 193 [l0,.val (.int v),l2,l3,l4] st H Q = M27 194 [l0,.val (.int v),l2,l3,l4] (.int v::st) H Q:=w_x (show decode kb27 193 = .ok (.iload_n 1,1) from by decide +kernel) rfl
theorem m27_194  : M27 194 ls (.int j::.ref (b + 8)::st) (put b pre s A post) Q = (inB j (A 7)∧M27 195 ls (.int (getA (A 7) j)::st) (put b pre s A post) Q):=w_ild (show decode kb27 194 = .ok (.iaload,1) from by decide +kernel) rfl put_a7
theorem m27_195 : M27 195 ls (.int x::st) H Q = if x = 0 then M27 198 ls st H Q else M27 205 ls st H Q:=w_ifN (show decode kb27 195 = .ok (.ifCond .ne 10,3) from by decide +kernel) (z_ne x) rfl
theorem m27_198 : M27 198 [.val (.ref r),l1,l2,l3,l4] st H Q = M27 199 [.val (.ref r),l1,l2,l3,l4] (.ref r::st) H Q:=w_x (show decode kb27 198 = .ok (.aload_n 0,1) from by decide +kernel) rfl
theorem m27_199 : M27 199 ls (.ref b::st) (put b pre s A post) Q = M27 202 ls (.ref (b + 8)::st) (put b pre s A post) Q:=w_get (show decode kb27 199 = .ok (.getfield 31,3) from by decide +kernel) gf_31 put_o rfl
theorem m27_202 : M27 202 [l0,.val (.int v),l2,l3,l4] st H Q = M27 203 [l0,.val (.int v),l2,l3,l4] (.int v::st) H Q:=w_x (show decode kb27 202 = .ok (.iload_n 1,1) from by decide +kernel) rfl
theorem m27_203 : M27 203 ls st H Q = M27 204 ls (.int 1::st) H Q:=w_con (show decode kb27 203 = .ok (.iconst 1,1) from by decide +kernel) rfl (by decide)
theorem m27_204  : M27 204 ls (.int v::.int j::.ref (b + 8)::st) (put b pre s A post) Q = (inB j (A 7)∧M27 205 ls st (put b pre s (ou A 7 (setA (A 7) j v)) post) Q):=w_ist (show decode kb27 204 = .ok (.iastore,1) from by decide +kernel) rfl put_a7 (Nat.zero_le _) rfl put_w7
theorem m27_205 : M27 205 [.val (.ref r),l1,l2,l3,l4] st H Q = M27 206 [.val (.ref r),l1,l2,l3,l4] (.ref r::st) H Q:=w_x (show decode kb27 205 = .ok (.aload_n 0,1) from by decide +kernel) rfl
theorem m27_206 : M27 206 ls (.ref b::st) (put b pre s A post) Q = M27 209 ls (.ref (b + 11)::st) (put b pre s A post) Q:=w_get (show decode kb27 206 = .ok (.getfield 40,3) from by decide +kernel) gf_40 put_o rfl
theorem m27_209 : M27 209 [l0,.val (.int v),l2,l3,l4] st H Q = M27 210 [l0,.val (.int v),l2,l3,l4] (.int v::st) H Q:=w_x (show decode kb27 209 = .ok (.iload_n 1,1) from by decide +kernel) rfl
theorem m27_210 : M27 210 ls st H Q = M27 211 ls (.int 0::st) H Q:=w_con (show decode kb27 210 = .ok (.iconst 0,1) from by decide +kernel) rfl (by decide)
theorem m27_211  : M27 211 ls (.int v::.int j::.ref (b + 11)::st) (put b pre s A post) Q = (inB j (A 10)∧M27 212 ls st (put b pre s (ou A 10 (setA (A 10) j v)) post) Q):=w_ist (show decode kb27 211 = .ok (.iastore,1) from by decide +kernel) rfl put_a10 (Nat.zero_le _) rfl put_w10
theorem m27_212 : M27 212 ls [] H Q = Q none H:=w_vret (show decode kb27 212 = .ok (.return_,1) from by decide +kernel) rfl
theorem m28_0 : M28 0 [.val (.ref r),l1,l2,l3,l4] st H Q = M28 1 [.val (.ref r),l1,l2,l3,l4] (.ref r::st) H Q:=w_x (show decode kb28 0 = .ok (.aload_n 0,1) from by decide +kernel) rfl
theorem m28_1 : M28 1 [l0,.val (.int v),l2,l3,l4] st H Q = M28 2 [l0,.val (.int v),l2,l3,l4] (.int v::st) H Q:=w_x (show decode kb28 1 = .ok (.iload_n 1,1) from by decide +kernel) rfl
theorem m28_2 : M28 2 ls st H Q = M28 3 ls (.int 0::st) H Q:=w_con (show decode kb28 2 = .ok (.iconst 0,1) from by decide +kernel) rfl (by decide)
theorem m28_3 : M28 3 ls st H Q = M28 4 ls (.int 3::st) H Q:=w_con (show decode kb28 3 = .ok (.iconst 3,1) from by decide +kernel) rfl (by decide)
theorem cr28_126 : vR tables_1 dn y28 126 = some (true,y2,prog_1_method_64_code,4,(some .boolean),3,0):=pR_of (cR_of (by decide +kernel) rc_2 dn_2 dn_28 (sig:=⟨[.int,.int,.int],some .boolean⟩) (by decide +kernel) (by decide +kernel) rfl rfl) (by decide +kernel) (by decide +kernel)
theorem m28_4 (a0 : Int32) (a1 : Int32) (a2 : Int32) : M28 4 ls [.int a2,.int a1,.int a0,.ref b] (put b pre s A post) Q = M2 0 [.val (.ref b),.val (.int a0),.val (.int a1),.val (.int a2)] [] (put b pre s A post) (fun v H1 => M28 7 ls (v.toList ++ []) H1 Q):=w_virt (as:=[.int a2,.int a1,.int a0]) (rest:=[]) (a:=b) (show decode kb28 4 = .ok (.invokevirtual 126,3) from by decide +kernel) cr28_126 put_o rfl rfl (Nat.le_of_ble_eq_true rfl) (by show 4≤4; omega) rfl
theorem m28_7 : M28 7 ls (.int x::st) H Q = if x = 0 then M28 10 ls st H Q else M28 12 ls st H Q:=w_ifN (show decode kb28 7 = .ok (.ifCond .ne 5,3) from by decide +kernel) (z_ne x) rfl
theorem m28_12 : M28 12 [.val (.ref r),l1,l2,l3,l4] st H Q = M28 13 [.val (.ref r),l1,l2,l3,l4] (.ref r::st) H Q:=w_x (show decode kb28 12 = .ok (.aload_n 0,1) from by decide +kernel) rfl
theorem m28_13 : M28 13 ls (.ref b::st) (put b pre s A post) Q = M28 16 ls (.ref (b + 8)::st) (put b pre s A post) Q:=w_get (show decode kb28 13 = .ok (.getfield 31,3) from by decide +kernel) gf_31 put_o rfl
theorem m28_16 : M28 16 [l0,.val (.int v),l2,l3,l4] st H Q = M28 17 [l0,.val (.int v),l2,l3,l4] (.int v::st) H Q:=w_x (show decode kb28 16 = .ok (.iload_n 1,1) from by decide +kernel) rfl
theorem m28_17  : M28 17 ls (.int j::.ref (b + 8)::st) (put b pre s A post) Q = (inB j (A 7)∧M28 18 ls (.int (getA (A 7) j)::st) (put b pre s A post) Q):=w_ild (show decode kb28 17 = .ok (.iaload,1) from by decide +kernel) rfl put_a7
theorem m28_18 : M28 18 ls (.int x::st) H Q = if x = 0 then M28 21 ls st H Q else M28 23 ls st H Q:=w_ifN (show decode kb28 18 = .ok (.ifCond .ne 5,3) from by decide +kernel) (z_ne x) rfl
theorem m28_23 : M28 23 [.val (.ref r),l1,l2,l3,l4] st H Q = M28 24 [.val (.ref r),l1,l2,l3,l4] (.ref r::st) H Q:=w_x (show decode kb28 23 = .ok (.aload_n 0,1) from by decide +kernel) rfl
theorem m28_24 : M28 24 [l0,l1,.val (.int v),l3,l4] st H Q = M28 25 [l0,l1,.val (.int v),l3,l4] (.int v::st) H Q:=w_x (show decode kb28 24 = .ok (.iload_n 2,1) from by decide +kernel) rfl
theorem m28_25 : M28 25 ls st H Q = M28 26 ls (.int 0::st) H Q:=w_con (show decode kb28 25 = .ok (.iconst 0,1) from by decide +kernel) rfl (by decide)
theorem m28_26 : M28 26 ls st H Q = M28 28 ls (.int 31::st) H Q:=w_con (show decode kb28 26 = .ok (.bipush 31,2) from by decide +kernel) rfl (by decide)
theorem m28_28 (a0 : Int32) (a1 : Int32) (a2 : Int32) : M28 28 ls [.int a2,.int a1,.int a0,.ref b] (put b pre s A post) Q = M2 0 [.val (.ref b),.val (.int a0),.val (.int a1),.val (.int a2)] [] (put b pre s A post) (fun v H1 => M28 31 ls (v.toList ++ []) H1 Q):=w_virt (as:=[.int a2,.int a1,.int a0]) (rest:=[]) (a:=b) (show decode kb28 28 = .ok (.invokevirtual 126,3) from by decide +kernel) cr28_126 put_o rfl rfl (Nat.le_of_ble_eq_true rfl) (by show 4≤4; omega) rfl
theorem m28_31 : M28 31 ls (.int x::st) H Q = if x = 0 then M28 34 ls st H Q else M28 36 ls st H Q:=w_ifN (show decode kb28 31 = .ok (.ifCond .ne 5,3) from by decide +kernel) (z_ne x) rfl
theorem m28_36 : M28 36 [l0,l1,l2,.val (.int v),l4] st H Q = M28 37 [l0,l1,l2,.val (.int v),l4] (.int v::st) H Q:=w_x (show decode kb28 36 = .ok (.iload_n 3,1) from by decide +kernel) rfl
theorem m28_37 : M28 37 ls (.int x::st) H Q = if x = 0 then M28 47 ls st H Q else M28 40 ls st H Q:=w_if (show decode kb28 37 = .ok (.ifCond .eq 10,3) from by decide +kernel) (z_eq x) rfl
theorem m28_47 : M28 47 [.val (.ref r),l1,l2,l3,l4] st H Q = M28 48 [.val (.ref r),l1,l2,l3,l4] (.ref r::st) H Q:=w_x (show decode kb28 47 = .ok (.aload_n 0,1) from by decide +kernel) rfl
theorem m28_48 : M28 48 [l0,l1,.val (.int v),l3,l4] st H Q = M28 49 [l0,l1,.val (.int v),l3,l4] (.int v::st) H Q:=w_x (show decode kb28 48 = .ok (.iload_n 2,1) from by decide +kernel) rfl
theorem cr28_232 : vR tables_1 dn y28 232 = some (true,y29,prog_1_method_33_code,3,(some .int),1,1):=pR_of (cR_of (by decide +kernel) rc_29 dn_29 dn_28 (sig:=⟨[.int],some .int⟩) (by decide +kernel) (by decide +kernel) rfl rfl) (by decide +kernel) (by decide +kernel)
theorem m28_49 (a0 : Int32) : M28 49 ls [.int a0,.ref b] (put b pre s A post) Q = M29 0 [.val (.ref b),.val (.int a0),.unset] [] (put b pre s A post) (fun v H1 => M28 52 ls (v.toList ++ []) H1 Q):=w_virt (as:=[.int a0]) (rest:=[]) (a:=b) (show decode kb28 49 = .ok (.invokevirtual 232,3) from by decide +kernel) cr28_232 put_o rfl rfl (Nat.le_of_ble_eq_true rfl) (by show 2≤3; omega) rfl
theorem m28_52u : M28 52 [l0,l1,l2,l3,.unset] ((.int v)::st) H Q = M28 54 [l0,l1,l2,l3,.val (.int v)] st H Q:=w_st (i:=4) (p:=isI) (show decode kb28 52 = .ok (.istore 4,2) from by decide +kernel) rfl rfl rfl rfl rfl rfl
theorem m28_54 : M28 54 [l0,l1,l2,l3,.val (.int v)] st H Q = M28 56 [l0,l1,l2,l3,.val (.int v)] (.int v::st) H Q:=w_x (show decode kb28 54 = .ok (.iload 4,2) from by decide +kernel) rfl
theorem m28_56 : M28 56 ls (.int x::st) H Q = if x < 0 then M28 67 ls st H Q else M28 59 ls st H Q:=w_if (show decode kb28 56 = .ok (.ifCond .lt 11,3) from by decide +kernel) (z_lt x) rfl
theorem m28_67 : M28 67 [.val (.ref r),l1,l2,l3,l4] st H Q = M28 68 [.val (.ref r),l1,l2,l3,l4] (.ref r::st) H Q:=w_x (show decode kb28 67 = .ok (.aload_n 0,1) from by decide +kernel) rfl
theorem m28_68 : M28 68 ls (.ref b::st) (put b pre s A post) Q = M28 71 ls (.ref (b + 8)::st) (put b pre s A post) Q:=w_get (show decode kb28 68 = .ok (.getfield 31,3) from by decide +kernel) gf_31 put_o rfl
theorem m28_71 : M28 71 [l0,.val (.int v),l2,l3,l4] st H Q = M28 72 [l0,.val (.int v),l2,l3,l4] (.int v::st) H Q:=w_x (show decode kb28 71 = .ok (.iload_n 1,1) from by decide +kernel) rfl
theorem m28_72 : M28 72 ls st H Q = M28 73 ls (.int 2::st) H Q:=w_con (show decode kb28 72 = .ok (.iconst 2,1) from by decide +kernel) rfl (by decide)
theorem m28_73  : M28 73 ls (.int v::.int j::.ref (b + 8)::st) (put b pre s A post) Q = (inB j (A 7)∧M28 74 ls st (put b pre s (ou A 7 (setA (A 7) j v)) post) Q):=w_ist (show decode kb28 73 = .ok (.iastore,1) from by decide +kernel) rfl put_a7 (Nat.zero_le _) rfl put_w7
theorem m28_74 : M28 74 [.val (.ref r),l1,l2,l3,l4] st H Q = M28 75 [.val (.ref r),l1,l2,l3,l4] (.ref r::st) H Q:=w_x (show decode kb28 74 = .ok (.aload_n 0,1) from by decide +kernel) rfl
theorem m28_75 : M28 75 ls (.ref b::st) (put b pre s A post) Q = M28 78 ls (.ref (b + 9)::st) (put b pre s A post) Q:=w_get (show decode kb28 75 = .ok (.getfield 34,3) from by decide +kernel) gf_34 put_o rfl
theorem m28_78 : M28 78 [l0,.val (.int v),l2,l3,l4] st H Q = M28 79 [l0,.val (.int v),l2,l3,l4] (.int v::st) H Q:=w_x (show decode kb28 78 = .ok (.iload_n 1,1) from by decide +kernel) rfl
theorem m28_79 : M28 79 [l0,l1,.val (.int v),l3,l4] st H Q = M28 80 [l0,l1,.val (.int v),l3,l4] (.int v::st) H Q:=w_x (show decode kb28 79 = .ok (.iload_n 2,1) from by decide +kernel) rfl
theorem m28_80  : M28 80 ls (.int v::.int j::.ref (b + 9)::st) (put b pre s A post) Q = (inB j (A 8)∧M28 81 ls st (put b pre s (ou A 8 (setA (A 8) j v)) post) Q):=w_ist (show decode kb28 80 = .ok (.iastore,1) from by decide +kernel) rfl put_a8 (Nat.zero_le _) rfl put_w8
theorem m28_81 : M28 81 [.val (.ref r),l1,l2,l3,l4] st H Q = M28 82 [.val (.ref r),l1,l2,l3,l4] (.ref r::st) H Q:=w_x (show decode kb28 81 = .ok (.aload_n 0,1) from by decide +kernel) rfl
theorem m28_82 : M28 82 ls (.ref b::st) (put b pre s A post) Q = M28 85 ls (.ref (b + 10)::st) (put b pre s A post) Q:=w_get (show decode kb28 82 = .ok (.getfield 37,3) from by decide +kernel) gf_37 put_o rfl
theorem m28_85 : M28 85 [l0,.val (.int v),l2,l3,l4] st H Q = M28 86 [l0,.val (.int v),l2,l3,l4] (.int v::st) H Q:=w_x (show decode kb28 85 = .ok (.iload_n 1,1) from by decide +kernel) rfl
theorem m28_86 : M28 86 [l0,l1,l2,.val (.int v),l4] st H Q = M28 87 [l0,l1,l2,.val (.int v),l4] (.int v::st) H Q:=w_x (show decode kb28 86 = .ok (.iload_n 3,1) from by decide +kernel) rfl
theorem m28_87  : M28 87 ls (.int v::.int j::.ref (b + 10)::st) (put b pre s A post) Q = (inB j (A 9)∧M28 88 ls st (put b pre s (ou A 9 (setA (A 9) j v)) post) Q):=w_ist (show decode kb28 87 = .ok (.iastore,1) from by decide +kernel) rfl put_a9 (Nat.zero_le _) rfl put_w9
theorem m28_88 : M28 88 [.val (.ref r),l1,l2,l3,l4] st H Q = M28 89 [.val (.ref r),l1,l2,l3,l4] (.ref r::st) H Q:=w_x (show decode kb28 88 = .ok (.aload_n 0,1) from by decide +kernel) rfl
theorem m28_89 : M28 89 ls (.ref b::st) (put b pre s A post) Q = M28 92 ls (.ref (b + 11)::st) (put b pre s A post) Q:=w_get (show decode kb28 89 = .ok (.getfield 40,3) from by decide +kernel) gf_40 put_o rfl
theorem m28_92 : M28 92 [l0,.val (.int v),l2,l3,l4] st H Q = M28 93 [l0,.val (.int v),l2,l3,l4] (.int v::st) H Q:=w_x (show decode kb28 92 = .ok (.iload_n 1,1) from by decide +kernel) rfl
theorem m28_93 : M28 93 ls st H Q = M28 94 ls (.int 0::st) H Q:=w_con (show decode kb28 93 = .ok (.iconst 0,1) from by decide +kernel) rfl (by decide)
theorem m28_94  : M28 94 ls (.int v::.int j::.ref (b + 11)::st) (put b pre s A post) Q = (inB j (A 10)∧M28 95 ls st (put b pre s (ou A 10 (setA (A 10) j v)) post) Q):=w_ist (show decode kb28 94 = .ok (.iastore,1) from by decide +kernel) rfl put_a10 (Nat.zero_le _) rfl put_w10
theorem m28_95 : M28 95 ls st H Q = M28 96 ls (.int 1::st) H Q:=w_con (show decode kb28 95 = .ok (.iconst 1,1) from by decide +kernel) rfl (by decide)
theorem m28_96 : M28 96 ls (.int z::st) H Q = Q (some (.int (nar .boolean z))) H:=w_iretN (show decode kb28 96 = .ok (.ireturn,1) from by decide +kernel) rfl (by simp)
theorem m29_0 : M29 0 ls st H Q = M29 1 ls (.int 0::st) H Q:=w_con (show decode kb29 0 = .ok (.iconst 0,1) from by decide +kernel) rfl (by decide)
theorem m29_1u : M29 1 [l0,l1,.unset] ((.int v)::st) H Q = M29 2 [l0,l1,.val (.int v)] st H Q:=w_st (i:=2) (p:=isI) (show decode kb29 1 = .ok (.istore_n 2,1) from by decide +kernel) rfl rfl rfl rfl rfl rfl
theorem m29_2 : M29 2 [l0,l1,.val (.int v)] st H Q = M29 3 [l0,l1,.val (.int v)] (.int v::st) H Q:=w_x (show decode kb29 2 = .ok (.iload_n 2,1) from by decide +kernel) rfl
theorem m29_3 : M29 3 ls st H Q = M29 4 ls (.int 4::st) H Q:=w_con (show decode kb29 3 = .ok (.iconst 4,1) from by decide +kernel) rfl (by decide)
theorem m29_4 : M29 4 ls (.int y::.int x::st) H Q = if x < y then M29 7 ls st H Q else M29 35 ls st H Q:=w_icmpN (show decode kb29 4 = .ok (.if_icmp .ge 31,3) from by decide +kernel) (i_ge x y) rfl
theorem m29_7 : M29 7 [.val (.ref r),l1,l2] st H Q = M29 8 [.val (.ref r),l1,l2] (.ref r::st) H Q:=w_x (show decode kb29 7 = .ok (.aload_n 0,1) from by decide +kernel) rfl
theorem m29_8 : M29 8 ls (.ref b::st) (put b pre s A post) Q = M29 11 ls (.ref (b + 8)::st) (put b pre s A post) Q:=w_get (show decode kb29 8 = .ok (.getfield 31,3) from by decide +kernel) gf_31 put_o rfl
theorem m29_11 : M29 11 [l0,l1,.val (.int v)] st H Q = M29 12 [l0,l1,.val (.int v)] (.int v::st) H Q:=w_x (show decode kb29 11 = .ok (.iload_n 2,1) from by decide +kernel) rfl
theorem m29_12  : M29 12 ls (.int j::.ref (b + 8)::st) (put b pre s A post) Q = (inB j (A 7)∧M29 13 ls (.int (getA (A 7) j)::st) (put b pre s A post) Q):=w_ild (show decode kb29 12 = .ok (.iaload,1) from by decide +kernel) rfl put_a7
theorem m29_13 : M29 13 ls st H Q = M29 14 ls (.int 2::st) H Q:=w_con (show decode kb29 13 = .ok (.iconst 2,1) from by decide +kernel) rfl (by decide)
theorem m29_14 : M29 14 ls (.int y::.int x::st) H Q = if x = y then M29 17 ls st H Q else M29 29 ls st H Q:=w_icmpN (show decode kb29 14 = .ok (.if_icmp .ne 15,3) from by decide +kernel) (i_ne x y) rfl
theorem m29_17 : M29 17 [.val (.ref r),l1,l2] st H Q = M29 18 [.val (.ref r),l1,l2] (.ref r::st) H Q:=w_x (show decode kb29 17 = .ok (.aload_n 0,1) from by decide +kernel) rfl
theorem m29_18 : M29 18 ls (.ref b::st) (put b pre s A post) Q = M29 21 ls (.ref (b + 9)::st) (put b pre s A post) Q:=w_get (show decode kb29 18 = .ok (.getfield 34,3) from by decide +kernel) gf_34 put_o rfl
theorem m29_21 : M29 21 [l0,l1,.val (.int v)] st H Q = M29 22 [l0,l1,.val (.int v)] (.int v::st) H Q:=w_x (show decode kb29 21 = .ok (.iload_n 2,1) from by decide +kernel) rfl
theorem m29_22  : M29 22 ls (.int j::.ref (b + 9)::st) (put b pre s A post) Q = (inB j (A 8)∧M29 23 ls (.int (getA (A 8) j)::st) (put b pre s A post) Q):=w_ild (show decode kb29 22 = .ok (.iaload,1) from by decide +kernel) rfl put_a8
theorem m29_23 : M29 23 [l0,.val (.int v),l2] st H Q = M29 24 [l0,.val (.int v),l2] (.int v::st) H Q:=w_x (show decode kb29 23 = .ok (.iload_n 1,1) from by decide +kernel) rfl
theorem m29_24 : M29 24 ls (.int y::.int x::st) H Q = if x = y then M29 27 ls st H Q else M29 29 ls st H Q:=w_icmpN (show decode kb29 24 = .ok (.if_icmp .ne 5,3) from by decide +kernel) (i_ne x y) rfl
theorem m29_27 : M29 27 [l0,l1,.val (.int v)] st H Q = M29 28 [l0,l1,.val (.int v)] (.int v::st) H Q:=w_x (show decode kb29 27 = .ok (.iload_n 2,1) from by decide +kernel) rfl
theorem m29_28 : M29 28 ls (.int z::st) H Q = Q (some (.int z)) H:=w_iret (show decode kb29 28 = .ok (.ireturn,1) from by decide +kernel) rfl
theorem m29_29 : M29 29 [l0,l1,.val (.int v)] st H Q = M29 32 [l0,l1,.val (.int (v + 1))] st H Q:=w_iinc (show decode kb29 29 = .ok (.iinc 2 1,3) from by decide +kernel) rfl (by decide) rfl
theorem m29_32 : M29 32 ls st H Q = M29 2 ls st H Q:=w_x (show decode kb29 32 = .ok (.goto (-30),3) from by decide +kernel) rfl
theorem m29_35 : M29 35 ls st H Q = M29 36 ls (.int (-1)::st) H Q:=w_con (show decode kb29 35 = .ok (.iconst (-1),1) from by decide +kernel) rfl (by decide)
theorem m29_36 : M29 36 ls (.int z::st) H Q = Q (some (.int z)) H:=w_iret (show decode kb29 36 = .ok (.ireturn,1) from by decide +kernel) rfl
theorem m30_0 : M30 0 [l0,.val (.int v),l2,l3] st H Q = M30 1 [l0,.val (.int v),l2,l3] (.int v::st) H Q:=w_x (show decode kb30 0 = .ok (.iload_n 1,1) from by decide +kernel) rfl
theorem m30_1 : M30 1 ls st H Q = M30 2 ls (.int 1::st) H Q:=w_con (show decode kb30 1 = .ok (.iconst 1,1) from by decide +kernel) rfl (by decide)
theorem m30_2 : M30 2 ls (.int y::.int x::st) H Q = if x < y then M30 5 ls st H Q else M30 7 ls st H Q:=w_icmpN (show decode kb30 2 = .ok (.if_icmp .ge 5,3) from by decide +kernel) (i_ge x y) rfl
theorem m30_7 : M30 7 [l0,.val (.int v),l2,l3] st H Q = M30 8 [l0,.val (.int v),l2,l3] (.int v::st) H Q:=w_x (show decode kb30 7 = .ok (.iload_n 1,1) from by decide +kernel) rfl
theorem m30_8 : M30 8 ls st H Q = M30 11 ls (.int 1000::st) H Q:=w_con (show decode kb30 8 = .ok (.sipush 1000,3) from by decide +kernel) rfl (by decide)
theorem m30_11 : M30 11 ls (.int y::.int x::st) H Q = if y < x then M30 14 ls st H Q else M30 20 ls st H Q:=w_icmpN (show decode kb30 11 = .ok (.if_icmp .le 9,3) from by decide +kernel) (i_le x y) rfl
theorem m30_20 : M30 20 [l0,.val (.int v),l2,l3] st H Q = M30 21 [l0,.val (.int v),l2,l3] (.int v::st) H Q:=w_x (show decode kb30 20 = .ok (.iload_n 1,1) from by decide +kernel) rfl
theorem m30_21u : M30 21 [l0,l1,.unset,l3] ((.int v)::st) H Q = M30 22 [l0,l1,.val (.int v),l3] st H Q:=w_st (i:=2) (p:=isI) (show decode kb30 21 = .ok (.istore_n 2,1) from by decide +kernel) rfl rfl rfl rfl rfl rfl
theorem m30_22 : M30 22 [.val (.ref r),l1,l2,l3] st H Q = M30 23 [.val (.ref r),l1,l2,l3] (.ref r::st) H Q:=w_x (show decode kb30 22 = .ok (.aload_n 0,1) from by decide +kernel) rfl
theorem m30_23 : M30 23 ls st H Q = M30 24 ls (.int 0::st) H Q:=w_con (show decode kb30 23 = .ok (.iconst 0,1) from by decide +kernel) rfl (by decide)
theorem pf30_235 : pfR tables_1 y30.cls y30.name 235 = some ("AgentExprDbg", 45,.int):=by decide +kernel
theorem m30_24 : M30 24 ls (.int v::.ref b::st) (put b pre s A post) Q = M30 27 ls st (put b pre (ou s 3 v) A post) Q:=w_put (show decode kb30 24 = .ok (.putfield 235,3) from by decide +kernel) pf30_235 put_o (Nat.zero_le _) (by show 45 < 60; omega) rfl put_s3
theorem m30_27 : M30 27 [.val (.ref r),l1,l2,l3] st H Q = M30 28 [.val (.ref r),l1,l2,l3] (.ref r::st) H Q:=w_x (show decode kb30 27 = .ok (.aload_n 0,1) from by decide +kernel) rfl
theorem m30_28 : M30 28 ls st H Q = M30 29 ls (.int 0::st) H Q:=w_con (show decode kb30 28 = .ok (.iconst 0,1) from by decide +kernel) rfl (by decide)
theorem pf30_116 : pfR tables_1 y30.cls y30.name 116 = some ("AgentExprDbg", 35,.int):=by decide +kernel
theorem m30_29 : M30 29 ls (.int v::.ref b::st) (put b pre s A post) Q = M30 32 ls st (put b pre (ou s 5 v) A post) Q:=w_put (show decode kb30 29 = .ok (.putfield 116,3) from by decide +kernel) pf30_116 put_o (Nat.zero_le _) (by show 35 < 60; omega) rfl put_s5
theorem m30_32 : M30 32 ls st H Q = M30 33 ls (.int 1::st) H Q:=w_con (show decode kb30 32 = .ok (.iconst 1,1) from by decide +kernel) rfl (by decide)
theorem m30_33u : M30 33 [l0,l1,l2,.unset] ((.int v)::st) H Q = M30 34 [l0,l1,l2,.val (.int v)] st H Q:=w_st (i:=3) (p:=isI) (show decode kb30 33 = .ok (.istore_n 3,1) from by decide +kernel) rfl rfl rfl rfl rfl rfl
theorem m30_34 : M30 34 [.val (.ref r),l1,l2,l3] st H Q = M30 35 [.val (.ref r),l1,l2,l3] (.ref r::st) H Q:=w_x (show decode kb30 34 = .ok (.aload_n 0,1) from by decide +kernel) rfl
theorem m30_35 : M30 35 ls (.ref b::st) (put b pre s A post) Q = M30 38 ls (.int (s 1)::st) (put b pre s A post) Q:=w_get (show decode kb30 35 = .ok (.getfield 137,3) from by decide +kernel) gf_137 put_o rfl
theorem m30_38 : M30 38 ls (.int x::st) H Q = if x = 0 then M30 41 ls st H Q else M30 47 ls st H Q:=w_ifN (show decode kb30 38 = .ok (.ifCond .ne 9,3) from by decide +kernel) (z_ne x) rfl
theorem m30_41 : M30 41 [.val (.ref r),l1,l2,l3] st H Q = M30 42 [.val (.ref r),l1,l2,l3] (.ref r::st) H Q:=w_x (show decode kb30 41 = .ok (.aload_n 0,1) from by decide +kernel) rfl
theorem m30_42 : M30 42 [l0,l1,.val (.int v),l3] st H Q = M30 43 [l0,l1,.val (.int v),l3] (.int v::st) H Q:=w_x (show decode kb30 42 = .ok (.iload_n 2,1) from by decide +kernel) rfl
theorem cr30_238 : vR tables_1 dn y30 238 = some (true,y31,prog_1_method_35_code,4,(some .int),1,0):=pR_of (cR_of (by decide +kernel) rc_31 dn_31 dn_30 (sig:=⟨[.int],some .int⟩) (by decide +kernel) (by decide +kernel) rfl rfl) (by decide +kernel) (by decide +kernel)
theorem m30_43 (a0 : Int32) : M30 43 ls [.int a0,.ref b] (put b pre s A post) Q = M31 0 [.val (.ref b),.val (.int a0),.unset,.unset] [] (put b pre s A post) (fun v H1 => M30 46 ls (v.toList ++ []) H1 Q):=w_virt (as:=[.int a0]) (rest:=[]) (a:=b) (show decode kb30 43 = .ok (.invokevirtual 238,3) from by decide +kernel) cr30_238 put_o rfl rfl (Nat.le_of_ble_eq_true rfl) (by show 2≤4; omega) rfl
theorem m30_46i : M30 46 [l0,l1,l2,.val (.int z)] ((.int v)::st) H Q = M30 47 [l0,l1,l2,.val (.int v)] st H Q:=w_st (i:=3) (p:=isI) (show decode kb30 46 = .ok (.istore_n 3,1) from by decide +kernel) rfl rfl rfl rfl rfl rfl
theorem m30_47 : M30 47 [.val (.ref r),l1,l2,l3] st H Q = M30 48 [.val (.ref r),l1,l2,l3] (.ref r::st) H Q:=w_x (show decode kb30 47 = .ok (.aload_n 0,1) from by decide +kernel) rfl
theorem m30_48 : M30 48 [l0,l1,l2,.val (.int v)] st H Q = M30 49 [l0,l1,l2,.val (.int v)] (.int v::st) H Q:=w_x (show decode kb30 48 = .ok (.iload_n 3,1) from by decide +kernel) rfl
theorem pf30_113 : pfR tables_1 y30.cls y30.name 113 = some ("AgentExprDbg", 34,.int):=by decide +kernel
theorem m30_49 : M30 49 ls (.int v::.ref b::st) (put b pre s A post) Q = M30 52 ls st (put b pre (ou s 4 v) A post) Q:=w_put (show decode kb30 49 = .ok (.putfield 113,3) from by decide +kernel) pf30_113 put_o (Nat.zero_le _) (by show 34 < 60; omega) rfl put_s4
theorem m30_52 : M30 52 [l0,l1,l2,.val (.int v)] st H Q = M30 53 [l0,l1,l2,.val (.int v)] (.int v::st) H Q:=w_x (show decode kb30 52 = .ok (.iload_n 3,1) from by decide +kernel) rfl
theorem m30_53 : M30 53 ls (.int z::st) H Q = Q (some (.int z)) H:=w_iret (show decode kb30 53 = .ok (.ireturn,1) from by decide +kernel) rfl
theorem m31_0 : M31 0 ls st H Q = M31 1 ls (.int 0::st) H Q:=w_con (show decode kb31 0 = .ok (.iconst 0,1) from by decide +kernel) rfl (by decide)
theorem m31_1u : M31 1 [l0,l1,.unset,l3] ((.int v)::st) H Q = M31 2 [l0,l1,.val (.int v),l3] st H Q:=w_st (i:=2) (p:=isI) (show decode kb31 1 = .ok (.istore_n 2,1) from by decide +kernel) rfl rfl rfl rfl rfl rfl
theorem m31_2 : M31 2 [l0,l1,.val (.int v),l3] st H Q = M31 3 [l0,l1,.val (.int v),l3] (.int v::st) H Q:=w_x (show decode kb31 2 = .ok (.iload_n 2,1) from by decide +kernel) rfl
theorem m31_3 : M31 3 [l0,.val (.int v),l2,l3] st H Q = M31 4 [l0,.val (.int v),l2,l3] (.int v::st) H Q:=w_x (show decode kb31 3 = .ok (.iload_n 1,1) from by decide +kernel) rfl
theorem m31_4 : M31 4 ls (.int y::.int x::st) H Q = if x < y then M31 7 ls st H Q else M31 31 ls st H Q:=w_icmpN (show decode kb31 4 = .ok (.if_icmp .ge 27,3) from by decide +kernel) (i_ge x y) rfl
theorem m31_7 : M31 7 [l0,l1,.val (.int v),l3] st H Q = M31 8 [l0,l1,.val (.int v),l3] (.int v::st) H Q:=w_x (show decode kb31 7 = .ok (.iload_n 2,1) from by decide +kernel) rfl
theorem m31_8 : M31 8 ls st H Q = M31 11 ls (.int 1000::st) H Q:=w_con (show decode kb31 8 = .ok (.sipush 1000,3) from by decide +kernel) rfl (by decide)
theorem m31_11 : M31 11 ls (.int y::.int x::st) H Q = if x < y then M31 14 ls st H Q else M31 31 ls st H Q:=w_icmpN (show decode kb31 11 = .ok (.if_icmp .ge 20,3) from by decide +kernel) (i_ge x y) rfl
theorem m31_14 : M31 14 [.val (.ref r),l1,l2,l3] st H Q = M31 15 [.val (.ref r),l1,l2,l3] (.ref r::st) H Q:=w_x (show decode kb31 14 = .ok (.aload_n 0,1) from by decide +kernel) rfl
theorem cr31_241 : vR tables_1 dn y31 241 = some (true,y32,prog_1_method_36_code,4,(some .int),0,0):=pR_of (cR_of (by decide +kernel) rc_32 dn_32 dn_31 (sig:=⟨[],some .int⟩) (by decide +kernel) (by decide +kernel) rfl rfl) (by decide +kernel) (by decide +kernel)
theorem m31_15 : M31 15 ls [.ref b] (put b pre s A post) Q = M32 0 [.val (.ref b),.unset,.unset,.unset] [] (put b pre s A post) (fun v H1 => M31 18 ls (v.toList ++ []) H1 Q):=w_virt (as:=[]) (rest:=[]) (a:=b) (show decode kb31 15 = .ok (.invokevirtual 241,3) from by decide +kernel) cr31_241 put_o rfl rfl (Nat.le_of_ble_eq_true rfl) (by show 1≤4; omega) rfl
theorem m31_18u : M31 18 [l0,l1,l2,.unset] ((.int v)::st) H Q = M31 19 [l0,l1,l2,.val (.int v)] st H Q:=w_st (i:=3) (p:=isI) (show decode kb31 18 = .ok (.istore_n 3,1) from by decide +kernel) rfl rfl rfl rfl rfl rfl
theorem m31_18i : M31 18 [l0,l1,l2,.val (.int z)] ((.int v)::st) H Q = M31 19 [l0,l1,l2,.val (.int v)] st H Q:=w_st (i:=3) (p:=isI) (show decode kb31 18 = .ok (.istore_n 3,1) from by decide +kernel) rfl rfl rfl rfl rfl rfl
theorem m31_18r : M31 18 [l0,l1,l2,.val (.ref q)] ((.int v)::st) H Q = M31 19 [l0,l1,l2,.val (.int v)] st H Q:=w_st (i:=3) (p:=isI) (show decode kb31 18 = .ok (.istore_n 3,1) from by decide +kernel) rfl rfl rfl rfl rfl rfl
theorem m31_19 : M31 19 [l0,l1,l2,.val (.int v)] st H Q = M31 20 [l0,l1,l2,.val (.int v)] (.int v::st) H Q:=w_x (show decode kb31 19 = .ok (.iload_n 3,1) from by decide +kernel) rfl
theorem m31_20 : M31 20 ls (.int x::st) H Q = if x = 0 then M31 25 ls st H Q else M31 23 ls st H Q:=w_if (show decode kb31 20 = .ok (.ifCond .eq 5,3) from by decide +kernel) (z_eq x) rfl
theorem m31_23 : M31 23 [l0,l1,l2,.val (.int v)] st H Q = M31 24 [l0,l1,l2,.val (.int v)] (.int v::st) H Q:=w_x (show decode kb31 23 = .ok (.iload_n 3,1) from by decide +kernel) rfl
theorem m31_24 : M31 24 ls (.int z::st) H Q = Q (some (.int z)) H:=w_iret (show decode kb31 24 = .ok (.ireturn,1) from by decide +kernel) rfl
theorem m31_25 : M31 25 [l0,l1,.val (.int v),l3] st H Q = M31 28 [l0,l1,.val (.int (v + 1)),l3] st H Q:=w_iinc (show decode kb31 25 = .ok (.iinc 2 1,3) from by decide +kernel) rfl (by decide) rfl
theorem m31_28 : M31 28 ls st H Q = M31 2 ls st H Q:=w_x (show decode kb31 28 = .ok (.goto (-26),3) from by decide +kernel) rfl
theorem m32_0 : M32 0 [.val (.ref r),l1,l2,l3] st H Q = M32 1 [.val (.ref r),l1,l2,l3] (.ref r::st) H Q:=w_x (show decode kb32 0 = .ok (.aload_n 0,1) from by decide +kernel) rfl
theorem m32_1 : M32 1 ls (.ref b::st) (put b pre s A post) Q = M32 4 ls (.int (s 0)::st) (put b pre s A post) Q:=w_get (show decode kb32 1 = .ok (.getfield 134,3) from by decide +kernel) gf_134 put_o rfl
theorem m32_4 : M32 4 ls st H Q = M32 6 ls (.int 31::st) H Q:=w_con (show decode kb32 4 = .ok (.bipush 31,2) from by decide +kernel) rfl (by decide)
theorem m32_6 : M32 6 ls (.int y::.int x::st) H Q = M32 7 ls (.int (x &&& y)::st) H Q:=w_x (show decode kb32 6 = .ok (.iand,1) from by decide +kernel) rfl
theorem m32_7u : M32 7 [l0,.unset,l2,l3] ((.int v)::st) H Q = M32 8 [l0,.val (.int v),l2,l3] st H Q:=w_st (i:=1) (p:=isI) (show decode kb32 7 = .ok (.istore_n 1,1) from by decide +kernel) rfl rfl rfl rfl rfl rfl
theorem m32_8 : M32 8 [.val (.ref r),l1,l2,l3] st H Q = M32 9 [.val (.ref r),l1,l2,l3] (.ref r::st) H Q:=w_x (show decode kb32 8 = .ok (.aload_n 0,1) from by decide +kernel) rfl
theorem m32_9 : M32 9 ls (.ref b::st) (put b pre s A post) Q = M32 12 ls (.int (s 2)::st) (put b pre s A post) Q:=w_get (show decode kb32 9 = .ok (.getfield 141,3) from by decide +kernel) gf_141 put_o rfl
theorem m32_12 : M32 12 ls (.int x::st) H Q = if x = 0 then M32 23 ls st H Q else M32 15 ls st H Q:=w_if (show decode kb32 12 = .ok (.ifCond .eq 11,3) from by decide +kernel) (z_eq x) rfl
theorem m32_23 : M32 23 [.val (.ref r),l1,l2,l3] st H Q = M32 24 [.val (.ref r),l1,l2,l3] (.ref r::st) H Q:=w_x (show decode kb32 23 = .ok (.aload_n 0,1) from by decide +kernel) rfl
theorem m32_24 : M32 24 [l0,.val (.int v),l2,l3] st H Q = M32 25 [l0,.val (.int v),l2,l3] (.int v::st) H Q:=w_x (show decode kb32 24 = .ok (.iload_n 1,1) from by decide +kernel) rfl
theorem cr32_232 : vR tables_1 dn y32 232 = some (true,y29,prog_1_method_33_code,3,(some .int),1,111):=pR_of (cR_of (by decide +kernel) rc_29 dn_29 dn_32 (sig:=⟨[.int],some .int⟩) (by decide +kernel) (by decide +kernel) rfl rfl) (by decide +kernel) (by decide +kernel)
theorem m32_25 (a0 : Int32) : M32 25 ls [.int a0,.ref b] (put b pre s A post) Q = M29 0 [.val (.ref b),.val (.int a0),.unset] [] (put b pre s A post) (fun v H1 => M32 28 ls (v.toList ++ []) H1 Q):=w_virt (as:=[.int a0]) (rest:=[]) (a:=b) (show decode kb32 25 = .ok (.invokevirtual 232,3) from by decide +kernel) cr32_232 put_o rfl rfl (Nat.le_of_ble_eq_true rfl) (by show 2≤3; omega) rfl
theorem m32_28u : M32 28 [l0,l1,.unset,l3] ((.int v)::st) H Q = M32 29 [l0,l1,.val (.int v),l3] st H Q:=w_st (i:=2) (p:=isI) (show decode kb32 28 = .ok (.istore_n 2,1) from by decide +kernel) rfl rfl rfl rfl rfl rfl
theorem m32_29 : M32 29 [l0,l1,.val (.int v),l3] st H Q = M32 30 [l0,l1,.val (.int v),l3] (.int v::st) H Q:=w_x (show decode kb32 29 = .ok (.iload_n 2,1) from by decide +kernel) rfl
theorem m32_30 : M32 30 ls (.int x::st) H Q = if x < 0 then M32 46 ls st H Q else M32 33 ls st H Q:=w_if (show decode kb32 30 = .ok (.ifCond .lt 16,3) from by decide +kernel) (z_lt x) rfl
theorem m32_33 : M32 33 [.val (.ref r),l1,l2,l3] st H Q = M32 34 [.val (.ref r),l1,l2,l3] (.ref r::st) H Q:=w_x (show decode kb32 33 = .ok (.aload_n 0,1) from by decide +kernel) rfl
theorem m32_34 : M32 34 [l0,l1,.val (.int v),l3] st H Q = M32 35 [l0,l1,.val (.int v),l3] (.int v::st) H Q:=w_x (show decode kb32 34 = .ok (.iload_n 2,1) from by decide +kernel) rfl
theorem m32_35 : M32 35 [l0,.val (.int v),l2,l3] st H Q = M32 36 [l0,.val (.int v),l2,l3] (.int v::st) H Q:=w_x (show decode kb32 35 = .ok (.iload_n 1,1) from by decide +kernel) rfl
theorem cr32_245 : vR tables_1 dn y32 245 = some (true,y35,prog_1_method_39_code,4,(some .int),2,0):=pR_of (cR_of (by decide +kernel) rc_35 dn_35 dn_32 (sig:=⟨[.int,.int],some .int⟩) (by decide +kernel) (by decide +kernel) rfl rfl) (by decide +kernel) (by decide +kernel)
theorem m32_36 (a0 : Int32) (a1 : Int32) : M32 36 ls [.int a1,.int a0,.ref b] (put b pre s A post) Q = M35 0 [.val (.ref b),.val (.int a0),.val (.int a1),.unset] [] (put b pre s A post) (fun v H1 => M32 39 ls (v.toList ++ []) H1 Q):=w_virt (as:=[.int a1,.int a0]) (rest:=[]) (a:=b) (show decode kb32 36 = .ok (.invokevirtual 245,3) from by decide +kernel) cr32_245 put_o rfl rfl (Nat.le_of_ble_eq_true rfl) (by show 3≤4; omega) rfl
theorem m32_39u : M32 39 [l0,l1,l2,.unset] ((.int v)::st) H Q = M32 40 [l0,l1,l2,.val (.int v)] st H Q:=w_st (i:=3) (p:=isI) (show decode kb32 39 = .ok (.istore_n 3,1) from by decide +kernel) rfl rfl rfl rfl rfl rfl
theorem m32_40 : M32 40 [l0,l1,l2,.val (.int v)] st H Q = M32 41 [l0,l1,l2,.val (.int v)] (.int v::st) H Q:=w_x (show decode kb32 40 = .ok (.iload_n 3,1) from by decide +kernel) rfl
theorem m32_41 : M32 41 ls (.int x::st) H Q = if x = 0 then M32 46 ls st H Q else M32 44 ls st H Q:=w_if (show decode kb32 41 = .ok (.ifCond .eq 5,3) from by decide +kernel) (z_eq x) rfl
theorem m32_44 : M32 44 [l0,l1,l2,.val (.int v)] st H Q = M32 45 [l0,l1,l2,.val (.int v)] (.int v::st) H Q:=w_x (show decode kb32 44 = .ok (.iload_n 3,1) from by decide +kernel) rfl
theorem m32_45 : M32 45 ls (.int z::st) H Q = Q (some (.int z)) H:=w_iret (show decode kb32 45 = .ok (.ireturn,1) from by decide +kernel) rfl
theorem m32_46 : M32 46 [.val (.ref r),l1,l2,l3] st H Q = M32 47 [.val (.ref r),l1,l2,l3] (.ref r::st) H Q:=w_x (show decode kb32 46 = .ok (.aload_n 0,1) from by decide +kernel) rfl
theorem m32_47 : M32 47 [l0,.val (.int v),l2,l3] st H Q = M32 48 [l0,.val (.int v),l2,l3] (.int v::st) H Q:=w_x (show decode kb32 47 = .ok (.iload_n 1,1) from by decide +kernel) rfl
theorem cr32_249 : vR tables_1 dn y32 249 = some (true,y33,prog_1_method_37_code,6,none,1,92):=pR_of (cR_of (by decide +kernel) rc_33 dn_33 dn_32 (sig:=⟨[.int],none⟩) (by decide +kernel) (by decide +kernel) rfl rfl) (by decide +kernel) (by decide +kernel)
theorem m32_48 (a0 : Int32) : M32 48 ls [.int a0,.ref b] (put b pre s A post) Q = M33 0 [.val (.ref b),.val (.int a0),.unset,.unset,.unset,.unset] [] (put b pre s A post) (fun v H1 => M32 51 ls (v.toList ++ []) H1 Q):=w_virt (as:=[.int a0]) (rest:=[]) (a:=b) (show decode kb32 48 = .ok (.invokevirtual 249,3) from by decide +kernel) cr32_249 put_o rfl rfl (Nat.le_of_ble_eq_true rfl) (by show 2≤6; omega) rfl
theorem m32_51 : M32 51 [.val (.ref r),l1,l2,l3] st H Q = M32 52 [.val (.ref r),l1,l2,l3] (.ref r::st) H Q:=w_x (show decode kb32 51 = .ok (.aload_n 0,1) from by decide +kernel) rfl
theorem m32_52 : M32 52 [.val (.ref r),l1,l2,l3] st H Q = M32 53 [.val (.ref r),l1,l2,l3] (.ref r::st) H Q:=w_x (show decode kb32 52 = .ok (.aload_n 0,1) from by decide +kernel) rfl
theorem m32_53 : M32 53 ls (.ref b::st) (put b pre s A post) Q = M32 56 ls (.int (s 3)::st) (put b pre s A post) Q:=w_get (show decode kb32 53 = .ok (.getfield 235,3) from by decide +kernel) gf_235 put_o rfl
theorem m32_56 : M32 56 ls st H Q = M32 57 ls (.int 1::st) H Q:=w_con (show decode kb32 56 = .ok (.iconst 1,1) from by decide +kernel) rfl (by decide)
theorem m32_57 : M32 57 ls (.int y::.int x::st) H Q = M32 58 ls (.int (x + y)::st) H Q:=w_x (show decode kb32 57 = .ok (.iadd,1) from by decide +kernel) rfl
theorem pf32_235 : pfR tables_1 y32.cls y32.name 235 = some ("AgentExprDbg", 45,.int):=by decide +kernel
theorem m32_58 : M32 58 ls (.int v::.ref b::st) (put b pre s A post) Q = M32 61 ls st (put b pre (ou s 3 v) A post) Q:=w_put (show decode kb32 58 = .ok (.putfield 235,3) from by decide +kernel) pf32_235 put_o (Nat.zero_le _) (by show 45 < 60; omega) rfl put_s3
theorem m32_61 : M32 61 [.val (.ref r),l1,l2,l3] st H Q = M32 62 [.val (.ref r),l1,l2,l3] (.ref r::st) H Q:=w_x (show decode kb32 61 = .ok (.aload_n 0,1) from by decide +kernel) rfl
theorem m32_62 : M32 62 ls (.ref b::st) (put b pre s A post) Q = M32 65 ls (.int (s 1)::st) (put b pre s A post) Q:=w_get (show decode kb32 62 = .ok (.getfield 137,3) from by decide +kernel) gf_137 put_o rfl
theorem m32_65 : M32 65 ls (.int x::st) H Q = if x = 0 then M32 70 ls st H Q else M32 68 ls st H Q:=w_if (show decode kb32 65 = .ok (.ifCond .eq 5,3) from by decide +kernel) (z_eq x) rfl
theorem m32_68 : M32 68 ls st H Q = M32 69 ls (.int 1::st) H Q:=w_con (show decode kb32 68 = .ok (.iconst 1,1) from by decide +kernel) rfl (by decide)
theorem m32_69 : M32 69 ls (.int z::st) H Q = Q (some (.int z)) H:=w_iret (show decode kb32 69 = .ok (.ireturn,1) from by decide +kernel) rfl
theorem m32_70 : M32 70 ls st H Q = M32 71 ls (.int 0::st) H Q:=w_con (show decode kb32 70 = .ok (.iconst 0,1) from by decide +kernel) rfl (by decide)
theorem m32_71 : M32 71 ls (.int z::st) H Q = Q (some (.int z)) H:=w_iret (show decode kb32 71 = .ok (.ireturn,1) from by decide +kernel) rfl
theorem m33_0 : M33 0 [l0,.val (.int v),l2,l3,l4,l5] st H Q = M33 1 [l0,.val (.int v),l2,l3,l4,l5] (.int v::st) H Q:=w_x (show decode kb33 0 = .ok (.iload_n 1,1) from by decide +kernel) rfl
theorem m33_1 : M33 1 ls st H Q = M33 3 ls (.int 31::st) H Q:=w_con (show decode kb33 1 = .ok (.bipush 31,2) from by decide +kernel) rfl (by decide)
theorem m33_3 : M33 3 ls (.int y::.int x::st) H Q = M33 4 ls (.int (x &&& y)::st) H Q:=w_x (show decode kb33 3 = .ok (.iand,1) from by decide +kernel) rfl
theorem m33_4u : M33 4 [l0,l1,.unset,l3,l4,l5] ((.int v)::st) H Q = M33 5 [l0,l1,.val (.int v),l3,l4,l5] st H Q:=w_st (i:=2) (p:=isI) (show decode kb33 4 = .ok (.istore_n 2,1) from by decide +kernel) rfl rfl rfl rfl rfl rfl
theorem m33_5 : M33 5 [.val (.ref r),l1,l2,l3,l4,l5] st H Q = M33 6 [.val (.ref r),l1,l2,l3,l4,l5] (.ref r::st) H Q:=w_x (show decode kb33 5 = .ok (.aload_n 0,1) from by decide +kernel) rfl
theorem m33_6 : M33 6 ls (.ref b::st) (put b pre s A post) Q = M33 9 ls (.ref (b + 3)::st) (put b pre s A post) Q:=w_get (show decode kb33 6 = .ok (.getfield 16,3) from by decide +kernel) gf_16 put_o rfl
theorem m33_9 : M33 9 [l0,l1,.val (.int v),l3,l4,l5] st H Q = M33 10 [l0,l1,.val (.int v),l3,l4,l5] (.int v::st) H Q:=w_x (show decode kb33 9 = .ok (.iload_n 2,1) from by decide +kernel) rfl
theorem m33_10  : M33 10 ls (.int j::.ref (b + 3)::st) (put b pre s A post) Q = (inB j (A 2)∧M33 11 ls (.int (getA (A 2) j)::st) (put b pre s A post) Q):=w_ild (show decode kb33 10 = .ok (.iaload,1) from by decide +kernel) rfl put_a2
theorem m33_11u : M33 11 [l0,l1,l2,.unset,l4,l5] ((.int v)::st) H Q = M33 12 [l0,l1,l2,.val (.int v),l4,l5] st H Q:=w_st (i:=3) (p:=isI) (show decode kb33 11 = .ok (.istore_n 3,1) from by decide +kernel) rfl rfl rfl rfl rfl rfl
theorem m33_12 : M33 12 [.val (.ref r),l1,l2,l3,l4,l5] st H Q = M33 13 [.val (.ref r),l1,l2,l3,l4,l5] (.ref r::st) H Q:=w_x (show decode kb33 12 = .ok (.aload_n 0,1) from by decide +kernel) rfl
theorem m33_13 : M33 13 ls (.ref b::st) (put b pre s A post) Q = M33 16 ls (.ref (b + 4)::st) (put b pre s A post) Q:=w_get (show decode kb33 13 = .ok (.getfield 19,3) from by decide +kernel) gf_19 put_o rfl
theorem m33_16 : M33 16 [l0,l1,.val (.int v),l3,l4,l5] st H Q = M33 17 [l0,l1,.val (.int v),l3,l4,l5] (.int v::st) H Q:=w_x (show decode kb33 16 = .ok (.iload_n 2,1) from by decide +kernel) rfl
theorem m33_17  : M33 17 ls (.int j::.ref (b + 4)::st) (put b pre s A post) Q = (inB j (A 3)∧M33 18 ls (.int (getA (A 3) j)::st) (put b pre s A post) Q):=w_ild (show decode kb33 17 = .ok (.iaload,1) from by decide +kernel) rfl put_a3
theorem m33_18 : M33 18 ls st H Q = M33 20 ls (.int 7::st) H Q:=w_con (show decode kb33 18 = .ok (.bipush 7,2) from by decide +kernel) rfl (by decide)
theorem m33_20 : M33 20 ls (.int y::.int x::st) H Q = M33 21 ls (.int (x &&& y)::st) H Q:=w_x (show decode kb33 20 = .ok (.iand,1) from by decide +kernel) rfl
theorem m33_21u : M33 21 [l0,l1,l2,l3,.unset,l5] ((.int v)::st) H Q = M33 23 [l0,l1,l2,l3,.val (.int v),l5] st H Q:=w_st (i:=4) (p:=isI) (show decode kb33 21 = .ok (.istore 4,2) from by decide +kernel) rfl rfl rfl rfl rfl rfl
theorem m33_23 : M33 23 [.val (.ref r),l1,l2,l3,l4,l5] st H Q = M33 24 [.val (.ref r),l1,l2,l3,l4,l5] (.ref r::st) H Q:=w_x (show decode kb33 23 = .ok (.aload_n 0,1) from by decide +kernel) rfl
theorem m33_24 : M33 24 ls (.ref b::st) (put b pre s A post) Q = M33 27 ls (.ref (b + 5)::st) (put b pre s A post) Q:=w_get (show decode kb33 24 = .ok (.getfield 22,3) from by decide +kernel) gf_22 put_o rfl
theorem m33_27 : M33 27 [l0,l1,.val (.int v),l3,l4,l5] st H Q = M33 28 [l0,l1,.val (.int v),l3,l4,l5] (.int v::st) H Q:=w_x (show decode kb33 27 = .ok (.iload_n 2,1) from by decide +kernel) rfl
theorem m33_28  : M33 28 ls (.int j::.ref (b + 5)::st) (put b pre s A post) Q = (inB j (A 4)∧M33 29 ls (.int (getA (A 4) j)::st) (put b pre s A post) Q):=w_ild (show decode kb33 28 = .ok (.iaload,1) from by decide +kernel) rfl put_a4
theorem m33_29u : M33 29 [l0,l1,l2,l3,l4,.unset] ((.int v)::st) H Q = M33 31 [l0,l1,l2,l3,l4,.val (.int v)] st H Q:=w_st (i:=5) (p:=isI) (show decode kb33 29 = .ok (.istore 5,2) from by decide +kernel) rfl rfl rfl rfl rfl rfl
theorem m33_31 : M33 31 [l0,l1,l2,.val (.int v),l4,l5] st H Q = M33 32 [l0,l1,l2,.val (.int v),l4,l5] (.int v::st) H Q:=w_x (show decode kb33 31 = .ok (.iload_n 3,1) from by decide +kernel) rfl
theorem m33_32 : M33 32 ls (.int x::st) H Q = if x = 0 then M33 35 ls st H Q else M33 46 ls st H Q:=w_ifN (show decode kb33 32 = .ok (.ifCond .ne 14,3) from by decide +kernel) (z_ne x) rfl
theorem m33_35 : M33 35 [.val (.ref r),l1,l2,l3,l4,l5] st H Q = M33 36 [.val (.ref r),l1,l2,l3,l4,l5] (.ref r::st) H Q:=w_x (show decode kb33 35 = .ok (.aload_n 0,1) from by decide +kernel) rfl
theorem m33_36 : M33 36 ls st H Q = M33 37 ls (.int 1::st) H Q:=w_con (show decode kb33 36 = .ok (.iconst 1,1) from by decide +kernel) rfl (by decide)
theorem pf33_137 : pfR tables_1 y33.cls y33.name 137 = some ("AgentExprDbg", 46,.boolean):=by decide +kernel
theorem m33_37 : M33 37 ls (.int v::.ref b::st) (put b pre s A post) Q = M33 40 ls st (put b pre (ou s 1 (nar .boolean v)) A post) Q:=w_put (show decode kb33 37 = .ok (.putfield 137,3) from by decide +kernel) pf33_137 put_o (Nat.zero_le _) (by show 46 < 60; omega) rfl put_s1
theorem m33_40 : M33 40 [.val (.ref r),l1,l2,l3,l4,l5] st H Q = M33 41 [.val (.ref r),l1,l2,l3,l4,l5] (.ref r::st) H Q:=w_x (show decode kb33 40 = .ok (.aload_n 0,1) from by decide +kernel) rfl
theorem m33_41 : M33 41 [l0,l1,.val (.int v),l3,l4,l5] st H Q = M33 42 [l0,l1,.val (.int v),l3,l4,l5] (.int v::st) H Q:=w_x (show decode kb33 41 = .ok (.iload_n 2,1) from by decide +kernel) rfl
theorem pf33_134 : pfR tables_1 y33.cls y33.name 134 = some ("AgentExprDbg", 47,.int):=by decide +kernel
theorem m33_42 : M33 42 ls (.int v::.ref b::st) (put b pre s A post) Q = M33 45 ls st (put b pre (ou s 0 v) A post) Q:=w_put (show decode kb33 42 = .ok (.putfield 134,3) from by decide +kernel) pf33_134 put_o (Nat.zero_le _) (by show 47 < 60; omega) rfl put_s0
theorem m33_45 : M33 45 ls [] H Q = Q none H:=w_vret (show decode kb33 45 = .ok (.return_,1) from by decide +kernel) rfl
theorem m33_46 : M33 46 [l0,l1,l2,.val (.int v),l4,l5] st H Q = M33 47 [l0,l1,l2,.val (.int v),l4,l5] (.int v::st) H Q:=w_x (show decode kb33 46 = .ok (.iload_n 3,1) from by decide +kernel) rfl
theorem m33_47 : M33 47 ls st H Q = M33 49 ls (.int 7::st) H Q:=w_con (show decode kb33 47 = .ok (.bipush 7,2) from by decide +kernel) rfl (by decide)
theorem m33_49 : M33 49 ls (.int y::.int x::st) H Q = if x = y then M33 52 ls st H Q else M33 81 ls st H Q:=w_icmpN (show decode kb33 49 = .ok (.if_icmp .ne 32,3) from by decide +kernel) (i_ne x y) rfl
theorem m33_81 : M33 81 [.val (.ref r),l1,l2,l3,l4,l5] st H Q = M33 82 [.val (.ref r),l1,l2,l3,l4,l5] (.ref r::st) H Q:=w_x (show decode kb33 81 = .ok (.aload_n 0,1) from by decide +kernel) rfl
theorem m33_82 : M33 82 [l0,l1,l2,.val (.int v),l4,l5] st H Q = M33 83 [l0,l1,l2,.val (.int v),l4,l5] (.int v::st) H Q:=w_x (show decode kb33 82 = .ok (.iload_n 3,1) from by decide +kernel) rfl
theorem m33_83 : M33 83 [l0,l1,l2,l3,.val (.int v),l5] st H Q = M33 85 [l0,l1,l2,l3,.val (.int v),l5] (.int v::st) H Q:=w_x (show decode kb33 83 = .ok (.iload 4,2) from by decide +kernel) rfl
theorem m33_85 : M33 85 [l0,l1,l2,l3,l4,.val (.int v)] st H Q = M33 87 [l0,l1,l2,l3,l4,.val (.int v)] (.int v::st) H Q:=w_x (show decode kb33 85 = .ok (.iload 5,2) from by decide +kernel) rfl
theorem cr33_252 : vR tables_1 dn y33 252 = some (true,y34,prog_1_method_38_code,5,none,3,0):=pR_of (cR_of (by decide +kernel) rc_34 dn_34 dn_33 (sig:=⟨[.int,.int,.int],none⟩) (by decide +kernel) (by decide +kernel) rfl rfl) (by decide +kernel) (by decide +kernel)
theorem m33_87 (a0 : Int32) (a1 : Int32) (a2 : Int32) : M33 87 ls [.int a2,.int a1,.int a0,.ref b] (put b pre s A post) Q = M34 0 [.val (.ref b),.val (.int a0),.val (.int a1),.val (.int a2),.unset] [] (put b pre s A post) (fun v H1 => M33 90 ls (v.toList ++ []) H1 Q):=w_virt (as:=[.int a2,.int a1,.int a0]) (rest:=[]) (a:=b) (show decode kb33 87 = .ok (.invokevirtual 252,3) from by decide +kernel) cr33_252 put_o rfl rfl (Nat.le_of_ble_eq_true rfl) (by show 4≤5; omega) rfl
theorem m33_90 : M33 90 [.val (.ref r),l1,l2,l3,l4,l5] st H Q = M33 91 [.val (.ref r),l1,l2,l3,l4,l5] (.ref r::st) H Q:=w_x (show decode kb33 90 = .ok (.aload_n 0,1) from by decide +kernel) rfl
theorem m33_91 : M33 91 [l0,l1,.val (.int v),l3,l4,l5] st H Q = M33 92 [l0,l1,.val (.int v),l3,l4,l5] (.int v::st) H Q:=w_x (show decode kb33 91 = .ok (.iload_n 2,1) from by decide +kernel) rfl
theorem m33_92 : M33 92 ls st H Q = M33 93 ls (.int 1::st) H Q:=w_con (show decode kb33 92 = .ok (.iconst 1,1) from by decide +kernel) rfl (by decide)
theorem m33_93 : M33 93 ls (.int y::.int x::st) H Q = M33 94 ls (.int (x + y)::st) H Q:=w_x (show decode kb33 93 = .ok (.iadd,1) from by decide +kernel) rfl
theorem m33_94 : M33 94 ls st H Q = M33 96 ls (.int 31::st) H Q:=w_con (show decode kb33 94 = .ok (.bipush 31,2) from by decide +kernel) rfl (by decide)
theorem m33_96 : M33 96 ls (.int y::.int x::st) H Q = M33 97 ls (.int (x &&& y)::st) H Q:=w_x (show decode kb33 96 = .ok (.iand,1) from by decide +kernel) rfl
theorem m33_97 : M33 97 ls (.int v::.ref b::st) (put b pre s A post) Q = M33 100 ls st (put b pre (ou s 0 v) A post) Q:=w_put (show decode kb33 97 = .ok (.putfield 134,3) from by decide +kernel) pf33_134 put_o (Nat.zero_le _) (by show 47 < 60; omega) rfl put_s0
theorem m33_100 : M33 100 ls [] H Q = Q none H:=w_vret (show decode kb33 100 = .ok (.return_,1) from by decide +kernel) rfl
theorem m34_0 : M34 0 [.val (.ref r),l1,l2,l3,l4] st H Q = M34 1 [.val (.ref r),l1,l2,l3,l4] (.ref r::st) H Q:=w_x (show decode kb34 0 = .ok (.aload_n 0,1) from by decide +kernel) rfl
theorem m34_1 : M34 1 ls (.ref b::st) (put b pre s A post) Q = M34 4 ls (.ref (b + 1)::st) (put b pre s A post) Q:=w_get (show decode kb34 1 = .ok (.getfield 7,3) from by decide +kernel) gf_7 put_o rfl
theorem m34_4 : M34 4 [l0,l1,l2,.val (.int v),l4] st H Q = M34 5 [l0,l1,l2,.val (.int v),l4] (.int v::st) H Q:=w_x (show decode kb34 4 = .ok (.iload_n 3,1) from by decide +kernel) rfl
theorem m34_5 : M34 5 ls st H Q = M34 7 ls (.int 7::st) H Q:=w_con (show decode kb34 5 = .ok (.bipush 7,2) from by decide +kernel) rfl (by decide)
theorem m34_7 : M34 7 ls (.int y::.int x::st) H Q = M34 8 ls (.int (x &&& y)::st) H Q:=w_x (show decode kb34 7 = .ok (.iand,1) from by decide +kernel) rfl
theorem m34_8  : M34 8 ls (.int j::.ref (b + 1)::st) (put b pre s A post) Q = (inB j (A 0)∧M34 9 ls (.int (getA (A 0) j)::st) (put b pre s A post) Q):=w_ild (show decode kb34 8 = .ok (.iaload,1) from by decide +kernel) rfl put_a0
theorem m34_9u : M34 9 [l0,l1,l2,l3,.unset] ((.int v)::st) H Q = M34 11 [l0,l1,l2,l3,.val (.int v)] st H Q:=w_st (i:=4) (p:=isI) (show decode kb34 9 = .ok (.istore 4,2) from by decide +kernel) rfl rfl rfl rfl rfl rfl
theorem m34_11 : M34 11 [l0,.val (.int v),l2,l3,l4] st H Q = M34 12 [l0,.val (.int v),l2,l3,l4] (.int v::st) H Q:=w_x (show decode kb34 11 = .ok (.iload_n 1,1) from by decide +kernel) rfl
theorem m34_12 : M34 12 ls st H Q = M34 13 ls (.int 1::st) H Q:=w_con (show decode kb34 12 = .ok (.iconst 1,1) from by decide +kernel) rfl (by decide)
theorem m34_13 : M34 13 ls (.int y::.int x::st) H Q = if x = y then M34 16 ls st H Q else M34 26 ls st H Q:=w_icmpN (show decode kb34 13 = .ok (.if_icmp .ne 13,3) from by decide +kernel) (i_ne x y) rfl
theorem m34_26 : M34 26 [l0,.val (.int v),l2,l3,l4] st H Q = M34 27 [l0,.val (.int v),l2,l3,l4] (.int v::st) H Q:=w_x (show decode kb34 26 = .ok (.iload_n 1,1) from by decide +kernel) rfl
theorem m34_27 : M34 27 ls st H Q = M34 28 ls (.int 2::st) H Q:=w_con (show decode kb34 27 = .ok (.iconst 2,1) from by decide +kernel) rfl (by decide)
theorem m34_28 : M34 28 ls (.int y::.int x::st) H Q = if x = y then M34 31 ls st H Q else M34 49 ls st H Q:=w_icmpN (show decode kb34 28 = .ok (.if_icmp .ne 21,3) from by decide +kernel) (i_ne x y) rfl
theorem m34_49 : M34 49 [l0,.val (.int v),l2,l3,l4] st H Q = M34 50 [l0,.val (.int v),l2,l3,l4] (.int v::st) H Q:=w_x (show decode kb34 49 = .ok (.iload_n 1,1) from by decide +kernel) rfl
theorem m34_50 : M34 50 ls st H Q = M34 51 ls (.int 3::st) H Q:=w_con (show decode kb34 50 = .ok (.iconst 3,1) from by decide +kernel) rfl (by decide)
theorem m34_51 : M34 51 ls (.int y::.int x::st) H Q = if x = y then M34 54 ls st H Q else M34 72 ls st H Q:=w_icmpN (show decode kb34 51 = .ok (.if_icmp .ne 21,3) from by decide +kernel) (i_ne x y) rfl
theorem m34_72 : M34 72 [l0,.val (.int v),l2,l3,l4] st H Q = M34 73 [l0,.val (.int v),l2,l3,l4] (.int v::st) H Q:=w_x (show decode kb34 72 = .ok (.iload_n 1,1) from by decide +kernel) rfl
theorem m34_73 : M34 73 ls st H Q = M34 74 ls (.int 4::st) H Q:=w_con (show decode kb34 73 = .ok (.iconst 4,1) from by decide +kernel) rfl (by decide)
theorem m34_74 : M34 74 ls (.int y::.int x::st) H Q = if x = y then M34 77 ls st H Q else M34 94 ls st H Q:=w_icmpN (show decode kb34 74 = .ok (.if_icmp .ne 20,3) from by decide +kernel) (i_ne x y) rfl
theorem m34_77 : M34 77 [.val (.ref r),l1,l2,l3,l4] st H Q = M34 78 [.val (.ref r),l1,l2,l3,l4] (.ref r::st) H Q:=w_x (show decode kb34 77 = .ok (.aload_n 0,1) from by decide +kernel) rfl
theorem m34_78 : M34 78 ls (.ref b::st) (put b pre s A post) Q = M34 81 ls (.ref (b + 1)::st) (put b pre s A post) Q:=w_get (show decode kb34 78 = .ok (.getfield 7,3) from by decide +kernel) gf_7 put_o rfl
theorem m34_81 : M34 81 [l0,l1,.val (.int v),l3,l4] st H Q = M34 82 [l0,l1,.val (.int v),l3,l4] (.int v::st) H Q:=w_x (show decode kb34 81 = .ok (.iload_n 2,1) from by decide +kernel) rfl
theorem m34_82 : M34 82 [.val (.ref r),l1,l2,l3,l4] st H Q = M34 83 [.val (.ref r),l1,l2,l3,l4] (.ref r::st) H Q:=w_x (show decode kb34 82 = .ok (.aload_n 0,1) from by decide +kernel) rfl
theorem m34_83 : M34 83 ls (.ref b::st) (put b pre s A post) Q = M34 86 ls (.ref (b + 1)::st) (put b pre s A post) Q:=w_get (show decode kb34 83 = .ok (.getfield 7,3) from by decide +kernel) gf_7 put_o rfl
theorem m34_86 : M34 86 [l0,l1,.val (.int v),l3,l4] st H Q = M34 87 [l0,l1,.val (.int v),l3,l4] (.int v::st) H Q:=w_x (show decode kb34 86 = .ok (.iload_n 2,1) from by decide +kernel) rfl
theorem m34_87  : M34 87 ls (.int j::.ref (b + 1)::st) (put b pre s A post) Q = (inB j (A 0)∧M34 88 ls (.int (getA (A 0) j)::st) (put b pre s A post) Q):=w_ild (show decode kb34 87 = .ok (.iaload,1) from by decide +kernel) rfl put_a0
theorem m34_88 : M34 88 [l0,l1,l2,.val (.int v),l4] st H Q = M34 89 [l0,l1,l2,.val (.int v),l4] (.int v::st) H Q:=w_x (show decode kb34 88 = .ok (.iload_n 3,1) from by decide +kernel) rfl
theorem m34_89 : M34 89 ls (.int y::.int x::st) H Q = M34 90 ls (.int (x + y)::st) H Q:=w_x (show decode kb34 89 = .ok (.iadd,1) from by decide +kernel) rfl
theorem m34_90  : M34 90 ls (.int v::.int j::.ref (b + 1)::st) (put b pre s A post) Q = (inB j (A 0)∧M34 91 ls st (put b pre s (ou A 0 (setA (A 0) j v)) post) Q):=w_ist (show decode kb34 90 = .ok (.iastore,1) from by decide +kernel) rfl put_a0 (Nat.zero_le _) rfl put_w0
theorem m34_91 : M34 91 ls st H Q = M34 140 ls st H Q:=w_x (show decode kb34 91 = .ok (.goto 49,3) from by decide +kernel) rfl
theorem m34_140 : M34 140 ls [] H Q = Q none H:=w_vret (show decode kb34 140 = .ok (.return_,1) from by decide +kernel) rfl
theorem m35_0 : M35 0 [.val (.ref r),l1,l2,l3] st H Q = M35 1 [.val (.ref r),l1,l2,l3] (.ref r::st) H Q:=w_x (show decode kb35 0 = .ok (.aload_n 0,1) from by decide +kernel) rfl
theorem m35_1 : M35 1 [l0,.val (.int v),l2,l3] st H Q = M35 2 [l0,.val (.int v),l2,l3] (.int v::st) H Q:=w_x (show decode kb35 1 = .ok (.iload_n 1,1) from by decide +kernel) rfl
theorem m35_2 : M35 2 ls st H Q = M35 3 ls (.int 0::st) H Q:=w_con (show decode kb35 2 = .ok (.iconst 0,1) from by decide +kernel) rfl (by decide)
theorem m35_3 : M35 3 ls st H Q = M35 4 ls (.int 3::st) H Q:=w_con (show decode kb35 3 = .ok (.iconst 3,1) from by decide +kernel) rfl (by decide)
theorem cr35_126 : vR tables_1 dn y35 126 = some (true,y2,prog_1_method_64_code,4,(some .boolean),3,95):=pR_of (cR_of (by decide +kernel) rc_2 dn_2 dn_35 (sig:=⟨[.int,.int,.int],some .boolean⟩) (by decide +kernel) (by decide +kernel) rfl rfl) (by decide +kernel) (by decide +kernel)
theorem m35_4 (a0 : Int32) (a1 : Int32) (a2 : Int32) : M35 4 ls [.int a2,.int a1,.int a0,.ref b] (put b pre s A post) Q = M2 0 [.val (.ref b),.val (.int a0),.val (.int a1),.val (.int a2)] [] (put b pre s A post) (fun v H1 => M35 7 ls (v.toList ++ []) H1 Q):=w_virt (as:=[.int a2,.int a1,.int a0]) (rest:=[]) (a:=b) (show decode kb35 4 = .ok (.invokevirtual 126,3) from by decide +kernel) cr35_126 put_o rfl rfl (Nat.le_of_ble_eq_true rfl) (by show 4≤4; omega) rfl
theorem m35_7 : M35 7 ls (.int x::st) H Q = if x = 0 then M35 10 ls st H Q else M35 12 ls st H Q:=w_ifN (show decode kb35 7 = .ok (.ifCond .ne 5,3) from by decide +kernel) (z_ne x) rfl
theorem m35_12 : M35 12 [.val (.ref r),l1,l2,l3] st H Q = M35 13 [.val (.ref r),l1,l2,l3] (.ref r::st) H Q:=w_x (show decode kb35 12 = .ok (.aload_n 0,1) from by decide +kernel) rfl
theorem m35_13 : M35 13 ls (.ref b::st) (put b pre s A post) Q = M35 16 ls (.ref (b + 11)::st) (put b pre s A post) Q:=w_get (show decode kb35 13 = .ok (.getfield 40,3) from by decide +kernel) gf_40 put_o rfl
theorem m35_16 : M35 16 [l0,.val (.int v),l2,l3] st H Q = M35 17 [l0,.val (.int v),l2,l3] (.int v::st) H Q:=w_x (show decode kb35 16 = .ok (.iload_n 1,1) from by decide +kernel) rfl
theorem m35_17 : M35 17 [.val (.ref r),l1,l2,l3] st H Q = M35 18 [.val (.ref r),l1,l2,l3] (.ref r::st) H Q:=w_x (show decode kb35 17 = .ok (.aload_n 0,1) from by decide +kernel) rfl
theorem m35_18 : M35 18 ls (.ref b::st) (put b pre s A post) Q = M35 21 ls (.ref (b + 11)::st) (put b pre s A post) Q:=w_get (show decode kb35 18 = .ok (.getfield 40,3) from by decide +kernel) gf_40 put_o rfl
theorem m35_21 : M35 21 [l0,.val (.int v),l2,l3] st H Q = M35 22 [l0,.val (.int v),l2,l3] (.int v::st) H Q:=w_x (show decode kb35 21 = .ok (.iload_n 1,1) from by decide +kernel) rfl
theorem m35_22  : M35 22 ls (.int j::.ref (b + 11)::st) (put b pre s A post) Q = (inB j (A 10)∧M35 23 ls (.int (getA (A 10) j)::st) (put b pre s A post) Q):=w_ild (show decode kb35 22 = .ok (.iaload,1) from by decide +kernel) rfl put_a10
theorem m35_23 : M35 23 ls st H Q = M35 24 ls (.int 1::st) H Q:=w_con (show decode kb35 23 = .ok (.iconst 1,1) from by decide +kernel) rfl (by decide)
theorem m35_24 : M35 24 ls (.int y::.int x::st) H Q = M35 25 ls (.int (x + y)::st) H Q:=w_x (show decode kb35 24 = .ok (.iadd,1) from by decide +kernel) rfl
theorem m35_25  : M35 25 ls (.int v::.int j::.ref (b + 11)::st) (put b pre s A post) Q = (inB j (A 10)∧M35 26 ls st (put b pre s (ou A 10 (setA (A 10) j v)) post) Q):=w_ist (show decode kb35 25 = .ok (.iastore,1) from by decide +kernel) rfl put_a10 (Nat.zero_le _) rfl put_w10
theorem m35_26 : M35 26 [.val (.ref r),l1,l2,l3] st H Q = M35 27 [.val (.ref r),l1,l2,l3] (.ref r::st) H Q:=w_x (show decode kb35 26 = .ok (.aload_n 0,1) from by decide +kernel) rfl
theorem m35_27 : M35 27 [l0,.val (.int v),l2,l3] st H Q = M35 28 [l0,.val (.int v),l2,l3] (.int v::st) H Q:=w_x (show decode kb35 27 = .ok (.iload_n 1,1) from by decide +kernel) rfl
theorem m35_28 : M35 28 ls st H Q = M35 29 ls (.int 0::st) H Q:=w_con (show decode kb35 28 = .ok (.iconst 0,1) from by decide +kernel) rfl (by decide)
theorem cr35_256 : vR tables_1 dn y35 256 = some (true,y36,prog_1_method_45_code,7,(some .int),2,17):=pR_of (cR_of (by decide +kernel) rc_36 dn_36 dn_35 (sig:=⟨[.int,.int],some .int⟩) (by decide +kernel) (by decide +kernel) rfl rfl) (by decide +kernel) (by decide +kernel)
theorem m35_29 (a0 : Int32) (a1 : Int32) : M35 29 ls [.int a1,.int a0,.ref b] (put b pre s A post) Q = M36 0 [.val (.ref b),.val (.int a0),.val (.int a1),.unset,.unset,.unset,.unset] [] (put b pre s A post) (fun v H1 => M35 32 ls (v.toList ++ []) H1 Q):=w_virt (as:=[.int a1,.int a0]) (rest:=[]) (a:=b) (show decode kb35 29 = .ok (.invokevirtual 256,3) from by decide +kernel) cr35_256 put_o rfl rfl (Nat.le_of_ble_eq_true rfl) (by show 3≤7; omega) rfl
theorem m35_32u : M35 32 [l0,l1,l2,.unset] ((.int v)::st) H Q = M35 33 [l0,l1,l2,.val (.int v)] st H Q:=w_st (i:=3) (p:=isI) (show decode kb35 32 = .ok (.istore_n 3,1) from by decide +kernel) rfl rfl rfl rfl rfl rfl
theorem m35_33 : M35 33 [.val (.ref r),l1,l2,l3] st H Q = M35 34 [.val (.ref r),l1,l2,l3] (.ref r::st) H Q:=w_x (show decode kb35 33 = .ok (.aload_n 0,1) from by decide +kernel) rfl
theorem m35_34 : M35 34 ls (.ref b::st) (put b pre s A post) Q = M35 37 ls (.int (s 16)::st) (put b pre s A post) Q:=w_get (show decode kb35 34 = .ok (.getfield 259,3) from by decide +kernel) gf_259 put_o rfl
theorem m35_37 : M35 37 ls (.int x::st) H Q = if x = 0 then M35 55 ls st H Q else M35 40 ls st H Q:=w_if (show decode kb35 37 = .ok (.ifCond .eq 18,3) from by decide +kernel) (z_eq x) rfl
theorem m35_55 : M35 55 [l0,l1,l2,.val (.int v)] st H Q = M35 56 [l0,l1,l2,.val (.int v)] (.int v::st) H Q:=w_x (show decode kb35 55 = .ok (.iload_n 3,1) from by decide +kernel) rfl
theorem m35_56 : M35 56 ls (.int x::st) H Q = if x = 0 then M35 59 ls st H Q else M35 61 ls st H Q:=w_ifN (show decode kb35 56 = .ok (.ifCond .ne 5,3) from by decide +kernel) (z_ne x) rfl
theorem m35_59 : M35 59 ls st H Q = M35 60 ls (.int 0::st) H Q:=w_con (show decode kb35 59 = .ok (.iconst 0,1) from by decide +kernel) rfl (by decide)
theorem m35_60 : M35 60 ls (.int z::st) H Q = Q (some (.int z)) H:=w_iret (show decode kb35 60 = .ok (.ireturn,1) from by decide +kernel) rfl
theorem m35_61 : M35 61 [.val (.ref r),l1,l2,l3] st H Q = M35 62 [.val (.ref r),l1,l2,l3] (.ref r::st) H Q:=w_x (show decode kb35 61 = .ok (.aload_n 0,1) from by decide +kernel) rfl
theorem m35_62 : M35 62 [l0,.val (.int v),l2,l3] st H Q = M35 63 [l0,.val (.int v),l2,l3] (.int v::st) H Q:=w_x (show decode kb35 62 = .ok (.iload_n 1,1) from by decide +kernel) rfl
theorem m35_63 : M35 63 [l0,l1,.val (.int v),l3] st H Q = M35 64 [l0,l1,.val (.int v),l3] (.int v::st) H Q:=w_x (show decode kb35 63 = .ok (.iload_n 2,1) from by decide +kernel) rfl
theorem cr35_262 : vR tables_1 dn y35 262 = some (true,y50,prog_1_method_40_code,6,none,2,0):=pR_of (cR_of (by decide +kernel) rc_50 dn_50 dn_35 (sig:=⟨[.int,.int],none⟩) (by decide +kernel) (by decide +kernel) rfl rfl) (by decide +kernel) (by decide +kernel)
theorem m35_64 (a0 : Int32) (a1 : Int32) : M35 64 ls [.int a1,.int a0,.ref b] (put b pre s A post) Q = M50 0 [.val (.ref b),.val (.int a0),.val (.int a1),.unset,.unset,.unset] [] (put b pre s A post) (fun v H1 => M35 67 ls (v.toList ++ []) H1 Q):=w_virt (as:=[.int a1,.int a0]) (rest:=[]) (a:=b) (show decode kb35 64 = .ok (.invokevirtual 262,3) from by decide +kernel) cr35_262 put_o rfl rfl (Nat.le_of_ble_eq_true rfl) (by show 3≤6; omega) rfl
theorem m35_67 : M35 67 [.val (.ref r),l1,l2,l3] st H Q = M35 68 [.val (.ref r),l1,l2,l3] (.ref r::st) H Q:=w_x (show decode kb35 67 = .ok (.aload_n 0,1) from by decide +kernel) rfl
theorem cr35_266 : vR tables_1 dn y35 266 = some (true,y54,prog_1_method_41_code,1,(some .boolean),0,83):=pR_of (cR_of (by decide +kernel) rc_54 dn_54 dn_35 (sig:=⟨[],some .boolean⟩) (by decide +kernel) (by decide +kernel) rfl rfl) (by decide +kernel) (by decide +kernel)
theorem m35_68 : M35 68 ls [.ref b] (put b pre s A post) Q = M54 0 [.val (.ref b)] [] (put b pre s A post) (fun v H1 => M35 71 ls (v.toList ++ []) H1 Q):=w_virt (as:=[]) (rest:=[]) (a:=b) (show decode kb35 68 = .ok (.invokevirtual 266,3) from by decide +kernel) cr35_266 put_o rfl rfl (Nat.le_of_ble_eq_true rfl) (by show 1≤1; omega) rfl
theorem m35_71 : M35 71 ls (.int x::st) H Q = if x = 0 then M35 74 ls st H Q else M35 81 ls st H Q:=w_ifN (show decode kb35 71 = .ok (.ifCond .ne 10,3) from by decide +kernel) (z_ne x) rfl
theorem m35_81 : M35 81 [.val (.ref r),l1,l2,l3] st H Q = M35 82 [.val (.ref r),l1,l2,l3] (.ref r::st) H Q:=w_x (show decode kb35 81 = .ok (.aload_n 0,1) from by decide +kernel) rfl
theorem m35_82 : M35 82 ls (.ref b::st) (put b pre s A post) Q = M35 85 ls (.ref (b + 10)::st) (put b pre s A post) Q:=w_get (show decode kb35 82 = .ok (.getfield 37,3) from by decide +kernel) gf_37 put_o rfl
theorem m35_85 : M35 85 [l0,.val (.int v),l2,l3] st H Q = M35 86 [l0,.val (.int v),l2,l3] (.int v::st) H Q:=w_x (show decode kb35 85 = .ok (.iload_n 1,1) from by decide +kernel) rfl
theorem m35_86  : M35 86 ls (.int j::.ref (b + 10)::st) (put b pre s A post) Q = (inB j (A 9)∧M35 87 ls (.int (getA (A 9) j)::st) (put b pre s A post) Q):=w_ild (show decode kb35 86 = .ok (.iaload,1) from by decide +kernel) rfl put_a9
theorem m35_87 : M35 87 ls (.int x::st) H Q = if x = 0 then M35 90 ls st H Q else M35 97 ls st H Q:=w_ifN (show decode kb35 87 = .ok (.ifCond .ne 10,3) from by decide +kernel) (z_ne x) rfl
theorem m35_90 : M35 90 [.val (.ref r),l1,l2,l3] st H Q = M35 91 [.val (.ref r),l1,l2,l3] (.ref r::st) H Q:=w_x (show decode kb35 90 = .ok (.aload_n 0,1) from by decide +kernel) rfl
theorem m35_91 : M35 91 ls st H Q = M35 92 ls (.int 1::st) H Q:=w_con (show decode kb35 91 = .ok (.iconst 1,1) from by decide +kernel) rfl (by decide)
theorem pf35_141 : pfR tables_1 y35.cls y35.name 141 = some ("AgentExprDbg", 48,.boolean):=by decide +kernel
theorem m35_92 : M35 92 ls (.int v::.ref b::st) (put b pre s A post) Q = M35 95 ls st (put b pre (ou s 2 (nar .boolean v)) A post) Q:=w_put (show decode kb35 92 = .ok (.putfield 141,3) from by decide +kernel) pf35_141 put_o (Nat.zero_le _) (by show 48 < 60; omega) rfl put_s2
theorem m35_95 : M35 95 ls st H Q = M35 96 ls (.int 2::st) H Q:=w_con (show decode kb35 95 = .ok (.iconst 2,1) from by decide +kernel) rfl (by decide)
theorem m35_96 : M35 96 ls (.int z::st) H Q = Q (some (.int z)) H:=w_iret (show decode kb35 96 = .ok (.ireturn,1) from by decide +kernel) rfl
theorem m36_0 : M36 0 [.val (.ref r),l1,l2,l3,l4,l5,l6] st H Q = M36 1 [.val (.ref r),l1,l2,l3,l4,l5,l6] (.ref r::st) H Q:=w_x (show decode kb36 0 = .ok (.aload_n 0,1) from by decide +kernel) rfl
theorem m36_1 : M36 1 ls st H Q = M36 2 ls (.int 0::st) H Q:=w_con (show decode kb36 1 = .ok (.iconst 0,1) from by decide +kernel) rfl (by decide)
theorem pf36_259 : pfR tables_1 y36.cls y36.name 259 = some ("AgentExprDbg", 49,.int):=by decide +kernel
theorem m36_2 : M36 2 ls (.int v::.ref b::st) (put b pre s A post) Q = M36 5 ls st (put b pre (ou s 16 v) A post) Q:=w_put (show decode kb36 2 = .ok (.putfield 259,3) from by decide +kernel) pf36_259 put_o (Nat.zero_le _) (by show 49 < 60; omega) rfl put_s16
theorem m36_5 : M36 5 [.val (.ref r),l1,l2,l3,l4,l5,l6] st H Q = M36 6 [.val (.ref r),l1,l2,l3,l4,l5,l6] (.ref r::st) H Q:=w_x (show decode kb36 5 = .ok (.aload_n 0,1) from by decide +kernel) rfl
theorem m36_6 : M36 6 ls st H Q = M36 7 ls (.int 0::st) H Q:=w_con (show decode kb36 6 = .ok (.iconst 0,1) from by decide +kernel) rfl (by decide)
theorem pf36_302 : pfR tables_1 y36.cls y36.name 302 = some ("AgentExprDbg", 50,.int):=by decide +kernel
theorem m36_7 : M36 7 ls (.int v::.ref b::st) (put b pre s A post) Q = M36 10 ls st (put b pre (ou s 15 v) A post) Q:=w_put (show decode kb36 7 = .ok (.putfield 302,3) from by decide +kernel) pf36_302 put_o (Nat.zero_le _) (by show 50 < 60; omega) rfl put_s15
theorem m36_10 : M36 10 [.val (.ref r),l1,l2,l3,l4,l5,l6] st H Q = M36 11 [.val (.ref r),l1,l2,l3,l4,l5,l6] (.ref r::st) H Q:=w_x (show decode kb36 10 = .ok (.aload_n 0,1) from by decide +kernel) rfl
theorem m36_11 : M36 11 [l0,.val (.int v),l2,l3,l4,l5,l6] st H Q = M36 12 [l0,.val (.int v),l2,l3,l4,l5,l6] (.int v::st) H Q:=w_x (show decode kb36 11 = .ok (.iload_n 1,1) from by decide +kernel) rfl
theorem m36_12 : M36 12 ls st H Q = M36 13 ls (.int 0::st) H Q:=w_con (show decode kb36 12 = .ok (.iconst 0,1) from by decide +kernel) rfl (by decide)
theorem m36_13 : M36 13 ls st H Q = M36 14 ls (.int 3::st) H Q:=w_con (show decode kb36 13 = .ok (.iconst 3,1) from by decide +kernel) rfl (by decide)
theorem cr36_126 : vR tables_1 dn y36 126 = some (true,y2,prog_1_method_64_code,4,(some .boolean),3,60):=pR_of (cR_of (by decide +kernel) rc_2 dn_2 dn_36 (sig:=⟨[.int,.int,.int],some .boolean⟩) (by decide +kernel) (by decide +kernel) rfl rfl) (by decide +kernel) (by decide +kernel)
theorem m36_14 (a0 : Int32) (a1 : Int32) (a2 : Int32) : M36 14 ls [.int a2,.int a1,.int a0,.ref b] (put b pre s A post) Q = M2 0 [.val (.ref b),.val (.int a0),.val (.int a1),.val (.int a2)] [] (put b pre s A post) (fun v H1 => M36 17 ls (v.toList ++ []) H1 Q):=w_virt (as:=[.int a2,.int a1,.int a0]) (rest:=[]) (a:=b) (show decode kb36 14 = .ok (.invokevirtual 126,3) from by decide +kernel) cr36_126 put_o rfl rfl (Nat.le_of_ble_eq_true rfl) (by show 4≤4; omega) rfl
theorem m36_17 : M36 17 ls (.int x::st) H Q = if x = 0 then M36 30 ls st H Q else M36 20 ls st H Q:=w_if (show decode kb36 17 = .ok (.ifCond .eq 13,3) from by decide +kernel) (z_eq x) rfl
theorem m36_20 : M36 20 [.val (.ref r),l1,l2,l3,l4,l5,l6] st H Q = M36 21 [.val (.ref r),l1,l2,l3,l4,l5,l6] (.ref r::st) H Q:=w_x (show decode kb36 20 = .ok (.aload_n 0,1) from by decide +kernel) rfl
theorem m36_21 : M36 21 [l0,l1,.val (.int v),l3,l4,l5,l6] st H Q = M36 22 [l0,l1,.val (.int v),l3,l4,l5,l6] (.int v::st) H Q:=w_x (show decode kb36 21 = .ok (.iload_n 2,1) from by decide +kernel) rfl
theorem m36_22 : M36 22 ls st H Q = M36 23 ls (.int 0::st) H Q:=w_con (show decode kb36 22 = .ok (.iconst 0,1) from by decide +kernel) rfl (by decide)
theorem m36_23 : M36 23 ls st H Q = M36 24 ls (.int 3::st) H Q:=w_con (show decode kb36 23 = .ok (.iconst 3,1) from by decide +kernel) rfl (by decide)
theorem m36_24 (a0 : Int32) (a1 : Int32) (a2 : Int32) : M36 24 ls [.int a2,.int a1,.int a0,.ref b] (put b pre s A post) Q = M2 0 [.val (.ref b),.val (.int a0),.val (.int a1),.val (.int a2)] [] (put b pre s A post) (fun v H1 => M36 27 ls (v.toList ++ []) H1 Q):=w_virt (as:=[.int a2,.int a1,.int a0]) (rest:=[]) (a:=b) (show decode kb36 24 = .ok (.invokevirtual 126,3) from by decide +kernel) cr36_126 put_o rfl rfl (Nat.le_of_ble_eq_true rfl) (by show 4≤4; omega) rfl
theorem m36_27 : M36 27 ls (.int x::st) H Q = if x = 0 then M36 30 ls st H Q else M36 32 ls st H Q:=w_ifN (show decode kb36 27 = .ok (.ifCond .ne 5,3) from by decide +kernel) (z_ne x) rfl
theorem m36_32 : M36 32 [l0,.val (.int v),l2,l3,l4,l5,l6] st H Q = M36 33 [l0,.val (.int v),l2,l3,l4,l5,l6] (.int v::st) H Q:=w_x (show decode kb36 32 = .ok (.iload_n 1,1) from by decide +kernel) rfl
theorem m36_33 : M36 33 ls st H Q = M36 35 ls (.int 64::st) H Q:=w_con (show decode kb36 33 = .ok (.bipush 64,2) from by decide +kernel) rfl (by decide)
theorem m36_35 : M36 35 ls (.int y::.int x::st) H Q = M36 36 ls (.int (x * y)::st) H Q:=w_x (show decode kb36 35 = .ok (.imul,1) from by decide +kernel) rfl
theorem m36_36u : M36 36 [l0,l1,l2,.unset,l4,l5,l6] ((.int v)::st) H Q = M36 37 [l0,l1,l2,.val (.int v),l4,l5,l6] st H Q:=w_st (i:=3) (p:=isI) (show decode kb36 36 = .ok (.istore_n 3,1) from by decide +kernel) rfl rfl rfl rfl rfl rfl
theorem m36_37 : M36 37 [.val (.ref r),l1,l2,l3,l4,l5,l6] st H Q = M36 38 [.val (.ref r),l1,l2,l3,l4,l5,l6] (.ref r::st) H Q:=w_x (show decode kb36 37 = .ok (.aload_n 0,1) from by decide +kernel) rfl
theorem m36_38 : M36 38 ls (.ref b::st) (put b pre s A post) Q = M36 41 ls (.ref (b + 16)::st) (put b pre s A post) Q:=w_get (show decode kb36 38 = .ok (.getfield 55,3) from by decide +kernel) gf_55 put_o rfl
theorem m36_41 : M36 41 [l0,.val (.int v),l2,l3,l4,l5,l6] st H Q = M36 42 [l0,.val (.int v),l2,l3,l4,l5,l6] (.int v::st) H Q:=w_x (show decode kb36 41 = .ok (.iload_n 1,1) from by decide +kernel) rfl
theorem m36_42 : M36 42 ls st H Q = M36 43 ls (.int 4::st) H Q:=w_con (show decode kb36 42 = .ok (.iconst 4,1) from by decide +kernel) rfl (by decide)
theorem m36_43 : M36 43 ls (.int y::.int x::st) H Q = M36 44 ls (.int (x * y)::st) H Q:=w_x (show decode kb36 43 = .ok (.imul,1) from by decide +kernel) rfl
theorem m36_44 : M36 44 [l0,l1,.val (.int v),l3,l4,l5,l6] st H Q = M36 45 [l0,l1,.val (.int v),l3,l4,l5,l6] (.int v::st) H Q:=w_x (show decode kb36 44 = .ok (.iload_n 2,1) from by decide +kernel) rfl
theorem m36_45 : M36 45 ls (.int y::.int x::st) H Q = M36 46 ls (.int (x + y)::st) H Q:=w_x (show decode kb36 45 = .ok (.iadd,1) from by decide +kernel) rfl
theorem m36_46  : M36 46 ls (.int j::.ref (b + 16)::st) (put b pre s A post) Q = (inB j (A 15)∧M36 47 ls (.int (getA (A 15) j)::st) (put b pre s A post) Q):=w_ild (show decode kb36 46 = .ok (.iaload,1) from by decide +kernel) rfl put_a15
theorem m36_47u : M36 47 [l0,l1,l2,l3,.unset,l5,l6] ((.int v)::st) H Q = M36 49 [l0,l1,l2,l3,.val (.int v),l5,l6] st H Q:=w_st (i:=4) (p:=isI) (show decode kb36 47 = .ok (.istore 4,2) from by decide +kernel) rfl rfl rfl rfl rfl rfl
theorem m36_49 : M36 49 [.val (.ref r),l1,l2,l3,l4,l5,l6] st H Q = M36 50 [.val (.ref r),l1,l2,l3,l4,l5,l6] (.ref r::st) H Q:=w_x (show decode kb36 49 = .ok (.aload_n 0,1) from by decide +kernel) rfl
theorem m36_50 : M36 50 ls (.ref b::st) (put b pre s A post) Q = M36 53 ls (.ref (b + 17)::st) (put b pre s A post) Q:=w_get (show decode kb36 50 = .ok (.getfield 58,3) from by decide +kernel) gf_58 put_o rfl
theorem m36_53 : M36 53 [l0,.val (.int v),l2,l3,l4,l5,l6] st H Q = M36 54 [l0,.val (.int v),l2,l3,l4,l5,l6] (.int v::st) H Q:=w_x (show decode kb36 53 = .ok (.iload_n 1,1) from by decide +kernel) rfl
theorem m36_54 : M36 54 ls st H Q = M36 55 ls (.int 4::st) H Q:=w_con (show decode kb36 54 = .ok (.iconst 4,1) from by decide +kernel) rfl (by decide)
theorem m36_55 : M36 55 ls (.int y::.int x::st) H Q = M36 56 ls (.int (x * y)::st) H Q:=w_x (show decode kb36 55 = .ok (.imul,1) from by decide +kernel) rfl
theorem m36_56 : M36 56 [l0,l1,.val (.int v),l3,l4,l5,l6] st H Q = M36 57 [l0,l1,.val (.int v),l3,l4,l5,l6] (.int v::st) H Q:=w_x (show decode kb36 56 = .ok (.iload_n 2,1) from by decide +kernel) rfl
theorem m36_57 : M36 57 ls (.int y::.int x::st) H Q = M36 58 ls (.int (x + y)::st) H Q:=w_x (show decode kb36 57 = .ok (.iadd,1) from by decide +kernel) rfl
theorem m36_58  : M36 58 ls (.int j::.ref (b + 17)::st) (put b pre s A post) Q = (inB j (A 16)∧M36 59 ls (.int (getA (A 16) j)::st) (put b pre s A post) Q):=w_ild (show decode kb36 58 = .ok (.iaload,1) from by decide +kernel) rfl put_a16
theorem m36_59u : M36 59 [l0,l1,l2,l3,l4,.unset,l6] ((.int v)::st) H Q = M36 61 [l0,l1,l2,l3,l4,.val (.int v),l6] st H Q:=w_st (i:=5) (p:=isI) (show decode kb36 59 = .ok (.istore 5,2) from by decide +kernel) rfl rfl rfl rfl rfl rfl
theorem m36_61 : M36 61 [l0,l1,l2,l3,l4,.val (.int v),l6] st H Q = M36 63 [l0,l1,l2,l3,l4,.val (.int v),l6] (.int v::st) H Q:=w_x (show decode kb36 61 = .ok (.iload 5,2) from by decide +kernel) rfl
theorem m36_63 : M36 63 ls st H Q = M36 65 ls (.int 64::st) H Q:=w_con (show decode kb36 63 = .ok (.bipush 64,2) from by decide +kernel) rfl (by decide)
theorem m36_65 : M36 65 ls (.int y::.int x::st) H Q = if y < x then M36 68 ls st H Q else M36 72 ls st H Q:=w_icmpN (show decode kb36 65 = .ok (.if_icmp .le 7,3) from by decide +kernel) (i_le x y) rfl
theorem m36_72 : M36 72 ls st H Q = M36 73 ls (.int 0::st) H Q:=w_con (show decode kb36 72 = .ok (.iconst 0,1) from by decide +kernel) rfl (by decide)
theorem m36_73u : M36 73 [l0,l1,l2,l3,l4,l5,.unset] ((.int v)::st) H Q = M36 75 [l0,l1,l2,l3,l4,l5,.val (.int v)] st H Q:=w_st (i:=6) (p:=isI) (show decode kb36 73 = .ok (.istore 6,2) from by decide +kernel) rfl rfl rfl rfl rfl rfl
theorem m36_75 : M36 75 [l0,l1,l2,l3,l4,l5,.val (.int v)] st H Q = M36 77 [l0,l1,l2,l3,l4,l5,.val (.int v)] (.int v::st) H Q:=w_x (show decode kb36 75 = .ok (.iload 6,2) from by decide +kernel) rfl
theorem m36_77 : M36 77 ls st H Q = M36 79 ls (.int 64::st) H Q:=w_con (show decode kb36 77 = .ok (.bipush 64,2) from by decide +kernel) rfl (by decide)
theorem m36_79 : M36 79 ls (.int y::.int x::st) H Q = if x < y then M36 82 ls st H Q else M36 135 ls st H Q:=w_icmpN (show decode kb36 79 = .ok (.if_icmp .ge 56,3) from by decide +kernel) (i_ge x y) rfl
theorem m36_82 : M36 82 [l0,l1,l2,l3,.val (.int v),l5,l6] st H Q = M36 84 [l0,l1,l2,l3,.val (.int v),l5,l6] (.int v::st) H Q:=w_x (show decode kb36 82 = .ok (.iload 4,2) from by decide +kernel) rfl
theorem m36_84 : M36 84 ls (.int x::st) H Q = if x < 0 then M36 135 ls st H Q else M36 87 ls st H Q:=w_if (show decode kb36 84 = .ok (.ifCond .lt 51,3) from by decide +kernel) (z_lt x) rfl
theorem m36_87 : M36 87 [l0,l1,l2,l3,.val (.int v),l5,l6] st H Q = M36 89 [l0,l1,l2,l3,.val (.int v),l5,l6] (.int v::st) H Q:=w_x (show decode kb36 87 = .ok (.iload 4,2) from by decide +kernel) rfl
theorem m36_89 : M36 89 [l0,l1,l2,l3,l4,.val (.int v),l6] st H Q = M36 91 [l0,l1,l2,l3,l4,.val (.int v),l6] (.int v::st) H Q:=w_x (show decode kb36 89 = .ok (.iload 5,2) from by decide +kernel) rfl
theorem m36_91 : M36 91 ls (.int y::.int x::st) H Q = if x < y then M36 94 ls st H Q else M36 135 ls st H Q:=w_icmpN (show decode kb36 91 = .ok (.if_icmp .ge 44,3) from by decide +kernel) (i_ge x y) rfl
theorem m36_94 : M36 94 [.val (.ref r),l1,l2,l3,l4,l5,l6] st H Q = M36 95 [.val (.ref r),l1,l2,l3,l4,l5,l6] (.ref r::st) H Q:=w_x (show decode kb36 94 = .ok (.aload_n 0,1) from by decide +kernel) rfl
theorem m36_95 : M36 95 [.val (.ref r),l1,l2,l3,l4,l5,l6] st H Q = M36 96 [.val (.ref r),l1,l2,l3,l4,l5,l6] (.ref r::st) H Q:=w_x (show decode kb36 95 = .ok (.aload_n 0,1) from by decide +kernel) rfl
theorem m36_96 : M36 96 ls (.ref b::st) (put b pre s A post) Q = M36 99 ls (.ref (b + 14)::st) (put b pre s A post) Q:=w_get (show decode kb36 96 = .ok (.getfield 49,3) from by decide +kernel) gf_49 put_o rfl
theorem m36_99 : M36 99 [l0,l1,l2,.val (.int v),l4,l5,l6] st H Q = M36 100 [l0,l1,l2,.val (.int v),l4,l5,l6] (.int v::st) H Q:=w_x (show decode kb36 99 = .ok (.iload_n 3,1) from by decide +kernel) rfl
theorem m36_100 : M36 100 [l0,l1,l2,l3,.val (.int v),l5,l6] st H Q = M36 102 [l0,l1,l2,l3,.val (.int v),l5,l6] (.int v::st) H Q:=w_x (show decode kb36 100 = .ok (.iload 4,2) from by decide +kernel) rfl
theorem m36_102 : M36 102 ls (.int y::.int x::st) H Q = M36 103 ls (.int (x + y)::st) H Q:=w_x (show decode kb36 102 = .ok (.iadd,1) from by decide +kernel) rfl
theorem m36_103  : M36 103 ls (.int j::.ref (b + 14)::st) (put b pre s A post) Q = (inB j (A 13)∧M36 104 ls (.int (getA (A 13) j)::st) (put b pre s A post) Q):=w_ild (show decode kb36 103 = .ok (.iaload,1) from by decide +kernel) rfl put_a13
theorem m36_104 : M36 104 [.val (.ref r),l1,l2,l3,l4,l5,l6] st H Q = M36 105 [.val (.ref r),l1,l2,l3,l4,l5,l6] (.ref r::st) H Q:=w_x (show decode kb36 104 = .ok (.aload_n 0,1) from by decide +kernel) rfl
theorem m36_105 : M36 105 ls (.ref b::st) (put b pre s A post) Q = M36 108 ls (.ref (b + 15)::st) (put b pre s A post) Q:=w_get (show decode kb36 105 = .ok (.getfield 52,3) from by decide +kernel) gf_52 put_o rfl
theorem m36_108 : M36 108 [l0,l1,l2,.val (.int v),l4,l5,l6] st H Q = M36 109 [l0,l1,l2,.val (.int v),l4,l5,l6] (.int v::st) H Q:=w_x (show decode kb36 108 = .ok (.iload_n 3,1) from by decide +kernel) rfl
theorem m36_109 : M36 109 [l0,l1,l2,l3,.val (.int v),l5,l6] st H Q = M36 111 [l0,l1,l2,l3,.val (.int v),l5,l6] (.int v::st) H Q:=w_x (show decode kb36 109 = .ok (.iload 4,2) from by decide +kernel) rfl
theorem m36_111 : M36 111 ls (.int y::.int x::st) H Q = M36 112 ls (.int (x + y)::st) H Q:=w_x (show decode kb36 111 = .ok (.iadd,1) from by decide +kernel) rfl
theorem m36_112  : M36 112 ls (.int j::.ref (b + 15)::st) (put b pre s A post) Q = (inB j (A 14)∧M36 113 ls (.int (getA (A 14) j)::st) (put b pre s A post) Q):=w_ild (show decode kb36 112 = .ok (.iaload,1) from by decide +kernel) rfl put_a14
theorem m36_113 : M36 113 [l0,l1,l2,l3,.val (.int v),l5,l6] st H Q = M36 115 [l0,l1,l2,l3,.val (.int v),l5,l6] (.int v::st) H Q:=w_x (show decode kb36 113 = .ok (.iload 4,2) from by decide +kernel) rfl
theorem cr36_305 : vR tables_1 dn y36 305 = some (true,y37,prog_1_method_46_code,5,(some .int),3,0):=pR_of (cR_of (by decide +kernel) rc_37 dn_37 dn_36 (sig:=⟨[.int,.int,.int],some .int⟩) (by decide +kernel) (by decide +kernel) rfl rfl) (by decide +kernel) (by decide +kernel)
theorem m36_115 (a0 : Int32) (a1 : Int32) (a2 : Int32) : M36 115 ls [.int a2,.int a1,.int a0,.ref b] (put b pre s A post) Q = M37 0 [.val (.ref b),.val (.int a0),.val (.int a1),.val (.int a2),.unset] [] (put b pre s A post) (fun v H1 => M36 118 ls (v.toList ++ []) H1 Q):=w_virt (as:=[.int a2,.int a1,.int a0]) (rest:=[]) (a:=b) (show decode kb36 115 = .ok (.invokevirtual 305,3) from by decide +kernel) cr36_305 put_o rfl rfl (Nat.le_of_ble_eq_true rfl) (by show 4≤5; omega) rfl
theorem m36_118i : M36 118 [l0,l1,l2,l3,.val (.int z),l5,l6] ((.int v)::st) H Q = M36 120 [l0,l1,l2,l3,.val (.int v),l5,l6] st H Q:=w_st (i:=4) (p:=isI) (show decode kb36 118 = .ok (.istore 4,2) from by decide +kernel) rfl rfl rfl rfl rfl rfl
theorem m36_120 : M36 120 [.val (.ref r),l1,l2,l3,l4,l5,l6] st H Q = M36 121 [.val (.ref r),l1,l2,l3,l4,l5,l6] (.ref r::st) H Q:=w_x (show decode kb36 120 = .ok (.aload_n 0,1) from by decide +kernel) rfl
theorem m36_121 : M36 121 ls (.ref b::st) (put b pre s A post) Q = M36 124 ls (.int (s 16)::st) (put b pre s A post) Q:=w_get (show decode kb36 121 = .ok (.getfield 259,3) from by decide +kernel) gf_259 put_o rfl
theorem m36_124 : M36 124 ls (.int x::st) H Q = if x = 0 then M36 129 ls st H Q else M36 127 ls st H Q:=w_if (show decode kb36 124 = .ok (.ifCond .eq 5,3) from by decide +kernel) (z_eq x) rfl
theorem m36_127 : M36 127 ls st H Q = M36 128 ls (.int 0::st) H Q:=w_con (show decode kb36 127 = .ok (.iconst 0,1) from by decide +kernel) rfl (by decide)
theorem m36_128 : M36 128 ls (.int z::st) H Q = Q (some (.int z)) H:=w_iret (show decode kb36 128 = .ok (.ireturn,1) from by decide +kernel) rfl
theorem m36_129 : M36 129 [l0,l1,l2,l3,l4,l5,.val (.int v)] st H Q = M36 132 [l0,l1,l2,l3,l4,l5,.val (.int (v + 1))] st H Q:=w_iinc (show decode kb36 129 = .ok (.iinc 6 1,3) from by decide +kernel) rfl (by decide) rfl
theorem m36_132 : M36 132 ls st H Q = M36 75 ls st H Q:=w_x (show decode kb36 132 = .ok (.goto (-57),3) from by decide +kernel) rfl
theorem m36_135 : M36 135 [.val (.ref r),l1,l2,l3,l4,l5,l6] st H Q = M36 136 [.val (.ref r),l1,l2,l3,l4,l5,l6] (.ref r::st) H Q:=w_x (show decode kb36 135 = .ok (.aload_n 0,1) from by decide +kernel) rfl
theorem cr36_309 : vR tables_1 dn y36 309 = some (true,y44,prog_1_method_56_code,1,(some .int),0,63):=pR_of (cR_of (by decide +kernel) rc_44 dn_44 dn_36 (sig:=⟨[],some .int⟩) (by decide +kernel) (by decide +kernel) rfl rfl) (by decide +kernel) (by decide +kernel)
theorem m36_136 : M36 136 ls [.ref b] (put b pre s A post) Q = M44 0 [.val (.ref b)] [] (put b pre s A post) (fun v H1 => M36 139 ls (v.toList ++ []) H1 Q):=w_virt (as:=[]) (rest:=[]) (a:=b) (show decode kb36 136 = .ok (.invokevirtual 309,3) from by decide +kernel) cr36_309 put_o rfl rfl (Nat.le_of_ble_eq_true rfl) (by show 1≤1; omega) rfl
theorem m36_139 : M36 139 ls (.int z::st) H Q = Q (some (.int z)) H:=w_iret (show decode kb36 139 = .ok (.ireturn,1) from by decide +kernel) rfl
theorem m37_0 : M37 0 [l0,.val (.int v),l2,l3,l4] st H Q = M37 1 [l0,.val (.int v),l2,l3,l4] (.int v::st) H Q:=w_x (show decode kb37 0 = .ok (.iload_n 1,1) from by decide +kernel) rfl
theorem m37_1 : M37 1 ls (.int x::st) H Q = if x = 0 then M37 4 ls st H Q else M37 13 ls st H Q:=w_ifN (show decode kb37 1 = .ok (.ifCond .ne 12,3) from by decide +kernel) (z_ne x) rfl
theorem m37_13 : M37 13 [l0,.val (.int v),l2,l3,l4] st H Q = M37 14 [l0,.val (.int v),l2,l3,l4] (.int v::st) H Q:=w_x (show decode kb37 13 = .ok (.iload_n 1,1) from by decide +kernel) rfl
theorem m37_14 : M37 14 ls st H Q = M37 15 ls (.int 1::st) H Q:=w_con (show decode kb37 14 = .ok (.iconst 1,1) from by decide +kernel) rfl (by decide)
theorem m37_15 : M37 15 ls (.int y::.int x::st) H Q = if x = y then M37 18 ls st H Q else M37 35 ls st H Q:=w_icmpN (show decode kb37 15 = .ok (.if_icmp .ne 20,3) from by decide +kernel) (i_ne x y) rfl
theorem m37_18 : M37 18 [.val (.ref r),l1,l2,l3,l4] st H Q = M37 19 [.val (.ref r),l1,l2,l3,l4] (.ref r::st) H Q:=w_x (show decode kb37 18 = .ok (.aload_n 0,1) from by decide +kernel) rfl
theorem m37_19 : M37 19 [.val (.ref r),l1,l2,l3,l4] st H Q = M37 20 [.val (.ref r),l1,l2,l3,l4] (.ref r::st) H Q:=w_x (show decode kb37 19 = .ok (.aload_n 0,1) from by decide +kernel) rfl
theorem m37_20 : M37 20 ls (.ref b::st) (put b pre s A post) Q = M37 23 ls (.ref (b + 1)::st) (put b pre s A post) Q:=w_get (show decode kb37 20 = .ok (.getfield 7,3) from by decide +kernel) gf_7 put_o rfl
theorem m37_23 : M37 23 [l0,l1,.val (.int v),l3,l4] st H Q = M37 24 [l0,l1,.val (.int v),l3,l4] (.int v::st) H Q:=w_x (show decode kb37 23 = .ok (.iload_n 2,1) from by decide +kernel) rfl
theorem m37_24 : M37 24 ls st H Q = M37 26 ls (.int 7::st) H Q:=w_con (show decode kb37 24 = .ok (.bipush 7,2) from by decide +kernel) rfl (by decide)
theorem m37_26 : M37 26 ls (.int y::.int x::st) H Q = M37 27 ls (.int (x &&& y)::st) H Q:=w_x (show decode kb37 26 = .ok (.iand,1) from by decide +kernel) rfl
theorem m37_27  : M37 27 ls (.int j::.ref (b + 1)::st) (put b pre s A post) Q = (inB j (A 0)∧M37 28 ls (.int (getA (A 0) j)::st) (put b pre s A post) Q):=w_ild (show decode kb37 27 = .ok (.iaload,1) from by decide +kernel) rfl put_a0
theorem cr37_312 : vR tables_1 dn y37 312 = some (true,y38,prog_1_method_54_code,2,none,1,46):=pR_of (cR_of (by decide +kernel) rc_38 dn_38 dn_37 (sig:=⟨[.int],none⟩) (by decide +kernel) (by decide +kernel) rfl rfl) (by decide +kernel) (by decide +kernel)
theorem m37_28 (a0 : Int32) : M37 28 ls [.int a0,.ref b] (put b pre s A post) Q = M38 0 [.val (.ref b),.val (.int a0)] [] (put b pre s A post) (fun v H1 => M37 31 ls (v.toList ++ []) H1 Q):=w_virt (as:=[.int a0]) (rest:=[]) (a:=b) (show decode kb37 28 = .ok (.invokevirtual 312,3) from by decide +kernel) cr37_312 put_o rfl rfl (Nat.le_of_ble_eq_true rfl) (by show 2≤2; omega) rfl
theorem m37_31 : M37 31 [l0,l1,l2,.val (.int v),l4] st H Q = M37 32 [l0,l1,l2,.val (.int v),l4] (.int v::st) H Q:=w_x (show decode kb37 31 = .ok (.iload_n 3,1) from by decide +kernel) rfl
theorem m37_32 : M37 32 ls st H Q = M37 33 ls (.int 1::st) H Q:=w_con (show decode kb37 32 = .ok (.iconst 1,1) from by decide +kernel) rfl (by decide)
theorem m37_33 : M37 33 ls (.int y::.int x::st) H Q = M37 34 ls (.int (x + y)::st) H Q:=w_x (show decode kb37 33 = .ok (.iadd,1) from by decide +kernel) rfl
theorem m37_34 : M37 34 ls (.int z::st) H Q = Q (some (.int z)) H:=w_iret (show decode kb37 34 = .ok (.ireturn,1) from by decide +kernel) rfl
theorem m37_35 : M37 35 [l0,.val (.int v),l2,l3,l4] st H Q = M37 36 [l0,.val (.int v),l2,l3,l4] (.int v::st) H Q:=w_x (show decode kb37 35 = .ok (.iload_n 1,1) from by decide +kernel) rfl
theorem m37_36 : M37 36 ls st H Q = M37 38 ls (.int 19::st) H Q:=w_con (show decode kb37 36 = .ok (.bipush 19,2) from by decide +kernel) rfl (by decide)
theorem m37_38 : M37 38 ls (.int y::.int x::st) H Q = if x = y then M37 47 ls st H Q else M37 41 ls st H Q:=w_icmp (show decode kb37 38 = .ok (.if_icmp .eq 9,3) from by decide +kernel) (i_eq x y) rfl
theorem m37_41 : M37 41 [l0,.val (.int v),l2,l3,l4] st H Q = M37 42 [l0,.val (.int v),l2,l3,l4] (.int v::st) H Q:=w_x (show decode kb37 41 = .ok (.iload_n 1,1) from by decide +kernel) rfl
theorem m37_42 : M37 42 ls st H Q = M37 44 ls (.int 20::st) H Q:=w_con (show decode kb37 42 = .ok (.bipush 20,2) from by decide +kernel) rfl (by decide)
theorem m37_44 : M37 44 ls (.int y::.int x::st) H Q = if x = y then M37 47 ls st H Q else M37 55 ls st H Q:=w_icmpN (show decode kb37 44 = .ok (.if_icmp .ne 11,3) from by decide +kernel) (i_ne x y) rfl
theorem m37_55 : M37 55 [l0,.val (.int v),l2,l3,l4] st H Q = M37 56 [l0,.val (.int v),l2,l3,l4] (.int v::st) H Q:=w_x (show decode kb37 55 = .ok (.iload_n 1,1) from by decide +kernel) rfl
theorem m37_56 : M37 56 ls st H Q = M37 58 ls (.int 21::st) H Q:=w_con (show decode kb37 56 = .ok (.bipush 21,2) from by decide +kernel) rfl (by decide)
theorem m37_58 : M37 58 ls (.int y::.int x::st) H Q = if x = y then M37 61 ls st H Q else M37 85 ls st H Q:=w_icmpN (show decode kb37 58 = .ok (.if_icmp .ne 27,3) from by decide +kernel) (i_ne x y) rfl
theorem m37_85 : M37 85 [.val (.ref r),l1,l2,l3,l4] st H Q = M37 86 [.val (.ref r),l1,l2,l3,l4] (.ref r::st) H Q:=w_x (show decode kb37 85 = .ok (.aload_n 0,1) from by decide +kernel) rfl
theorem m37_86 : M37 86 [l0,.val (.int v),l2,l3,l4] st H Q = M37 87 [l0,.val (.int v),l2,l3,l4] (.int v::st) H Q:=w_x (show decode kb37 86 = .ok (.iload_n 1,1) from by decide +kernel) rfl
theorem cr37_199 : vR tables_1 dn y37 199 = some (true,y23,prog_1_method_28_code,2,(some .boolean),1,46):=pR_of (cR_of (by decide +kernel) rc_23 dn_23 dn_37 (sig:=⟨[.int],some .boolean⟩) (by decide +kernel) (by decide +kernel) rfl rfl) (by decide +kernel) (by decide +kernel)
theorem m37_87 (a0 : Int32) : M37 87 ls [.int a0,.ref b] (put b pre s A post) Q = M23 0 [.val (.ref b),.val (.int a0)] [] (put b pre s A post) (fun v H1 => M37 90 ls (v.toList ++ []) H1 Q):=w_virt (as:=[.int a0]) (rest:=[]) (a:=b) (show decode kb37 87 = .ok (.invokevirtual 199,3) from by decide +kernel) cr37_199 put_o rfl rfl (Nat.le_of_ble_eq_true rfl) (by show 2≤2; omega) rfl
theorem m37_90 : M37 90 ls (.int x::st) H Q = if x = 0 then M37 102 ls st H Q else M37 93 ls st H Q:=w_if (show decode kb37 90 = .ok (.ifCond .eq 12,3) from by decide +kernel) (z_eq x) rfl
theorem m37_93 : M37 93 [.val (.ref r),l1,l2,l3,l4] st H Q = M37 94 [.val (.ref r),l1,l2,l3,l4] (.ref r::st) H Q:=w_x (show decode kb37 93 = .ok (.aload_n 0,1) from by decide +kernel) rfl
theorem m37_94 : M37 94 [l0,.val (.int v),l2,l3,l4] st H Q = M37 95 [l0,.val (.int v),l2,l3,l4] (.int v::st) H Q:=w_x (show decode kb37 94 = .ok (.iload_n 1,1) from by decide +kernel) rfl
theorem cr37_321 : vR tables_1 dn y37 321 = some (true,y52,prog_1_method_48_code,4,none,1,15):=pR_of (cR_of (by decide +kernel) rc_52 dn_52 dn_37 (sig:=⟨[.int],none⟩) (by decide +kernel) (by decide +kernel) rfl rfl) (by decide +kernel) (by decide +kernel)
theorem m37_95 (a0 : Int32) : M37 95 ls [.int a0,.ref b] (put b pre s A post) Q = M52 0 [.val (.ref b),.val (.int a0),.unset,.unset] [] (put b pre s A post) (fun v H1 => M37 98 ls (v.toList ++ []) H1 Q):=w_virt (as:=[.int a0]) (rest:=[]) (a:=b) (show decode kb37 95 = .ok (.invokevirtual 321,3) from by decide +kernel) cr37_321 put_o rfl rfl (Nat.le_of_ble_eq_true rfl) (by show 2≤4; omega) rfl
theorem m37_98 : M37 98 [l0,l1,l2,.val (.int v),l4] st H Q = M37 99 [l0,l1,l2,.val (.int v),l4] (.int v::st) H Q:=w_x (show decode kb37 98 = .ok (.iload_n 3,1) from by decide +kernel) rfl
theorem m37_99 : M37 99 ls st H Q = M37 100 ls (.int 1::st) H Q:=w_con (show decode kb37 99 = .ok (.iconst 1,1) from by decide +kernel) rfl (by decide)
theorem m37_100 : M37 100 ls (.int y::.int x::st) H Q = M37 101 ls (.int (x + y)::st) H Q:=w_x (show decode kb37 100 = .ok (.iadd,1) from by decide +kernel) rfl
theorem m37_101 : M37 101 ls (.int z::st) H Q = Q (some (.int z)) H:=w_iret (show decode kb37 101 = .ok (.ireturn,1) from by decide +kernel) rfl
theorem m37_102 : M37 102 [.val (.ref r),l1,l2,l3,l4] st H Q = M37 103 [.val (.ref r),l1,l2,l3,l4] (.ref r::st) H Q:=w_x (show decode kb37 102 = .ok (.aload_n 0,1) from by decide +kernel) rfl
theorem m37_103 : M37 103 [l0,.val (.int v),l2,l3,l4] st H Q = M37 104 [l0,.val (.int v),l2,l3,l4] (.int v::st) H Q:=w_x (show decode kb37 103 = .ok (.iload_n 1,1) from by decide +kernel) rfl
theorem cr37_324 : vR tables_1 dn y37 324 = some (true,y39,prog_1_method_49_code,5,none,1,0):=pR_of (cR_of (by decide +kernel) rc_39 dn_39 dn_37 (sig:=⟨[.int],none⟩) (by decide +kernel) (by decide +kernel) rfl rfl) (by decide +kernel) (by decide +kernel)
theorem m37_104 (a0 : Int32) : M37 104 ls [.int a0,.ref b] (put b pre s A post) Q = M39 0 [.val (.ref b),.val (.int a0),.unset,.unset,.unset] [] (put b pre s A post) (fun v H1 => M37 107 ls (v.toList ++ []) H1 Q):=w_virt (as:=[.int a0]) (rest:=[]) (a:=b) (show decode kb37 104 = .ok (.invokevirtual 324,3) from by decide +kernel) cr37_324 put_o rfl rfl (Nat.le_of_ble_eq_true rfl) (by show 2≤5; omega) rfl
theorem m37_107 : M37 107 [l0,l1,l2,.val (.int v),l4] st H Q = M37 108 [l0,l1,l2,.val (.int v),l4] (.int v::st) H Q:=w_x (show decode kb37 107 = .ok (.iload_n 3,1) from by decide +kernel) rfl
theorem m37_108 : M37 108 ls st H Q = M37 109 ls (.int 1::st) H Q:=w_con (show decode kb37 108 = .ok (.iconst 1,1) from by decide +kernel) rfl (by decide)
theorem m37_109 : M37 109 ls (.int y::.int x::st) H Q = M37 110 ls (.int (x + y)::st) H Q:=w_x (show decode kb37 109 = .ok (.iadd,1) from by decide +kernel) rfl
theorem m37_110 : M37 110 ls (.int z::st) H Q = Q (some (.int z)) H:=w_iret (show decode kb37 110 = .ok (.ireturn,1) from by decide +kernel) rfl
theorem m38_0 : M38 0 [.val (.ref r),l1] st H Q = M38 1 [.val (.ref r),l1] (.ref r::st) H Q:=w_x (show decode kb38 0 = .ok (.aload_n 0,1) from by decide +kernel) rfl
theorem m38_1 : M38 1 ls (.ref b::st) (put b pre s A post) Q = M38 4 ls (.int (s 15)::st) (put b pre s A post) Q:=w_get (show decode kb38 1 = .ok (.getfield 302,3) from by decide +kernel) gf_302 put_o rfl
theorem m38_4 : M38 4 ls (.int x::st) H Q = if x < 0 then M38 36 ls st H Q else M38 7 ls st H Q:=w_if (show decode kb38 4 = .ok (.ifCond .lt 32,3) from by decide +kernel) (z_lt x) rfl
theorem m38_7 : M38 7 [.val (.ref r),l1] st H Q = M38 8 [.val (.ref r),l1] (.ref r::st) H Q:=w_x (show decode kb38 7 = .ok (.aload_n 0,1) from by decide +kernel) rfl
theorem m38_8 : M38 8 ls (.ref b::st) (put b pre s A post) Q = M38 11 ls (.int (s 15)::st) (put b pre s A post) Q:=w_get (show decode kb38 8 = .ok (.getfield 302,3) from by decide +kernel) gf_302 put_o rfl
theorem m38_11 : M38 11 ls st H Q = M38 13 ls (.int 40::st) H Q:=w_con (show decode kb38 11 = .ok (.bipush 40,2) from by decide +kernel) rfl (by decide)
theorem m38_13 : M38 13 ls (.int y::.int x::st) H Q = if x < y then M38 16 ls st H Q else M38 36 ls st H Q:=w_icmpN (show decode kb38 13 = .ok (.if_icmp .ge 23,3) from by decide +kernel) (i_ge x y) rfl
theorem m38_16 : M38 16 [.val (.ref r),l1] st H Q = M38 17 [.val (.ref r),l1] (.ref r::st) H Q:=w_x (show decode kb38 16 = .ok (.aload_n 0,1) from by decide +kernel) rfl
theorem m38_17 : M38 17 ls (.ref b::st) (put b pre s A post) Q = M38 20 ls (.ref (b + 25)::st) (put b pre s A post) Q:=w_get (show decode kb38 17 = .ok (.getfield 82,3) from by decide +kernel) gf_82 put_o rfl
theorem m38_20 : M38 20 [.val (.ref r),l1] st H Q = M38 21 [.val (.ref r),l1] (.ref r::st) H Q:=w_x (show decode kb38 20 = .ok (.aload_n 0,1) from by decide +kernel) rfl
theorem m38_21 : M38 21 ls (.ref b::st) (put b pre s A post) Q = M38 24 ls (.int (s 15)::st) (put b pre s A post) Q:=w_get (show decode kb38 21 = .ok (.getfield 302,3) from by decide +kernel) gf_302 put_o rfl
theorem m38_24 : M38 24 [l0,.val (.int v)] st H Q = M38 25 [l0,.val (.int v)] (.int v::st) H Q:=w_x (show decode kb38 24 = .ok (.iload_n 1,1) from by decide +kernel) rfl
theorem m38_25  : M38 25 ls (.int v::.int j::.ref (b + 25)::st) (put b pre s A post) Q = (inB j (A 24)∧M38 26 ls st (put b pre s (ou A 24 (setA (A 24) j v)) post) Q):=w_ist (show decode kb38 25 = .ok (.iastore,1) from by decide +kernel) rfl put_a24 (Nat.zero_le _) rfl put_w24
theorem m38_26 : M38 26 [.val (.ref r),l1] st H Q = M38 27 [.val (.ref r),l1] (.ref r::st) H Q:=w_x (show decode kb38 26 = .ok (.aload_n 0,1) from by decide +kernel) rfl
theorem m38_27 : M38 27 [.val (.ref r),l1] st H Q = M38 28 [.val (.ref r),l1] (.ref r::st) H Q:=w_x (show decode kb38 27 = .ok (.aload_n 0,1) from by decide +kernel) rfl
theorem m38_28 : M38 28 ls (.ref b::st) (put b pre s A post) Q = M38 31 ls (.int (s 15)::st) (put b pre s A post) Q:=w_get (show decode kb38 28 = .ok (.getfield 302,3) from by decide +kernel) gf_302 put_o rfl
theorem m38_31 : M38 31 ls st H Q = M38 32 ls (.int 1::st) H Q:=w_con (show decode kb38 31 = .ok (.iconst 1,1) from by decide +kernel) rfl (by decide)
theorem m38_32 : M38 32 ls (.int y::.int x::st) H Q = M38 33 ls (.int (x + y)::st) H Q:=w_x (show decode kb38 32 = .ok (.iadd,1) from by decide +kernel) rfl
theorem pf38_302 : pfR tables_1 y38.cls y38.name 302 = some ("AgentExprDbg", 50,.int):=by decide +kernel
theorem m38_33 : M38 33 ls (.int v::.ref b::st) (put b pre s A post) Q = M38 36 ls st (put b pre (ou s 15 v) A post) Q:=w_put (show decode kb38 33 = .ok (.putfield 302,3) from by decide +kernel) pf38_302 put_o (Nat.zero_le _) (by show 50 < 60; omega) rfl put_s15
theorem m38_36 : M38 36 ls [] H Q = Q none H:=w_vret (show decode kb38 36 = .ok (.return_,1) from by decide +kernel) rfl
theorem m39_0 : M39 0 [.val (.ref r),l1,l2,l3,l4] st H Q = M39 1 [.val (.ref r),l1,l2,l3,l4] (.ref r::st) H Q:=w_x (show decode kb39 0 = .ok (.aload_n 0,1) from by decide +kernel) rfl
theorem cr39_327 : vR tables_1 dn y39 327 = some (true,y40,prog_1_method_55_code,1,(some .int),0,31):=pR_of (cR_of (by decide +kernel) rc_40 dn_40 dn_39 (sig:=⟨[],some .int⟩) (by decide +kernel) (by decide +kernel) rfl rfl) (by decide +kernel) (by decide +kernel)
theorem m39_1 : M39 1 ls [.ref b] (put b pre s A post) Q = M40 0 [.val (.ref b)] [] (put b pre s A post) (fun v H1 => M39 4 ls (v.toList ++ []) H1 Q):=w_virt (as:=[]) (rest:=[]) (a:=b) (show decode kb39 1 = .ok (.invokevirtual 327,3) from by decide +kernel) cr39_327 put_o rfl rfl (Nat.le_of_ble_eq_true rfl) (by show 1≤1; omega) rfl
theorem m39_4u : M39 4 [l0,l1,.unset,l3,l4] ((.int v)::st) H Q = M39 5 [l0,l1,.val (.int v),l3,l4] st H Q:=w_st (i:=2) (p:=isI) (show decode kb39 4 = .ok (.istore_n 2,1) from by decide +kernel) rfl rfl rfl rfl rfl rfl
theorem m39_5 : M39 5 [.val (.ref r),l1,l2,l3,l4] st H Q = M39 6 [.val (.ref r),l1,l2,l3,l4] (.ref r::st) H Q:=w_x (show decode kb39 5 = .ok (.aload_n 0,1) from by decide +kernel) rfl
theorem m39_6 : M39 6 ls [.ref b] (put b pre s A post) Q = M40 0 [.val (.ref b)] [] (put b pre s A post) (fun v H1 => M39 9 ls (v.toList ++ []) H1 Q):=w_virt (as:=[]) (rest:=[]) (a:=b) (show decode kb39 6 = .ok (.invokevirtual 327,3) from by decide +kernel) cr39_327 put_o rfl rfl (Nat.le_of_ble_eq_true rfl) (by show 1≤1; omega) rfl
theorem m39_9u : M39 9 [l0,l1,l2,.unset,l4] ((.int v)::st) H Q = M39 10 [l0,l1,l2,.val (.int v),l4] st H Q:=w_st (i:=3) (p:=isI) (show decode kb39 9 = .ok (.istore_n 3,1) from by decide +kernel) rfl rfl rfl rfl rfl rfl
theorem m39_10 : M39 10 [.val (.ref r),l1,l2,l3,l4] st H Q = M39 11 [.val (.ref r),l1,l2,l3,l4] (.ref r::st) H Q:=w_x (show decode kb39 10 = .ok (.aload_n 0,1) from by decide +kernel) rfl
theorem m39_11 : M39 11 [l0,.val (.int v),l2,l3,l4] st H Q = M39 12 [l0,.val (.int v),l2,l3,l4] (.int v::st) H Q:=w_x (show decode kb39 11 = .ok (.iload_n 1,1) from by decide +kernel) rfl
theorem m39_12 : M39 12 [l0,l1,l2,.val (.int v),l4] st H Q = M39 13 [l0,l1,l2,.val (.int v),l4] (.int v::st) H Q:=w_x (show decode kb39 12 = .ok (.iload_n 3,1) from by decide +kernel) rfl
theorem m39_13 : M39 13 [l0,l1,.val (.int v),l3,l4] st H Q = M39 14 [l0,l1,.val (.int v),l3,l4] (.int v::st) H Q:=w_x (show decode kb39 13 = .ok (.iload_n 2,1) from by decide +kernel) rfl
theorem cr39_333 : vR tables_1 dn y39 333 = some (true,y41,prog_1_method_51_code,4,(some .int),3,0):=pR_of (cR_of (by decide +kernel) rc_41 dn_41 dn_39 (sig:=⟨[.int,.int,.int],some .int⟩) (by decide +kernel) (by decide +kernel) rfl rfl) (by decide +kernel) (by decide +kernel)
theorem m39_14 (a0 : Int32) (a1 : Int32) (a2 : Int32) : M39 14 ls [.int a2,.int a1,.int a0,.ref b] (put b pre s A post) Q = M41 0 [.val (.ref b),.val (.int a0),.val (.int a1),.val (.int a2)] [] (put b pre s A post) (fun v H1 => M39 17 ls (v.toList ++ []) H1 Q):=w_virt (as:=[.int a2,.int a1,.int a0]) (rest:=[]) (a:=b) (show decode kb39 14 = .ok (.invokevirtual 333,3) from by decide +kernel) cr39_333 put_o rfl rfl (Nat.le_of_ble_eq_true rfl) (by show 4≤4; omega) rfl
theorem m39_17u : M39 17 [l0,l1,l2,l3,.unset] ((.int v)::st) H Q = M39 19 [l0,l1,l2,l3,.val (.int v)] st H Q:=w_st (i:=4) (p:=isI) (show decode kb39 17 = .ok (.istore 4,2) from by decide +kernel) rfl rfl rfl rfl rfl rfl
theorem m39_19 : M39 19 [.val (.ref r),l1,l2,l3,l4] st H Q = M39 20 [.val (.ref r),l1,l2,l3,l4] (.ref r::st) H Q:=w_x (show decode kb39 19 = .ok (.aload_n 0,1) from by decide +kernel) rfl
theorem m39_20 : M39 20 [l0,l1,l2,l3,.val (.int v)] st H Q = M39 22 [l0,l1,l2,l3,.val (.int v)] (.int v::st) H Q:=w_x (show decode kb39 20 = .ok (.iload 4,2) from by decide +kernel) rfl
theorem cr39_312 : vR tables_1 dn y39 312 = some (true,y38,prog_1_method_54_code,2,none,1,30):=pR_of (cR_of (by decide +kernel) rc_38 dn_38 dn_39 (sig:=⟨[.int],none⟩) (by decide +kernel) (by decide +kernel) rfl rfl) (by decide +kernel) (by decide +kernel)
theorem m39_22 (a0 : Int32) : M39 22 ls [.int a0,.ref b] (put b pre s A post) Q = M38 0 [.val (.ref b),.val (.int a0)] [] (put b pre s A post) (fun v H1 => M39 25 ls (v.toList ++ []) H1 Q):=w_virt (as:=[.int a0]) (rest:=[]) (a:=b) (show decode kb39 22 = .ok (.invokevirtual 312,3) from by decide +kernel) cr39_312 put_o rfl rfl (Nat.le_of_ble_eq_true rfl) (by show 2≤2; omega) rfl
theorem m39_25 : M39 25 ls [] H Q = Q none H:=w_vret (show decode kb39 25 = .ok (.return_,1) from by decide +kernel) rfl
theorem m40_0 : M40 0 [.val (.ref r)] st H Q = M40 1 [.val (.ref r)] (.ref r::st) H Q:=w_x (show decode kb40 0 = .ok (.aload_n 0,1) from by decide +kernel) rfl
theorem m40_1 : M40 1 ls (.ref b::st) (put b pre s A post) Q = M40 4 ls (.int (s 15)::st) (put b pre s A post) Q:=w_get (show decode kb40 1 = .ok (.getfield 302,3) from by decide +kernel) gf_302 put_o rfl
theorem m40_4 : M40 4 ls (.int x::st) H Q = if 0 < x then M40 7 ls st H Q else M40 36 ls st H Q:=w_ifN (show decode kb40 4 = .ok (.ifCond .le 32,3) from by decide +kernel) (z_le x) rfl
theorem m40_7 : M40 7 [.val (.ref r)] st H Q = M40 8 [.val (.ref r)] (.ref r::st) H Q:=w_x (show decode kb40 7 = .ok (.aload_n 0,1) from by decide +kernel) rfl
theorem m40_8 : M40 8 ls (.ref b::st) (put b pre s A post) Q = M40 11 ls (.int (s 15)::st) (put b pre s A post) Q:=w_get (show decode kb40 8 = .ok (.getfield 302,3) from by decide +kernel) gf_302 put_o rfl
theorem m40_11 : M40 11 ls st H Q = M40 13 ls (.int 40::st) H Q:=w_con (show decode kb40 11 = .ok (.bipush 40,2) from by decide +kernel) rfl (by decide)
theorem m40_13 : M40 13 ls (.int y::.int x::st) H Q = if y < x then M40 36 ls st H Q else M40 16 ls st H Q:=w_icmp (show decode kb40 13 = .ok (.if_icmp .gt 23,3) from by decide +kernel) (i_gt x y) rfl
theorem m40_16 : M40 16 [.val (.ref r)] st H Q = M40 17 [.val (.ref r)] (.ref r::st) H Q:=w_x (show decode kb40 16 = .ok (.aload_n 0,1) from by decide +kernel) rfl
theorem m40_17 : M40 17 [.val (.ref r)] st H Q = M40 18 [.val (.ref r)] (.ref r::st) H Q:=w_x (show decode kb40 17 = .ok (.aload_n 0,1) from by decide +kernel) rfl
theorem m40_18 : M40 18 ls (.ref b::st) (put b pre s A post) Q = M40 21 ls (.int (s 15)::st) (put b pre s A post) Q:=w_get (show decode kb40 18 = .ok (.getfield 302,3) from by decide +kernel) gf_302 put_o rfl
theorem m40_21 : M40 21 ls st H Q = M40 22 ls (.int 1::st) H Q:=w_con (show decode kb40 21 = .ok (.iconst 1,1) from by decide +kernel) rfl (by decide)
theorem m40_22 : M40 22 ls (.int y::.int x::st) H Q = M40 23 ls (.int (x - y)::st) H Q:=w_x (show decode kb40 22 = .ok (.isub,1) from by decide +kernel) rfl
theorem pf40_302 : pfR tables_1 y40.cls y40.name 302 = some ("AgentExprDbg", 50,.int):=by decide +kernel
theorem m40_23 : M40 23 ls (.int v::.ref b::st) (put b pre s A post) Q = M40 26 ls st (put b pre (ou s 15 v) A post) Q:=w_put (show decode kb40 23 = .ok (.putfield 302,3) from by decide +kernel) pf40_302 put_o (Nat.zero_le _) (by show 50 < 60; omega) rfl put_s15
theorem m40_26 : M40 26 [.val (.ref r)] st H Q = M40 27 [.val (.ref r)] (.ref r::st) H Q:=w_x (show decode kb40 26 = .ok (.aload_n 0,1) from by decide +kernel) rfl
theorem m40_27 : M40 27 ls (.ref b::st) (put b pre s A post) Q = M40 30 ls (.ref (b + 25)::st) (put b pre s A post) Q:=w_get (show decode kb40 27 = .ok (.getfield 82,3) from by decide +kernel) gf_82 put_o rfl
theorem m40_30 : M40 30 [.val (.ref r)] st H Q = M40 31 [.val (.ref r)] (.ref r::st) H Q:=w_x (show decode kb40 30 = .ok (.aload_n 0,1) from by decide +kernel) rfl
theorem m40_31 : M40 31 ls (.ref b::st) (put b pre s A post) Q = M40 34 ls (.int (s 15)::st) (put b pre s A post) Q:=w_get (show decode kb40 31 = .ok (.getfield 302,3) from by decide +kernel) gf_302 put_o rfl
theorem m40_34  : M40 34 ls (.int j::.ref (b + 25)::st) (put b pre s A post) Q = (inB j (A 24)∧M40 35 ls (.int (getA (A 24) j)::st) (put b pre s A post) Q):=w_ild (show decode kb40 34 = .ok (.iaload,1) from by decide +kernel) rfl put_a24
theorem m40_35 : M40 35 ls (.int z::st) H Q = Q (some (.int z)) H:=w_iret (show decode kb40 35 = .ok (.ireturn,1) from by decide +kernel) rfl
theorem m41_0 : M41 0 [l0,.val (.int v),l2,l3] st H Q = M41 1 [l0,.val (.int v),l2,l3] (.int v::st) H Q:=w_x (show decode kb41 0 = .ok (.iload_n 1,1) from by decide +kernel) rfl
theorem m41_1 : M41 1 ls st H Q = M41 3 ls (.int 8::st) H Q:=w_con (show decode kb41 1 = .ok (.bipush 8,2) from by decide +kernel) rfl (by decide)
theorem m41_3 : M41 3 ls (.int y::.int x::st) H Q = if x = y then M41 6 ls st H Q else M41 10 ls st H Q:=w_icmpN (show decode kb41 3 = .ok (.if_icmp .ne 7,3) from by decide +kernel) (i_ne x y) rfl
theorem m41_10 : M41 10 [l0,.val (.int v),l2,l3] st H Q = M41 11 [l0,.val (.int v),l2,l3] (.int v::st) H Q:=w_x (show decode kb41 10 = .ok (.iload_n 1,1) from by decide +kernel) rfl
theorem m41_11 : M41 11 ls st H Q = M41 13 ls (.int 11::st) H Q:=w_con (show decode kb41 11 = .ok (.bipush 11,2) from by decide +kernel) rfl (by decide)
theorem m41_13 : M41 13 ls (.int y::.int x::st) H Q = if x = y then M41 16 ls st H Q else M41 20 ls st H Q:=w_icmpN (show decode kb41 13 = .ok (.if_icmp .ne 7,3) from by decide +kernel) (i_ne x y) rfl
theorem m41_20 : M41 20 [l0,.val (.int v),l2,l3] st H Q = M41 21 [l0,.val (.int v),l2,l3] (.int v::st) H Q:=w_x (show decode kb41 20 = .ok (.iload_n 1,1) from by decide +kernel) rfl
theorem m41_21 : M41 21 ls st H Q = M41 23 ls (.int 12::st) H Q:=w_con (show decode kb41 21 = .ok (.bipush 12,2) from by decide +kernel) rfl (by decide)
theorem m41_23 : M41 23 ls (.int y::.int x::st) H Q = if x = y then M41 26 ls st H Q else M41 30 ls st H Q:=w_icmpN (show decode kb41 23 = .ok (.if_icmp .ne 7,3) from by decide +kernel) (i_ne x y) rfl
theorem m41_26 : M41 26 [l0,l1,.val (.int v),l3] st H Q = M41 27 [l0,l1,.val (.int v),l3] (.int v::st) H Q:=w_x (show decode kb41 26 = .ok (.iload_n 2,1) from by decide +kernel) rfl
theorem m41_27 : M41 27 [l0,l1,l2,.val (.int v)] st H Q = M41 28 [l0,l1,l2,.val (.int v)] (.int v::st) H Q:=w_x (show decode kb41 27 = .ok (.iload_n 3,1) from by decide +kernel) rfl
theorem m41_28 : M41 28 ls (.int y::.int x::st) H Q = M41 29 ls (.int (x - y)::st) H Q:=w_x (show decode kb41 28 = .ok (.isub,1) from by decide +kernel) rfl
theorem m41_29 : M41 29 ls (.int z::st) H Q = Q (some (.int z)) H:=w_iret (show decode kb41 29 = .ok (.ireturn,1) from by decide +kernel) rfl
theorem m41_30 : M41 30 [l0,.val (.int v),l2,l3] st H Q = M41 31 [l0,.val (.int v),l2,l3] (.int v::st) H Q:=w_x (show decode kb41 30 = .ok (.iload_n 1,1) from by decide +kernel) rfl
theorem m41_31 : M41 31 ls st H Q = M41 33 ls (.int 9::st) H Q:=w_con (show decode kb41 31 = .ok (.bipush 9,2) from by decide +kernel) rfl (by decide)
theorem m41_33 : M41 33 ls (.int y::.int x::st) H Q = if x = y then M41 42 ls st H Q else M41 36 ls st H Q:=w_icmp (show decode kb41 33 = .ok (.if_icmp .eq 9,3) from by decide +kernel) (i_eq x y) rfl
theorem m41_36 : M41 36 [l0,.val (.int v),l2,l3] st H Q = M41 37 [l0,.val (.int v),l2,l3] (.int v::st) H Q:=w_x (show decode kb41 36 = .ok (.iload_n 1,1) from by decide +kernel) rfl
theorem m41_37 : M41 37 ls st H Q = M41 39 ls (.int 10::st) H Q:=w_con (show decode kb41 37 = .ok (.bipush 10,2) from by decide +kernel) rfl (by decide)
theorem m41_39 : M41 39 ls (.int y::.int x::st) H Q = if x = y then M41 42 ls st H Q else M41 50 ls st H Q:=w_icmpN (show decode kb41 39 = .ok (.if_icmp .ne 11,3) from by decide +kernel) (i_ne x y) rfl
theorem m41_42 : M41 42 [.val (.ref r),l1,l2,l3] st H Q = M41 43 [.val (.ref r),l1,l2,l3] (.ref r::st) H Q:=w_x (show decode kb41 42 = .ok (.aload_n 0,1) from by decide +kernel) rfl
theorem m41_43 : M41 43 [l0,.val (.int v),l2,l3] st H Q = M41 44 [l0,.val (.int v),l2,l3] (.int v::st) H Q:=w_x (show decode kb41 43 = .ok (.iload_n 1,1) from by decide +kernel) rfl
theorem m41_44 : M41 44 [l0,l1,.val (.int v),l3] st H Q = M41 45 [l0,l1,.val (.int v),l3] (.int v::st) H Q:=w_x (show decode kb41 44 = .ok (.iload_n 2,1) from by decide +kernel) rfl
theorem m41_45 : M41 45 [l0,l1,l2,.val (.int v)] st H Q = M41 46 [l0,l1,l2,.val (.int v)] (.int v::st) H Q:=w_x (show decode kb41 45 = .ok (.iload_n 3,1) from by decide +kernel) rfl
theorem cr41_336 : vR tables_1 dn y41 336 = some (true,y51,prog_1_method_52_code,4,(some .int),3,13):=pR_of (cR_of (by decide +kernel) rc_51 dn_51 dn_41 (sig:=⟨[.int,.int,.int],some .int⟩) (by decide +kernel) (by decide +kernel) rfl rfl) (by decide +kernel) (by decide +kernel)
theorem m41_46 (a0 : Int32) (a1 : Int32) (a2 : Int32) : M41 46 ls [.int a2,.int a1,.int a0,.ref b] (put b pre s A post) Q = M51 0 [.val (.ref b),.val (.int a0),.val (.int a1),.val (.int a2)] [] (put b pre s A post) (fun v H1 => M41 49 ls (v.toList ++ []) H1 Q):=w_virt (as:=[.int a2,.int a1,.int a0]) (rest:=[]) (a:=b) (show decode kb41 46 = .ok (.invokevirtual 336,3) from by decide +kernel) cr41_336 put_o rfl rfl (Nat.le_of_ble_eq_true rfl) (by show 4≤4; omega) rfl
theorem m41_49 : M41 49 ls (.int z::st) H Q = Q (some (.int z)) H:=w_iret (show decode kb41 49 = .ok (.ireturn,1) from by decide +kernel) rfl
theorem m41_50 : M41 50 [.val (.ref r),l1,l2,l3] st H Q = M41 51 [.val (.ref r),l1,l2,l3] (.ref r::st) H Q:=w_x (show decode kb41 50 = .ok (.aload_n 0,1) from by decide +kernel) rfl
theorem m41_51 : M41 51 [l0,.val (.int v),l2,l3] st H Q = M41 52 [l0,.val (.int v),l2,l3] (.int v::st) H Q:=w_x (show decode kb41 51 = .ok (.iload_n 1,1) from by decide +kernel) rfl
theorem m41_52 : M41 52 [l0,l1,.val (.int v),l3] st H Q = M41 53 [l0,l1,.val (.int v),l3] (.int v::st) H Q:=w_x (show decode kb41 52 = .ok (.iload_n 2,1) from by decide +kernel) rfl
theorem m41_53 : M41 53 [l0,l1,l2,.val (.int v)] st H Q = M41 54 [l0,l1,l2,.val (.int v)] (.int v::st) H Q:=w_x (show decode kb41 53 = .ok (.iload_n 3,1) from by decide +kernel) rfl
theorem cr41_339 : vR tables_1 dn y41 339 = some (true,y42,prog_1_method_53_code,4,(some .int),3,0):=pR_of (cR_of (by decide +kernel) rc_42 dn_42 dn_41 (sig:=⟨[.int,.int,.int],some .int⟩) (by decide +kernel) (by decide +kernel) rfl rfl) (by decide +kernel) (by decide +kernel)
theorem m41_54 (a0 : Int32) (a1 : Int32) (a2 : Int32) : M41 54 ls [.int a2,.int a1,.int a0,.ref b] (put b pre s A post) Q = M42 0 [.val (.ref b),.val (.int a0),.val (.int a1),.val (.int a2)] [] (put b pre s A post) (fun v H1 => M41 57 ls (v.toList ++ []) H1 Q):=w_virt (as:=[.int a2,.int a1,.int a0]) (rest:=[]) (a:=b) (show decode kb41 54 = .ok (.invokevirtual 339,3) from by decide +kernel) cr41_339 put_o rfl rfl (Nat.le_of_ble_eq_true rfl) (by show 4≤4; omega) rfl
theorem m41_57 : M41 57 ls (.int z::st) H Q = Q (some (.int z)) H:=w_iret (show decode kb41 57 = .ok (.ireturn,1) from by decide +kernel) rfl
theorem m42_0 : M42 0 [l0,.val (.int v),l2,l3] st H Q = M42 1 [l0,.val (.int v),l2,l3] (.int v::st) H Q:=w_x (show decode kb42 0 = .ok (.iload_n 1,1) from by decide +kernel) rfl
theorem m42_1 : M42 1 ls st H Q = M42 3 ls (.int 13::st) H Q:=w_con (show decode kb42 1 = .ok (.bipush 13,2) from by decide +kernel) rfl (by decide)
theorem m42_3 : M42 3 ls (.int y::.int x::st) H Q = if x = y then M42 6 ls st H Q else M42 21 ls st H Q:=w_icmpN (show decode kb42 3 = .ok (.if_icmp .ne 18,3) from by decide +kernel) (i_ne x y) rfl
theorem m42_21 : M42 21 [l0,.val (.int v),l2,l3] st H Q = M42 22 [l0,.val (.int v),l2,l3] (.int v::st) H Q:=w_x (show decode kb42 21 = .ok (.iload_n 1,1) from by decide +kernel) rfl
theorem m42_22 : M42 22 ls st H Q = M42 24 ls (.int 14::st) H Q:=w_con (show decode kb42 22 = .ok (.bipush 14,2) from by decide +kernel) rfl (by decide)
theorem m42_24 : M42 24 ls (.int y::.int x::st) H Q = if x = y then M42 27 ls st H Q else M42 42 ls st H Q:=w_icmpN (show decode kb42 24 = .ok (.if_icmp .ne 18,3) from by decide +kernel) (i_ne x y) rfl
theorem m42_42 : M42 42 [l0,.val (.int v),l2,l3] st H Q = M42 43 [l0,.val (.int v),l2,l3] (.int v::st) H Q:=w_x (show decode kb42 42 = .ok (.iload_n 1,1) from by decide +kernel) rfl
theorem m42_43 : M42 43 ls st H Q = M42 45 ls (.int 15::st) H Q:=w_con (show decode kb42 43 = .ok (.bipush 15,2) from by decide +kernel) rfl (by decide)
theorem m42_45 : M42 45 ls (.int y::.int x::st) H Q = if x = y then M42 48 ls st H Q else M42 63 ls st H Q:=w_icmpN (show decode kb42 45 = .ok (.if_icmp .ne 18,3) from by decide +kernel) (i_ne x y) rfl
theorem m42_48 : M42 48 [.val (.ref r),l1,l2,l3] st H Q = M42 49 [.val (.ref r),l1,l2,l3] (.ref r::st) H Q:=w_x (show decode kb42 48 = .ok (.aload_n 0,1) from by decide +kernel) rfl
theorem m42_49 : M42 49 [l0,l1,.val (.int v),l3] st H Q = M42 50 [l0,l1,.val (.int v),l3] (.int v::st) H Q:=w_x (show decode kb42 49 = .ok (.iload_n 2,1) from by decide +kernel) rfl
theorem m42_50 : M42 50 [l0,l1,l2,.val (.int v)] st H Q = M42 51 [l0,l1,l2,.val (.int v)] (.int v::st) H Q:=w_x (show decode kb42 50 = .ok (.iload_n 3,1) from by decide +kernel) rfl
theorem m42_51 : M42 51 ls (.int y::.int x::st) H Q = if y < x then M42 54 ls st H Q else M42 58 ls st H Q:=w_icmpN (show decode kb42 51 = .ok (.if_icmp .le 7,3) from by decide +kernel) (i_le x y) rfl
theorem m42_54 : M42 54 ls st H Q = M42 55 ls (.int 1::st) H Q:=w_con (show decode kb42 54 = .ok (.iconst 1,1) from by decide +kernel) rfl (by decide)
theorem m42_55 : M42 55 ls st H Q = M42 59 ls st H Q:=w_x (show decode kb42 55 = .ok (.goto 4,3) from by decide +kernel) rfl
theorem m42_58 : M42 58 ls st H Q = M42 59 ls (.int 0::st) H Q:=w_con (show decode kb42 58 = .ok (.iconst 0,1) from by decide +kernel) rfl (by decide)
theorem cr42_342 : vR tables_1 dn y42 342 = some (true,y43,prog_1_method_65_code,2,(some .int),1,0):=pR_of (cR_of (by decide +kernel) rc_43 dn_43 dn_42 (sig:=⟨[.boolean],some .int⟩) (by decide +kernel) (by decide +kernel) rfl rfl) (by decide +kernel) (by decide +kernel)
theorem m42_59 (a0 : Int32) : M42 59 ls [.int a0,.ref b] (put b pre s A post) Q = M43 0 [.val (.ref b),.val (.int a0)] [] (put b pre s A post) (fun v H1 => M42 62 ls (v.toList ++ []) H1 Q):=w_virt (as:=[.int a0]) (rest:=[]) (a:=b) (show decode kb42 59 = .ok (.invokevirtual 342,3) from by decide +kernel) cr42_342 put_o rfl rfl (Nat.le_of_ble_eq_true rfl) (by show 2≤2; omega) rfl
theorem m42_62 : M42 62 ls (.int z::st) H Q = Q (some (.int z)) H:=w_iret (show decode kb42 62 = .ok (.ireturn,1) from by decide +kernel) rfl
theorem m43_0 : M43 0 [l0,.val (.int v)] st H Q = M43 1 [l0,.val (.int v)] (.int v::st) H Q:=w_x (show decode kb43 0 = .ok (.iload_n 1,1) from by decide +kernel) rfl
theorem m43_1 : M43 1 ls (.int x::st) H Q = if x = 0 then M43 8 ls st H Q else M43 4 ls st H Q:=w_if (show decode kb43 1 = .ok (.ifCond .eq 7,3) from by decide +kernel) (z_eq x) rfl
theorem m43_4 : M43 4 ls st H Q = M43 5 ls (.int 1::st) H Q:=w_con (show decode kb43 4 = .ok (.iconst 1,1) from by decide +kernel) rfl (by decide)
theorem m43_5 : M43 5 ls st H Q = M43 9 ls st H Q:=w_x (show decode kb43 5 = .ok (.goto 4,3) from by decide +kernel) rfl
theorem m43_8 : M43 8 ls st H Q = M43 9 ls (.int 0::st) H Q:=w_con (show decode kb43 8 = .ok (.iconst 0,1) from by decide +kernel) rfl (by decide)
theorem m43_9 : M43 9 ls (.int z::st) H Q = Q (some (.int z)) H:=w_iret (show decode kb43 9 = .ok (.ireturn,1) from by decide +kernel) rfl
theorem m44_0 : M44 0 [.val (.ref r)] st H Q = M44 1 [.val (.ref r)] (.ref r::st) H Q:=w_x (show decode kb44 0 = .ok (.aload_n 0,1) from by decide +kernel) rfl
theorem m44_1 : M44 1 ls (.ref b::st) (put b pre s A post) Q = M44 4 ls (.int (s 15)::st) (put b pre s A post) Q:=w_get (show decode kb44 1 = .ok (.getfield 302,3) from by decide +kernel) gf_302 put_o rfl
theorem m44_4 : M44 4 ls (.int x::st) H Q = if 0 < x then M44 7 ls st H Q else M44 28 ls st H Q:=w_ifN (show decode kb44 4 = .ok (.ifCond .le 24,3) from by decide +kernel) (z_le x) rfl
theorem m44_7 : M44 7 [.val (.ref r)] st H Q = M44 8 [.val (.ref r)] (.ref r::st) H Q:=w_x (show decode kb44 7 = .ok (.aload_n 0,1) from by decide +kernel) rfl
theorem m44_8 : M44 8 ls (.ref b::st) (put b pre s A post) Q = M44 11 ls (.int (s 15)::st) (put b pre s A post) Q:=w_get (show decode kb44 8 = .ok (.getfield 302,3) from by decide +kernel) gf_302 put_o rfl
theorem m44_11 : M44 11 ls st H Q = M44 13 ls (.int 40::st) H Q:=w_con (show decode kb44 11 = .ok (.bipush 40,2) from by decide +kernel) rfl (by decide)
theorem m44_13 : M44 13 ls (.int y::.int x::st) H Q = if y < x then M44 28 ls st H Q else M44 16 ls st H Q:=w_icmp (show decode kb44 13 = .ok (.if_icmp .gt 15,3) from by decide +kernel) (i_gt x y) rfl
theorem m44_16 : M44 16 [.val (.ref r)] st H Q = M44 17 [.val (.ref r)] (.ref r::st) H Q:=w_x (show decode kb44 16 = .ok (.aload_n 0,1) from by decide +kernel) rfl
theorem m44_17 : M44 17 ls (.ref b::st) (put b pre s A post) Q = M44 20 ls (.ref (b + 25)::st) (put b pre s A post) Q:=w_get (show decode kb44 17 = .ok (.getfield 82,3) from by decide +kernel) gf_82 put_o rfl
theorem m44_20 : M44 20 [.val (.ref r)] st H Q = M44 21 [.val (.ref r)] (.ref r::st) H Q:=w_x (show decode kb44 20 = .ok (.aload_n 0,1) from by decide +kernel) rfl
theorem m44_21 : M44 21 ls (.ref b::st) (put b pre s A post) Q = M44 24 ls (.int (s 15)::st) (put b pre s A post) Q:=w_get (show decode kb44 21 = .ok (.getfield 302,3) from by decide +kernel) gf_302 put_o rfl
theorem m44_24 : M44 24 ls st H Q = M44 25 ls (.int 1::st) H Q:=w_con (show decode kb44 24 = .ok (.iconst 1,1) from by decide +kernel) rfl (by decide)
theorem m44_25 : M44 25 ls (.int y::.int x::st) H Q = M44 26 ls (.int (x - y)::st) H Q:=w_x (show decode kb44 25 = .ok (.isub,1) from by decide +kernel) rfl
theorem m44_26  : M44 26 ls (.int j::.ref (b + 25)::st) (put b pre s A post) Q = (inB j (A 24)∧M44 27 ls (.int (getA (A 24) j)::st) (put b pre s A post) Q):=w_ild (show decode kb44 26 = .ok (.iaload,1) from by decide +kernel) rfl put_a24
theorem m44_27 : M44 27 ls (.int z::st) H Q = Q (some (.int z)) H:=w_iret (show decode kb44 27 = .ok (.ireturn,1) from by decide +kernel) rfl
theorem m45_0 : M45 0 [l0,.val (.int v)] st H Q = M45 1 [l0,.val (.int v)] (.int v::st) H Q:=w_x (show decode kb45 0 = .ok (.iload_n 1,1) from by decide +kernel) rfl
theorem m45_1 : M45 1 ls (.int x::st) H Q = if x = 0 then M45 4 ls st H Q else M45 17 ls st H Q:=w_ifN (show decode kb45 1 = .ok (.ifCond .ne 16,3) from by decide +kernel) (z_ne x) rfl
theorem m45_17 : M45 17 [l0,.val (.int v)] st H Q = M45 18 [l0,.val (.int v)] (.int v::st) H Q:=w_x (show decode kb45 17 = .ok (.iload_n 1,1) from by decide +kernel) rfl
theorem m45_18 : M45 18 ls st H Q = M45 19 ls (.int 1::st) H Q:=w_con (show decode kb45 18 = .ok (.iconst 1,1) from by decide +kernel) rfl (by decide)
theorem m45_19 : M45 19 ls (.int y::.int x::st) H Q = if x = y then M45 22 ls st H Q else M45 35 ls st H Q:=w_icmpN (show decode kb45 19 = .ok (.if_icmp .ne 16,3) from by decide +kernel) (i_ne x y) rfl
theorem m45_35 : M45 35 [l0,.val (.int v)] st H Q = M45 36 [l0,.val (.int v)] (.int v::st) H Q:=w_x (show decode kb45 35 = .ok (.iload_n 1,1) from by decide +kernel) rfl
theorem m45_36 : M45 36 ls st H Q = M45 37 ls (.int 2::st) H Q:=w_con (show decode kb45 36 = .ok (.iconst 2,1) from by decide +kernel) rfl (by decide)
theorem m45_37 : M45 37 ls (.int y::.int x::st) H Q = if x = y then M45 40 ls st H Q else M45 45 ls st H Q:=w_icmpN (show decode kb45 37 = .ok (.if_icmp .ne 8,3) from by decide +kernel) (i_ne x y) rfl
theorem m45_40 : M45 40 [.val (.ref r),l1] st H Q = M45 41 [.val (.ref r),l1] (.ref r::st) H Q:=w_x (show decode kb45 40 = .ok (.aload_n 0,1) from by decide +kernel) rfl
theorem m45_41 : M45 41 ls (.ref b::st) (put b pre s A post) Q = M45 44 ls (.int (s 3)::st) (put b pre s A post) Q:=w_get (show decode kb45 41 = .ok (.getfield 235,3) from by decide +kernel) gf_235 put_o rfl
theorem m45_44 : M45 44 ls (.int z::st) H Q = Q (some (.int z)) H:=w_iret (show decode kb45 44 = .ok (.ireturn,1) from by decide +kernel) rfl
theorem m45_45 : M45 45 [l0,.val (.int v)] st H Q = M45 46 [l0,.val (.int v)] (.int v::st) H Q:=w_x (show decode kb45 45 = .ok (.iload_n 1,1) from by decide +kernel) rfl
theorem m45_46 : M45 46 ls st H Q = M45 47 ls (.int 3::st) H Q:=w_con (show decode kb45 46 = .ok (.iconst 3,1) from by decide +kernel) rfl (by decide)
theorem m45_47 : M45 47 ls (.int y::.int x::st) H Q = if x = y then M45 50 ls st H Q else M45 55 ls st H Q:=w_icmpN (show decode kb45 47 = .ok (.if_icmp .ne 8,3) from by decide +kernel) (i_ne x y) rfl
theorem m45_55 : M45 55 [l0,.val (.int v)] st H Q = M45 56 [l0,.val (.int v)] (.int v::st) H Q:=w_x (show decode kb45 55 = .ok (.iload_n 1,1) from by decide +kernel) rfl
theorem m45_56 : M45 56 ls st H Q = M45 57 ls (.int 4::st) H Q:=w_con (show decode kb45 56 = .ok (.iconst 4,1) from by decide +kernel) rfl (by decide)
theorem m45_57 : M45 57 ls (.int y::.int x::st) H Q = if x = y then M45 60 ls st H Q else M45 65 ls st H Q:=w_icmpN (show decode kb45 57 = .ok (.if_icmp .ne 8,3) from by decide +kernel) (i_ne x y) rfl
theorem m45_65 : M45 65 [l0,.val (.int v)] st H Q = M45 66 [l0,.val (.int v)] (.int v::st) H Q:=w_x (show decode kb45 65 = .ok (.iload_n 1,1) from by decide +kernel) rfl
theorem m45_66 : M45 66 ls st H Q = M45 67 ls (.int 5::st) H Q:=w_con (show decode kb45 66 = .ok (.iconst 5,1) from by decide +kernel) rfl (by decide)
theorem m45_67 : M45 67 ls (.int y::.int x::st) H Q = if x = y then M45 70 ls st H Q else M45 75 ls st H Q:=w_icmpN (show decode kb45 67 = .ok (.if_icmp .ne 8,3) from by decide +kernel) (i_ne x y) rfl
theorem m45_75 : M45 75 [.val (.ref r),l1] st H Q = M45 76 [.val (.ref r),l1] (.ref r::st) H Q:=w_x (show decode kb45 75 = .ok (.aload_n 0,1) from by decide +kernel) rfl
theorem m45_76 : M45 76 [l0,.val (.int v)] st H Q = M45 77 [l0,.val (.int v)] (.int v::st) H Q:=w_x (show decode kb45 76 = .ok (.iload_n 1,1) from by decide +kernel) rfl
theorem cr45_346 : vR tables_1 dn y45 346 = some (true,y48,prog_1_method_59_code,2,(some .int),1,0):=pR_of (cR_of (by decide +kernel) rc_48 dn_48 dn_45 (sig:=⟨[.int],some .int⟩) (by decide +kernel) (by decide +kernel) rfl rfl) (by decide +kernel) (by decide +kernel)
theorem m45_77 (a0 : Int32) : M45 77 ls [.int a0,.ref b] (put b pre s A post) Q = M48 0 [.val (.ref b),.val (.int a0)] [] (put b pre s A post) (fun v H1 => M45 80 ls (v.toList ++ []) H1 Q):=w_virt (as:=[.int a0]) (rest:=[]) (a:=b) (show decode kb45 77 = .ok (.invokevirtual 346,3) from by decide +kernel) cr45_346 put_o rfl rfl (Nat.le_of_ble_eq_true rfl) (by show 2≤2; omega) rfl
theorem m45_80 : M45 80 ls (.int z::st) H Q = Q (some (.int z)) H:=w_iret (show decode kb45 80 = .ok (.ireturn,1) from by decide +kernel) rfl
theorem m46_0 : M46 0 [.val (.ref r),l1] st H Q = M46 1 [.val (.ref r),l1] (.ref r::st) H Q:=w_x (show decode kb46 0 = .ok (.aload_n 0,1) from by decide +kernel) rfl
theorem m46_1 : M46 1 [l0,.val (.int v)] st H Q = M46 2 [l0,.val (.int v)] (.int v::st) H Q:=w_x (show decode kb46 1 = .ok (.iload_n 1,1) from by decide +kernel) rfl
theorem m46_2 : M46 2 ls st H Q = M46 3 ls (.int 0::st) H Q:=w_con (show decode kb46 2 = .ok (.iconst 0,1) from by decide +kernel) rfl (by decide)
theorem m46_3 : M46 3 ls st H Q = M46 5 ls (.int 7::st) H Q:=w_con (show decode kb46 3 = .ok (.bipush 7,2) from by decide +kernel) rfl (by decide)
theorem cr46_126 : vR tables_1 dn y46 126 = some (true,y2,prog_1_method_64_code,4,(some .boolean),3,0):=pR_of (cR_of (by decide +kernel) rc_2 dn_2 dn_46 (sig:=⟨[.int,.int,.int],some .boolean⟩) (by decide +kernel) (by decide +kernel) rfl rfl) (by decide +kernel) (by decide +kernel)
theorem m46_5 (a0 : Int32) (a1 : Int32) (a2 : Int32) : M46 5 ls [.int a2,.int a1,.int a0,.ref b] (put b pre s A post) Q = M2 0 [.val (.ref b),.val (.int a0),.val (.int a1),.val (.int a2)] [] (put b pre s A post) (fun v H1 => M46 8 ls (v.toList ++ []) H1 Q):=w_virt (as:=[.int a2,.int a1,.int a0]) (rest:=[]) (a:=b) (show decode kb46 5 = .ok (.invokevirtual 126,3) from by decide +kernel) cr46_126 put_o rfl rfl (Nat.le_of_ble_eq_true rfl) (by show 4≤4; omega) rfl
theorem m46_8 : M46 8 ls (.int x::st) H Q = if x = 0 then M46 18 ls st H Q else M46 11 ls st H Q:=w_if (show decode kb46 8 = .ok (.ifCond .eq 10,3) from by decide +kernel) (z_eq x) rfl
theorem m46_11 : M46 11 [.val (.ref r),l1] st H Q = M46 12 [.val (.ref r),l1] (.ref r::st) H Q:=w_x (show decode kb46 11 = .ok (.aload_n 0,1) from by decide +kernel) rfl
theorem m46_12 : M46 12 ls (.ref b::st) (put b pre s A post) Q = M46 15 ls (.ref (b + 1)::st) (put b pre s A post) Q:=w_get (show decode kb46 12 = .ok (.getfield 7,3) from by decide +kernel) gf_7 put_o rfl
theorem m46_15 : M46 15 [l0,.val (.int v)] st H Q = M46 16 [l0,.val (.int v)] (.int v::st) H Q:=w_x (show decode kb46 15 = .ok (.iload_n 1,1) from by decide +kernel) rfl
theorem m46_16  : M46 16 ls (.int j::.ref (b + 1)::st) (put b pre s A post) Q = (inB j (A 0)∧M46 17 ls (.int (getA (A 0) j)::st) (put b pre s A post) Q):=w_ild (show decode kb46 16 = .ok (.iaload,1) from by decide +kernel) rfl put_a0
theorem m46_17 : M46 17 ls (.int z::st) H Q = Q (some (.int z)) H:=w_iret (show decode kb46 17 = .ok (.ireturn,1) from by decide +kernel) rfl
theorem m46_18 : M46 18 [l0,.val (.int v)] st H Q = M46 19 [l0,.val (.int v)] (.int v::st) H Q:=w_x (show decode kb46 18 = .ok (.iload_n 1,1) from by decide +kernel) rfl
theorem m46_19 : M46 19 ls st H Q = M46 21 ls (.int 8::st) H Q:=w_con (show decode kb46 19 = .ok (.bipush 8,2) from by decide +kernel) rfl (by decide)
theorem m46_21 : M46 21 ls (.int y::.int x::st) H Q = if x = y then M46 24 ls st H Q else M46 29 ls st H Q:=w_icmpN (show decode kb46 21 = .ok (.if_icmp .ne 8,3) from by decide +kernel) (i_ne x y) rfl
theorem m46_24 : M46 24 [.val (.ref r),l1] st H Q = M46 25 [.val (.ref r),l1] (.ref r::st) H Q:=w_x (show decode kb46 24 = .ok (.aload_n 0,1) from by decide +kernel) rfl
theorem m46_25 : M46 25 ls (.ref b::st) (put b pre s A post) Q = M46 28 ls (.int (s 0)::st) (put b pre s A post) Q:=w_get (show decode kb46 25 = .ok (.getfield 134,3) from by decide +kernel) gf_134 put_o rfl
theorem m46_28 : M46 28 ls (.int z::st) H Q = Q (some (.int z)) H:=w_iret (show decode kb46 28 = .ok (.ireturn,1) from by decide +kernel) rfl
theorem m47_0 : M47 0 [.val (.ref r),l1,l2,l3] st H Q = M47 1 [.val (.ref r),l1,l2,l3] (.ref r::st) H Q:=w_x (show decode kb47 0 = .ok (.aload_n 0,1) from by decide +kernel) rfl
theorem m47_1 : M47 1 [l0,.val (.int v),l2,l3] st H Q = M47 2 [l0,.val (.int v),l2,l3] (.int v::st) H Q:=w_x (show decode kb47 1 = .ok (.iload_n 1,1) from by decide +kernel) rfl
theorem m47_2 : M47 2 ls st H Q = M47 3 ls (.int 0::st) H Q:=w_con (show decode kb47 2 = .ok (.iconst 0,1) from by decide +kernel) rfl (by decide)
theorem m47_3 : M47 3 ls st H Q = M47 4 ls (.int 3::st) H Q:=w_con (show decode kb47 3 = .ok (.iconst 3,1) from by decide +kernel) rfl (by decide)
theorem cr47_126 : vR tables_1 dn y47 126 = some (true,y2,prog_1_method_64_code,4,(some .boolean),3,0):=pR_of (cR_of (by decide +kernel) rc_2 dn_2 dn_47 (sig:=⟨[.int,.int,.int],some .boolean⟩) (by decide +kernel) (by decide +kernel) rfl rfl) (by decide +kernel) (by decide +kernel)
theorem m47_4 (a0 : Int32) (a1 : Int32) (a2 : Int32) : M47 4 ls [.int a2,.int a1,.int a0,.ref b] (put b pre s A post) Q = M2 0 [.val (.ref b),.val (.int a0),.val (.int a1),.val (.int a2)] [] (put b pre s A post) (fun v H1 => M47 7 ls (v.toList ++ []) H1 Q):=w_virt (as:=[.int a2,.int a1,.int a0]) (rest:=[]) (a:=b) (show decode kb47 4 = .ok (.invokevirtual 126,3) from by decide +kernel) cr47_126 put_o rfl rfl (Nat.le_of_ble_eq_true rfl) (by show 4≤4; omega) rfl
theorem m47_7 : M47 7 ls (.int x::st) H Q = if x = 0 then M47 10 ls st H Q else M47 12 ls st H Q:=w_ifN (show decode kb47 7 = .ok (.ifCond .ne 5,3) from by decide +kernel) (z_ne x) rfl
theorem m47_12 : M47 12 [.val (.ref r),l1,l2,l3] st H Q = M47 13 [.val (.ref r),l1,l2,l3] (.ref r::st) H Q:=w_x (show decode kb47 12 = .ok (.aload_n 0,1) from by decide +kernel) rfl
theorem m47_13 : M47 13 ls (.ref b::st) (put b pre s A post) Q = M47 16 ls (.ref (b + 8)::st) (put b pre s A post) Q:=w_get (show decode kb47 13 = .ok (.getfield 31,3) from by decide +kernel) gf_31 put_o rfl
theorem m47_16 : M47 16 [l0,.val (.int v),l2,l3] st H Q = M47 17 [l0,.val (.int v),l2,l3] (.int v::st) H Q:=w_x (show decode kb47 16 = .ok (.iload_n 1,1) from by decide +kernel) rfl
theorem m47_17  : M47 17 ls (.int j::.ref (b + 8)::st) (put b pre s A post) Q = (inB j (A 7)∧M47 18 ls (.int (getA (A 7) j)::st) (put b pre s A post) Q):=w_ild (show decode kb47 17 = .ok (.iaload,1) from by decide +kernel) rfl put_a7
theorem m47_18 : M47 18 ls st H Q = M47 19 ls (.int 2::st) H Q:=w_con (show decode kb47 18 = .ok (.iconst 2,1) from by decide +kernel) rfl (by decide)
theorem m47_19 : M47 19 ls (.int y::.int x::st) H Q = if x = y then M47 22 ls st H Q else M47 26 ls st H Q:=w_icmpN (show decode kb47 19 = .ok (.if_icmp .ne 7,3) from by decide +kernel) (i_ne x y) rfl
theorem m47_22 : M47 22 ls st H Q = M47 23 ls (.int 1::st) H Q:=w_con (show decode kb47 22 = .ok (.iconst 1,1) from by decide +kernel) rfl (by decide)
theorem m47_23 : M47 23 ls st H Q = M47 27 ls st H Q:=w_x (show decode kb47 23 = .ok (.goto 4,3) from by decide +kernel) rfl
theorem m47_27u : M47 27 [l0,l1,l2,.unset] ((.int v)::st) H Q = M47 28 [l0,l1,l2,.val (.int v)] st H Q:=w_st (i:=3) (p:=isI) (show decode kb47 27 = .ok (.istore_n 3,1) from by decide +kernel) rfl rfl rfl rfl rfl rfl
theorem m47_28 : M47 28 [l0,l1,.val (.int v),l3] st H Q = M47 29 [l0,l1,.val (.int v),l3] (.int v::st) H Q:=w_x (show decode kb47 28 = .ok (.iload_n 2,1) from by decide +kernel) rfl
theorem m47_29 : M47 29 ls (.int x::st) H Q = if x = 0 then M47 32 ls st H Q else M47 39 ls st H Q:=w_ifN (show decode kb47 29 = .ok (.ifCond .ne 10,3) from by decide +kernel) (z_ne x) rfl
theorem m47_39 : M47 39 [l0,l1,.val (.int v),l3] st H Q = M47 40 [l0,l1,.val (.int v),l3] (.int v::st) H Q:=w_x (show decode kb47 39 = .ok (.iload_n 2,1) from by decide +kernel) rfl
theorem m47_40 : M47 40 ls st H Q = M47 41 ls (.int 1::st) H Q:=w_con (show decode kb47 40 = .ok (.iconst 1,1) from by decide +kernel) rfl (by decide)
theorem m47_41 : M47 41 ls (.int y::.int x::st) H Q = if x = y then M47 44 ls st H Q else M47 59 ls st H Q:=w_icmpN (show decode kb47 41 = .ok (.if_icmp .ne 18,3) from by decide +kernel) (i_ne x y) rfl
theorem m47_59 : M47 59 [l0,l1,.val (.int v),l3] st H Q = M47 60 [l0,l1,.val (.int v),l3] (.int v::st) H Q:=w_x (show decode kb47 59 = .ok (.iload_n 2,1) from by decide +kernel) rfl
theorem m47_60 : M47 60 ls st H Q = M47 61 ls (.int 2::st) H Q:=w_con (show decode kb47 60 = .ok (.iconst 2,1) from by decide +kernel) rfl (by decide)
theorem m47_61 : M47 61 ls (.int y::.int x::st) H Q = if x = y then M47 64 ls st H Q else M47 79 ls st H Q:=w_icmpN (show decode kb47 61 = .ok (.if_icmp .ne 18,3) from by decide +kernel) (i_ne x y) rfl
theorem m47_79 : M47 79 [l0,l1,.val (.int v),l3] st H Q = M47 80 [l0,l1,.val (.int v),l3] (.int v::st) H Q:=w_x (show decode kb47 79 = .ok (.iload_n 2,1) from by decide +kernel) rfl
theorem m47_80 : M47 80 ls st H Q = M47 81 ls (.int 3::st) H Q:=w_con (show decode kb47 80 = .ok (.iconst 3,1) from by decide +kernel) rfl (by decide)
theorem m47_81 : M47 81 ls (.int y::.int x::st) H Q = if x = y then M47 84 ls st H Q else M47 91 ls st H Q:=w_icmpN (show decode kb47 81 = .ok (.if_icmp .ne 10,3) from by decide +kernel) (i_ne x y) rfl
theorem m47_84 : M47 84 [.val (.ref r),l1,l2,l3] st H Q = M47 85 [.val (.ref r),l1,l2,l3] (.ref r::st) H Q:=w_x (show decode kb47 84 = .ok (.aload_n 0,1) from by decide +kernel) rfl
theorem m47_85 : M47 85 ls (.ref b::st) (put b pre s A post) Q = M47 88 ls (.ref (b + 11)::st) (put b pre s A post) Q:=w_get (show decode kb47 85 = .ok (.getfield 40,3) from by decide +kernel) gf_40 put_o rfl
theorem m47_88 : M47 88 [l0,.val (.int v),l2,l3] st H Q = M47 89 [l0,.val (.int v),l2,l3] (.int v::st) H Q:=w_x (show decode kb47 88 = .ok (.iload_n 1,1) from by decide +kernel) rfl
theorem m47_89  : M47 89 ls (.int j::.ref (b + 11)::st) (put b pre s A post) Q = (inB j (A 10)∧M47 90 ls (.int (getA (A 10) j)::st) (put b pre s A post) Q):=w_ild (show decode kb47 89 = .ok (.iaload,1) from by decide +kernel) rfl put_a10
theorem m47_90 : M47 90 ls (.int z::st) H Q = Q (some (.int z)) H:=w_iret (show decode kb47 90 = .ok (.ireturn,1) from by decide +kernel) rfl
theorem m48_0 : M48 0 [l0,.val (.int v)] st H Q = M48 1 [l0,.val (.int v)] (.int v::st) H Q:=w_x (show decode kb48 0 = .ok (.iload_n 1,1) from by decide +kernel) rfl
theorem m48_1 : M48 1 ls st H Q = M48 3 ls (.int 6::st) H Q:=w_con (show decode kb48 1 = .ok (.bipush 6,2) from by decide +kernel) rfl (by decide)
theorem m48_3 : M48 3 ls (.int y::.int x::st) H Q = if x = y then M48 6 ls st H Q else M48 11 ls st H Q:=w_icmpN (show decode kb48 3 = .ok (.if_icmp .ne 8,3) from by decide +kernel) (i_ne x y) rfl
theorem m48_6 : M48 6 [.val (.ref r),l1] st H Q = M48 7 [.val (.ref r),l1] (.ref r::st) H Q:=w_x (show decode kb48 6 = .ok (.aload_n 0,1) from by decide +kernel) rfl
theorem m48_7 : M48 7 ls (.ref b::st) (put b pre s A post) Q = M48 10 ls (.int (s 20)::st) (put b pre s A post) Q:=w_get (show decode kb48 7 = .ok (.getfield 287,3) from by decide +kernel) gf_287 put_o rfl
theorem m48_10 : M48 10 ls (.int z::st) H Q = Q (some (.int z)) H:=w_iret (show decode kb48 10 = .ok (.ireturn,1) from by decide +kernel) rfl
theorem m49_0 : M49 0 [l0,.val (.int v),l2,l3] st H Q = M49 1 [l0,.val (.int v),l2,l3] (.int v::st) H Q:=w_x (show decode kb49 0 = .ok (.iload_n 1,1) from by decide +kernel) rfl
theorem m49_1 : M49 1 ls (.int x::st) H Q = if x < 0 then M49 12 ls st H Q else M49 4 ls st H Q:=w_if (show decode kb49 1 = .ok (.ifCond .lt 11,3) from by decide +kernel) (z_lt x) rfl
theorem m49_4 : M49 4 [l0,.val (.int v),l2,l3] st H Q = M49 5 [l0,.val (.int v),l2,l3] (.int v::st) H Q:=w_x (show decode kb49 4 = .ok (.iload_n 1,1) from by decide +kernel) rfl
theorem m49_5 : M49 5 [.val (.ref r),l1,l2,l3] st H Q = M49 6 [.val (.ref r),l1,l2,l3] (.ref r::st) H Q:=w_x (show decode kb49 5 = .ok (.aload_n 0,1) from by decide +kernel) rfl
theorem m49_6 : M49 6 ls (.ref b::st) (put b pre s A post) Q = M49 9 ls (.int (s 20)::st) (put b pre s A post) Q:=w_get (show decode kb49 6 = .ok (.getfield 287,3) from by decide +kernel) gf_287 put_o rfl
theorem m49_9 : M49 9 ls (.int y::.int x::st) H Q = if x < y then M49 14 ls st H Q else M49 12 ls st H Q:=w_icmp (show decode kb49 9 = .ok (.if_icmp .lt 5,3) from by decide +kernel) (i_lt x y) rfl
theorem m49_12 : M49 12 ls st H Q = M49 13 ls (.int 0::st) H Q:=w_con (show decode kb49 12 = .ok (.iconst 0,1) from by decide +kernel) rfl (by decide)
theorem m49_13 : M49 13 ls (.int z::st) H Q = Q (some (.int z)) H:=w_iret (show decode kb49 13 = .ok (.ireturn,1) from by decide +kernel) rfl
theorem m49_14 : M49 14 [.val (.ref r),l1,l2,l3] st H Q = M49 15 [.val (.ref r),l1,l2,l3] (.ref r::st) H Q:=w_x (show decode kb49 14 = .ok (.aload_n 0,1) from by decide +kernel) rfl
theorem m49_15 : M49 15 ls (.ref b::st) (put b pre s A post) Q = M49 18 ls (.int (s 19)::st) (put b pre s A post) Q:=w_get (show decode kb49 15 = .ok (.getfield 290,3) from by decide +kernel) gf_290 put_o rfl
theorem m49_18 : M49 18 [l0,.val (.int v),l2,l3] st H Q = M49 19 [l0,.val (.int v),l2,l3] (.int v::st) H Q:=w_x (show decode kb49 18 = .ok (.iload_n 1,1) from by decide +kernel) rfl
theorem m49_19 : M49 19 ls (.int y::.int x::st) H Q = M49 20 ls (.int (x + y)::st) H Q:=w_x (show decode kb49 19 = .ok (.iadd,1) from by decide +kernel) rfl
theorem m49_20 : M49 20 ls st H Q = M49 22 ls (.int 7::st) H Q:=w_con (show decode kb49 20 = .ok (.bipush 7,2) from by decide +kernel) rfl (by decide)
theorem m49_22 : M49 22 ls (.int y::.int x::st) H Q = M49 23 ls (.int (x &&& y)::st) H Q:=w_x (show decode kb49 22 = .ok (.iand,1) from by decide +kernel) rfl
theorem m49_23u : M49 23 [l0,l1,l2,.unset] ((.int v)::st) H Q = M49 24 [l0,l1,l2,.val (.int v)] st H Q:=w_st (i:=3) (p:=isI) (show decode kb49 23 = .ok (.istore_n 3,1) from by decide +kernel) rfl rfl rfl rfl rfl rfl
theorem m49_24 : M49 24 [l0,l1,.val (.int v),l3] st H Q = M49 25 [l0,l1,.val (.int v),l3] (.int v::st) H Q:=w_x (show decode kb49 24 = .ok (.iload_n 2,1) from by decide +kernel) rfl
theorem m49_25 : M49 25 ls (.int x::st) H Q = if x = 0 then M49 28 ls st H Q else M49 35 ls st H Q:=w_ifN (show decode kb49 25 = .ok (.ifCond .ne 10,3) from by decide +kernel) (z_ne x) rfl
theorem m49_28 : M49 28 [.val (.ref r),l1,l2,l3] st H Q = M49 29 [.val (.ref r),l1,l2,l3] (.ref r::st) H Q:=w_x (show decode kb49 28 = .ok (.aload_n 0,1) from by decide +kernel) rfl
theorem m49_29 : M49 29 ls (.ref b::st) (put b pre s A post) Q = M49 32 ls (.ref (b + 26)::st) (put b pre s A post) Q:=w_get (show decode kb49 29 = .ok (.getfield 85,3) from by decide +kernel) gf_85 put_o rfl
theorem m49_32 : M49 32 [l0,l1,l2,.val (.int v)] st H Q = M49 33 [l0,l1,l2,.val (.int v)] (.int v::st) H Q:=w_x (show decode kb49 32 = .ok (.iload_n 3,1) from by decide +kernel) rfl
theorem m49_33  : M49 33 ls (.int j::.ref (b + 26)::st) (put b pre s A post) Q = (inB j (A 25)∧M49 34 ls (.int (getA (A 25) j)::st) (put b pre s A post) Q):=w_ild (show decode kb49 33 = .ok (.iaload,1) from by decide +kernel) rfl put_a25
theorem m49_34 : M49 34 ls (.int z::st) H Q = Q (some (.int z)) H:=w_iret (show decode kb49 34 = .ok (.ireturn,1) from by decide +kernel) rfl
theorem m49_35 : M49 35 [l0,l1,.val (.int v),l3] st H Q = M49 36 [l0,l1,.val (.int v),l3] (.int v::st) H Q:=w_x (show decode kb49 35 = .ok (.iload_n 2,1) from by decide +kernel) rfl
theorem m49_36 : M49 36 ls st H Q = M49 37 ls (.int 1::st) H Q:=w_con (show decode kb49 36 = .ok (.iconst 1,1) from by decide +kernel) rfl (by decide)
theorem m49_37 : M49 37 ls (.int y::.int x::st) H Q = if x = y then M49 40 ls st H Q else M49 47 ls st H Q:=w_icmpN (show decode kb49 37 = .ok (.if_icmp .ne 10,3) from by decide +kernel) (i_ne x y) rfl
theorem m49_40 : M49 40 [.val (.ref r),l1,l2,l3] st H Q = M49 41 [.val (.ref r),l1,l2,l3] (.ref r::st) H Q:=w_x (show decode kb49 40 = .ok (.aload_n 0,1) from by decide +kernel) rfl
theorem m49_41 : M49 41 ls (.ref b::st) (put b pre s A post) Q = M49 44 ls (.ref (b + 27)::st) (put b pre s A post) Q:=w_get (show decode kb49 41 = .ok (.getfield 88,3) from by decide +kernel) gf_88 put_o rfl
theorem m49_44 : M49 44 [l0,l1,l2,.val (.int v)] st H Q = M49 45 [l0,l1,l2,.val (.int v)] (.int v::st) H Q:=w_x (show decode kb49 44 = .ok (.iload_n 3,1) from by decide +kernel) rfl
theorem m49_45  : M49 45 ls (.int j::.ref (b + 27)::st) (put b pre s A post) Q = (inB j (A 26)∧M49 46 ls (.int (getA (A 26) j)::st) (put b pre s A post) Q):=w_ild (show decode kb49 45 = .ok (.iaload,1) from by decide +kernel) rfl put_a26
theorem m49_46 : M49 46 ls (.int z::st) H Q = Q (some (.int z)) H:=w_iret (show decode kb49 46 = .ok (.ireturn,1) from by decide +kernel) rfl
theorem m49_47 : M49 47 [l0,l1,.val (.int v),l3] st H Q = M49 48 [l0,l1,.val (.int v),l3] (.int v::st) H Q:=w_x (show decode kb49 47 = .ok (.iload_n 2,1) from by decide +kernel) rfl
theorem m49_48 : M49 48 ls st H Q = M49 49 ls (.int 2::st) H Q:=w_con (show decode kb49 48 = .ok (.iconst 2,1) from by decide +kernel) rfl (by decide)
theorem m49_49 : M49 49 ls (.int y::.int x::st) H Q = if x = y then M49 52 ls st H Q else M49 59 ls st H Q:=w_icmpN (show decode kb49 49 = .ok (.if_icmp .ne 10,3) from by decide +kernel) (i_ne x y) rfl
theorem m49_52 : M49 52 [.val (.ref r),l1,l2,l3] st H Q = M49 53 [.val (.ref r),l1,l2,l3] (.ref r::st) H Q:=w_x (show decode kb49 52 = .ok (.aload_n 0,1) from by decide +kernel) rfl
theorem m49_53 : M49 53 ls (.ref b::st) (put b pre s A post) Q = M49 56 ls (.ref (b + 28)::st) (put b pre s A post) Q:=w_get (show decode kb49 53 = .ok (.getfield 91,3) from by decide +kernel) gf_91 put_o rfl
theorem m49_56 : M49 56 [l0,l1,l2,.val (.int v)] st H Q = M49 57 [l0,l1,l2,.val (.int v)] (.int v::st) H Q:=w_x (show decode kb49 56 = .ok (.iload_n 3,1) from by decide +kernel) rfl
theorem m49_57  : M49 57 ls (.int j::.ref (b + 28)::st) (put b pre s A post) Q = (inB j (A 27)∧M49 58 ls (.int (getA (A 27) j)::st) (put b pre s A post) Q):=w_ild (show decode kb49 57 = .ok (.iaload,1) from by decide +kernel) rfl put_a27
theorem m49_58 : M49 58 ls (.int z::st) H Q = Q (some (.int z)) H:=w_iret (show decode kb49 58 = .ok (.ireturn,1) from by decide +kernel) rfl
theorem m49_59 : M49 59 [l0,l1,.val (.int v),l3] st H Q = M49 60 [l0,l1,.val (.int v),l3] (.int v::st) H Q:=w_x (show decode kb49 59 = .ok (.iload_n 2,1) from by decide +kernel) rfl
theorem m49_60 : M49 60 ls st H Q = M49 61 ls (.int 3::st) H Q:=w_con (show decode kb49 60 = .ok (.iconst 3,1) from by decide +kernel) rfl (by decide)
theorem m49_61 : M49 61 ls (.int y::.int x::st) H Q = if x = y then M49 64 ls st H Q else M49 71 ls st H Q:=w_icmpN (show decode kb49 61 = .ok (.if_icmp .ne 10,3) from by decide +kernel) (i_ne x y) rfl
theorem m49_64 : M49 64 [.val (.ref r),l1,l2,l3] st H Q = M49 65 [.val (.ref r),l1,l2,l3] (.ref r::st) H Q:=w_x (show decode kb49 64 = .ok (.aload_n 0,1) from by decide +kernel) rfl
theorem m49_65 : M49 65 ls (.ref b::st) (put b pre s A post) Q = M49 68 ls (.ref (b + 29)::st) (put b pre s A post) Q:=w_get (show decode kb49 65 = .ok (.getfield 94,3) from by decide +kernel) gf_94 put_o rfl
theorem m49_68 : M49 68 [l0,l1,l2,.val (.int v)] st H Q = M49 69 [l0,l1,l2,.val (.int v)] (.int v::st) H Q:=w_x (show decode kb49 68 = .ok (.iload_n 3,1) from by decide +kernel) rfl
theorem m49_69  : M49 69 ls (.int j::.ref (b + 29)::st) (put b pre s A post) Q = (inB j (A 28)∧M49 70 ls (.int (getA (A 28) j)::st) (put b pre s A post) Q):=w_ild (show decode kb49 69 = .ok (.iaload,1) from by decide +kernel) rfl put_a28
theorem m49_70 : M49 70 ls (.int z::st) H Q = Q (some (.int z)) H:=w_iret (show decode kb49 70 = .ok (.ireturn,1) from by decide +kernel) rfl
theorem m49_71 : M49 71 [l0,l1,.val (.int v),l3] st H Q = M49 72 [l0,l1,.val (.int v),l3] (.int v::st) H Q:=w_x (show decode kb49 71 = .ok (.iload_n 2,1) from by decide +kernel) rfl
theorem m49_72 : M49 72 ls st H Q = M49 74 ls (.int 7::st) H Q:=w_con (show decode kb49 72 = .ok (.bipush 7,2) from by decide +kernel) rfl (by decide)
theorem m49_74 : M49 74 ls (.int y::.int x::st) H Q = if x = y then M49 77 ls st H Q else M49 84 ls st H Q:=w_icmpN (show decode kb49 74 = .ok (.if_icmp .ne 10,3) from by decide +kernel) (i_ne x y) rfl
theorem m49_77 : M49 77 [.val (.ref r),l1,l2,l3] st H Q = M49 78 [.val (.ref r),l1,l2,l3] (.ref r::st) H Q:=w_x (show decode kb49 77 = .ok (.aload_n 0,1) from by decide +kernel) rfl
theorem m49_78 : M49 78 ls (.ref b::st) (put b pre s A post) Q = M49 81 ls (.ref (b + 30)::st) (put b pre s A post) Q:=w_get (show decode kb49 78 = .ok (.getfield 97,3) from by decide +kernel) gf_97 put_o rfl
theorem m49_81 : M49 81 [l0,l1,l2,.val (.int v)] st H Q = M49 82 [l0,l1,l2,.val (.int v)] (.int v::st) H Q:=w_x (show decode kb49 81 = .ok (.iload_n 3,1) from by decide +kernel) rfl
theorem m49_82  : M49 82 ls (.int j::.ref (b + 30)::st) (put b pre s A post) Q = (inB j (A 29)∧M49 83 ls (.int (getA (A 29) j)::st) (put b pre s A post) Q):=w_ild (show decode kb49 82 = .ok (.iaload,1) from by decide +kernel) rfl put_a29
theorem m49_83 : M49 83 ls (.int z::st) H Q = Q (some (.int z)) H:=w_iret (show decode kb49 83 = .ok (.ireturn,1) from by decide +kernel) rfl
theorem m49_84 : M49 84 [.val (.ref r),l1,l2,l3] st H Q = M49 85 [.val (.ref r),l1,l2,l3] (.ref r::st) H Q:=w_x (show decode kb49 84 = .ok (.aload_n 0,1) from by decide +kernel) rfl
theorem m49_85 : M49 85 [l0,l1,l2,.val (.int v)] st H Q = M49 86 [l0,l1,l2,.val (.int v)] (.int v::st) H Q:=w_x (show decode kb49 85 = .ok (.iload_n 3,1) from by decide +kernel) rfl
theorem m49_86 : M49 86 [l0,l1,.val (.int v),l3] st H Q = M49 87 [l0,l1,.val (.int v),l3] (.int v::st) H Q:=w_x (show decode kb49 86 = .ok (.iload_n 2,1) from by decide +kernel) rfl
theorem cr49_349 : vR tables_1 dn y49 349 = some (true,y56,prog_1_method_62_code,4,(some .int),2,0):=pR_of (cR_of (by decide +kernel) rc_56 dn_56 dn_49 (sig:=⟨[.int,.int],some .int⟩) (by decide +kernel) (by decide +kernel) rfl rfl) (by decide +kernel) (by decide +kernel)
theorem m49_87 (a0 : Int32) (a1 : Int32) : M49 87 ls [.int a1,.int a0,.ref b] (put b pre s A post) Q = M56 0 [.val (.ref b),.val (.int a0),.val (.int a1),.unset] [] (put b pre s A post) (fun v H1 => M49 90 ls (v.toList ++ []) H1 Q):=w_virt (as:=[.int a1,.int a0]) (rest:=[]) (a:=b) (show decode kb49 87 = .ok (.invokevirtual 349,3) from by decide +kernel) cr49_349 put_o rfl rfl (Nat.le_of_ble_eq_true rfl) (by show 3≤4; omega) rfl
theorem m49_90 : M49 90 ls (.int z::st) H Q = Q (some (.int z)) H:=w_iret (show decode kb49 90 = .ok (.ireturn,1) from by decide +kernel) rfl
theorem m50_0 : M50 0 [.val (.ref r),l1,l2,l3,l4,l5] st H Q = M50 1 [.val (.ref r),l1,l2,l3,l4,l5] (.ref r::st) H Q:=w_x (show decode kb50 0 = .ok (.aload_n 0,1) from by decide +kernel) rfl
theorem m50_1 : M50 1 [.val (.ref r),l1,l2,l3,l4,l5] st H Q = M50 2 [.val (.ref r),l1,l2,l3,l4,l5] (.ref r::st) H Q:=w_x (show decode kb50 1 = .ok (.aload_n 0,1) from by decide +kernel) rfl
theorem m50_2 : M50 2 ls (.ref b::st) (put b pre s A post) Q = M50 5 ls (.int (s 22)::st) (put b pre s A post) Q:=w_get (show decode kb50 2 = .ok (.getfield 269,3) from by decide +kernel) gf_269 put_o rfl
theorem m50_5 : M50 5 ls st H Q = M50 6 ls (.int 1::st) H Q:=w_con (show decode kb50 5 = .ok (.iconst 1,1) from by decide +kernel) rfl (by decide)
theorem m50_6 : M50 6 ls (.int y::.int x::st) H Q = M50 7 ls (.int (x + y)::st) H Q:=w_x (show decode kb50 6 = .ok (.iadd,1) from by decide +kernel) rfl
theorem pf50_269 : pfR tables_1 y50.cls y50.name 269 = some ("AgentExprDbg", 52,.int):=by decide +kernel
theorem m50_7 : M50 7 ls (.int v::.ref b::st) (put b pre s A post) Q = M50 10 ls st (put b pre (ou s 22 v) A post) Q:=w_put (show decode kb50 7 = .ok (.putfield 269,3) from by decide +kernel) pf50_269 put_o (Nat.zero_le _) (by show 52 < 60; omega) rfl put_s22
theorem m50_10 : M50 10 [.val (.ref r),l1,l2,l3,l4,l5] st H Q = M50 11 [.val (.ref r),l1,l2,l3,l4,l5] (.ref r::st) H Q:=w_x (show decode kb50 10 = .ok (.aload_n 0,1) from by decide +kernel) rfl
theorem m50_11 : M50 11 ls (.ref b::st) (put b pre s A post) Q = M50 14 ls (.ref (b + 12)::st) (put b pre s A post) Q:=w_get (show decode kb50 11 = .ok (.getfield 43,3) from by decide +kernel) gf_43 put_o rfl
theorem m50_14 : M50 14 [l0,.val (.int v),l2,l3,l4,l5] st H Q = M50 15 [l0,.val (.int v),l2,l3,l4,l5] (.int v::st) H Q:=w_x (show decode kb50 14 = .ok (.iload_n 1,1) from by decide +kernel) rfl
theorem m50_15  : M50 15 ls (.int j::.ref (b + 12)::st) (put b pre s A post) Q = (inB j (A 11)∧M50 16 ls (.int (getA (A 11) j)::st) (put b pre s A post) Q):=w_ild (show decode kb50 15 = .ok (.iaload,1) from by decide +kernel) rfl put_a11
theorem m50_16u : M50 16 [l0,l1,l2,.unset,l4,l5] ((.int v)::st) H Q = M50 17 [l0,l1,l2,.val (.int v),l4,l5] st H Q:=w_st (i:=3) (p:=isI) (show decode kb50 16 = .ok (.istore_n 3,1) from by decide +kernel) rfl rfl rfl rfl rfl rfl
theorem m50_17 : M50 17 [.val (.ref r),l1,l2,l3,l4,l5] st H Q = M50 18 [.val (.ref r),l1,l2,l3,l4,l5] (.ref r::st) H Q:=w_x (show decode kb50 17 = .ok (.aload_n 0,1) from by decide +kernel) rfl
theorem m50_18 : M50 18 [l0,l1,.val (.int v),l3,l4,l5] st H Q = M50 19 [l0,l1,.val (.int v),l3,l4,l5] (.int v::st) H Q:=w_x (show decode kb50 18 = .ok (.iload_n 2,1) from by decide +kernel) rfl
theorem pf50_272 : pfR tables_1 y50.cls y50.name 272 = some ("AgentExprDbg", 53,.int):=by decide +kernel
theorem m50_19 : M50 19 ls (.int v::.ref b::st) (put b pre s A post) Q = M50 22 ls st (put b pre (ou s 23 v) A post) Q:=w_put (show decode kb50 19 = .ok (.putfield 272,3) from by decide +kernel) pf50_272 put_o (Nat.zero_le _) (by show 53 < 60; omega) rfl put_s23
theorem m50_22 : M50 22 [.val (.ref r),l1,l2,l3,l4,l5] st H Q = M50 23 [.val (.ref r),l1,l2,l3,l4,l5] (.ref r::st) H Q:=w_x (show decode kb50 22 = .ok (.aload_n 0,1) from by decide +kernel) rfl
theorem m50_23 : M50 23 [l0,.val (.int v),l2,l3,l4,l5] st H Q = M50 24 [l0,.val (.int v),l2,l3,l4,l5] (.int v::st) H Q:=w_x (show decode kb50 23 = .ok (.iload_n 1,1) from by decide +kernel) rfl
theorem pf50_275 : pfR tables_1 y50.cls y50.name 275 = some ("AgentExprDbg", 54,.int):=by decide +kernel
theorem m50_24 : M50 24 ls (.int v::.ref b::st) (put b pre s A post) Q = M50 27 ls st (put b pre (ou s 24 v) A post) Q:=w_put (show decode kb50 24 = .ok (.putfield 275,3) from by decide +kernel) pf50_275 put_o (Nat.zero_le _) (by show 54 < 60; omega) rfl put_s24
theorem m50_27 : M50 27 [.val (.ref r),l1,l2,l3,l4,l5] st H Q = M50 28 [.val (.ref r),l1,l2,l3,l4,l5] (.ref r::st) H Q:=w_x (show decode kb50 27 = .ok (.aload_n 0,1) from by decide +kernel) rfl
theorem m50_28 : M50 28 [l0,l1,l2,.val (.int v),l4,l5] st H Q = M50 29 [l0,l1,l2,.val (.int v),l4,l5] (.int v::st) H Q:=w_x (show decode kb50 28 = .ok (.iload_n 3,1) from by decide +kernel) rfl
theorem m50_29 : M50 29 ls (.int x::st) H Q = if 0 < x then M50 32 ls st H Q else M50 38 ls st H Q:=w_ifN (show decode kb50 29 = .ok (.ifCond .le 9,3) from by decide +kernel) (z_le x) rfl
theorem m50_32 : M50 32 [l0,l1,l2,.val (.int v),l4,l5] st H Q = M50 33 [l0,l1,l2,.val (.int v),l4,l5] (.int v::st) H Q:=w_x (show decode kb50 32 = .ok (.iload_n 3,1) from by decide +kernel) rfl
theorem m50_33 : M50 33 ls st H Q = M50 34 ls (.int 1::st) H Q:=w_con (show decode kb50 33 = .ok (.iconst 1,1) from by decide +kernel) rfl (by decide)
theorem m50_34 : M50 34 ls (.int y::.int x::st) H Q = M50 35 ls (.int (x - y)::st) H Q:=w_x (show decode kb50 34 = .ok (.isub,1) from by decide +kernel) rfl
theorem m50_35 : M50 35 ls st H Q = M50 39 ls st H Q:=w_x (show decode kb50 35 = .ok (.goto 4,3) from by decide +kernel) rfl
theorem pf50_278 : pfR tables_1 y50.cls y50.name 278 = some ("AgentExprDbg", 55,.int):=by decide +kernel
theorem m50_39 : M50 39 ls (.int v::.ref b::st) (put b pre s A post) Q = M50 42 ls st (put b pre (ou s 25 v) A post) Q:=w_put (show decode kb50 39 = .ok (.putfield 278,3) from by decide +kernel) pf50_278 put_o (Nat.zero_le _) (by show 55 < 60; omega) rfl put_s25
theorem m50_42 : M50 42 [.val (.ref r),l1,l2,l3,l4,l5] st H Q = M50 43 [.val (.ref r),l1,l2,l3,l4,l5] (.ref r::st) H Q:=w_x (show decode kb50 42 = .ok (.aload_n 0,1) from by decide +kernel) rfl
theorem m50_43 : M50 43 ls st H Q = M50 44 ls (.int 0::st) H Q:=w_con (show decode kb50 43 = .ok (.iconst 0,1) from by decide +kernel) rfl (by decide)
theorem pf50_281 : pfR tables_1 y50.cls y50.name 281 = some ("AgentExprDbg", 56,.int):=by decide +kernel
theorem m50_44 : M50 44 ls (.int v::.ref b::st) (put b pre s A post) Q = M50 47 ls st (put b pre (ou s 26 v) A post) Q:=w_put (show decode kb50 44 = .ok (.putfield 281,3) from by decide +kernel) pf50_281 put_o (Nat.zero_le _) (by show 56 < 60; omega) rfl put_s26
theorem m50_47 : M50 47 [.val (.ref r),l1,l2,l3,l4,l5] st H Q = M50 48 [.val (.ref r),l1,l2,l3,l4,l5] (.ref r::st) H Q:=w_x (show decode kb50 47 = .ok (.aload_n 0,1) from by decide +kernel) rfl
theorem m50_48 : M50 48 [.val (.ref r),l1,l2,l3,l4,l5] st H Q = M50 49 [.val (.ref r),l1,l2,l3,l4,l5] (.ref r::st) H Q:=w_x (show decode kb50 48 = .ok (.aload_n 0,1) from by decide +kernel) rfl
theorem m50_49 : M50 49 ls (.ref b::st) (put b pre s A post) Q = M50 52 ls (.int (s 22)::st) (put b pre s A post) Q:=w_get (show decode kb50 49 = .ok (.getfield 269,3) from by decide +kernel) gf_269 put_o rfl
theorem pf50_284 : pfR tables_1 y50.cls y50.name 284 = some ("AgentExprDbg", 57,.int):=by decide +kernel
theorem m50_52 : M50 52 ls (.int v::.ref b::st) (put b pre s A post) Q = M50 55 ls st (put b pre (ou s 27 v) A post) Q:=w_put (show decode kb50 52 = .ok (.putfield 284,3) from by decide +kernel) pf50_284 put_o (Nat.zero_le _) (by show 57 < 60; omega) rfl put_s27
theorem m50_55 : M50 55 ls st H Q = M50 56 ls (.int 0::st) H Q:=w_con (show decode kb50 55 = .ok (.iconst 0,1) from by decide +kernel) rfl (by decide)
theorem m50_56u : M50 56 [l0,l1,l2,l3,.unset,l5] ((.int v)::st) H Q = M50 58 [l0,l1,l2,l3,.val (.int v),l5] st H Q:=w_st (i:=4) (p:=isI) (show decode kb50 56 = .ok (.istore 4,2) from by decide +kernel) rfl rfl rfl rfl rfl rfl
theorem m50_58 : M50 58 [l0,l1,l2,l3,.val (.int v),l5] st H Q = M50 60 [l0,l1,l2,l3,.val (.int v),l5] (.int v::st) H Q:=w_x (show decode kb50 58 = .ok (.iload 4,2) from by decide +kernel) rfl
theorem m50_60 : M50 60 ls st H Q = M50 61 ls (.int 3::st) H Q:=w_con (show decode kb50 60 = .ok (.iconst 3,1) from by decide +kernel) rfl (by decide)
theorem m50_61 : M50 61 ls (.int y::.int x::st) H Q = if x < y then M50 64 ls st H Q else M50 78 ls st H Q:=w_icmpN (show decode kb50 61 = .ok (.if_icmp .ge 17,3) from by decide +kernel) (i_ge x y) rfl
theorem m50_64 : M50 64 [.val (.ref r),l1,l2,l3,l4,l5] st H Q = M50 65 [.val (.ref r),l1,l2,l3,l4,l5] (.ref r::st) H Q:=w_x (show decode kb50 64 = .ok (.aload_n 0,1) from by decide +kernel) rfl
theorem m50_65 : M50 65 ls (.ref b::st) (put b pre s A post) Q = M50 68 ls (.ref (b + 32)::st) (put b pre s A post) Q:=w_get (show decode kb50 65 = .ok (.getfield 103,3) from by decide +kernel) gf_103 put_o rfl
theorem m50_68 : M50 68 [l0,l1,l2,l3,.val (.int v),l5] st H Q = M50 70 [l0,l1,l2,l3,.val (.int v),l5] (.int v::st) H Q:=w_x (show decode kb50 68 = .ok (.iload 4,2) from by decide +kernel) rfl
theorem m50_70 : M50 70 ls st H Q = M50 71 ls (.int 0::st) H Q:=w_con (show decode kb50 70 = .ok (.iconst 0,1) from by decide +kernel) rfl (by decide)
theorem m50_71  : M50 71 ls (.int v::.int j::.ref (b + 32)::st) (put b pre s A post) Q = (inB j (A 31)∧M50 72 ls st (put b pre s (ou A 31 (setA (A 31) j v)) post) Q):=w_ist (show decode kb50 71 = .ok (.iastore,1) from by decide +kernel) rfl put_a31 (Nat.zero_le _) rfl put_w31
theorem m50_72 : M50 72 [l0,l1,l2,l3,.val (.int v),l5] st H Q = M50 75 [l0,l1,l2,l3,.val (.int (v + 1)),l5] st H Q:=w_iinc (show decode kb50 72 = .ok (.iinc 4 1,3) from by decide +kernel) rfl (by decide) rfl
theorem m50_75 : M50 75 ls st H Q = M50 58 ls st H Q:=w_x (show decode kb50 75 = .ok (.goto (-17),3) from by decide +kernel) rfl
theorem m50_78 : M50 78 ls st H Q = M50 79 ls (.int 1::st) H Q:=w_con (show decode kb50 78 = .ok (.iconst 1,1) from by decide +kernel) rfl (by decide)
theorem m50_79i : M50 79 [l0,l1,l2,l3,.val (.int z),l5] ((.int v)::st) H Q = M50 81 [l0,l1,l2,l3,.val (.int v),l5] st H Q:=w_st (i:=4) (p:=isI) (show decode kb50 79 = .ok (.istore 4,2) from by decide +kernel) rfl rfl rfl rfl rfl rfl
theorem m50_81 : M50 81 [l0,l1,l2,l3,.val (.int v),l5] st H Q = M50 83 [l0,l1,l2,l3,.val (.int v),l5] (.int v::st) H Q:=w_x (show decode kb50 81 = .ok (.iload 4,2) from by decide +kernel) rfl
theorem m50_83 : M50 83 [l0,l1,l2,.val (.int v),l4,l5] st H Q = M50 84 [l0,l1,l2,.val (.int v),l4,l5] (.int v::st) H Q:=w_x (show decode kb50 83 = .ok (.iload_n 3,1) from by decide +kernel) rfl
theorem m50_84 : M50 84 ls (.int y::.int x::st) H Q = if x < y then M50 87 ls st H Q else M50 144 ls st H Q:=w_icmpN (show decode kb50 84 = .ok (.if_icmp .ge 60,3) from by decide +kernel) (i_ge x y) rfl
theorem m50_87 : M50 87 [l0,l1,l2,l3,.val (.int v),l5] st H Q = M50 89 [l0,l1,l2,l3,.val (.int v),l5] (.int v::st) H Q:=w_x (show decode kb50 87 = .ok (.iload 4,2) from by decide +kernel) rfl
theorem m50_89 : M50 89 ls st H Q = M50 90 ls (.int 4::st) H Q:=w_con (show decode kb50 89 = .ok (.iconst 4,1) from by decide +kernel) rfl (by decide)
theorem m50_90 : M50 90 ls (.int y::.int x::st) H Q = if x < y then M50 93 ls st H Q else M50 144 ls st H Q:=w_icmpN (show decode kb50 90 = .ok (.if_icmp .ge 54,3) from by decide +kernel) (i_ge x y) rfl
theorem m50_93 : M50 93 [.val (.ref r),l1,l2,l3,l4,l5] st H Q = M50 94 [.val (.ref r),l1,l2,l3,l4,l5] (.ref r::st) H Q:=w_x (show decode kb50 93 = .ok (.aload_n 0,1) from by decide +kernel) rfl
theorem m50_94 : M50 94 [l0,.val (.int v),l2,l3,l4,l5] st H Q = M50 95 [l0,.val (.int v),l2,l3,l4,l5] (.int v::st) H Q:=w_x (show decode kb50 94 = .ok (.iload_n 1,1) from by decide +kernel) rfl
theorem m50_95 : M50 95 [l0,l1,l2,l3,.val (.int v),l5] st H Q = M50 97 [l0,l1,l2,l3,.val (.int v),l5] (.int v::st) H Q:=w_x (show decode kb50 95 = .ok (.iload 4,2) from by decide +kernel) rfl
theorem cr50_256 : vR tables_1 dn y50 256 = some (true,y36,prog_1_method_45_code,7,(some .int),2,0):=pR_of (cR_of (by decide +kernel) rc_36 dn_36 dn_50 (sig:=⟨[.int,.int],some .int⟩) (by decide +kernel) (by decide +kernel) rfl rfl) (by decide +kernel) (by decide +kernel)
theorem m50_97 (a0 : Int32) (a1 : Int32) : M50 97 ls [.int a1,.int a0,.ref b] (put b pre s A post) Q = M36 0 [.val (.ref b),.val (.int a0),.val (.int a1),.unset,.unset,.unset,.unset] [] (put b pre s A post) (fun v H1 => M50 100 ls (v.toList ++ []) H1 Q):=w_virt (as:=[.int a1,.int a0]) (rest:=[]) (a:=b) (show decode kb50 97 = .ok (.invokevirtual 256,3) from by decide +kernel) cr50_256 put_o rfl rfl (Nat.le_of_ble_eq_true rfl) (by show 3≤7; omega) rfl
theorem m50_100u : M50 100 [l0,l1,l2,l3,l4,.unset] ((.int v)::st) H Q = M50 102 [l0,l1,l2,l3,l4,.val (.int v)] st H Q:=w_st (i:=5) (p:=isI) (show decode kb50 100 = .ok (.istore 5,2) from by decide +kernel) rfl rfl rfl rfl rfl rfl
theorem m50_100i : M50 100 [l0,l1,l2,l3,l4,.val (.int z)] ((.int v)::st) H Q = M50 102 [l0,l1,l2,l3,l4,.val (.int v)] st H Q:=w_st (i:=5) (p:=isI) (show decode kb50 100 = .ok (.istore 5,2) from by decide +kernel) rfl rfl rfl rfl rfl rfl
theorem m50_100r : M50 100 [l0,l1,l2,l3,l4,.val (.ref q)] ((.int v)::st) H Q = M50 102 [l0,l1,l2,l3,l4,.val (.int v)] st H Q:=w_st (i:=5) (p:=isI) (show decode kb50 100 = .ok (.istore 5,2) from by decide +kernel) rfl rfl rfl rfl rfl rfl
theorem m50_102 : M50 102 [.val (.ref r),l1,l2,l3,l4,l5] st H Q = M50 103 [.val (.ref r),l1,l2,l3,l4,l5] (.ref r::st) H Q:=w_x (show decode kb50 102 = .ok (.aload_n 0,1) from by decide +kernel) rfl
theorem m50_103 : M50 103 ls (.ref b::st) (put b pre s A post) Q = M50 106 ls (.int (s 16)::st) (put b pre s A post) Q:=w_get (show decode kb50 103 = .ok (.getfield 259,3) from by decide +kernel) gf_259 put_o rfl
theorem m50_106 : M50 106 ls (.int x::st) H Q = if x = 0 then M50 127 ls st H Q else M50 109 ls st H Q:=w_if (show decode kb50 106 = .ok (.ifCond .eq 21,3) from by decide +kernel) (z_eq x) rfl
theorem m50_109 : M50 109 [.val (.ref r),l1,l2,l3,l4,l5] st H Q = M50 110 [.val (.ref r),l1,l2,l3,l4,l5] (.ref r::st) H Q:=w_x (show decode kb50 109 = .ok (.aload_n 0,1) from by decide +kernel) rfl
theorem m50_110 : M50 110 [.val (.ref r),l1,l2,l3,l4,l5] st H Q = M50 111 [.val (.ref r),l1,l2,l3,l4,l5] (.ref r::st) H Q:=w_x (show decode kb50 110 = .ok (.aload_n 0,1) from by decide +kernel) rfl
theorem m50_111 : M50 111 ls (.ref b::st) (put b pre s A post) Q = M50 114 ls (.int (s 26)::st) (put b pre s A post) Q:=w_get (show decode kb50 111 = .ok (.getfield 281,3) from by decide +kernel) gf_281 put_o rfl
theorem m50_114 : M50 114 ls st H Q = M50 115 ls (.int 1::st) H Q:=w_con (show decode kb50 114 = .ok (.iconst 1,1) from by decide +kernel) rfl (by decide)
theorem m50_115 : M50 115 [l0,l1,l2,l3,.val (.int v),l5] st H Q = M50 117 [l0,l1,l2,l3,.val (.int v),l5] (.int v::st) H Q:=w_x (show decode kb50 115 = .ok (.iload 4,2) from by decide +kernel) rfl
theorem m50_117 : M50 117 ls st H Q = M50 118 ls (.int 1::st) H Q:=w_con (show decode kb50 117 = .ok (.iconst 1,1) from by decide +kernel) rfl (by decide)
theorem m50_118 : M50 118 ls (.int y::.int x::st) H Q = M50 119 ls (.int (x - y)::st) H Q:=w_x (show decode kb50 118 = .ok (.isub,1) from by decide +kernel) rfl
theorem m50_119 : M50 119 ls (.int y::.int x::st) H Q = M50 120 ls (.int (x <<< (y &&& 31))::st) H Q:=w_x (show decode kb50 119 = .ok (.ishl,1) from by decide +kernel) rfl
theorem m50_120 : M50 120 ls (.int y::.int x::st) H Q = M50 121 ls (.int (x ||| y)::st) H Q:=w_x (show decode kb50 120 = .ok (.ior,1) from by decide +kernel) rfl
theorem m50_121 : M50 121 ls (.int v::.ref b::st) (put b pre s A post) Q = M50 124 ls st (put b pre (ou s 26 v) A post) Q:=w_put (show decode kb50 121 = .ok (.putfield 281,3) from by decide +kernel) pf50_281 put_o (Nat.zero_le _) (by show 56 < 60; omega) rfl put_s26
theorem m50_124 : M50 124 ls st H Q = M50 138 ls st H Q:=w_x (show decode kb50 124 = .ok (.goto 14,3) from by decide +kernel) rfl
theorem m50_127 : M50 127 [.val (.ref r),l1,l2,l3,l4,l5] st H Q = M50 128 [.val (.ref r),l1,l2,l3,l4,l5] (.ref r::st) H Q:=w_x (show decode kb50 127 = .ok (.aload_n 0,1) from by decide +kernel) rfl
theorem m50_128 : M50 128 ls (.ref b::st) (put b pre s A post) Q = M50 131 ls (.ref (b + 32)::st) (put b pre s A post) Q:=w_get (show decode kb50 128 = .ok (.getfield 103,3) from by decide +kernel) gf_103 put_o rfl
theorem m50_131 : M50 131 [l0,l1,l2,l3,.val (.int v),l5] st H Q = M50 133 [l0,l1,l2,l3,.val (.int v),l5] (.int v::st) H Q:=w_x (show decode kb50 131 = .ok (.iload 4,2) from by decide +kernel) rfl
theorem m50_133 : M50 133 ls st H Q = M50 134 ls (.int 1::st) H Q:=w_con (show decode kb50 133 = .ok (.iconst 1,1) from by decide +kernel) rfl (by decide)
theorem m50_134 : M50 134 ls (.int y::.int x::st) H Q = M50 135 ls (.int (x - y)::st) H Q:=w_x (show decode kb50 134 = .ok (.isub,1) from by decide +kernel) rfl
theorem m50_135 : M50 135 [l0,l1,l2,l3,l4,.val (.int v)] st H Q = M50 137 [l0,l1,l2,l3,l4,.val (.int v)] (.int v::st) H Q:=w_x (show decode kb50 135 = .ok (.iload 5,2) from by decide +kernel) rfl
theorem m50_137  : M50 137 ls (.int v::.int j::.ref (b + 32)::st) (put b pre s A post) Q = (inB j (A 31)∧M50 138 ls st (put b pre s (ou A 31 (setA (A 31) j v)) post) Q):=w_ist (show decode kb50 137 = .ok (.iastore,1) from by decide +kernel) rfl put_a31 (Nat.zero_le _) rfl put_w31
theorem m50_138 : M50 138 [l0,l1,l2,l3,.val (.int v),l5] st H Q = M50 141 [l0,l1,l2,l3,.val (.int (v + 1)),l5] st H Q:=w_iinc (show decode kb50 138 = .ok (.iinc 4 1,3) from by decide +kernel) rfl (by decide) rfl
theorem m50_141 : M50 141 ls st H Q = M50 81 ls st H Q:=w_x (show decode kb50 141 = .ok (.goto (-60),3) from by decide +kernel) rfl
theorem m50_144 : M50 144 ls [] H Q = Q none H:=w_vret (show decode kb50 144 = .ok (.return_,1) from by decide +kernel) rfl
theorem m51_0 : M51 0 [l0,l1,l2,.val (.int v)] st H Q = M51 1 [l0,l1,l2,.val (.int v)] (.int v::st) H Q:=w_x (show decode kb51 0 = .ok (.iload_n 3,1) from by decide +kernel) rfl
theorem m51_1 : M51 1 ls (.int x::st) H Q = if x = 0 then M51 4 ls st H Q else M51 11 ls st H Q:=w_ifN (show decode kb51 1 = .ok (.ifCond .ne 10,3) from by decide +kernel) (z_ne x) rfl
theorem m51_4 : M51 4 [.val (.ref r),l1,l2,l3] st H Q = M51 5 [.val (.ref r),l1,l2,l3] (.ref r::st) H Q:=w_x (show decode kb51 4 = .ok (.aload_n 0,1) from by decide +kernel) rfl
theorem m51_5 : M51 5 ls st H Q = M51 6 ls (.int 1::st) H Q:=w_con (show decode kb51 5 = .ok (.iconst 1,1) from by decide +kernel) rfl (by decide)
theorem pf51_259 : pfR tables_1 y51.cls y51.name 259 = some ("AgentExprDbg", 49,.int):=by decide +kernel
theorem m51_6 : M51 6 ls (.int v::.ref b::st) (put b pre s A post) Q = M51 9 ls st (put b pre (ou s 16 v) A post) Q:=w_put (show decode kb51 6 = .ok (.putfield 259,3) from by decide +kernel) pf51_259 put_o (Nat.zero_le _) (by show 49 < 60; omega) rfl put_s16
theorem m51_9 : M51 9 ls st H Q = M51 10 ls (.int 0::st) H Q:=w_con (show decode kb51 9 = .ok (.iconst 0,1) from by decide +kernel) rfl (by decide)
theorem m51_10 : M51 10 ls (.int z::st) H Q = Q (some (.int z)) H:=w_iret (show decode kb51 10 = .ok (.ireturn,1) from by decide +kernel) rfl
theorem m51_11 : M51 11 [l0,.val (.int v),l2,l3] st H Q = M51 12 [l0,.val (.int v),l2,l3] (.int v::st) H Q:=w_x (show decode kb51 11 = .ok (.iload_n 1,1) from by decide +kernel) rfl
theorem m51_12 : M51 12 ls st H Q = M51 14 ls (.int 9::st) H Q:=w_con (show decode kb51 12 = .ok (.bipush 9,2) from by decide +kernel) rfl (by decide)
theorem m51_14 : M51 14 ls (.int y::.int x::st) H Q = if x = y then M51 17 ls st H Q else M51 21 ls st H Q:=w_icmpN (show decode kb51 14 = .ok (.if_icmp .ne 7,3) from by decide +kernel) (i_ne x y) rfl
theorem m51_17 : M51 17 [l0,l1,.val (.int v),l3] st H Q = M51 18 [l0,l1,.val (.int v),l3] (.int v::st) H Q:=w_x (show decode kb51 17 = .ok (.iload_n 2,1) from by decide +kernel) rfl
theorem m51_18 : M51 18 [l0,l1,l2,.val (.int v)] st H Q = M51 19 [l0,l1,l2,.val (.int v)] (.int v::st) H Q:=w_x (show decode kb51 18 = .ok (.iload_n 3,1) from by decide +kernel) rfl
theorem m51_19 : M51 19 ls (.int y::.int x::st) H Q = (y ≠ 0∧M51 20 ls (.int (x / y)::st) H Q):=w_div (f:=fun x y => x / y) (show decode kb51 19 = .ok (.idiv,1) from by decide +kernel) (fun _ => rfl) rfl rfl
theorem m51_20 : M51 20 ls (.int z::st) H Q = Q (some (.int z)) H:=w_iret (show decode kb51 20 = .ok (.ireturn,1) from by decide +kernel) rfl
theorem m52_0 : M52 0 [.val (.ref r),l1,l2,l3] st H Q = M52 1 [.val (.ref r),l1,l2,l3] (.ref r::st) H Q:=w_x (show decode kb52 0 = .ok (.aload_n 0,1) from by decide +kernel) rfl
theorem cr52_327 : vR tables_1 dn y52 327 = some (true,y40,prog_1_method_55_code,1,(some .int),0,17):=pR_of (cR_of (by decide +kernel) rc_40 dn_40 dn_52 (sig:=⟨[],some .int⟩) (by decide +kernel) (by decide +kernel) rfl rfl) (by decide +kernel) (by decide +kernel)
theorem m52_1 : M52 1 ls [.ref b] (put b pre s A post) Q = M40 0 [.val (.ref b)] [] (put b pre s A post) (fun v H1 => M52 4 ls (v.toList ++ []) H1 Q):=w_virt (as:=[]) (rest:=[]) (a:=b) (show decode kb52 1 = .ok (.invokevirtual 327,3) from by decide +kernel) cr52_327 put_o rfl rfl (Nat.le_of_ble_eq_true rfl) (by show 1≤1; omega) rfl
theorem m52_4u : M52 4 [l0,l1,.unset,l3] ((.int v)::st) H Q = M52 5 [l0,l1,.val (.int v),l3] st H Q:=w_st (i:=2) (p:=isI) (show decode kb52 4 = .ok (.istore_n 2,1) from by decide +kernel) rfl rfl rfl rfl rfl rfl
theorem m52_5 : M52 5 [.val (.ref r),l1,l2,l3] st H Q = M52 6 [.val (.ref r),l1,l2,l3] (.ref r::st) H Q:=w_x (show decode kb52 5 = .ok (.aload_n 0,1) from by decide +kernel) rfl
theorem m52_6 : M52 6 [l0,.val (.int v),l2,l3] st H Q = M52 7 [l0,.val (.int v),l2,l3] (.int v::st) H Q:=w_x (show decode kb52 6 = .ok (.iload_n 1,1) from by decide +kernel) rfl
theorem m52_7 : M52 7 [l0,l1,.val (.int v),l3] st H Q = M52 8 [l0,l1,.val (.int v),l3] (.int v::st) H Q:=w_x (show decode kb52 7 = .ok (.iload_n 2,1) from by decide +kernel) rfl
theorem cr52_330 : vR tables_1 dn y52 330 = some (true,y53,prog_1_method_50_code,3,(some .int),2,0):=pR_of (cR_of (by decide +kernel) rc_53 dn_53 dn_52 (sig:=⟨[.int,.int],some .int⟩) (by decide +kernel) (by decide +kernel) rfl rfl) (by decide +kernel) (by decide +kernel)
theorem m52_8 (a0 : Int32) (a1 : Int32) : M52 8 ls [.int a1,.int a0,.ref b] (put b pre s A post) Q = M53 0 [.val (.ref b),.val (.int a0),.val (.int a1)] [] (put b pre s A post) (fun v H1 => M52 11 ls (v.toList ++ []) H1 Q):=w_virt (as:=[.int a1,.int a0]) (rest:=[]) (a:=b) (show decode kb52 8 = .ok (.invokevirtual 330,3) from by decide +kernel) cr52_330 put_o rfl rfl (Nat.le_of_ble_eq_true rfl) (by show 3≤3; omega) rfl
theorem m52_11u : M52 11 [l0,l1,l2,.unset] ((.int v)::st) H Q = M52 12 [l0,l1,l2,.val (.int v)] st H Q:=w_st (i:=3) (p:=isI) (show decode kb52 11 = .ok (.istore_n 3,1) from by decide +kernel) rfl rfl rfl rfl rfl rfl
theorem m52_12 : M52 12 [.val (.ref r),l1,l2,l3] st H Q = M52 13 [.val (.ref r),l1,l2,l3] (.ref r::st) H Q:=w_x (show decode kb52 12 = .ok (.aload_n 0,1) from by decide +kernel) rfl
theorem m52_13 : M52 13 [l0,l1,l2,.val (.int v)] st H Q = M52 14 [l0,l1,l2,.val (.int v)] (.int v::st) H Q:=w_x (show decode kb52 13 = .ok (.iload_n 3,1) from by decide +kernel) rfl
theorem cr52_312 : vR tables_1 dn y52 312 = some (true,y38,prog_1_method_54_code,2,none,1,16):=pR_of (cR_of (by decide +kernel) rc_38 dn_38 dn_52 (sig:=⟨[.int],none⟩) (by decide +kernel) (by decide +kernel) rfl rfl) (by decide +kernel) (by decide +kernel)
theorem m52_14 (a0 : Int32) : M52 14 ls [.int a0,.ref b] (put b pre s A post) Q = M38 0 [.val (.ref b),.val (.int a0)] [] (put b pre s A post) (fun v H1 => M52 17 ls (v.toList ++ []) H1 Q):=w_virt (as:=[.int a0]) (rest:=[]) (a:=b) (show decode kb52 14 = .ok (.invokevirtual 312,3) from by decide +kernel) cr52_312 put_o rfl rfl (Nat.le_of_ble_eq_true rfl) (by show 2≤2; omega) rfl
theorem m52_17 : M52 17 ls [] H Q = Q none H:=w_vret (show decode kb52 17 = .ok (.return_,1) from by decide +kernel) rfl
theorem m53_0 : M53 0 [l0,.val (.int v),l2] st H Q = M53 1 [l0,.val (.int v),l2] (.int v::st) H Q:=w_x (show decode kb53 0 = .ok (.iload_n 1,1) from by decide +kernel) rfl
theorem m53_1 : M53 1 ls st H Q = M53 2 ls (.int 5::st) H Q:=w_con (show decode kb53 1 = .ok (.iconst 5,1) from by decide +kernel) rfl (by decide)
theorem m53_2 : M53 2 ls (.int y::.int x::st) H Q = if x = y then M53 5 ls st H Q else M53 9 ls st H Q:=w_icmpN (show decode kb53 2 = .ok (.if_icmp .ne 7,3) from by decide +kernel) (i_ne x y) rfl
theorem m53_9 : M53 9 [l0,.val (.int v),l2] st H Q = M53 10 [l0,.val (.int v),l2] (.int v::st) H Q:=w_x (show decode kb53 9 = .ok (.iload_n 1,1) from by decide +kernel) rfl
theorem m53_10 : M53 10 ls st H Q = M53 12 ls (.int 6::st) H Q:=w_con (show decode kb53 10 = .ok (.bipush 6,2) from by decide +kernel) rfl (by decide)
theorem m53_12 : M53 12 ls (.int y::.int x::st) H Q = if x = y then M53 15 ls st H Q else M53 25 ls st H Q:=w_icmpN (show decode kb53 12 = .ok (.if_icmp .ne 13,3) from by decide +kernel) (i_ne x y) rfl
theorem m53_25 : M53 25 [.val (.ref r),l1,l2] st H Q = M53 26 [.val (.ref r),l1,l2] (.ref r::st) H Q:=w_x (show decode kb53 25 = .ok (.aload_n 0,1) from by decide +kernel) rfl
theorem m53_26 : M53 26 [l0,l1,.val (.int v)] st H Q = M53 27 [l0,l1,.val (.int v)] (.int v::st) H Q:=w_x (show decode kb53 26 = .ok (.iload_n 2,1) from by decide +kernel) rfl
theorem m53_27 : M53 27 ls st H Q = M53 28 ls (.int 0::st) H Q:=w_con (show decode kb53 27 = .ok (.iconst 0,1) from by decide +kernel) rfl (by decide)
theorem m53_28 : M53 28 ls st H Q = M53 30 ls (.int 31::st) H Q:=w_con (show decode kb53 28 = .ok (.bipush 31,2) from by decide +kernel) rfl (by decide)
theorem cr53_126 : vR tables_1 dn y53 126 = some (true,y2,prog_1_method_64_code,4,(some .boolean),3,0):=pR_of (cR_of (by decide +kernel) rc_2 dn_2 dn_53 (sig:=⟨[.int,.int,.int],some .boolean⟩) (by decide +kernel) (by decide +kernel) rfl rfl) (by decide +kernel) (by decide +kernel)
theorem m53_30 (a0 : Int32) (a1 : Int32) (a2 : Int32) : M53 30 ls [.int a2,.int a1,.int a0,.ref b] (put b pre s A post) Q = M2 0 [.val (.ref b),.val (.int a0),.val (.int a1),.val (.int a2)] [] (put b pre s A post) (fun v H1 => M53 33 ls (v.toList ++ []) H1 Q):=w_virt (as:=[.int a2,.int a1,.int a0]) (rest:=[]) (a:=b) (show decode kb53 30 = .ok (.invokevirtual 126,3) from by decide +kernel) cr53_126 put_o rfl rfl (Nat.le_of_ble_eq_true rfl) (by show 4≤4; omega) rfl
theorem m53_33 : M53 33 ls (.int x::st) H Q = if x = 0 then M53 43 ls st H Q else M53 36 ls st H Q:=w_if (show decode kb53 33 = .ok (.ifCond .eq 10,3) from by decide +kernel) (z_eq x) rfl
theorem m53_36 : M53 36 [.val (.ref r),l1,l2] st H Q = M53 37 [.val (.ref r),l1,l2] (.ref r::st) H Q:=w_x (show decode kb53 36 = .ok (.aload_n 0,1) from by decide +kernel) rfl
theorem m53_37 : M53 37 ls (.ref b::st) (put b pre s A post) Q = M53 40 ls (.ref (b + 2)::st) (put b pre s A post) Q:=w_get (show decode kb53 37 = .ok (.getfield 13,3) from by decide +kernel) gf_13 put_o rfl
theorem m53_40 : M53 40 [l0,l1,.val (.int v)] st H Q = M53 41 [l0,l1,.val (.int v)] (.int v::st) H Q:=w_x (show decode kb53 40 = .ok (.iload_n 2,1) from by decide +kernel) rfl
theorem m53_41  : M53 41 ls (.int j::.ref (b + 2)::st) (put b pre s A post) Q = (inB j (A 1)∧M53 42 ls (.int (getA (A 1) j)::st) (put b pre s A post) Q):=w_ild (show decode kb53 41 = .ok (.iaload,1) from by decide +kernel) rfl put_a1
theorem m53_42 : M53 42 ls (.int z::st) H Q = Q (some (.int z)) H:=w_iret (show decode kb53 42 = .ok (.ireturn,1) from by decide +kernel) rfl
theorem m53_43 : M53 43 [.val (.ref r),l1,l2] st H Q = M53 44 [.val (.ref r),l1,l2] (.ref r::st) H Q:=w_x (show decode kb53 43 = .ok (.aload_n 0,1) from by decide +kernel) rfl
theorem m53_44 : M53 44 ls st H Q = M53 45 ls (.int 2::st) H Q:=w_con (show decode kb53 44 = .ok (.iconst 2,1) from by decide +kernel) rfl (by decide)
theorem pf53_259 : pfR tables_1 y53.cls y53.name 259 = some ("AgentExprDbg", 49,.int):=by decide +kernel
theorem m53_45 : M53 45 ls (.int v::.ref b::st) (put b pre s A post) Q = M53 48 ls st (put b pre (ou s 16 v) A post) Q:=w_put (show decode kb53 45 = .ok (.putfield 259,3) from by decide +kernel) pf53_259 put_o (Nat.zero_le _) (by show 49 < 60; omega) rfl put_s16
theorem m53_48 : M53 48 ls st H Q = M53 49 ls (.int 0::st) H Q:=w_con (show decode kb53 48 = .ok (.iconst 0,1) from by decide +kernel) rfl (by decide)
theorem m53_49 : M53 49 ls (.int z::st) H Q = Q (some (.int z)) H:=w_iret (show decode kb53 49 = .ok (.ireturn,1) from by decide +kernel) rfl
theorem m54_0 : M54 0 [.val (.ref r)] st H Q = M54 1 [.val (.ref r)] (.ref r::st) H Q:=w_x (show decode kb54 0 = .ok (.aload_n 0,1) from by decide +kernel) rfl
theorem m54_1 : M54 1 ls (.ref b::st) (put b pre s A post) Q = M54 4 ls (.int (s 20)::st) (put b pre s A post) Q:=w_get (show decode kb54 1 = .ok (.getfield 287,3) from by decide +kernel) gf_287 put_o rfl
theorem m54_4 : M54 4 [.val (.ref r)] st H Q = M54 5 [.val (.ref r)] (.ref r::st) H Q:=w_x (show decode kb54 4 = .ok (.aload_n 0,1) from by decide +kernel) rfl
theorem m54_5 : M54 5 ls (.ref b::st) (put b pre s A post) Q = M54 8 ls (.int (s 17)::st) (put b pre s A post) Q:=w_get (show decode kb54 5 = .ok (.getfield 106,3) from by decide +kernel) gf_106 put_o rfl
theorem m54_8 : M54 8 ls (.int y::.int x::st) H Q = if x < y then M54 11 ls st H Q else M54 36 ls st H Q:=w_icmpN (show decode kb54 8 = .ok (.if_icmp .ge 28,3) from by decide +kernel) (i_ge x y) rfl
theorem m54_11 : M54 11 [.val (.ref r)] st H Q = M54 12 [.val (.ref r)] (.ref r::st) H Q:=w_x (show decode kb54 11 = .ok (.aload_n 0,1) from by decide +kernel) rfl
theorem m54_12 : M54 12 [.val (.ref r)] st H Q = M54 13 [.val (.ref r)] (.ref r::st) H Q:=w_x (show decode kb54 12 = .ok (.aload_n 0,1) from by decide +kernel) rfl
theorem m54_13 : M54 13 ls (.ref b::st) (put b pre s A post) Q = M54 16 ls (.int (s 19)::st) (put b pre s A post) Q:=w_get (show decode kb54 13 = .ok (.getfield 290,3) from by decide +kernel) gf_290 put_o rfl
theorem m54_16 : M54 16 [.val (.ref r)] st H Q = M54 17 [.val (.ref r)] (.ref r::st) H Q:=w_x (show decode kb54 16 = .ok (.aload_n 0,1) from by decide +kernel) rfl
theorem m54_17 : M54 17 ls (.ref b::st) (put b pre s A post) Q = M54 20 ls (.int (s 20)::st) (put b pre s A post) Q:=w_get (show decode kb54 17 = .ok (.getfield 287,3) from by decide +kernel) gf_287 put_o rfl
theorem m54_20 : M54 20 ls (.int y::.int x::st) H Q = M54 21 ls (.int (x + y)::st) H Q:=w_x (show decode kb54 20 = .ok (.iadd,1) from by decide +kernel) rfl
theorem cr54_293 : vR tables_1 dn y54 293 = some (true,y55,prog_1_method_42_code,4,none,1,0):=pR_of (cR_of (by decide +kernel) rc_55 dn_55 dn_54 (sig:=⟨[.int],none⟩) (by decide +kernel) (by decide +kernel) rfl rfl) (by decide +kernel) (by decide +kernel)
theorem m54_21 (a0 : Int32) : M54 21 ls [.int a0,.ref b] (put b pre s A post) Q = M55 0 [.val (.ref b),.val (.int a0),.unset,.unset] [] (put b pre s A post) (fun v H1 => M54 24 ls (v.toList ++ []) H1 Q):=w_virt (as:=[.int a0]) (rest:=[]) (a:=b) (show decode kb54 21 = .ok (.invokevirtual 293,3) from by decide +kernel) cr54_293 put_o rfl rfl (Nat.le_of_ble_eq_true rfl) (by show 2≤4; omega) rfl
theorem m54_24 : M54 24 [.val (.ref r)] st H Q = M54 25 [.val (.ref r)] (.ref r::st) H Q:=w_x (show decode kb54 24 = .ok (.aload_n 0,1) from by decide +kernel) rfl
theorem m54_25 : M54 25 [.val (.ref r)] st H Q = M54 26 [.val (.ref r)] (.ref r::st) H Q:=w_x (show decode kb54 25 = .ok (.aload_n 0,1) from by decide +kernel) rfl
theorem m54_26 : M54 26 ls (.ref b::st) (put b pre s A post) Q = M54 29 ls (.int (s 20)::st) (put b pre s A post) Q:=w_get (show decode kb54 26 = .ok (.getfield 287,3) from by decide +kernel) gf_287 put_o rfl
theorem m54_29 : M54 29 ls st H Q = M54 30 ls (.int 1::st) H Q:=w_con (show decode kb54 29 = .ok (.iconst 1,1) from by decide +kernel) rfl (by decide)
theorem m54_30 : M54 30 ls (.int y::.int x::st) H Q = M54 31 ls (.int (x + y)::st) H Q:=w_x (show decode kb54 30 = .ok (.iadd,1) from by decide +kernel) rfl
theorem pf54_287 : pfR tables_1 y54.cls y54.name 287 = some ("AgentExprDbg", 51,.int):=by decide +kernel
theorem m54_31 : M54 31 ls (.int v::.ref b::st) (put b pre s A post) Q = M54 34 ls st (put b pre (ou s 20 v) A post) Q:=w_put (show decode kb54 31 = .ok (.putfield 287,3) from by decide +kernel) pf54_287 put_o (Nat.zero_le _) (by show 51 < 60; omega) rfl put_s20
theorem m54_34 : M54 34 ls st H Q = M54 35 ls (.int 1::st) H Q:=w_con (show decode kb54 34 = .ok (.iconst 1,1) from by decide +kernel) rfl (by decide)
theorem m54_35 : M54 35 ls (.int z::st) H Q = Q (some (.int (nar .boolean z))) H:=w_iretN (show decode kb54 35 = .ok (.ireturn,1) from by decide +kernel) rfl (by simp)
theorem m55_0 : M55 0 [l0,.val (.int v),l2,l3] st H Q = M55 1 [l0,.val (.int v),l2,l3] (.int v::st) H Q:=w_x (show decode kb55 0 = .ok (.iload_n 1,1) from by decide +kernel) rfl
theorem m55_1 : M55 1 ls st H Q = M55 3 ls (.int 7::st) H Q:=w_con (show decode kb55 1 = .ok (.bipush 7,2) from by decide +kernel) rfl (by decide)
theorem m55_3 : M55 3 ls (.int y::.int x::st) H Q = M55 4 ls (.int (x &&& y)::st) H Q:=w_x (show decode kb55 3 = .ok (.iand,1) from by decide +kernel) rfl
theorem m55_4u : M55 4 [l0,l1,.unset,l3] ((.int v)::st) H Q = M55 5 [l0,l1,.val (.int v),l3] st H Q:=w_st (i:=2) (p:=isI) (show decode kb55 4 = .ok (.istore_n 2,1) from by decide +kernel) rfl rfl rfl rfl rfl rfl
theorem m55_5 : M55 5 [.val (.ref r),l1,l2,l3] st H Q = M55 6 [.val (.ref r),l1,l2,l3] (.ref r::st) H Q:=w_x (show decode kb55 5 = .ok (.aload_n 0,1) from by decide +kernel) rfl
theorem m55_6 : M55 6 ls (.ref b::st) (put b pre s A post) Q = M55 9 ls (.ref (b + 26)::st) (put b pre s A post) Q:=w_get (show decode kb55 6 = .ok (.getfield 85,3) from by decide +kernel) gf_85 put_o rfl
theorem m55_9 : M55 9 [l0,l1,.val (.int v),l3] st H Q = M55 10 [l0,l1,.val (.int v),l3] (.int v::st) H Q:=w_x (show decode kb55 9 = .ok (.iload_n 2,1) from by decide +kernel) rfl
theorem m55_10 : M55 10 [.val (.ref r),l1,l2,l3] st H Q = M55 11 [.val (.ref r),l1,l2,l3] (.ref r::st) H Q:=w_x (show decode kb55 10 = .ok (.aload_n 0,1) from by decide +kernel) rfl
theorem m55_11 : M55 11 ls (.ref b::st) (put b pre s A post) Q = M55 14 ls (.int (s 23)::st) (put b pre s A post) Q:=w_get (show decode kb55 11 = .ok (.getfield 272,3) from by decide +kernel) gf_272 put_o rfl
theorem m55_14  : M55 14 ls (.int v::.int j::.ref (b + 26)::st) (put b pre s A post) Q = (inB j (A 25)∧M55 15 ls st (put b pre s (ou A 25 (setA (A 25) j v)) post) Q):=w_ist (show decode kb55 14 = .ok (.iastore,1) from by decide +kernel) rfl put_a25 (Nat.zero_le _) rfl put_w25
theorem m55_15 : M55 15 [.val (.ref r),l1,l2,l3] st H Q = M55 16 [.val (.ref r),l1,l2,l3] (.ref r::st) H Q:=w_x (show decode kb55 15 = .ok (.aload_n 0,1) from by decide +kernel) rfl
theorem m55_16 : M55 16 ls (.ref b::st) (put b pre s A post) Q = M55 19 ls (.ref (b + 27)::st) (put b pre s A post) Q:=w_get (show decode kb55 16 = .ok (.getfield 88,3) from by decide +kernel) gf_88 put_o rfl
theorem m55_19 : M55 19 [l0,l1,.val (.int v),l3] st H Q = M55 20 [l0,l1,.val (.int v),l3] (.int v::st) H Q:=w_x (show decode kb55 19 = .ok (.iload_n 2,1) from by decide +kernel) rfl
theorem m55_20 : M55 20 [.val (.ref r),l1,l2,l3] st H Q = M55 21 [.val (.ref r),l1,l2,l3] (.ref r::st) H Q:=w_x (show decode kb55 20 = .ok (.aload_n 0,1) from by decide +kernel) rfl
theorem m55_21 : M55 21 ls (.ref b::st) (put b pre s A post) Q = M55 24 ls (.int (s 24)::st) (put b pre s A post) Q:=w_get (show decode kb55 21 = .ok (.getfield 275,3) from by decide +kernel) gf_275 put_o rfl
theorem m55_24  : M55 24 ls (.int v::.int j::.ref (b + 27)::st) (put b pre s A post) Q = (inB j (A 26)∧M55 25 ls st (put b pre s (ou A 26 (setA (A 26) j v)) post) Q):=w_ist (show decode kb55 24 = .ok (.iastore,1) from by decide +kernel) rfl put_a26 (Nat.zero_le _) rfl put_w26
theorem m55_25 : M55 25 [.val (.ref r),l1,l2,l3] st H Q = M55 26 [.val (.ref r),l1,l2,l3] (.ref r::st) H Q:=w_x (show decode kb55 25 = .ok (.aload_n 0,1) from by decide +kernel) rfl
theorem m55_26 : M55 26 ls (.ref b::st) (put b pre s A post) Q = M55 29 ls (.ref (b + 28)::st) (put b pre s A post) Q:=w_get (show decode kb55 26 = .ok (.getfield 91,3) from by decide +kernel) gf_91 put_o rfl
theorem m55_29 : M55 29 [l0,l1,.val (.int v),l3] st H Q = M55 30 [l0,l1,.val (.int v),l3] (.int v::st) H Q:=w_x (show decode kb55 29 = .ok (.iload_n 2,1) from by decide +kernel) rfl
theorem m55_30 : M55 30 [.val (.ref r),l1,l2,l3] st H Q = M55 31 [.val (.ref r),l1,l2,l3] (.ref r::st) H Q:=w_x (show decode kb55 30 = .ok (.aload_n 0,1) from by decide +kernel) rfl
theorem m55_31 : M55 31 ls (.ref b::st) (put b pre s A post) Q = M55 34 ls (.int (s 25)::st) (put b pre s A post) Q:=w_get (show decode kb55 31 = .ok (.getfield 278,3) from by decide +kernel) gf_278 put_o rfl
theorem m55_34  : M55 34 ls (.int v::.int j::.ref (b + 28)::st) (put b pre s A post) Q = (inB j (A 27)∧M55 35 ls st (put b pre s (ou A 27 (setA (A 27) j v)) post) Q):=w_ist (show decode kb55 34 = .ok (.iastore,1) from by decide +kernel) rfl put_a27 (Nat.zero_le _) rfl put_w27
theorem m55_35 : M55 35 [.val (.ref r),l1,l2,l3] st H Q = M55 36 [.val (.ref r),l1,l2,l3] (.ref r::st) H Q:=w_x (show decode kb55 35 = .ok (.aload_n 0,1) from by decide +kernel) rfl
theorem m55_36 : M55 36 ls (.ref b::st) (put b pre s A post) Q = M55 39 ls (.ref (b + 29)::st) (put b pre s A post) Q:=w_get (show decode kb55 36 = .ok (.getfield 94,3) from by decide +kernel) gf_94 put_o rfl
theorem m55_39 : M55 39 [l0,l1,.val (.int v),l3] st H Q = M55 40 [l0,l1,.val (.int v),l3] (.int v::st) H Q:=w_x (show decode kb55 39 = .ok (.iload_n 2,1) from by decide +kernel) rfl
theorem m55_40 : M55 40 [.val (.ref r),l1,l2,l3] st H Q = M55 41 [.val (.ref r),l1,l2,l3] (.ref r::st) H Q:=w_x (show decode kb55 40 = .ok (.aload_n 0,1) from by decide +kernel) rfl
theorem m55_41 : M55 41 ls (.ref b::st) (put b pre s A post) Q = M55 44 ls (.int (s 26)::st) (put b pre s A post) Q:=w_get (show decode kb55 41 = .ok (.getfield 281,3) from by decide +kernel) gf_281 put_o rfl
theorem m55_44  : M55 44 ls (.int v::.int j::.ref (b + 29)::st) (put b pre s A post) Q = (inB j (A 28)∧M55 45 ls st (put b pre s (ou A 28 (setA (A 28) j v)) post) Q):=w_ist (show decode kb55 44 = .ok (.iastore,1) from by decide +kernel) rfl put_a28 (Nat.zero_le _) rfl put_w28
theorem m55_45 : M55 45 [.val (.ref r),l1,l2,l3] st H Q = M55 46 [.val (.ref r),l1,l2,l3] (.ref r::st) H Q:=w_x (show decode kb55 45 = .ok (.aload_n 0,1) from by decide +kernel) rfl
theorem m55_46 : M55 46 ls (.ref b::st) (put b pre s A post) Q = M55 49 ls (.ref (b + 30)::st) (put b pre s A post) Q:=w_get (show decode kb55 46 = .ok (.getfield 97,3) from by decide +kernel) gf_97 put_o rfl
theorem m55_49 : M55 49 [l0,l1,.val (.int v),l3] st H Q = M55 50 [l0,l1,.val (.int v),l3] (.int v::st) H Q:=w_x (show decode kb55 49 = .ok (.iload_n 2,1) from by decide +kernel) rfl
theorem m55_50 : M55 50 [.val (.ref r),l1,l2,l3] st H Q = M55 51 [.val (.ref r),l1,l2,l3] (.ref r::st) H Q:=w_x (show decode kb55 50 = .ok (.aload_n 0,1) from by decide +kernel) rfl
theorem m55_51 : M55 51 ls (.ref b::st) (put b pre s A post) Q = M55 54 ls (.int (s 27)::st) (put b pre s A post) Q:=w_get (show decode kb55 51 = .ok (.getfield 284,3) from by decide +kernel) gf_284 put_o rfl
theorem m55_54  : M55 54 ls (.int v::.int j::.ref (b + 30)::st) (put b pre s A post) Q = (inB j (A 29)∧M55 55 ls st (put b pre s (ou A 29 (setA (A 29) j v)) post) Q):=w_ist (show decode kb55 54 = .ok (.iastore,1) from by decide +kernel) rfl put_a29 (Nat.zero_le _) rfl put_w29
theorem m55_55 : M55 55 ls st H Q = M55 56 ls (.int 0::st) H Q:=w_con (show decode kb55 55 = .ok (.iconst 0,1) from by decide +kernel) rfl (by decide)
theorem m55_56u : M55 56 [l0,l1,l2,.unset] ((.int v)::st) H Q = M55 57 [l0,l1,l2,.val (.int v)] st H Q:=w_st (i:=3) (p:=isI) (show decode kb55 56 = .ok (.istore_n 3,1) from by decide +kernel) rfl rfl rfl rfl rfl rfl
theorem m55_57 : M55 57 [l0,l1,l2,.val (.int v)] st H Q = M55 58 [l0,l1,l2,.val (.int v)] (.int v::st) H Q:=w_x (show decode kb55 57 = .ok (.iload_n 3,1) from by decide +kernel) rfl
theorem m55_58 : M55 58 ls st H Q = M55 59 ls (.int 3::st) H Q:=w_con (show decode kb55 58 = .ok (.iconst 3,1) from by decide +kernel) rfl (by decide)
theorem m55_59 : M55 59 ls (.int y::.int x::st) H Q = if x < y then M55 62 ls st H Q else M55 84 ls st H Q:=w_icmpN (show decode kb55 59 = .ok (.if_icmp .ge 25,3) from by decide +kernel) (i_ge x y) rfl
theorem m55_62 : M55 62 [.val (.ref r),l1,l2,l3] st H Q = M55 63 [.val (.ref r),l1,l2,l3] (.ref r::st) H Q:=w_x (show decode kb55 62 = .ok (.aload_n 0,1) from by decide +kernel) rfl
theorem m55_63 : M55 63 ls (.ref b::st) (put b pre s A post) Q = M55 66 ls (.ref (b + 31)::st) (put b pre s A post) Q:=w_get (show decode kb55 63 = .ok (.getfield 100,3) from by decide +kernel) gf_100 put_o rfl
theorem m55_66 : M55 66 [l0,l1,.val (.int v),l3] st H Q = M55 67 [l0,l1,.val (.int v),l3] (.int v::st) H Q:=w_x (show decode kb55 66 = .ok (.iload_n 2,1) from by decide +kernel) rfl
theorem m55_67 : M55 67 ls st H Q = M55 68 ls (.int 3::st) H Q:=w_con (show decode kb55 67 = .ok (.iconst 3,1) from by decide +kernel) rfl (by decide)
theorem m55_68 : M55 68 ls (.int y::.int x::st) H Q = M55 69 ls (.int (x * y)::st) H Q:=w_x (show decode kb55 68 = .ok (.imul,1) from by decide +kernel) rfl
theorem m55_69 : M55 69 [l0,l1,l2,.val (.int v)] st H Q = M55 70 [l0,l1,l2,.val (.int v)] (.int v::st) H Q:=w_x (show decode kb55 69 = .ok (.iload_n 3,1) from by decide +kernel) rfl
theorem m55_70 : M55 70 ls (.int y::.int x::st) H Q = M55 71 ls (.int (x + y)::st) H Q:=w_x (show decode kb55 70 = .ok (.iadd,1) from by decide +kernel) rfl
theorem m55_71 : M55 71 [.val (.ref r),l1,l2,l3] st H Q = M55 72 [.val (.ref r),l1,l2,l3] (.ref r::st) H Q:=w_x (show decode kb55 71 = .ok (.aload_n 0,1) from by decide +kernel) rfl
theorem m55_72 : M55 72 ls (.ref b::st) (put b pre s A post) Q = M55 75 ls (.ref (b + 32)::st) (put b pre s A post) Q:=w_get (show decode kb55 72 = .ok (.getfield 103,3) from by decide +kernel) gf_103 put_o rfl
theorem m55_75 : M55 75 [l0,l1,l2,.val (.int v)] st H Q = M55 76 [l0,l1,l2,.val (.int v)] (.int v::st) H Q:=w_x (show decode kb55 75 = .ok (.iload_n 3,1) from by decide +kernel) rfl
theorem m55_76  : M55 76 ls (.int j::.ref (b + 32)::st) (put b pre s A post) Q = (inB j (A 31)∧M55 77 ls (.int (getA (A 31) j)::st) (put b pre s A post) Q):=w_ild (show decode kb55 76 = .ok (.iaload,1) from by decide +kernel) rfl put_a31
theorem m55_77  : M55 77 ls (.int v::.int j::.ref (b + 31)::st) (put b pre s A post) Q = (inB j (A 30)∧M55 78 ls st (put b pre s (ou A 30 (setA (A 30) j v)) post) Q):=w_ist (show decode kb55 77 = .ok (.iastore,1) from by decide +kernel) rfl put_a30 (Nat.zero_le _) rfl put_w30
theorem m55_78 : M55 78 [l0,l1,l2,.val (.int v)] st H Q = M55 81 [l0,l1,l2,.val (.int (v + 1))] st H Q:=w_iinc (show decode kb55 78 = .ok (.iinc 3 1,3) from by decide +kernel) rfl (by decide) rfl
theorem m55_81 : M55 81 ls st H Q = M55 57 ls st H Q:=w_x (show decode kb55 81 = .ok (.goto (-24),3) from by decide +kernel) rfl
theorem m55_84 : M55 84 ls [] H Q = Q none H:=w_vret (show decode kb55 84 = .ok (.return_,1) from by decide +kernel) rfl
theorem m56_0 : M56 0 [l0,l1,.val (.int v),l3] st H Q = M56 1 [l0,l1,.val (.int v),l3] (.int v::st) H Q:=w_x (show decode kb56 0 = .ok (.iload_n 2,1) from by decide +kernel) rfl
theorem m56_1 : M56 1 ls st H Q = M56 2 ls (.int 4::st) H Q:=w_con (show decode kb56 1 = .ok (.iconst 4,1) from by decide +kernel) rfl (by decide)
theorem m56_2 : M56 2 ls (.int y::.int x::st) H Q = if x < y then M56 11 ls st H Q else M56 5 ls st H Q:=w_icmp (show decode kb56 2 = .ok (.if_icmp .lt 9,3) from by decide +kernel) (i_lt x y) rfl
theorem m56_5 : M56 5 [l0,l1,.val (.int v),l3] st H Q = M56 6 [l0,l1,.val (.int v),l3] (.int v::st) H Q:=w_x (show decode kb56 5 = .ok (.iload_n 2,1) from by decide +kernel) rfl
theorem m56_6 : M56 6 ls st H Q = M56 8 ls (.int 6::st) H Q:=w_con (show decode kb56 6 = .ok (.bipush 6,2) from by decide +kernel) rfl (by decide)
theorem m56_8 : M56 8 ls (.int y::.int x::st) H Q = if y < x then M56 11 ls st H Q else M56 13 ls st H Q:=w_icmpN (show decode kb56 8 = .ok (.if_icmp .le 5,3) from by decide +kernel) (i_le x y) rfl
theorem m56_13 : M56 13 [l0,l1,.val (.int v),l3] st H Q = M56 14 [l0,l1,.val (.int v),l3] (.int v::st) H Q:=w_x (show decode kb56 13 = .ok (.iload_n 2,1) from by decide +kernel) rfl
theorem m56_14 : M56 14 ls st H Q = M56 15 ls (.int 4::st) H Q:=w_con (show decode kb56 14 = .ok (.iconst 4,1) from by decide +kernel) rfl (by decide)
theorem m56_15 : M56 15 ls (.int y::.int x::st) H Q = M56 16 ls (.int (x - y)::st) H Q:=w_x (show decode kb56 15 = .ok (.isub,1) from by decide +kernel) rfl
theorem m56_16u : M56 16 [l0,l1,l2,.unset] ((.int v)::st) H Q = M56 17 [l0,l1,l2,.val (.int v)] st H Q:=w_st (i:=3) (p:=isI) (show decode kb56 16 = .ok (.istore_n 3,1) from by decide +kernel) rfl rfl rfl rfl rfl rfl
theorem m56_17 : M56 17 [l0,l1,l2,.val (.int v)] st H Q = M56 18 [l0,l1,l2,.val (.int v)] (.int v::st) H Q:=w_x (show decode kb56 17 = .ok (.iload_n 3,1) from by decide +kernel) rfl
theorem m56_18 : M56 18 [.val (.ref r),l1,l2,l3] st H Q = M56 19 [.val (.ref r),l1,l2,l3] (.ref r::st) H Q:=w_x (show decode kb56 18 = .ok (.aload_n 0,1) from by decide +kernel) rfl
theorem m56_19 : M56 19 ls (.ref b::st) (put b pre s A post) Q = M56 22 ls (.ref (b + 28)::st) (put b pre s A post) Q:=w_get (show decode kb56 19 = .ok (.getfield 91,3) from by decide +kernel) gf_91 put_o rfl
theorem m56_22 : M56 22 [l0,.val (.int v),l2,l3] st H Q = M56 23 [l0,.val (.int v),l2,l3] (.int v::st) H Q:=w_x (show decode kb56 22 = .ok (.iload_n 1,1) from by decide +kernel) rfl
theorem m56_23  : M56 23 ls (.int j::.ref (b + 28)::st) (put b pre s A post) Q = (inB j (A 27)∧M56 24 ls (.int (getA (A 27) j)::st) (put b pre s A post) Q):=w_ild (show decode kb56 23 = .ok (.iaload,1) from by decide +kernel) rfl put_a27
theorem m56_24 : M56 24 ls (.int y::.int x::st) H Q = if x < y then M56 29 ls st H Q else M56 27 ls st H Q:=w_icmp (show decode kb56 24 = .ok (.if_icmp .lt 5,3) from by decide +kernel) (i_lt x y) rfl
theorem m56_29 : M56 29 [.val (.ref r),l1,l2,l3] st H Q = M56 30 [.val (.ref r),l1,l2,l3] (.ref r::st) H Q:=w_x (show decode kb56 29 = .ok (.aload_n 0,1) from by decide +kernel) rfl
theorem m56_30 : M56 30 ls (.ref b::st) (put b pre s A post) Q = M56 33 ls (.ref (b + 31)::st) (put b pre s A post) Q:=w_get (show decode kb56 30 = .ok (.getfield 100,3) from by decide +kernel) gf_100 put_o rfl
theorem m56_33 : M56 33 [l0,.val (.int v),l2,l3] st H Q = M56 34 [l0,.val (.int v),l2,l3] (.int v::st) H Q:=w_x (show decode kb56 33 = .ok (.iload_n 1,1) from by decide +kernel) rfl
theorem m56_34 : M56 34 ls st H Q = M56 35 ls (.int 3::st) H Q:=w_con (show decode kb56 34 = .ok (.iconst 3,1) from by decide +kernel) rfl (by decide)
theorem m56_35 : M56 35 ls (.int y::.int x::st) H Q = M56 36 ls (.int (x * y)::st) H Q:=w_x (show decode kb56 35 = .ok (.imul,1) from by decide +kernel) rfl
theorem m56_36 : M56 36 [l0,l1,l2,.val (.int v)] st H Q = M56 37 [l0,l1,l2,.val (.int v)] (.int v::st) H Q:=w_x (show decode kb56 36 = .ok (.iload_n 3,1) from by decide +kernel) rfl
theorem m56_37 : M56 37 ls (.int y::.int x::st) H Q = M56 38 ls (.int (x + y)::st) H Q:=w_x (show decode kb56 37 = .ok (.iadd,1) from by decide +kernel) rfl
theorem m56_38  : M56 38 ls (.int j::.ref (b + 31)::st) (put b pre s A post) Q = (inB j (A 30)∧M56 39 ls (.int (getA (A 30) j)::st) (put b pre s A post) Q):=w_ild (show decode kb56 38 = .ok (.iaload,1) from by decide +kernel) rfl put_a30
theorem m56_39 : M56 39 ls (.int z::st) H Q = Q (some (.int z)) H:=w_iret (show decode kb56 39 = .ok (.ireturn,1) from by decide +kernel) rfl
theorem m57_0 : M57 0 ls st H Q = M57 3 ls (.ref H.length::st) (H ++ [(.object "AgentExprDbg", D0)]) Q:=(w_new (C := "AgentExprDbg") at_0 (by rw [hNew,show rCls tables_1 y57.cls 7 = some "AgentExprDbg" from by decide +kernel]; dsimp only; rw [if_pos (by decide +kernel)])).trans (by rw [lay0]; rfl)
theorem m57_3 : M57 3 ls ((.ref r)::st) H Q = M57 4 ls ((.ref r)::(.ref r)::st) H Q:=w_x at_3 rfl
theorem m57_4 : M57 4 [l0,l1,l2,l3,l4,.val (.int v),l6,l7,l8,l9,l10,l11,l12,l13,l14,l15,l16,l17] st H Q = M57 6 [l0,l1,l2,l3,l4,.val (.int v),l6,l7,l8,l9,l10,l11,l12,l13,l14,l15,l16,l17] (.int v::st) H Q:=w_x at_4 rfl
theorem m57_6 : M57 6 [l0,l1,l2,l3,l4,.val (.int v),l6,l7,l8,l9,l10,l11,l12,l13,l14,l15,l16,l17] st H Q = M57 8 [l0,l1,l2,l3,l4,.val (.int v),l6,l7,l8,l9,l10,l11,l12,l13,l14,l15,l16,l17] (.int v::st) H Q:=w_x at_6 rfl
theorem cr57_9 : nR tables_1 dn y57 9 = some (y0,prog_1_method_1_code,5,none,2,142):=nR_of (cR_of (by decide +kernel) rc_0 dn_0 dn_57 (sig:=⟨[.int,.int],none⟩) (by decide +kernel) (by decide +kernel) rfl rfl) rfl (by decide +kernel) rfl
theorem cr57_9_o : oR tables_1 dn y57 9 = none:=by decide +kernel
theorem m57_8 (a0 : Int32) (a1 : Int32) (u0 : Nat) : M57 8 ls [.int a1,.int a0,.ref r,.ref u0] H Q = M0 0 [.val (.ref r),.val (.int a0),.val (.int a1),.unset,.unset] [] H (fun v H1 => M57 11 ls (v.toList ++ [.ref u0]) H1 Q):=w_spec (as:=[.int a1,.int a0]) (rest:=[.ref u0]) (a:=r) at_8 cr57_9_o cr57_9 rfl (Nat.le_of_ble_eq_true rfl) (by show 3≤5; omega) rfl
theorem m57_11u : M57 11 [l0,l1,l2,l3,l4,l5,.unset,l7,l8,l9,l10,l11,l12,l13,l14,l15,l16,l17] ((.ref r)::st) H Q = M57 13 [l0,l1,l2,l3,l4,l5,.val (.ref r),l7,l8,l9,l10,l11,l12,l13,l14,l15,l16,l17] st H Q:=w_st (i:=6) (p:=Value.isRef) at_11 rfl rfl rfl rfl rfl rfl
theorem m57_13 : M57 13 [l0,l1,l2,l3,l4,l5,.val (.ref r),l7,l8,l9,l10,l11,l12,l13,l14,l15,l16,l17] st H Q = M57 15 [l0,l1,l2,l3,l4,l5,.val (.ref r),l7,l8,l9,l10,l11,l12,l13,l14,l15,l16,l17] (.ref r::st) H Q:=w_x at_13 rfl
theorem m57_15 : M57 15 ls st H Q = M57 16 ls (.int 1::st) H Q:=w_con at_15 rfl (by decide)
theorem m57_16 : M57 16 [.val (.int v),l1,l2,l3,l4,l5,l6,l7,l8,l9,l10,l11,l12,l13,l14,l15,l16,l17] st H Q = M57 17 [.val (.int v),l1,l2,l3,l4,l5,l6,l7,l8,l9,l10,l11,l12,l13,l14,l15,l16,l17] (.int v::st) H Q:=w_x at_16 rfl
theorem cr57_12 : vR tables_1 dn y57 12 = some (false,y1,prog_1_method_5_code,3,(some .boolean),2,141):=vR_of (cR_of (by decide +kernel) rc_1 dn_1 dn_57 (sig:=⟨[.int,.int],some .boolean⟩) (by decide +kernel) (by decide +kernel) rfl rfl) (by decide +kernel) (by decide +kernel) (by decide +kernel)
theorem m57_17 (a0 : Int32) (a1 : Int32) : M57 17 ls [.int a1,.int a0,.ref b] (put b pre s A post) Q = M1 0 [.val (.ref b),.val (.int a0),.val (.int a1)] [] (put b pre s A post) (fun v H1 => M57 20 ls (v.toList ++ []) H1 Q):=w_virt (as:=[.int a1,.int a0]) (rest:=[]) (a:=b) at_17 cr57_12 put_o rfl rfl (Nat.le_of_ble_eq_true rfl) (by show 3≤3; omega) rfl
theorem m57_20 : M57 20 ls ((.int v)::st) H Q = M57 21 ls st H Q:=w_x at_20 rfl
theorem m57_21 : M57 21 [l0,l1,l2,l3,l4,l5,.val (.ref r),l7,l8,l9,l10,l11,l12,l13,l14,l15,l16,l17] st H Q = M57 23 [l0,l1,l2,l3,l4,l5,.val (.ref r),l7,l8,l9,l10,l11,l12,l13,l14,l15,l16,l17] (.ref r::st) H Q:=w_x at_21 rfl
theorem m57_23 : M57 23 ls st H Q = M57 24 ls (.int 2::st) H Q:=w_con at_23 rfl (by decide)
theorem m57_24 : M57 24 [l0,.val (.int v),l2,l3,l4,l5,l6,l7,l8,l9,l10,l11,l12,l13,l14,l15,l16,l17] st H Q = M57 25 [l0,.val (.int v),l2,l3,l4,l5,l6,l7,l8,l9,l10,l11,l12,l13,l14,l15,l16,l17] (.int v::st) H Q:=w_x at_24 rfl
theorem m57_25 (a0 : Int32) (a1 : Int32) : M57 25 ls [.int a1,.int a0,.ref b] (put b pre s A post) Q = M1 0 [.val (.ref b),.val (.int a0),.val (.int a1)] [] (put b pre s A post) (fun v H1 => M57 28 ls (v.toList ++ []) H1 Q):=w_virt (as:=[.int a1,.int a0]) (rest:=[]) (a:=b) at_25 cr57_12 put_o rfl rfl (Nat.le_of_ble_eq_true rfl) (by show 3≤3; omega) rfl
theorem m57_28 : M57 28 ls ((.int v)::st) H Q = M57 29 ls st H Q:=w_x at_28 rfl
theorem m57_29 : M57 29 [l0,l1,l2,l3,l4,l5,.val (.ref r),l7,l8,l9,l10,l11,l12,l13,l14,l15,l16,l17] st H Q = M57 31 [l0,l1,l2,l3,l4,l5,.val (.ref r),l7,l8,l9,l10,l11,l12,l13,l14,l15,l16,l17] (.ref r::st) H Q:=w_x at_29 rfl
theorem m57_31 : M57 31 ls st H Q = M57 32 ls (.int 3::st) H Q:=w_con at_31 rfl (by decide)
theorem m57_32 : M57 32 [l0,l1,.val (.int v),l3,l4,l5,l6,l7,l8,l9,l10,l11,l12,l13,l14,l15,l16,l17] st H Q = M57 33 [l0,l1,.val (.int v),l3,l4,l5,l6,l7,l8,l9,l10,l11,l12,l13,l14,l15,l16,l17] (.int v::st) H Q:=w_x at_32 rfl
theorem m57_33 (a0 : Int32) (a1 : Int32) : M57 33 ls [.int a1,.int a0,.ref b] (put b pre s A post) Q = M1 0 [.val (.ref b),.val (.int a0),.val (.int a1)] [] (put b pre s A post) (fun v H1 => M57 36 ls (v.toList ++ []) H1 Q):=w_virt (as:=[.int a1,.int a0]) (rest:=[]) (a:=b) at_33 cr57_12 put_o rfl rfl (Nat.le_of_ble_eq_true rfl) (by show 3≤3; omega) rfl
theorem m57_36 : M57 36 ls ((.int v)::st) H Q = M57 37 ls st H Q:=w_x at_36 rfl
theorem m57_37 : M57 37 [l0,l1,l2,l3,l4,l5,.val (.ref r),l7,l8,l9,l10,l11,l12,l13,l14,l15,l16,l17] st H Q = M57 39 [l0,l1,l2,l3,l4,l5,.val (.ref r),l7,l8,l9,l10,l11,l12,l13,l14,l15,l16,l17] (.ref r::st) H Q:=w_x at_37 rfl
theorem m57_39 : M57 39 [l0,l1,.val (.int v),l3,l4,l5,l6,l7,l8,l9,l10,l11,l12,l13,l14,l15,l16,l17] st H Q = M57 40 [l0,l1,.val (.int v),l3,l4,l5,l6,l7,l8,l9,l10,l11,l12,l13,l14,l15,l16,l17] (.int v::st) H Q:=w_x at_39 rfl
theorem m57_40 : M57 40 [l0,l1,l2,.val (.int v),l4,l5,l6,l7,l8,l9,l10,l11,l12,l13,l14,l15,l16,l17] st H Q = M57 41 [l0,l1,l2,.val (.int v),l4,l5,l6,l7,l8,l9,l10,l11,l12,l13,l14,l15,l16,l17] (.int v::st) H Q:=w_x at_40 rfl
theorem cr57_16 : vR tables_1 dn y57 16 = some (false,y3,prog_1_method_6_code,3,(some .boolean),2,141):=vR_of (cR_of (by decide +kernel) rc_3 dn_3 dn_57 (sig:=⟨[.int,.int],some .boolean⟩) (by decide +kernel) (by decide +kernel) rfl rfl) (by decide +kernel) (by decide +kernel) (by decide +kernel)
theorem m57_41 (a0 : Int32) (a1 : Int32) : M57 41 ls [.int a1,.int a0,.ref b] (put b pre s A post) Q = M3 0 [.val (.ref b),.val (.int a0),.val (.int a1)] [] (put b pre s A post) (fun v H1 => M57 44 ls (v.toList ++ []) H1 Q):=w_virt (as:=[.int a1,.int a0]) (rest:=[]) (a:=b) at_41 cr57_16 put_o rfl rfl (Nat.le_of_ble_eq_true rfl) (by show 3≤3; omega) rfl
theorem m57_44 : M57 44 ls ((.int v)::st) H Q = M57 45 ls st H Q:=w_x at_44 rfl
theorem m57_45 : M57 45 [l0,l1,l2,l3,l4,l5,.val (.ref r),l7,l8,l9,l10,l11,l12,l13,l14,l15,l16,l17] st H Q = M57 47 [l0,l1,l2,l3,l4,l5,.val (.ref r),l7,l8,l9,l10,l11,l12,l13,l14,l15,l16,l17] (.ref r::st) H Q:=w_x at_45 rfl
theorem m57_47 : M57 47 ls st H Q = M57 48 ls (.int 0::st) H Q:=w_con at_47 rfl (by decide)
theorem m57_48 : M57 48 ls st H Q = M57 49 ls (.int 4::st) H Q:=w_con at_48 rfl (by decide)
theorem m57_49 : M57 49 ls st H Q = M57 50 ls (.int 1::st) H Q:=w_con at_49 rfl (by decide)
theorem m57_50 : M57 50 [l0,l1,l2,l3,.val (.int v),l5,l6,l7,l8,l9,l10,l11,l12,l13,l14,l15,l16,l17] st H Q = M57 52 [l0,l1,l2,l3,.val (.int v),l5,l6,l7,l8,l9,l10,l11,l12,l13,l14,l15,l16,l17] (.int v::st) H Q:=w_x at_50 rfl
theorem cr57_19 : vR tables_1 dn y57 19 = some (false,y4,prog_1_method_2_code,5,(some .boolean),4,109):=vR_of (cR_of (by decide +kernel) rc_4 dn_4 dn_57 (sig:=⟨[.int,.int,.int,.int],some .boolean⟩) (by decide +kernel) (by decide +kernel) rfl rfl) (by decide +kernel) (by decide +kernel) (by decide +kernel)
theorem m57_52 (a0 : Int32) (a1 : Int32) (a2 : Int32) (a3 : Int32) : M57 52 ls [.int a3,.int a2,.int a1,.int a0,.ref b] (put b pre s A post) Q = M4 0 [.val (.ref b),.val (.int a0),.val (.int a1),.val (.int a2),.val (.int a3)] [] (put b pre s A post) (fun v H1 => M57 55 ls (v.toList ++ []) H1 Q):=w_virt (as:=[.int a3,.int a2,.int a1,.int a0]) (rest:=[]) (a:=b) at_52 cr57_19 put_o rfl rfl (Nat.le_of_ble_eq_true rfl) (by show 5≤5; omega) rfl
theorem m57_55 : M57 55 ls ((.int v)::st) H Q = M57 56 ls st H Q:=w_x at_55 rfl
theorem m57_56 : M57 56 [l0,l1,l2,l3,l4,l5,.val (.ref r),l7,l8,l9,l10,l11,l12,l13,l14,l15,l16,l17] st H Q = M57 58 [l0,l1,l2,l3,l4,l5,.val (.ref r),l7,l8,l9,l10,l11,l12,l13,l14,l15,l16,l17] (.ref r::st) H Q:=w_x at_56 rfl
theorem m57_58 : M57 58 ls st H Q = M57 59 ls (.int 1::st) H Q:=w_con at_58 rfl (by decide)
theorem m57_59 : M57 59 ls st H Q = M57 60 ls (.int 1::st) H Q:=w_con at_59 rfl (by decide)
theorem cr57_23 : vR tables_1 dn y57 23 = some (false,y7,prog_1_method_9_code,3,(some .boolean),2,141):=vR_of (cR_of (by decide +kernel) rc_7 dn_7 dn_57 (sig:=⟨[.int,.int],some .boolean⟩) (by decide +kernel) (by decide +kernel) rfl rfl) (by decide +kernel) (by decide +kernel) (by decide +kernel)
theorem m57_60 (a0 : Int32) (a1 : Int32) : M57 60 ls [.int a1,.int a0,.ref b] (put b pre s A post) Q = M7 0 [.val (.ref b),.val (.int a0),.val (.int a1)] [] (put b pre s A post) (fun v H1 => M57 63 ls (v.toList ++ []) H1 Q):=w_virt (as:=[.int a1,.int a0]) (rest:=[]) (a:=b) at_60 cr57_23 put_o rfl rfl (Nat.le_of_ble_eq_true rfl) (by show 3≤3; omega) rfl
theorem m57_63 : M57 63 ls ((.int v)::st) H Q = M57 64 ls st H Q:=w_x at_63 rfl
theorem m57_64 : M57 64 [l0,l1,l2,l3,l4,l5,.val (.ref r),l7,l8,l9,l10,l11,l12,l13,l14,l15,l16,l17] st H Q = M57 66 [l0,l1,l2,l3,l4,l5,.val (.ref r),l7,l8,l9,l10,l11,l12,l13,l14,l15,l16,l17] (.ref r::st) H Q:=w_x at_64 rfl
theorem m57_66 : M57 66 ls st H Q = M57 68 ls (.int 15::st) H Q:=w_con at_66 rfl (by decide)
theorem m57_68 : M57 68 ls st H Q = M57 69 ls (.int 0::st) H Q:=w_con at_68 rfl (by decide)
theorem m57_69 (a0 : Int32) (a1 : Int32) : M57 69 ls [.int a1,.int a0,.ref b] (put b pre s A post) Q = M7 0 [.val (.ref b),.val (.int a0),.val (.int a1)] [] (put b pre s A post) (fun v H1 => M57 72 ls (v.toList ++ []) H1 Q):=w_virt (as:=[.int a1,.int a0]) (rest:=[]) (a:=b) at_69 cr57_23 put_o rfl rfl (Nat.le_of_ble_eq_true rfl) (by show 3≤3; omega) rfl
theorem m57_72 : M57 72 ls ((.int v)::st) H Q = M57 73 ls st H Q:=w_x at_72 rfl
theorem m57_73 : M57 73 [l0,l1,l2,l3,l4,l5,.val (.ref r),l7,l8,l9,l10,l11,l12,l13,l14,l15,l16,l17] st H Q = M57 75 [l0,l1,l2,l3,l4,l5,.val (.ref r),l7,l8,l9,l10,l11,l12,l13,l14,l15,l16,l17] (.ref r::st) H Q:=w_x at_73 rfl
theorem m57_75 : M57 75 ls st H Q = M57 76 ls (.int 1::st) H Q:=w_con at_75 rfl (by decide)
theorem m57_76 : M57 76 ls st H Q = M57 77 ls (.int 2::st) H Q:=w_con at_76 rfl (by decide)
theorem m57_77 (a0 : Int32) (a1 : Int32) : M57 77 ls [.int a1,.int a0,.ref b] (put b pre s A post) Q = M7 0 [.val (.ref b),.val (.int a0),.val (.int a1)] [] (put b pre s A post) (fun v H1 => M57 80 ls (v.toList ++ []) H1 Q):=w_virt (as:=[.int a1,.int a0]) (rest:=[]) (a:=b) at_77 cr57_23 put_o rfl rfl (Nat.le_of_ble_eq_true rfl) (by show 3≤3; omega) rfl
theorem m57_80 : M57 80 ls ((.int v)::st) H Q = M57 81 ls st H Q:=w_x at_80 rfl
theorem m57_81 : M57 81 [l0,l1,l2,l3,l4,l5,.val (.ref r),l7,l8,l9,l10,l11,l12,l13,l14,l15,l16,l17] st H Q = M57 83 [l0,l1,l2,l3,l4,l5,.val (.ref r),l7,l8,l9,l10,l11,l12,l13,l14,l15,l16,l17] (.ref r::st) H Q:=w_x at_81 rfl
theorem m57_83 : M57 83 ls st H Q = M57 84 ls (.int 4::st) H Q:=w_con at_83 rfl (by decide)
theorem m57_84 : M57 84 ls st H Q = M57 85 ls (.int 0::st) H Q:=w_con at_84 rfl (by decide)
theorem m57_85 (a0 : Int32) (a1 : Int32) : M57 85 ls [.int a1,.int a0,.ref b] (put b pre s A post) Q = M7 0 [.val (.ref b),.val (.int a0),.val (.int a1)] [] (put b pre s A post) (fun v H1 => M57 88 ls (v.toList ++ []) H1 Q):=w_virt (as:=[.int a1,.int a0]) (rest:=[]) (a:=b) at_85 cr57_23 put_o rfl rfl (Nat.le_of_ble_eq_true rfl) (by show 3≤3; omega) rfl
theorem m57_88 : M57 88 ls ((.int v)::st) H Q = M57 89 ls st H Q:=w_x at_88 rfl
theorem m57_89 : M57 89 [l0,l1,l2,l3,l4,l5,.val (.ref r),l7,l8,l9,l10,l11,l12,l13,l14,l15,l16,l17] st H Q = M57 91 [l0,l1,l2,l3,l4,l5,.val (.ref r),l7,l8,l9,l10,l11,l12,l13,l14,l15,l16,l17] (.ref r::st) H Q:=w_x at_89 rfl
theorem m57_91 : M57 91 ls st H Q = M57 92 ls (.int 1::st) H Q:=w_con at_91 rfl (by decide)
theorem m57_92 : M57 92 ls st H Q = M57 93 ls (.int 1::st) H Q:=w_con at_92 rfl (by decide)
theorem m57_93 (a0 : Int32) (a1 : Int32) : M57 93 ls [.int a1,.int a0,.ref b] (put b pre s A post) Q = M7 0 [.val (.ref b),.val (.int a0),.val (.int a1)] [] (put b pre s A post) (fun v H1 => M57 96 ls (v.toList ++ []) H1 Q):=w_virt (as:=[.int a1,.int a0]) (rest:=[]) (a:=b) at_93 cr57_23 put_o rfl rfl (Nat.le_of_ble_eq_true rfl) (by show 3≤3; omega) rfl
theorem m57_96 : M57 96 ls ((.int v)::st) H Q = M57 97 ls st H Q:=w_x at_96 rfl
theorem m57_97 : M57 97 [l0,l1,l2,l3,l4,l5,.val (.ref r),l7,l8,l9,l10,l11,l12,l13,l14,l15,l16,l17] st H Q = M57 99 [l0,l1,l2,l3,l4,l5,.val (.ref r),l7,l8,l9,l10,l11,l12,l13,l14,l15,l16,l17] (.ref r::st) H Q:=w_x at_97 rfl
theorem m57_99 : M57 99 ls st H Q = M57 101 ls (.int 12::st) H Q:=w_con at_99 rfl (by decide)
theorem m57_101 : M57 101 ls st H Q = M57 102 ls (.int 0::st) H Q:=w_con at_101 rfl (by decide)
theorem m57_102 (a0 : Int32) (a1 : Int32) : M57 102 ls [.int a1,.int a0,.ref b] (put b pre s A post) Q = M7 0 [.val (.ref b),.val (.int a0),.val (.int a1)] [] (put b pre s A post) (fun v H1 => M57 105 ls (v.toList ++ []) H1 Q):=w_virt (as:=[.int a1,.int a0]) (rest:=[]) (a:=b) at_102 cr57_23 put_o rfl rfl (Nat.le_of_ble_eq_true rfl) (by show 3≤3; omega) rfl
theorem m57_105 : M57 105 ls ((.int v)::st) H Q = M57 106 ls st H Q:=w_x at_105 rfl
theorem m57_106 : M57 106 [l0,l1,l2,l3,l4,l5,.val (.ref r),l7,l8,l9,l10,l11,l12,l13,l14,l15,l16,l17] st H Q = M57 108 [l0,l1,l2,l3,l4,l5,.val (.ref r),l7,l8,l9,l10,l11,l12,l13,l14,l15,l16,l17] (.ref r::st) H Q:=w_x at_106 rfl
theorem m57_108 : M57 108 ls st H Q = M57 109 ls (.int 1::st) H Q:=w_con at_108 rfl (by decide)
theorem m57_109 : M57 109 ls st H Q = M57 110 ls (.int 2::st) H Q:=w_con at_109 rfl (by decide)
theorem m57_110 (a0 : Int32) (a1 : Int32) : M57 110 ls [.int a1,.int a0,.ref b] (put b pre s A post) Q = M7 0 [.val (.ref b),.val (.int a0),.val (.int a1)] [] (put b pre s A post) (fun v H1 => M57 113 ls (v.toList ++ []) H1 Q):=w_virt (as:=[.int a1,.int a0]) (rest:=[]) (a:=b) at_110 cr57_23 put_o rfl rfl (Nat.le_of_ble_eq_true rfl) (by show 3≤3; omega) rfl
theorem m57_113 : M57 113 ls ((.int v)::st) H Q = M57 114 ls st H Q:=w_x at_113 rfl
theorem m57_114 : M57 114 [l0,l1,l2,l3,l4,l5,.val (.ref r),l7,l8,l9,l10,l11,l12,l13,l14,l15,l16,l17] st H Q = M57 116 [l0,l1,l2,l3,l4,l5,.val (.ref r),l7,l8,l9,l10,l11,l12,l13,l14,l15,l16,l17] (.ref r::st) H Q:=w_x at_114 rfl
theorem m57_116 : M57 116 ls st H Q = M57 117 ls (.int 4::st) H Q:=w_con at_116 rfl (by decide)
theorem m57_117 : M57 117 ls st H Q = M57 118 ls (.int 0::st) H Q:=w_con at_117 rfl (by decide)
theorem m57_118 (a0 : Int32) (a1 : Int32) : M57 118 ls [.int a1,.int a0,.ref b] (put b pre s A post) Q = M7 0 [.val (.ref b),.val (.int a0),.val (.int a1)] [] (put b pre s A post) (fun v H1 => M57 121 ls (v.toList ++ []) H1 Q):=w_virt (as:=[.int a1,.int a0]) (rest:=[]) (a:=b) at_118 cr57_23 put_o rfl rfl (Nat.le_of_ble_eq_true rfl) (by show 3≤3; omega) rfl
theorem m57_121 : M57 121 ls ((.int v)::st) H Q = M57 122 ls st H Q:=w_x at_121 rfl
theorem m57_122 : M57 122 [l0,l1,l2,l3,l4,l5,.val (.ref r),l7,l8,l9,l10,l11,l12,l13,l14,l15,l16,l17] st H Q = M57 124 [l0,l1,l2,l3,l4,l5,.val (.ref r),l7,l8,l9,l10,l11,l12,l13,l14,l15,l16,l17] (.ref r::st) H Q:=w_x at_122 rfl
theorem m57_124 : M57 124 ls st H Q = M57 125 ls (.int 1::st) H Q:=w_con at_124 rfl (by decide)
theorem m57_125 : M57 125 ls st H Q = M57 126 ls (.int 1::st) H Q:=w_con at_125 rfl (by decide)
theorem m57_126 (a0 : Int32) (a1 : Int32) : M57 126 ls [.int a1,.int a0,.ref b] (put b pre s A post) Q = M7 0 [.val (.ref b),.val (.int a0),.val (.int a1)] [] (put b pre s A post) (fun v H1 => M57 129 ls (v.toList ++ []) H1 Q):=w_virt (as:=[.int a1,.int a0]) (rest:=[]) (a:=b) at_126 cr57_23 put_o rfl rfl (Nat.le_of_ble_eq_true rfl) (by show 3≤3; omega) rfl
theorem m57_129 : M57 129 ls ((.int v)::st) H Q = M57 130 ls st H Q:=w_x at_129 rfl
theorem m57_130 : M57 130 [l0,l1,l2,l3,l4,l5,.val (.ref r),l7,l8,l9,l10,l11,l12,l13,l14,l15,l16,l17] st H Q = M57 132 [l0,l1,l2,l3,l4,l5,.val (.ref r),l7,l8,l9,l10,l11,l12,l13,l14,l15,l16,l17] (.ref r::st) H Q:=w_x at_130 rfl
theorem m57_132 : M57 132 ls st H Q = M57 134 ls (.int 9::st) H Q:=w_con at_132 rfl (by decide)
theorem m57_134 : M57 134 ls st H Q = M57 135 ls (.int 0::st) H Q:=w_con at_134 rfl (by decide)
theorem m57_135 (a0 : Int32) (a1 : Int32) : M57 135 ls [.int a1,.int a0,.ref b] (put b pre s A post) Q = M7 0 [.val (.ref b),.val (.int a0),.val (.int a1)] [] (put b pre s A post) (fun v H1 => M57 138 ls (v.toList ++ []) H1 Q):=w_virt (as:=[.int a1,.int a0]) (rest:=[]) (a:=b) at_135 cr57_23 put_o rfl rfl (Nat.le_of_ble_eq_true rfl) (by show 3≤3; omega) rfl
theorem m57_138 : M57 138 ls ((.int v)::st) H Q = M57 139 ls st H Q:=w_x at_138 rfl
theorem m57_139 : M57 139 [l0,l1,l2,l3,l4,l5,.val (.ref r),l7,l8,l9,l10,l11,l12,l13,l14,l15,l16,l17] st H Q = M57 141 [l0,l1,l2,l3,l4,l5,.val (.ref r),l7,l8,l9,l10,l11,l12,l13,l14,l15,l16,l17] (.ref r::st) H Q:=w_x at_139 rfl
theorem m57_141 : M57 141 ls st H Q = M57 142 ls (.int 1::st) H Q:=w_con at_141 rfl (by decide)
theorem m57_142 : M57 142 ls st H Q = M57 143 ls (.int 2::st) H Q:=w_con at_142 rfl (by decide)
theorem m57_143 (a0 : Int32) (a1 : Int32) : M57 143 ls [.int a1,.int a0,.ref b] (put b pre s A post) Q = M7 0 [.val (.ref b),.val (.int a0),.val (.int a1)] [] (put b pre s A post) (fun v H1 => M57 146 ls (v.toList ++ []) H1 Q):=w_virt (as:=[.int a1,.int a0]) (rest:=[]) (a:=b) at_143 cr57_23 put_o rfl rfl (Nat.le_of_ble_eq_true rfl) (by show 3≤3; omega) rfl
theorem m57_146 : M57 146 ls ((.int v)::st) H Q = M57 147 ls st H Q:=w_x at_146 rfl
theorem m57_147 : M57 147 [l0,l1,l2,l3,l4,l5,.val (.ref r),l7,l8,l9,l10,l11,l12,l13,l14,l15,l16,l17] st H Q = M57 149 [l0,l1,l2,l3,l4,l5,.val (.ref r),l7,l8,l9,l10,l11,l12,l13,l14,l15,l16,l17] (.ref r::st) H Q:=w_x at_147 rfl
theorem m57_149 : M57 149 ls st H Q = M57 150 ls (.int 4::st) H Q:=w_con at_149 rfl (by decide)
theorem m57_150 : M57 150 ls st H Q = M57 151 ls (.int 0::st) H Q:=w_con at_150 rfl (by decide)
theorem m57_151 (a0 : Int32) (a1 : Int32) : M57 151 ls [.int a1,.int a0,.ref b] (put b pre s A post) Q = M7 0 [.val (.ref b),.val (.int a0),.val (.int a1)] [] (put b pre s A post) (fun v H1 => M57 154 ls (v.toList ++ []) H1 Q):=w_virt (as:=[.int a1,.int a0]) (rest:=[]) (a:=b) at_151 cr57_23 put_o rfl rfl (Nat.le_of_ble_eq_true rfl) (by show 3≤3; omega) rfl
theorem m57_154 : M57 154 ls ((.int v)::st) H Q = M57 155 ls st H Q:=w_x at_154 rfl
theorem m57_155 : M57 155 [l0,l1,l2,l3,l4,l5,.val (.ref r),l7,l8,l9,l10,l11,l12,l13,l14,l15,l16,l17] st H Q = M57 157 [l0,l1,l2,l3,l4,l5,.val (.ref r),l7,l8,l9,l10,l11,l12,l13,l14,l15,l16,l17] (.ref r::st) H Q:=w_x at_155 rfl
theorem m57_157 : M57 157 ls st H Q = M57 159 ls (.int 7::st) H Q:=w_con at_157 rfl (by decide)
theorem m57_159 : M57 159 ls st H Q = M57 160 ls (.int 0::st) H Q:=w_con at_159 rfl (by decide)
theorem m57_160 (a0 : Int32) (a1 : Int32) : M57 160 ls [.int a1,.int a0,.ref b] (put b pre s A post) Q = M7 0 [.val (.ref b),.val (.int a0),.val (.int a1)] [] (put b pre s A post) (fun v H1 => M57 163 ls (v.toList ++ []) H1 Q):=w_virt (as:=[.int a1,.int a0]) (rest:=[]) (a:=b) at_160 cr57_23 put_o rfl rfl (Nat.le_of_ble_eq_true rfl) (by show 3≤3; omega) rfl
theorem m57_163 : M57 163 ls ((.int v)::st) H Q = M57 164 ls st H Q:=w_x at_163 rfl
theorem m57_164 : M57 164 [l0,l1,l2,l3,l4,l5,.val (.ref r),l7,l8,l9,l10,l11,l12,l13,l14,l15,l16,l17] st H Q = M57 166 [l0,l1,l2,l3,l4,l5,.val (.ref r),l7,l8,l9,l10,l11,l12,l13,l14,l15,l16,l17] (.ref r::st) H Q:=w_x at_164 rfl
theorem m57_166 : M57 166 ls st H Q = M57 167 ls (.int 1::st) H Q:=w_con at_166 rfl (by decide)
theorem m57_167 : M57 167 ls st H Q = M57 168 ls (.int 3::st) H Q:=w_con at_167 rfl (by decide)
theorem m57_168 (a0 : Int32) (a1 : Int32) : M57 168 ls [.int a1,.int a0,.ref b] (put b pre s A post) Q = M7 0 [.val (.ref b),.val (.int a0),.val (.int a1)] [] (put b pre s A post) (fun v H1 => M57 171 ls (v.toList ++ []) H1 Q):=w_virt (as:=[.int a1,.int a0]) (rest:=[]) (a:=b) at_168 cr57_23 put_o rfl rfl (Nat.le_of_ble_eq_true rfl) (by show 3≤3; omega) rfl
theorem m57_171 : M57 171 ls ((.int v)::st) H Q = M57 172 ls st H Q:=w_x at_171 rfl
theorem m57_172 : M57 172 [l0,l1,l2,l3,l4,l5,.val (.ref r),l7,l8,l9,l10,l11,l12,l13,l14,l15,l16,l17] st H Q = M57 174 [l0,l1,l2,l3,l4,l5,.val (.ref r),l7,l8,l9,l10,l11,l12,l13,l14,l15,l16,l17] (.ref r::st) H Q:=w_x at_172 rfl
theorem m57_174 : M57 174 ls st H Q = M57 175 ls (.int 0::st) H Q:=w_con at_174 rfl (by decide)
theorem cr57_26 : vR tables_1 dn y57 26 = some (false,y8,prog_1_method_10_code,3,(some .int),1,55):=vR_of (cR_of (by decide +kernel) rc_8 dn_8 dn_57 (sig:=⟨[.int],some .int⟩) (by decide +kernel) (by decide +kernel) rfl rfl) (by decide +kernel) (by decide +kernel) (by decide +kernel)
theorem m57_175 (a0 : Int32) : M57 175 ls [.int a0,.ref b] (put b pre s A post) Q = M8 0 [.val (.ref b),.val (.int a0),.unset] [] (put b pre s A post) (fun v H1 => M57 178 ls (v.toList ++ []) H1 Q):=w_virt (as:=[.int a0]) (rest:=[]) (a:=b) at_175 cr57_26 put_o rfl rfl (Nat.le_of_ble_eq_true rfl) (by show 2≤3; omega) rfl
theorem m57_178 : M57 178 ls (.int x::st) H Q = if x = 0 then M57 183 ls st H Q else M57 181 ls st H Q:=w_if at_178 (z_eq x) rfl
theorem m57_183 : M57 183 [l0,l1,l2,l3,l4,l5,.val (.ref r),l7,l8,l9,l10,l11,l12,l13,l14,l15,l16,l17] st H Q = M57 185 [l0,l1,l2,l3,l4,l5,.val (.ref r),l7,l8,l9,l10,l11,l12,l13,l14,l15,l16,l17] (.ref r::st) H Q:=w_x at_183 rfl
theorem m57_185 : M57 185 ls st H Q = M57 186 ls (.int 0::st) H Q:=w_con at_185 rfl (by decide)
theorem m57_186 : M57 186 ls st H Q = M57 187 ls (.int 1::st) H Q:=w_con at_186 rfl (by decide)
theorem m57_187 : M57 187 ls st H Q = M57 188 ls (.int 0::st) H Q:=w_con at_187 rfl (by decide)
theorem cr57_30 : vR tables_1 dn y57 30 = some (false,y28,prog_1_method_31_code,5,(some .boolean),3,139):=vR_of (cR_of (by decide +kernel) rc_28 dn_28 dn_57 (sig:=⟨[.int,.int,.int],some .boolean⟩) (by decide +kernel) (by decide +kernel) rfl rfl) (by decide +kernel) (by decide +kernel) (by decide +kernel)
theorem m57_188 (a0 : Int32) (a1 : Int32) (a2 : Int32) : M57 188 ls [.int a2,.int a1,.int a0,.ref b] (put b pre s A post) Q = M28 0 [.val (.ref b),.val (.int a0),.val (.int a1),.val (.int a2),.unset] [] (put b pre s A post) (fun v H1 => M57 191 ls (v.toList ++ []) H1 Q):=w_virt (as:=[.int a2,.int a1,.int a0]) (rest:=[]) (a:=b) at_188 cr57_30 put_o rfl rfl (Nat.le_of_ble_eq_true rfl) (by show 4≤5; omega) rfl
theorem m57_191 : M57 191 ls (.int x::st) H Q = if x = 0 then M57 194 ls st H Q else M57 196 ls st H Q:=w_ifN at_191 (z_ne x) rfl
theorem m57_196 : M57 196 [l0,l1,l2,l3,l4,l5,.val (.ref r),l7,l8,l9,l10,l11,l12,l13,l14,l15,l16,l17] st H Q = M57 198 [l0,l1,l2,l3,l4,l5,.val (.ref r),l7,l8,l9,l10,l11,l12,l13,l14,l15,l16,l17] (.ref r::st) H Q:=w_x at_196 rfl
theorem m57_198 : M57 198 ls st H Q = M57 200 ls (.int 10::st) H Q:=w_con at_198 rfl (by decide)
theorem cr57_34 : vR tables_1 dn y57 34 = some (false,y30,prog_1_method_34_code,4,(some .int),1,0):=vR_of (cR_of (by decide +kernel) rc_30 dn_30 dn_57 (sig:=⟨[.int],some .int⟩) (by decide +kernel) (by decide +kernel) rfl rfl) (by decide +kernel) (by decide +kernel) (by decide +kernel)
theorem m57_200 (a0 : Int32) : M57 200 ls [.int a0,.ref b] (put b pre s A post) Q = M30 0 [.val (.ref b),.val (.int a0),.unset,.unset] [] (put b pre s A post) (fun v H1 => M57 203 ls (v.toList ++ []) H1 Q):=w_virt (as:=[.int a0]) (rest:=[]) (a:=b) at_200 cr57_34 put_o rfl rfl (Nat.le_of_ble_eq_true rfl) (by show 2≤4; omega) rfl
theorem m57_203u : M57 203 [l0,l1,l2,l3,l4,l5,l6,.unset,l8,l9,l10,l11,l12,l13,l14,l15,l16,l17] ((.int v)::st) H Q = M57 205 [l0,l1,l2,l3,l4,l5,l6,.val (.int v),l8,l9,l10,l11,l12,l13,l14,l15,l16,l17] st H Q:=w_st (i:=7) (p:=isI) at_203 rfl rfl rfl rfl rfl rfl
theorem m57_205 : M57 205 [.val (.int v),l1,l2,l3,l4,l5,l6,l7,l8,l9,l10,l11,l12,l13,l14,l15,l16,l17] st H Q = M57 206 [.val (.int v),l1,l2,l3,l4,l5,l6,l7,l8,l9,l10,l11,l12,l13,l14,l15,l16,l17] (.int v::st) H Q:=w_x at_205 rfl
theorem m57_206 : M57 206 [l0,l1,l2,l3,.val (.int v),l5,l6,l7,l8,l9,l10,l11,l12,l13,l14,l15,l16,l17] st H Q = M57 208 [l0,l1,l2,l3,.val (.int v),l5,l6,l7,l8,l9,l10,l11,l12,l13,l14,l15,l16,l17] (.int v::st) H Q:=w_x at_206 rfl
theorem m57_208 : M57 208 ls (.int y::.int x::st) H Q = M57 209 ls (.int (x + y)::st) H Q:=w_x at_208 rfl
theorem m57_209u : M57 209 [l0,l1,l2,l3,l4,l5,l6,l7,.unset,l9,l10,l11,l12,l13,l14,l15,l16,l17] ((.int v)::st) H Q = M57 211 [l0,l1,l2,l3,l4,l5,l6,l7,.val (.int v),l9,l10,l11,l12,l13,l14,l15,l16,l17] st H Q:=w_st (i:=8) (p:=isI) at_209 rfl rfl rfl rfl rfl rfl
theorem m57_211 : M57 211 [l0,l1,l2,l3,l4,l5,l6,l7,.val (.int v),l9,l10,l11,l12,l13,l14,l15,l16,l17] st H Q = M57 213 [l0,l1,l2,l3,l4,l5,l6,l7,.val (.int v),l9,l10,l11,l12,l13,l14,l15,l16,l17] (.int v::st) H Q:=w_x at_211 rfl
theorem m57_213 : M57 213 [l0,.val (.int v),l2,l3,l4,l5,l6,l7,l8,l9,l10,l11,l12,l13,l14,l15,l16,l17] st H Q = M57 214 [l0,.val (.int v),l2,l3,l4,l5,l6,l7,l8,l9,l10,l11,l12,l13,l14,l15,l16,l17] (.int v::st) H Q:=w_x at_213 rfl
theorem m57_214 : M57 214 ls (.int y::.int x::st) H Q = if y < x then M57 217 ls st H Q else M57 221 ls st H Q:=w_icmpN at_214 (i_le x y) rfl
theorem m57_217 : M57 217 ls st H Q = M57 218 ls (.int 1::st) H Q:=w_con at_217 rfl (by decide)
theorem m57_218 : M57 218 ls st H Q = M57 222 ls st H Q:=w_x at_218 rfl
theorem m57_221 : M57 221 ls st H Q = M57 222 ls (.int 0::st) H Q:=w_con at_221 rfl (by decide)
theorem m57_222u : M57 222 [l0,l1,l2,l3,l4,l5,l6,l7,l8,.unset,l10,l11,l12,l13,l14,l15,l16,l17] ((.int v)::st) H Q = M57 224 [l0,l1,l2,l3,l4,l5,l6,l7,l8,.val (.int v),l10,l11,l12,l13,l14,l15,l16,l17] st H Q:=w_st (i:=9) (p:=isI) at_222 rfl rfl rfl rfl rfl rfl
theorem m57_224 : M57 224 [l0,l1,.val (.int v),l3,l4,l5,l6,l7,l8,l9,l10,l11,l12,l13,l14,l15,l16,l17] st H Q = M57 225 [l0,l1,.val (.int v),l3,l4,l5,l6,l7,l8,l9,l10,l11,l12,l13,l14,l15,l16,l17] (.int v::st) H Q:=w_x at_224 rfl
theorem m57_225 : M57 225 ls (.int x::st) H Q = if x < 0 then M57 238 ls st H Q else M57 228 ls st H Q:=w_if at_225 (z_lt x) rfl
theorem m57_228 : M57 228 [l0,l1,.val (.int v),l3,l4,l5,l6,l7,l8,l9,l10,l11,l12,l13,l14,l15,l16,l17] st H Q = M57 229 [l0,l1,.val (.int v),l3,l4,l5,l6,l7,l8,l9,l10,l11,l12,l13,l14,l15,l16,l17] (.int v::st) H Q:=w_x at_228 rfl
theorem m57_229 : M57 229 ls st H Q = M57 231 ls (.int 31::st) H Q:=w_con at_229 rfl (by decide)
theorem m57_231 : M57 231 ls (.int y::.int x::st) H Q = if y < x then M57 238 ls st H Q else M57 234 ls st H Q:=w_icmp at_231 (i_gt x y) rfl
theorem m57_234 : M57 234 ls st H Q = M57 235 ls (.int 1::st) H Q:=w_con at_234 rfl (by decide)
theorem m57_235 : M57 235 ls st H Q = M57 239 ls st H Q:=w_x at_235 rfl
theorem m57_238 : M57 238 ls st H Q = M57 239 ls (.int 0::st) H Q:=w_con at_238 rfl (by decide)
theorem m57_239u : M57 239 [l0,l1,l2,l3,l4,l5,l6,l7,l8,l9,.unset,l11,l12,l13,l14,l15,l16,l17] ((.int v)::st) H Q = M57 241 [l0,l1,l2,l3,l4,l5,l6,l7,l8,l9,.val (.int v),l11,l12,l13,l14,l15,l16,l17] st H Q:=w_st (i:=10) (p:=isI) at_239 rfl rfl rfl rfl rfl rfl
theorem m57_241 : M57 241 [l0,l1,l2,l3,l4,l5,l6,.val (.int v),l8,l9,l10,l11,l12,l13,l14,l15,l16,l17] st H Q = M57 243 [l0,l1,l2,l3,l4,l5,l6,.val (.int v),l8,l9,l10,l11,l12,l13,l14,l15,l16,l17] (.int v::st) H Q:=w_x at_241 rfl
theorem m57_243 : M57 243 [l0,l1,l2,l3,l4,l5,l6,l7,l8,.val (.int v),l10,l11,l12,l13,l14,l15,l16,l17] st H Q = M57 245 [l0,l1,l2,l3,l4,l5,l6,l7,l8,.val (.int v),l10,l11,l12,l13,l14,l15,l16,l17] (.int v::st) H Q:=w_x at_243 rfl
theorem m57_245 : M57 245 ls (.int x::st) H Q = if x = 0 then M57 252 ls st H Q else M57 248 ls st H Q:=w_if at_245 (z_eq x) rfl
theorem m57_248 : M57 248 ls st H Q = M57 249 ls (.int 2::st) H Q:=w_con at_248 rfl (by decide)
theorem m57_249 : M57 249 ls st H Q = M57 253 ls st H Q:=w_x at_249 rfl
theorem m57_252 : M57 252 ls st H Q = M57 253 ls (.int 1::st) H Q:=w_con at_252 rfl (by decide)
theorem m57_253 : M57 253 ls (.int y::.int x::st) H Q = if x = y then M57 258 ls st H Q else M57 256 ls st H Q:=w_icmp at_253 (i_eq x y) rfl
theorem m57_258 : M57 258 [l0,l1,l2,l3,l4,l5,.val (.ref r),l7,l8,l9,l10,l11,l12,l13,l14,l15,l16,l17] st H Q = M57 260 [l0,l1,l2,l3,l4,l5,.val (.ref r),l7,l8,l9,l10,l11,l12,l13,l14,l15,l16,l17] (.ref r::st) H Q:=w_x at_258 rfl
theorem m57_260 : M57 260 ls st H Q = M57 261 ls (.int 2::st) H Q:=w_con at_260 rfl (by decide)
theorem cr57_37 : vR tables_1 dn y57 37 = some (false,y45,prog_1_method_58_code,2,(some .int),1,144):=vR_of (cR_of (by decide +kernel) rc_45 dn_45 dn_57 (sig:=⟨[.int],some .int⟩) (by decide +kernel) (by decide +kernel) rfl rfl) (by decide +kernel) (by decide +kernel) (by decide +kernel)
theorem m57_261 (a0 : Int32) : M57 261 ls [.int a0,.ref b] (put b pre s A post) Q = M45 0 [.val (.ref b),.val (.int a0)] [] (put b pre s A post) (fun v H1 => M57 264 ls (v.toList ++ []) H1 Q):=w_virt (as:=[.int a0]) (rest:=[]) (a:=b) at_261 cr57_37 put_o rfl rfl (Nat.le_of_ble_eq_true rfl) (by show 2≤2; omega) rfl
theorem m57_264 : M57 264 [l0,l1,l2,l3,l4,l5,l6,l7,l8,.val (.int v),l10,l11,l12,l13,l14,l15,l16,l17] st H Q = M57 266 [l0,l1,l2,l3,l4,l5,l6,l7,l8,.val (.int v),l10,l11,l12,l13,l14,l15,l16,l17] (.int v::st) H Q:=w_x at_264 rfl
theorem m57_266 : M57 266 ls (.int x::st) H Q = if x = 0 then M57 273 ls st H Q else M57 269 ls st H Q:=w_if at_266 (z_eq x) rfl
theorem m57_269 : M57 269 ls st H Q = M57 270 ls (.int 1::st) H Q:=w_con at_269 rfl (by decide)
theorem m57_270 : M57 270 ls st H Q = M57 274 ls st H Q:=w_x at_270 rfl
theorem m57_273 : M57 273 ls st H Q = M57 274 ls (.int 2::st) H Q:=w_con at_273 rfl (by decide)
theorem m57_274 : M57 274 ls (.int y::.int x::st) H Q = if x = y then M57 279 ls st H Q else M57 277 ls st H Q:=w_icmp at_274 (i_eq x y) rfl
theorem m57_279 : M57 279 [l0,l1,l2,l3,l4,l5,.val (.ref r),l7,l8,l9,l10,l11,l12,l13,l14,l15,l16,l17] st H Q = M57 281 [l0,l1,l2,l3,l4,l5,.val (.ref r),l7,l8,l9,l10,l11,l12,l13,l14,l15,l16,l17] (.ref r::st) H Q:=w_x at_279 rfl
theorem m57_281 : M57 281 ls st H Q = M57 283 ls (.int 8::st) H Q:=w_con at_281 rfl (by decide)
theorem cr57_40 : vR tables_1 dn y57 40 = some (false,y46,prog_1_method_7_code,2,(some .int),1,142):=vR_of (cR_of (by decide +kernel) rc_46 dn_46 dn_57 (sig:=⟨[.int],some .int⟩) (by decide +kernel) (by decide +kernel) rfl rfl) (by decide +kernel) (by decide +kernel) (by decide +kernel)
theorem m57_283 (a0 : Int32) : M57 283 ls [.int a0,.ref b] (put b pre s A post) Q = M46 0 [.val (.ref b),.val (.int a0)] [] (put b pre s A post) (fun v H1 => M57 286 ls (v.toList ++ []) H1 Q):=w_virt (as:=[.int a0]) (rest:=[]) (a:=b) at_283 cr57_40 put_o rfl rfl (Nat.le_of_ble_eq_true rfl) (by show 2≤2; omega) rfl
theorem m57_286 : M57 286 ls st H Q = M57 287 ls (.int 1::st) H Q:=w_con at_286 rfl (by decide)
theorem m57_287 : M57 287 ls (.int y::.int x::st) H Q = if x = y then M57 292 ls st H Q else M57 290 ls st H Q:=w_icmp at_287 (i_eq x y) rfl
theorem m57_292 : M57 292 [l0,l1,l2,l3,l4,l5,.val (.ref r),l7,l8,l9,l10,l11,l12,l13,l14,l15,l16,l17] st H Q = M57 294 [l0,l1,l2,l3,l4,l5,.val (.ref r),l7,l8,l9,l10,l11,l12,l13,l14,l15,l16,l17] (.ref r::st) H Q:=w_x at_292 rfl
theorem m57_294 : M57 294 ls st H Q = M57 295 ls (.int 1::st) H Q:=w_con at_294 rfl (by decide)
theorem m57_295 (a0 : Int32) : M57 295 ls [.int a0,.ref b] (put b pre s A post) Q = M46 0 [.val (.ref b),.val (.int a0)] [] (put b pre s A post) (fun v H1 => M57 298 ls (v.toList ++ []) H1 Q):=w_virt (as:=[.int a0]) (rest:=[]) (a:=b) at_295 cr57_40 put_o rfl rfl (Nat.le_of_ble_eq_true rfl) (by show 2≤2; omega) rfl
theorem m57_298 : M57 298 [l0,l1,l2,l3,l4,l5,l6,l7,.val (.int v),l9,l10,l11,l12,l13,l14,l15,l16,l17] st H Q = M57 300 [l0,l1,l2,l3,l4,l5,l6,l7,.val (.int v),l9,l10,l11,l12,l13,l14,l15,l16,l17] (.int v::st) H Q:=w_x at_298 rfl
theorem m57_300 : M57 300 ls (.int y::.int x::st) H Q = if x = y then M57 305 ls st H Q else M57 303 ls st H Q:=w_icmp at_300 (i_eq x y) rfl
theorem m57_305 : M57 305 [l0,l1,l2,l3,l4,l5,.val (.ref r),l7,l8,l9,l10,l11,l12,l13,l14,l15,l16,l17] st H Q = M57 307 [l0,l1,l2,l3,l4,l5,.val (.ref r),l7,l8,l9,l10,l11,l12,l13,l14,l15,l16,l17] (.ref r::st) H Q:=w_x at_305 rfl
theorem m57_307 : M57 307 ls st H Q = M57 308 ls (.int 0::st) H Q:=w_con at_307 rfl (by decide)
theorem m57_308 : M57 308 ls st H Q = M57 309 ls (.int 3::st) H Q:=w_con at_308 rfl (by decide)
theorem cr57_43 : vR tables_1 dn y57 43 = some (false,y47,prog_1_method_60_code,4,(some .int),2,140):=vR_of (cR_of (by decide +kernel) rc_47 dn_47 dn_57 (sig:=⟨[.int,.int],some .int⟩) (by decide +kernel) (by decide +kernel) rfl rfl) (by decide +kernel) (by decide +kernel) (by decide +kernel)
theorem m57_309 (a0 : Int32) (a1 : Int32) : M57 309 ls [.int a1,.int a0,.ref b] (put b pre s A post) Q = M47 0 [.val (.ref b),.val (.int a0),.val (.int a1),.unset] [] (put b pre s A post) (fun v H1 => M57 312 ls (v.toList ++ []) H1 Q):=w_virt (as:=[.int a1,.int a0]) (rest:=[]) (a:=b) at_309 cr57_43 put_o rfl rfl (Nat.le_of_ble_eq_true rfl) (by show 3≤4; omega) rfl
theorem m57_312 : M57 312 ls st H Q = M57 313 ls (.int 1::st) H Q:=w_con at_312 rfl (by decide)
theorem m57_313 : M57 313 ls (.int y::.int x::st) H Q = if x = y then M57 318 ls st H Q else M57 316 ls st H Q:=w_icmp at_313 (i_eq x y) rfl
theorem m57_318 : M57 318 [l0,l1,l2,l3,l4,l5,.val (.ref r),l7,l8,l9,l10,l11,l12,l13,l14,l15,l16,l17] st H Q = M57 320 [l0,l1,l2,l3,l4,l5,.val (.ref r),l7,l8,l9,l10,l11,l12,l13,l14,l15,l16,l17] (.ref r::st) H Q:=w_x at_318 rfl
theorem m57_320 : M57 320 ls st H Q = M57 322 ls (.int 6::st) H Q:=w_con at_320 rfl (by decide)
theorem m57_322 (a0 : Int32) : M57 322 ls [.int a0,.ref b] (put b pre s A post) Q = M45 0 [.val (.ref b),.val (.int a0)] [] (put b pre s A post) (fun v H1 => M57 325 ls (v.toList ++ []) H1 Q):=w_virt (as:=[.int a0]) (rest:=[]) (a:=b) at_322 cr57_37 put_o rfl rfl (Nat.le_of_ble_eq_true rfl) (by show 2≤2; omega) rfl
theorem m57_325 : M57 325 [l0,l1,l2,l3,l4,l5,l6,l7,l8,.val (.int v),l10,l11,l12,l13,l14,l15,l16,l17] st H Q = M57 327 [l0,l1,l2,l3,l4,l5,l6,l7,l8,.val (.int v),l10,l11,l12,l13,l14,l15,l16,l17] (.int v::st) H Q:=w_x at_325 rfl
theorem m57_327 : M57 327 ls (.int x::st) H Q = if x = 0 then M57 334 ls st H Q else M57 330 ls st H Q:=w_if at_327 (z_eq x) rfl
theorem m57_330 : M57 330 ls st H Q = M57 331 ls (.int 1::st) H Q:=w_con at_330 rfl (by decide)
theorem m57_331 : M57 331 ls st H Q = M57 335 ls st H Q:=w_x at_331 rfl
theorem m57_334 : M57 334 ls st H Q = M57 335 ls (.int 0::st) H Q:=w_con at_334 rfl (by decide)
theorem m57_335 : M57 335 ls (.int y::.int x::st) H Q = if x = y then M57 340 ls st H Q else M57 338 ls st H Q:=w_icmp at_335 (i_eq x y) rfl
theorem m57_340 : M57 340 [l0,l1,l2,l3,l4,l5,l6,l7,l8,.val (.int v),l10,l11,l12,l13,l14,l15,l16,l17] st H Q = M57 342 [l0,l1,l2,l3,l4,l5,l6,l7,l8,.val (.int v),l10,l11,l12,l13,l14,l15,l16,l17] (.int v::st) H Q:=w_x at_340 rfl
theorem m57_342 : M57 342 ls (.int x::st) H Q = if x = 0 then M57 349 ls st H Q else M57 345 ls st H Q:=w_if at_342 (z_eq x) rfl
theorem m57_345 : M57 345 ls st H Q = M57 346 ls (.int 1::st) H Q:=w_con at_345 rfl (by decide)
theorem m57_346 : M57 346 ls st H Q = M57 350 ls st H Q:=w_x at_346 rfl
theorem m57_349 : M57 349 ls st H Q = M57 350 ls (.int 0::st) H Q:=w_con at_349 rfl (by decide)
theorem m57_350u : M57 350 [l0,l1,l2,l3,l4,l5,l6,l7,l8,l9,l10,.unset,l12,l13,l14,l15,l16,l17] ((.int v)::st) H Q = M57 352 [l0,l1,l2,l3,l4,l5,l6,l7,l8,l9,l10,.val (.int v),l12,l13,l14,l15,l16,l17] st H Q:=w_st (i:=11) (p:=isI) at_350 rfl rfl rfl rfl rfl rfl
theorem m57_352 : M57 352 [l0,l1,l2,l3,l4,l5,l6,l7,l8,.val (.int v),l10,l11,l12,l13,l14,l15,l16,l17] st H Q = M57 354 [l0,l1,l2,l3,l4,l5,l6,l7,l8,.val (.int v),l10,l11,l12,l13,l14,l15,l16,l17] (.int v::st) H Q:=w_x at_352 rfl
theorem m57_354 : M57 354 ls (.int x::st) H Q = if x = 0 then M57 361 ls st H Q else M57 357 ls st H Q:=w_if at_354 (z_eq x) rfl
theorem m57_357 : M57 357 ls st H Q = M57 358 ls (.int 3::st) H Q:=w_con at_357 rfl (by decide)
theorem m57_358 : M57 358 ls st H Q = M57 362 ls st H Q:=w_x at_358 rfl
theorem m57_361 : M57 361 ls st H Q = M57 362 ls (.int 0::st) H Q:=w_con at_361 rfl (by decide)
theorem m57_362u : M57 362 [l0,l1,l2,l3,l4,l5,l6,l7,l8,l9,l10,l11,.unset,l13,l14,l15,l16,l17] ((.int v)::st) H Q = M57 364 [l0,l1,l2,l3,l4,l5,l6,l7,l8,l9,l10,l11,.val (.int v),l13,l14,l15,l16,l17] st H Q:=w_st (i:=12) (p:=isI) at_362 rfl rfl rfl rfl rfl rfl
theorem m57_364 : M57 364 [l0,l1,l2,l3,l4,l5,l6,l7,l8,.val (.int v),l10,l11,l12,l13,l14,l15,l16,l17] st H Q = M57 366 [l0,l1,l2,l3,l4,l5,l6,l7,l8,.val (.int v),l10,l11,l12,l13,l14,l15,l16,l17] (.int v::st) H Q:=w_x at_364 rfl
theorem m57_366 : M57 366 ls (.int x::st) H Q = if x = 0 then M57 376 ls st H Q else M57 369 ls st H Q:=w_if at_366 (z_eq x) rfl
theorem m57_369 : M57 369 [l0,l1,l2,l3,l4,l5,l6,l7,.val (.int v),l9,l10,l11,l12,l13,l14,l15,l16,l17] st H Q = M57 371 [l0,l1,l2,l3,l4,l5,l6,l7,.val (.int v),l9,l10,l11,l12,l13,l14,l15,l16,l17] (.int v::st) H Q:=w_x at_369 rfl
theorem m57_371 : M57 371 [l0,.val (.int v),l2,l3,l4,l5,l6,l7,l8,l9,l10,l11,l12,l13,l14,l15,l16,l17] st H Q = M57 372 [l0,.val (.int v),l2,l3,l4,l5,l6,l7,l8,l9,l10,l11,l12,l13,l14,l15,l16,l17] (.int v::st) H Q:=w_x at_371 rfl
theorem m57_372 : M57 372 ls (.int y::.int x::st) H Q = M57 373 ls (.int (x - y)::st) H Q:=w_x at_372 rfl
theorem m57_373 : M57 373 ls st H Q = M57 377 ls st H Q:=w_x at_373 rfl
theorem m57_376 : M57 376 ls st H Q = M57 377 ls (.int 0::st) H Q:=w_con at_376 rfl (by decide)
theorem m57_377u : M57 377 [l0,l1,l2,l3,l4,l5,l6,l7,l8,l9,l10,l11,l12,.unset,l14,l15,l16,l17] ((.int v)::st) H Q = M57 379 [l0,l1,l2,l3,l4,l5,l6,l7,l8,l9,l10,l11,l12,.val (.int v),l14,l15,l16,l17] st H Q:=w_st (i:=13) (p:=isI) at_377 rfl rfl rfl rfl rfl rfl
theorem m57_379 : M57 379 [l0,l1,l2,l3,l4,l5,l6,l7,l8,.val (.int v),l10,l11,l12,l13,l14,l15,l16,l17] st H Q = M57 381 [l0,l1,l2,l3,l4,l5,l6,l7,l8,.val (.int v),l10,l11,l12,l13,l14,l15,l16,l17] (.int v::st) H Q:=w_x at_379 rfl
theorem m57_381 : M57 381 ls (.int x::st) H Q = if x = 0 then M57 395 ls st H Q else M57 384 ls st H Q:=w_if at_381 (z_eq x) rfl
theorem m57_384 : M57 384 [l0,.val (.int v),l2,l3,l4,l5,l6,l7,l8,l9,l10,l11,l12,l13,l14,l15,l16,l17] st H Q = M57 385 [l0,.val (.int v),l2,l3,l4,l5,l6,l7,l8,l9,l10,l11,l12,l13,l14,l15,l16,l17] (.int v::st) H Q:=w_x at_384 rfl
theorem m57_385 : M57 385 ls (.int x::st) H Q = if x = 0 then M57 395 ls st H Q else M57 388 ls st H Q:=w_if at_385 (z_eq x) rfl
theorem m57_388 : M57 388 [l0,l1,l2,l3,l4,l5,l6,l7,.val (.int v),l9,l10,l11,l12,l13,l14,l15,l16,l17] st H Q = M57 390 [l0,l1,l2,l3,l4,l5,l6,l7,.val (.int v),l9,l10,l11,l12,l13,l14,l15,l16,l17] (.int v::st) H Q:=w_x at_388 rfl
theorem m57_390 : M57 390 [l0,.val (.int v),l2,l3,l4,l5,l6,l7,l8,l9,l10,l11,l12,l13,l14,l15,l16,l17] st H Q = M57 391 [l0,.val (.int v),l2,l3,l4,l5,l6,l7,l8,l9,l10,l11,l12,l13,l14,l15,l16,l17] (.int v::st) H Q:=w_x at_390 rfl
theorem m57_391 : M57 391 ls (.int y::.int x::st) H Q = (y ≠ 0∧M57 392 ls (.int (x / y)::st) H Q):=w_div (f:=fun x y => x / y) at_391 (fun _ => rfl) rfl rfl
theorem m57_392 : M57 392 ls st H Q = M57 396 ls st H Q:=w_x at_392 rfl
theorem m57_395 : M57 395 ls st H Q = M57 396 ls (.int 0::st) H Q:=w_con at_395 rfl (by decide)
theorem m57_396u : M57 396 [l0,l1,l2,l3,l4,l5,l6,l7,l8,l9,l10,l11,l12,l13,.unset,l15,l16,l17] ((.int v)::st) H Q = M57 398 [l0,l1,l2,l3,l4,l5,l6,l7,l8,l9,l10,l11,l12,l13,.val (.int v),l15,l16,l17] st H Q:=w_st (i:=14) (p:=isI) at_396 rfl rfl rfl rfl rfl rfl
theorem m57_398 : M57 398 [l0,l1,l2,l3,l4,l5,l6,l7,l8,.val (.int v),l10,l11,l12,l13,l14,l15,l16,l17] st H Q = M57 400 [l0,l1,l2,l3,l4,l5,l6,l7,l8,.val (.int v),l10,l11,l12,l13,l14,l15,l16,l17] (.int v::st) H Q:=w_x at_398 rfl
theorem m57_400 : M57 400 ls (.int x::st) H Q = if x = 0 then M57 412 ls st H Q else M57 403 ls st H Q:=w_if at_400 (z_eq x) rfl
theorem m57_403 : M57 403 [l0,l1,l2,l3,l4,l5,l6,l7,l8,l9,.val (.int v),l11,l12,l13,l14,l15,l16,l17] st H Q = M57 405 [l0,l1,l2,l3,l4,l5,l6,l7,l8,l9,.val (.int v),l11,l12,l13,l14,l15,l16,l17] (.int v::st) H Q:=w_x at_403 rfl
theorem m57_405 : M57 405 ls (.int x::st) H Q = if x = 0 then M57 412 ls st H Q else M57 408 ls st H Q:=w_if at_405 (z_eq x) rfl
theorem m57_408 : M57 408 [l0,l1,l2,.val (.int v),l4,l5,l6,l7,l8,l9,l10,l11,l12,l13,l14,l15,l16,l17] st H Q = M57 409 [l0,l1,l2,.val (.int v),l4,l5,l6,l7,l8,l9,l10,l11,l12,l13,l14,l15,l16,l17] (.int v::st) H Q:=w_x at_408 rfl
theorem m57_409 : M57 409 ls st H Q = M57 413 ls st H Q:=w_x at_409 rfl
theorem m57_412 : M57 412 ls st H Q = M57 413 ls (.int 0::st) H Q:=w_con at_412 rfl (by decide)
theorem m57_413u : M57 413 [l0,l1,l2,l3,l4,l5,l6,l7,l8,l9,l10,l11,l12,l13,l14,.unset,l16,l17] ((.int v)::st) H Q = M57 415 [l0,l1,l2,l3,l4,l5,l6,l7,l8,l9,l10,l11,l12,l13,l14,.val (.int v),l16,l17] st H Q:=w_st (i:=15) (p:=isI) at_413 rfl rfl rfl rfl rfl rfl
theorem m57_415 : M57 415 [l0,l1,l2,l3,l4,l5,l6,l7,l8,.val (.int v),l10,l11,l12,l13,l14,l15,l16,l17] st H Q = M57 417 [l0,l1,l2,l3,l4,l5,l6,l7,l8,.val (.int v),l10,l11,l12,l13,l14,l15,l16,l17] (.int v::st) H Q:=w_x at_415 rfl
theorem m57_417 : M57 417 ls (.int x::st) H Q = if x = 0 then M57 443 ls st H Q else M57 420 ls st H Q:=w_if at_417 (z_eq x) rfl
theorem m57_420 : M57 420 [l0,.val (.int v),l2,l3,l4,l5,l6,l7,l8,l9,l10,l11,l12,l13,l14,l15,l16,l17] st H Q = M57 421 [l0,.val (.int v),l2,l3,l4,l5,l6,l7,l8,l9,l10,l11,l12,l13,l14,l15,l16,l17] (.int v::st) H Q:=w_x at_420 rfl
theorem m57_421 : M57 421 ls (.int x::st) H Q = if x = 0 then M57 424 ls st H Q else M57 428 ls st H Q:=w_ifN at_421 (z_ne x) rfl
theorem m57_424 : M57 424 ls st H Q = M57 425 ls (.int 2::st) H Q:=w_con at_424 rfl (by decide)
theorem m57_425 : M57 425 ls st H Q = M57 429 ls st H Q:=w_x at_425 rfl
theorem m57_428 : M57 428 ls st H Q = M57 429 ls (.int 0::st) H Q:=w_con at_428 rfl (by decide)
theorem m57_429 : M57 429 [l0,l1,l2,l3,l4,l5,l6,l7,l8,l9,.val (.int v),l11,l12,l13,l14,l15,l16,l17] st H Q = M57 431 [l0,l1,l2,l3,l4,l5,l6,l7,l8,l9,.val (.int v),l11,l12,l13,l14,l15,l16,l17] (.int v::st) H Q:=w_x at_429 rfl
theorem m57_431 : M57 431 ls (.int x::st) H Q = if x = 0 then M57 438 ls st H Q else M57 434 ls st H Q:=w_if at_431 (z_eq x) rfl
theorem m57_434 : M57 434 ls st H Q = M57 435 ls (.int 0::st) H Q:=w_con at_434 rfl (by decide)
theorem m57_435 : M57 435 ls st H Q = M57 439 ls st H Q:=w_x at_435 rfl
theorem m57_438 : M57 438 ls st H Q = M57 439 ls (.int 4::st) H Q:=w_con at_438 rfl (by decide)
theorem m57_439 : M57 439 ls (.int y::.int x::st) H Q = M57 440 ls (.int (x ||| y)::st) H Q:=w_x at_439 rfl
theorem m57_440 : M57 440 ls st H Q = M57 444 ls st H Q:=w_x at_440 rfl
theorem m57_443 : M57 443 ls st H Q = M57 444 ls (.int 0::st) H Q:=w_con at_443 rfl (by decide)
theorem m57_444u : M57 444 [l0,l1,l2,l3,l4,l5,l6,l7,l8,l9,l10,l11,l12,l13,l14,l15,.unset,l17] ((.int v)::st) H Q = M57 446 [l0,l1,l2,l3,l4,l5,l6,l7,l8,l9,l10,l11,l12,l13,l14,l15,.val (.int v),l17] st H Q:=w_st (i:=16) (p:=isI) at_444 rfl rfl rfl rfl rfl rfl
theorem m57_446 : M57 446 [l0,l1,l2,l3,l4,l5,l6,l7,l8,.val (.int v),l10,l11,l12,l13,l14,l15,l16,l17] st H Q = M57 448 [l0,l1,l2,l3,l4,l5,l6,l7,l8,.val (.int v),l10,l11,l12,l13,l14,l15,l16,l17] (.int v::st) H Q:=w_x at_446 rfl
theorem m57_448 : M57 448 ls (.int x::st) H Q = if x = 0 then M57 455 ls st H Q else M57 451 ls st H Q:=w_if at_448 (z_eq x) rfl
theorem m57_451 : M57 451 ls st H Q = M57 452 ls (.int 1::st) H Q:=w_con at_451 rfl (by decide)
theorem m57_452 : M57 452 ls st H Q = M57 456 ls st H Q:=w_x at_452 rfl
theorem m57_455 : M57 455 ls st H Q = M57 456 ls (.int 0::st) H Q:=w_con at_455 rfl (by decide)
theorem m57_456u : M57 456 [l0,l1,l2,l3,l4,l5,l6,l7,l8,l9,l10,l11,l12,l13,l14,l15,l16,.unset] ((.int v)::st) H Q = M57 458 [l0,l1,l2,l3,l4,l5,l6,l7,l8,l9,l10,l11,l12,l13,l14,l15,l16,.val (.int v)] st H Q:=w_st (i:=17) (p:=isI) at_456 rfl rfl rfl rfl rfl rfl
theorem m57_458 : M57 458 [l0,l1,l2,l3,l4,l5,.val (.ref r),l7,l8,l9,l10,l11,l12,l13,l14,l15,l16,l17] st H Q = M57 460 [l0,l1,l2,l3,l4,l5,.val (.ref r),l7,l8,l9,l10,l11,l12,l13,l14,l15,l16,l17] (.ref r::st) H Q:=w_x at_458 rfl
theorem m57_460 : M57 460 ls st H Q = M57 461 ls (.int 0::st) H Q:=w_con at_460 rfl (by decide)
theorem m57_461 : M57 461 ls st H Q = M57 462 ls (.int 0::st) H Q:=w_con at_461 rfl (by decide)
theorem cr57_47 : vR tables_1 dn y57 47 = some (false,y49,prog_1_method_61_code,4,(some .int),2,140):=vR_of (cR_of (by decide +kernel) rc_49 dn_49 dn_57 (sig:=⟨[.int,.int],some .int⟩) (by decide +kernel) (by decide +kernel) rfl rfl) (by decide +kernel) (by decide +kernel) (by decide +kernel)
theorem m57_462 (a0 : Int32) (a1 : Int32) : M57 462 ls [.int a1,.int a0,.ref b] (put b pre s A post) Q = M49 0 [.val (.ref b),.val (.int a0),.val (.int a1),.unset] [] (put b pre s A post) (fun v H1 => M57 465 ls (v.toList ++ []) H1 Q):=w_virt (as:=[.int a1,.int a0]) (rest:=[]) (a:=b) at_462 cr57_47 put_o rfl rfl (Nat.le_of_ble_eq_true rfl) (by show 3≤4; omega) rfl
theorem m57_465 : M57 465 [l0,l1,l2,l3,l4,l5,l6,l7,l8,l9,l10,.val (.int v),l12,l13,l14,l15,l16,l17] st H Q = M57 467 [l0,l1,l2,l3,l4,l5,l6,l7,l8,l9,l10,.val (.int v),l12,l13,l14,l15,l16,l17] (.int v::st) H Q:=w_x at_465 rfl
theorem m57_467 : M57 467 ls (.int y::.int x::st) H Q = if x = y then M57 472 ls st H Q else M57 470 ls st H Q:=w_icmp at_467 (i_eq x y) rfl
theorem m57_472 : M57 472 [l0,l1,l2,l3,l4,l5,.val (.ref r),l7,l8,l9,l10,l11,l12,l13,l14,l15,l16,l17] st H Q = M57 474 [l0,l1,l2,l3,l4,l5,.val (.ref r),l7,l8,l9,l10,l11,l12,l13,l14,l15,l16,l17] (.ref r::st) H Q:=w_x at_472 rfl
theorem m57_474 : M57 474 ls st H Q = M57 475 ls (.int 0::st) H Q:=w_con at_474 rfl (by decide)
theorem m57_475 : M57 475 ls st H Q = M57 476 ls (.int 1::st) H Q:=w_con at_475 rfl (by decide)
theorem m57_476 (a0 : Int32) (a1 : Int32) : M57 476 ls [.int a1,.int a0,.ref b] (put b pre s A post) Q = M49 0 [.val (.ref b),.val (.int a0),.val (.int a1),.unset] [] (put b pre s A post) (fun v H1 => M57 479 ls (v.toList ++ []) H1 Q):=w_virt (as:=[.int a1,.int a0]) (rest:=[]) (a:=b) at_476 cr57_47 put_o rfl rfl (Nat.le_of_ble_eq_true rfl) (by show 3≤4; omega) rfl
theorem m57_479 : M57 479 ls (.int x::st) H Q = if x = 0 then M57 484 ls st H Q else M57 482 ls st H Q:=w_if at_479 (z_eq x) rfl
theorem m57_484 : M57 484 [l0,l1,l2,l3,l4,l5,.val (.ref r),l7,l8,l9,l10,l11,l12,l13,l14,l15,l16,l17] st H Q = M57 486 [l0,l1,l2,l3,l4,l5,.val (.ref r),l7,l8,l9,l10,l11,l12,l13,l14,l15,l16,l17] (.ref r::st) H Q:=w_x at_484 rfl
theorem m57_486 : M57 486 ls st H Q = M57 487 ls (.int 0::st) H Q:=w_con at_486 rfl (by decide)
theorem m57_487 : M57 487 ls st H Q = M57 488 ls (.int 2::st) H Q:=w_con at_487 rfl (by decide)
theorem m57_488 (a0 : Int32) (a1 : Int32) : M57 488 ls [.int a1,.int a0,.ref b] (put b pre s A post) Q = M49 0 [.val (.ref b),.val (.int a0),.val (.int a1),.unset] [] (put b pre s A post) (fun v H1 => M57 491 ls (v.toList ++ []) H1 Q):=w_virt (as:=[.int a1,.int a0]) (rest:=[]) (a:=b) at_488 cr57_47 put_o rfl rfl (Nat.le_of_ble_eq_true rfl) (by show 3≤4; omega) rfl
theorem m57_491 : M57 491 [l0,l1,l2,l3,l4,l5,l6,l7,l8,l9,l10,l11,.val (.int v),l13,l14,l15,l16,l17] st H Q = M57 493 [l0,l1,l2,l3,l4,l5,l6,l7,l8,l9,l10,l11,.val (.int v),l13,l14,l15,l16,l17] (.int v::st) H Q:=w_x at_491 rfl
theorem m57_493 : M57 493 ls (.int y::.int x::st) H Q = if x = y then M57 498 ls st H Q else M57 496 ls st H Q:=w_icmp at_493 (i_eq x y) rfl
theorem m57_498 : M57 498 [l0,l1,l2,l3,l4,l5,.val (.ref r),l7,l8,l9,l10,l11,l12,l13,l14,l15,l16,l17] st H Q = M57 500 [l0,l1,l2,l3,l4,l5,.val (.ref r),l7,l8,l9,l10,l11,l12,l13,l14,l15,l16,l17] (.ref r::st) H Q:=w_x at_498 rfl
theorem m57_500 : M57 500 ls st H Q = M57 501 ls (.int 0::st) H Q:=w_con at_500 rfl (by decide)
theorem m57_501 : M57 501 ls st H Q = M57 502 ls (.int 4::st) H Q:=w_con at_501 rfl (by decide)
theorem m57_502 (a0 : Int32) (a1 : Int32) : M57 502 ls [.int a1,.int a0,.ref b] (put b pre s A post) Q = M49 0 [.val (.ref b),.val (.int a0),.val (.int a1),.unset] [] (put b pre s A post) (fun v H1 => M57 505 ls (v.toList ++ []) H1 Q):=w_virt (as:=[.int a1,.int a0]) (rest:=[]) (a:=b) at_502 cr57_47 put_o rfl rfl (Nat.le_of_ble_eq_true rfl) (by show 3≤4; omega) rfl
theorem m57_505 : M57 505 [l0,l1,l2,l3,l4,l5,l6,l7,l8,l9,l10,l11,l12,.val (.int v),l14,l15,l16,l17] st H Q = M57 507 [l0,l1,l2,l3,l4,l5,l6,l7,l8,l9,l10,l11,l12,.val (.int v),l14,l15,l16,l17] (.int v::st) H Q:=w_x at_505 rfl
theorem m57_507 : M57 507 ls (.int y::.int x::st) H Q = if x = y then M57 512 ls st H Q else M57 510 ls st H Q:=w_icmp at_507 (i_eq x y) rfl
theorem m57_512 : M57 512 [l0,l1,l2,l3,l4,l5,.val (.ref r),l7,l8,l9,l10,l11,l12,l13,l14,l15,l16,l17] st H Q = M57 514 [l0,l1,l2,l3,l4,l5,.val (.ref r),l7,l8,l9,l10,l11,l12,l13,l14,l15,l16,l17] (.ref r::st) H Q:=w_x at_512 rfl
theorem m57_514 : M57 514 ls st H Q = M57 515 ls (.int 0::st) H Q:=w_con at_514 rfl (by decide)
theorem m57_515 : M57 515 ls st H Q = M57 516 ls (.int 5::st) H Q:=w_con at_515 rfl (by decide)
theorem m57_516 (a0 : Int32) (a1 : Int32) : M57 516 ls [.int a1,.int a0,.ref b] (put b pre s A post) Q = M49 0 [.val (.ref b),.val (.int a0),.val (.int a1),.unset] [] (put b pre s A post) (fun v H1 => M57 519 ls (v.toList ++ []) H1 Q):=w_virt (as:=[.int a1,.int a0]) (rest:=[]) (a:=b) at_516 cr57_47 put_o rfl rfl (Nat.le_of_ble_eq_true rfl) (by show 3≤4; omega) rfl
theorem m57_519 : M57 519 [l0,l1,l2,l3,l4,l5,l6,l7,l8,l9,l10,l11,l12,l13,.val (.int v),l15,l16,l17] st H Q = M57 521 [l0,l1,l2,l3,l4,l5,l6,l7,l8,l9,l10,l11,l12,l13,.val (.int v),l15,l16,l17] (.int v::st) H Q:=w_x at_519 rfl
theorem m57_521 : M57 521 ls (.int y::.int x::st) H Q = if x = y then M57 526 ls st H Q else M57 524 ls st H Q:=w_icmp at_521 (i_eq x y) rfl
theorem m57_526 : M57 526 [l0,l1,l2,l3,l4,l5,.val (.ref r),l7,l8,l9,l10,l11,l12,l13,l14,l15,l16,l17] st H Q = M57 528 [l0,l1,l2,l3,l4,l5,.val (.ref r),l7,l8,l9,l10,l11,l12,l13,l14,l15,l16,l17] (.ref r::st) H Q:=w_x at_526 rfl
theorem m57_528 : M57 528 ls st H Q = M57 529 ls (.int 0::st) H Q:=w_con at_528 rfl (by decide)
theorem m57_529 : M57 529 ls st H Q = M57 531 ls (.int 6::st) H Q:=w_con at_529 rfl (by decide)
theorem m57_531 (a0 : Int32) (a1 : Int32) : M57 531 ls [.int a1,.int a0,.ref b] (put b pre s A post) Q = M49 0 [.val (.ref b),.val (.int a0),.val (.int a1),.unset] [] (put b pre s A post) (fun v H1 => M57 534 ls (v.toList ++ []) H1 Q):=w_virt (as:=[.int a1,.int a0]) (rest:=[]) (a:=b) at_531 cr57_47 put_o rfl rfl (Nat.le_of_ble_eq_true rfl) (by show 3≤4; omega) rfl
theorem m57_534 : M57 534 [l0,l1,l2,l3,l4,l5,l6,l7,l8,l9,l10,l11,l12,l13,l14,.val (.int v),l16,l17] st H Q = M57 536 [l0,l1,l2,l3,l4,l5,l6,l7,l8,l9,l10,l11,l12,l13,l14,.val (.int v),l16,l17] (.int v::st) H Q:=w_x at_534 rfl
theorem m57_536 : M57 536 ls (.int y::.int x::st) H Q = if x = y then M57 541 ls st H Q else M57 539 ls st H Q:=w_icmp at_536 (i_eq x y) rfl
theorem m57_541 : M57 541 [l0,l1,l2,l3,l4,l5,.val (.ref r),l7,l8,l9,l10,l11,l12,l13,l14,l15,l16,l17] st H Q = M57 543 [l0,l1,l2,l3,l4,l5,.val (.ref r),l7,l8,l9,l10,l11,l12,l13,l14,l15,l16,l17] (.ref r::st) H Q:=w_x at_541 rfl
theorem m57_543 : M57 543 ls st H Q = M57 544 ls (.int 0::st) H Q:=w_con at_543 rfl (by decide)
theorem m57_544 : M57 544 ls st H Q = M57 545 ls (.int 3::st) H Q:=w_con at_544 rfl (by decide)
theorem m57_545 (a0 : Int32) (a1 : Int32) : M57 545 ls [.int a1,.int a0,.ref b] (put b pre s A post) Q = M49 0 [.val (.ref b),.val (.int a0),.val (.int a1),.unset] [] (put b pre s A post) (fun v H1 => M57 548 ls (v.toList ++ []) H1 Q):=w_virt (as:=[.int a1,.int a0]) (rest:=[]) (a:=b) at_545 cr57_47 put_o rfl rfl (Nat.le_of_ble_eq_true rfl) (by show 3≤4; omega) rfl
theorem m57_548 : M57 548 [l0,l1,l2,l3,l4,l5,l6,l7,l8,l9,l10,l11,l12,l13,l14,l15,.val (.int v),l17] st H Q = M57 550 [l0,l1,l2,l3,l4,l5,l6,l7,l8,l9,l10,l11,l12,l13,l14,l15,.val (.int v),l17] (.int v::st) H Q:=w_x at_548 rfl
theorem m57_550 : M57 550 ls (.int y::.int x::st) H Q = if x = y then M57 555 ls st H Q else M57 553 ls st H Q:=w_icmp at_550 (i_eq x y) rfl
theorem m57_555 : M57 555 [l0,l1,l2,l3,l4,l5,.val (.ref r),l7,l8,l9,l10,l11,l12,l13,l14,l15,l16,l17] st H Q = M57 557 [l0,l1,l2,l3,l4,l5,.val (.ref r),l7,l8,l9,l10,l11,l12,l13,l14,l15,l16,l17] (.ref r::st) H Q:=w_x at_555 rfl
theorem m57_557 : M57 557 ls st H Q = M57 558 ls (.int 0::st) H Q:=w_con at_557 rfl (by decide)
theorem m57_558 : M57 558 ls st H Q = M57 560 ls (.int 7::st) H Q:=w_con at_558 rfl (by decide)
theorem m57_560 (a0 : Int32) (a1 : Int32) : M57 560 ls [.int a1,.int a0,.ref b] (put b pre s A post) Q = M49 0 [.val (.ref b),.val (.int a0),.val (.int a1),.unset] [] (put b pre s A post) (fun v H1 => M57 563 ls (v.toList ++ []) H1 Q):=w_virt (as:=[.int a1,.int a0]) (rest:=[]) (a:=b) at_560 cr57_47 put_o rfl rfl (Nat.le_of_ble_eq_true rfl) (by show 3≤4; omega) rfl
theorem m57_563 : M57 563 [l0,l1,l2,l3,l4,l5,l6,l7,l8,l9,l10,l11,l12,l13,l14,l15,l16,.val (.int v)] st H Q = M57 565 [l0,l1,l2,l3,l4,l5,l6,l7,l8,l9,l10,l11,l12,l13,l14,l15,l16,.val (.int v)] (.int v::st) H Q:=w_x at_563 rfl
theorem m57_565 : M57 565 ls (.int y::.int x::st) H Q = if x = y then M57 568 ls st H Q else M57 572 ls st H Q:=w_icmpN at_565 (i_ne x y) rfl
theorem m57_568 : M57 568 ls st H Q = M57 569 ls (.int 1::st) H Q:=w_con at_568 rfl (by decide)
theorem m57_569 : M57 569 ls st H Q = M57 573 ls st H Q:=w_x at_569 rfl
theorem m57_573 : M57 573 ls (.int z::st) H Q = Q (some (.int (nar .boolean z))) H:=w_iretN at_573 rfl (by simp)
theorem pf0_7 : pfR tables_1 y0.cls y0.name 7 = some ("AgentExprDbg", 0,.array .int):=by decide +kernel
theorem m0_4a (hH : H.length = b) {vs : List Value} {r : AHeap} (hj : 0 < vs.length) : M0 4 (.val (.ref b)::[l1,l2,l3,l4]) [] (H ++ (.object "AgentExprDbg", vs)::r) Q = M0 12 (.val (.ref b)::[l1,l2,l3,l4]) [] (H ++ (.object "AgentExprDbg", vs.set 0 (.ref (b + (r.length + 1))))::(r ++ [(.array .int,List.replicate 8 (.int 0))])) Q:=w_iarr (n:=8) rfl hH (Nat.zero_le _) (show decode kb0 4 = .ok (.aload_n 0,1) from by decide +kernel) rfl (show decode kb0 5 = .ok (.bipush 8,2) from by decide +kernel) (fun _ => rfl) (by decide) (show decode kb0 7 = .ok (.newarray .int,2) from by decide +kernel) rfl (by decide +kernel) (by decide) (by decide) rfl (show decode kb0 9 = .ok (.putfield 7,3) from by decide +kernel) pf0_7 hj
theorem pf0_13 : pfR tables_1 y0.cls y0.name 13 = some ("AgentExprDbg", 1,.array .int):=by decide +kernel
theorem m0_12a (hH : H.length = b) {vs : List Value} {r : AHeap} (hj : 1 < vs.length) : M0 12 (.val (.ref b)::[l1,l2,l3,l4]) [] (H ++ (.object "AgentExprDbg", vs)::r) Q = M0 20 (.val (.ref b)::[l1,l2,l3,l4]) [] (H ++ (.object "AgentExprDbg", vs.set 1 (.ref (b + (r.length + 1))))::(r ++ [(.array .int,List.replicate 32 (.int 0))])) Q:=w_iarr (n:=32) rfl hH (Nat.zero_le _) (show decode kb0 12 = .ok (.aload_n 0,1) from by decide +kernel) rfl (show decode kb0 13 = .ok (.bipush 32,2) from by decide +kernel) (fun _ => rfl) (by decide) (show decode kb0 15 = .ok (.newarray .int,2) from by decide +kernel) rfl (by decide +kernel) (by decide) (by decide) rfl (show decode kb0 17 = .ok (.putfield 13,3) from by decide +kernel) pf0_13 hj
theorem pf0_16 : pfR tables_1 y0.cls y0.name 16 = some ("AgentExprDbg", 2,.array .int):=by decide +kernel
theorem m0_20a (hH : H.length = b) {vs : List Value} {r : AHeap} (hj : 2 < vs.length) : M0 20 (.val (.ref b)::[l1,l2,l3,l4]) [] (H ++ (.object "AgentExprDbg", vs)::r) Q = M0 28 (.val (.ref b)::[l1,l2,l3,l4]) [] (H ++ (.object "AgentExprDbg", vs.set 2 (.ref (b + (r.length + 1))))::(r ++ [(.array .int,List.replicate 32 (.int 0))])) Q:=w_iarr (n:=32) rfl hH (Nat.zero_le _) (show decode kb0 20 = .ok (.aload_n 0,1) from by decide +kernel) rfl (show decode kb0 21 = .ok (.bipush 32,2) from by decide +kernel) (fun _ => rfl) (by decide) (show decode kb0 23 = .ok (.newarray .int,2) from by decide +kernel) rfl (by decide +kernel) (by decide) (by decide) rfl (show decode kb0 25 = .ok (.putfield 16,3) from by decide +kernel) pf0_16 hj
theorem pf0_19 : pfR tables_1 y0.cls y0.name 19 = some ("AgentExprDbg", 3,.array .int):=by decide +kernel
theorem m0_28a (hH : H.length = b) {vs : List Value} {r : AHeap} (hj : 3 < vs.length) : M0 28 (.val (.ref b)::[l1,l2,l3,l4]) [] (H ++ (.object "AgentExprDbg", vs)::r) Q = M0 36 (.val (.ref b)::[l1,l2,l3,l4]) [] (H ++ (.object "AgentExprDbg", vs.set 3 (.ref (b + (r.length + 1))))::(r ++ [(.array .int,List.replicate 32 (.int 0))])) Q:=w_iarr (n:=32) rfl hH (Nat.zero_le _) (show decode kb0 28 = .ok (.aload_n 0,1) from by decide +kernel) rfl (show decode kb0 29 = .ok (.bipush 32,2) from by decide +kernel) (fun _ => rfl) (by decide) (show decode kb0 31 = .ok (.newarray .int,2) from by decide +kernel) rfl (by decide +kernel) (by decide) (by decide) rfl (show decode kb0 33 = .ok (.putfield 19,3) from by decide +kernel) pf0_19 hj
theorem pf0_22 : pfR tables_1 y0.cls y0.name 22 = some ("AgentExprDbg", 4,.array .int):=by decide +kernel
theorem m0_36a (hH : H.length = b) {vs : List Value} {r : AHeap} (hj : 4 < vs.length) : M0 36 (.val (.ref b)::[l1,l2,l3,l4]) [] (H ++ (.object "AgentExprDbg", vs)::r) Q = M0 44 (.val (.ref b)::[l1,l2,l3,l4]) [] (H ++ (.object "AgentExprDbg", vs.set 4 (.ref (b + (r.length + 1))))::(r ++ [(.array .int,List.replicate 32 (.int 0))])) Q:=w_iarr (n:=32) rfl hH (Nat.zero_le _) (show decode kb0 36 = .ok (.aload_n 0,1) from by decide +kernel) rfl (show decode kb0 37 = .ok (.bipush 32,2) from by decide +kernel) (fun _ => rfl) (by decide) (show decode kb0 39 = .ok (.newarray .int,2) from by decide +kernel) rfl (by decide +kernel) (by decide) (by decide) rfl (show decode kb0 41 = .ok (.putfield 22,3) from by decide +kernel) pf0_22 hj
theorem pf0_25 : pfR tables_1 y0.cls y0.name 25 = some ("AgentExprDbg", 5,.array .int):=by decide +kernel
theorem m0_44a (hH : H.length = b) {vs : List Value} {r : AHeap} (hj : 5 < vs.length) : M0 44 (.val (.ref b)::[l1,l2,l3,l4]) [] (H ++ (.object "AgentExprDbg", vs)::r) Q = M0 52 (.val (.ref b)::[l1,l2,l3,l4]) [] (H ++ (.object "AgentExprDbg", vs.set 5 (.ref (b + (r.length + 1))))::(r ++ [(.array .int,List.replicate 32 (.int 0))])) Q:=w_iarr (n:=32) rfl hH (Nat.zero_le _) (show decode kb0 44 = .ok (.aload_n 0,1) from by decide +kernel) rfl (show decode kb0 45 = .ok (.bipush 32,2) from by decide +kernel) (fun _ => rfl) (by decide) (show decode kb0 47 = .ok (.newarray .int,2) from by decide +kernel) rfl (by decide +kernel) (by decide) (by decide) rfl (show decode kb0 49 = .ok (.putfield 25,3) from by decide +kernel) pf0_25 hj
theorem pf0_28 : pfR tables_1 y0.cls y0.name 28 = some ("AgentExprDbg", 6,.array .int):=by decide +kernel
theorem m0_52a (hH : H.length = b) {vs : List Value} {r : AHeap} (hj : 6 < vs.length) : M0 52 (.val (.ref b)::[l1,l2,l3,l4]) [] (H ++ (.object "AgentExprDbg", vs)::r) Q = M0 60 (.val (.ref b)::[l1,l2,l3,l4]) [] (H ++ (.object "AgentExprDbg", vs.set 6 (.ref (b + (r.length + 1))))::(r ++ [(.array .int,List.replicate 32 (.int 0))])) Q:=w_iarr (n:=32) rfl hH (Nat.zero_le _) (show decode kb0 52 = .ok (.aload_n 0,1) from by decide +kernel) rfl (show decode kb0 53 = .ok (.bipush 32,2) from by decide +kernel) (fun _ => rfl) (by decide) (show decode kb0 55 = .ok (.newarray .int,2) from by decide +kernel) rfl (by decide +kernel) (by decide) (by decide) rfl (show decode kb0 57 = .ok (.putfield 28,3) from by decide +kernel) pf0_28 hj
theorem pf0_31 : pfR tables_1 y0.cls y0.name 31 = some ("AgentExprDbg", 7,.array .int):=by decide +kernel
theorem m0_60a (hH : H.length = b) {vs : List Value} {r : AHeap} (hj : 7 < vs.length) : M0 60 (.val (.ref b)::[l1,l2,l3,l4]) [] (H ++ (.object "AgentExprDbg", vs)::r) Q = M0 67 (.val (.ref b)::[l1,l2,l3,l4]) [] (H ++ (.object "AgentExprDbg", vs.set 7 (.ref (b + (r.length + 1))))::(r ++ [(.array .int,List.replicate 4 (.int 0))])) Q:=w_iarr (n:=4) rfl hH (Nat.zero_le _) (show decode kb0 60 = .ok (.aload_n 0,1) from by decide +kernel) rfl (show decode kb0 61 = .ok (.iconst 4,1) from by decide +kernel) (fun _ => rfl) (by decide) (show decode kb0 62 = .ok (.newarray .int,2) from by decide +kernel) rfl (by decide +kernel) (by decide) (by decide) rfl (show decode kb0 64 = .ok (.putfield 31,3) from by decide +kernel) pf0_31 hj
theorem pf0_34 : pfR tables_1 y0.cls y0.name 34 = some ("AgentExprDbg", 8,.array .int):=by decide +kernel
theorem m0_67a (hH : H.length = b) {vs : List Value} {r : AHeap} (hj : 8 < vs.length) : M0 67 (.val (.ref b)::[l1,l2,l3,l4]) [] (H ++ (.object "AgentExprDbg", vs)::r) Q = M0 74 (.val (.ref b)::[l1,l2,l3,l4]) [] (H ++ (.object "AgentExprDbg", vs.set 8 (.ref (b + (r.length + 1))))::(r ++ [(.array .int,List.replicate 4 (.int 0))])) Q:=w_iarr (n:=4) rfl hH (Nat.zero_le _) (show decode kb0 67 = .ok (.aload_n 0,1) from by decide +kernel) rfl (show decode kb0 68 = .ok (.iconst 4,1) from by decide +kernel) (fun _ => rfl) (by decide) (show decode kb0 69 = .ok (.newarray .int,2) from by decide +kernel) rfl (by decide +kernel) (by decide) (by decide) rfl (show decode kb0 71 = .ok (.putfield 34,3) from by decide +kernel) pf0_34 hj
theorem pf0_37 : pfR tables_1 y0.cls y0.name 37 = some ("AgentExprDbg", 9,.array .int):=by decide +kernel
theorem m0_74a (hH : H.length = b) {vs : List Value} {r : AHeap} (hj : 9 < vs.length) : M0 74 (.val (.ref b)::[l1,l2,l3,l4]) [] (H ++ (.object "AgentExprDbg", vs)::r) Q = M0 81 (.val (.ref b)::[l1,l2,l3,l4]) [] (H ++ (.object "AgentExprDbg", vs.set 9 (.ref (b + (r.length + 1))))::(r ++ [(.array .int,List.replicate 4 (.int 0))])) Q:=w_iarr (n:=4) rfl hH (Nat.zero_le _) (show decode kb0 74 = .ok (.aload_n 0,1) from by decide +kernel) rfl (show decode kb0 75 = .ok (.iconst 4,1) from by decide +kernel) (fun _ => rfl) (by decide) (show decode kb0 76 = .ok (.newarray .int,2) from by decide +kernel) rfl (by decide +kernel) (by decide) (by decide) rfl (show decode kb0 78 = .ok (.putfield 37,3) from by decide +kernel) pf0_37 hj
theorem pf0_40 : pfR tables_1 y0.cls y0.name 40 = some ("AgentExprDbg", 10,.array .int):=by decide +kernel
theorem m0_81a (hH : H.length = b) {vs : List Value} {r : AHeap} (hj : 10 < vs.length) : M0 81 (.val (.ref b)::[l1,l2,l3,l4]) [] (H ++ (.object "AgentExprDbg", vs)::r) Q = M0 88 (.val (.ref b)::[l1,l2,l3,l4]) [] (H ++ (.object "AgentExprDbg", vs.set 10 (.ref (b + (r.length + 1))))::(r ++ [(.array .int,List.replicate 4 (.int 0))])) Q:=w_iarr (n:=4) rfl hH (Nat.zero_le _) (show decode kb0 81 = .ok (.aload_n 0,1) from by decide +kernel) rfl (show decode kb0 82 = .ok (.iconst 4,1) from by decide +kernel) (fun _ => rfl) (by decide) (show decode kb0 83 = .ok (.newarray .int,2) from by decide +kernel) rfl (by decide +kernel) (by decide) (by decide) rfl (show decode kb0 85 = .ok (.putfield 40,3) from by decide +kernel) pf0_40 hj
theorem pf0_43 : pfR tables_1 y0.cls y0.name 43 = some ("AgentExprDbg", 11,.array .int):=by decide +kernel
theorem m0_88a (hH : H.length = b) {vs : List Value} {r : AHeap} (hj : 11 < vs.length) : M0 88 (.val (.ref b)::[l1,l2,l3,l4]) [] (H ++ (.object "AgentExprDbg", vs)::r) Q = M0 95 (.val (.ref b)::[l1,l2,l3,l4]) [] (H ++ (.object "AgentExprDbg", vs.set 11 (.ref (b + (r.length + 1))))::(r ++ [(.array .int,List.replicate 4 (.int 0))])) Q:=w_iarr (n:=4) rfl hH (Nat.zero_le _) (show decode kb0 88 = .ok (.aload_n 0,1) from by decide +kernel) rfl (show decode kb0 89 = .ok (.iconst 4,1) from by decide +kernel) (fun _ => rfl) (by decide) (show decode kb0 90 = .ok (.newarray .int,2) from by decide +kernel) rfl (by decide +kernel) (by decide) (by decide) rfl (show decode kb0 92 = .ok (.putfield 43,3) from by decide +kernel) pf0_43 hj
theorem pf0_46 : pfR tables_1 y0.cls y0.name 46 = some ("AgentExprDbg", 12,.array .int):=by decide +kernel
theorem m0_95a (hH : H.length = b) {vs : List Value} {r : AHeap} (hj : 12 < vs.length) : M0 95 (.val (.ref b)::[l1,l2,l3,l4]) [] (H ++ (.object "AgentExprDbg", vs)::r) Q = M0 102 (.val (.ref b)::[l1,l2,l3,l4]) [] (H ++ (.object "AgentExprDbg", vs.set 12 (.ref (b + (r.length + 1))))::(r ++ [(.array .int,List.replicate 4 (.int 0))])) Q:=w_iarr (n:=4) rfl hH (Nat.zero_le _) (show decode kb0 95 = .ok (.aload_n 0,1) from by decide +kernel) rfl (show decode kb0 96 = .ok (.iconst 4,1) from by decide +kernel) (fun _ => rfl) (by decide) (show decode kb0 97 = .ok (.newarray .int,2) from by decide +kernel) rfl (by decide +kernel) (by decide) (by decide) rfl (show decode kb0 99 = .ok (.putfield 46,3) from by decide +kernel) pf0_46 hj
theorem pf0_49 : pfR tables_1 y0.cls y0.name 49 = some ("AgentExprDbg", 13,.array .int):=by decide +kernel
theorem m0_102a (hH : H.length = b) {vs : List Value} {r : AHeap} (hj : 13 < vs.length) : M0 102 (.val (.ref b)::[l1,l2,l3,l4]) [] (H ++ (.object "AgentExprDbg", vs)::r) Q = M0 111 (.val (.ref b)::[l1,l2,l3,l4]) [] (H ++ (.object "AgentExprDbg", vs.set 13 (.ref (b + (r.length + 1))))::(r ++ [(.array .int,List.replicate 256 (.int 0))])) Q:=w_iarr (n:=256) rfl hH (Nat.zero_le _) (show decode kb0 102 = .ok (.aload_n 0,1) from by decide +kernel) rfl (show decode kb0 103 = .ok (.sipush 256,3) from by decide +kernel) (fun _ => rfl) (by decide) (show decode kb0 106 = .ok (.newarray .int,2) from by decide +kernel) rfl (by decide +kernel) (by decide) (by decide) rfl (show decode kb0 108 = .ok (.putfield 49,3) from by decide +kernel) pf0_49 hj
theorem pf0_52 : pfR tables_1 y0.cls y0.name 52 = some ("AgentExprDbg", 14,.array .int):=by decide +kernel
theorem m0_111a (hH : H.length = b) {vs : List Value} {r : AHeap} (hj : 14 < vs.length) : M0 111 (.val (.ref b)::[l1,l2,l3,l4]) [] (H ++ (.object "AgentExprDbg", vs)::r) Q = M0 120 (.val (.ref b)::[l1,l2,l3,l4]) [] (H ++ (.object "AgentExprDbg", vs.set 14 (.ref (b + (r.length + 1))))::(r ++ [(.array .int,List.replicate 256 (.int 0))])) Q:=w_iarr (n:=256) rfl hH (Nat.zero_le _) (show decode kb0 111 = .ok (.aload_n 0,1) from by decide +kernel) rfl (show decode kb0 112 = .ok (.sipush 256,3) from by decide +kernel) (fun _ => rfl) (by decide) (show decode kb0 115 = .ok (.newarray .int,2) from by decide +kernel) rfl (by decide +kernel) (by decide) (by decide) rfl (show decode kb0 117 = .ok (.putfield 52,3) from by decide +kernel) pf0_52 hj
theorem pf0_55 : pfR tables_1 y0.cls y0.name 55 = some ("AgentExprDbg", 15,.array .int):=by decide +kernel
theorem m0_120a (hH : H.length = b) {vs : List Value} {r : AHeap} (hj : 15 < vs.length) : M0 120 (.val (.ref b)::[l1,l2,l3,l4]) [] (H ++ (.object "AgentExprDbg", vs)::r) Q = M0 128 (.val (.ref b)::[l1,l2,l3,l4]) [] (H ++ (.object "AgentExprDbg", vs.set 15 (.ref (b + (r.length + 1))))::(r ++ [(.array .int,List.replicate 16 (.int 0))])) Q:=w_iarr (n:=16) rfl hH (Nat.zero_le _) (show decode kb0 120 = .ok (.aload_n 0,1) from by decide +kernel) rfl (show decode kb0 121 = .ok (.bipush 16,2) from by decide +kernel) (fun _ => rfl) (by decide) (show decode kb0 123 = .ok (.newarray .int,2) from by decide +kernel) rfl (by decide +kernel) (by decide) (by decide) rfl (show decode kb0 125 = .ok (.putfield 55,3) from by decide +kernel) pf0_55 hj
theorem pf0_58 : pfR tables_1 y0.cls y0.name 58 = some ("AgentExprDbg", 16,.array .int):=by decide +kernel
theorem m0_128a (hH : H.length = b) {vs : List Value} {r : AHeap} (hj : 16 < vs.length) : M0 128 (.val (.ref b)::[l1,l2,l3,l4]) [] (H ++ (.object "AgentExprDbg", vs)::r) Q = M0 136 (.val (.ref b)::[l1,l2,l3,l4]) [] (H ++ (.object "AgentExprDbg", vs.set 16 (.ref (b + (r.length + 1))))::(r ++ [(.array .int,List.replicate 16 (.int 0))])) Q:=w_iarr (n:=16) rfl hH (Nat.zero_le _) (show decode kb0 128 = .ok (.aload_n 0,1) from by decide +kernel) rfl (show decode kb0 129 = .ok (.bipush 16,2) from by decide +kernel) (fun _ => rfl) (by decide) (show decode kb0 131 = .ok (.newarray .int,2) from by decide +kernel) rfl (by decide +kernel) (by decide) (by decide) rfl (show decode kb0 133 = .ok (.putfield 58,3) from by decide +kernel) pf0_58 hj
theorem pf0_61 : pfR tables_1 y0.cls y0.name 61 = some ("AgentExprDbg", 17,.array .int):=by decide +kernel
theorem m0_136a (hH : H.length = b) {vs : List Value} {r : AHeap} (hj : 17 < vs.length) : M0 136 (.val (.ref b)::[l1,l2,l3,l4]) [] (H ++ (.object "AgentExprDbg", vs)::r) Q = M0 144 (.val (.ref b)::[l1,l2,l3,l4]) [] (H ++ (.object "AgentExprDbg", vs.set 17 (.ref (b + (r.length + 1))))::(r ++ [(.array .int,List.replicate 64 (.int 0))])) Q:=w_iarr (n:=64) rfl hH (Nat.zero_le _) (show decode kb0 136 = .ok (.aload_n 0,1) from by decide +kernel) rfl (show decode kb0 137 = .ok (.bipush 64,2) from by decide +kernel) (fun _ => rfl) (by decide) (show decode kb0 139 = .ok (.newarray .int,2) from by decide +kernel) rfl (by decide +kernel) (by decide) (by decide) rfl (show decode kb0 141 = .ok (.putfield 61,3) from by decide +kernel) pf0_61 hj
theorem pf0_64 : pfR tables_1 y0.cls y0.name 64 = some ("AgentExprDbg", 18,.array .int):=by decide +kernel
theorem m0_144a (hH : H.length = b) {vs : List Value} {r : AHeap} (hj : 18 < vs.length) : M0 144 (.val (.ref b)::[l1,l2,l3,l4]) [] (H ++ (.object "AgentExprDbg", vs)::r) Q = M0 152 (.val (.ref b)::[l1,l2,l3,l4]) [] (H ++ (.object "AgentExprDbg", vs.set 18 (.ref (b + (r.length + 1))))::(r ++ [(.array .int,List.replicate 64 (.int 0))])) Q:=w_iarr (n:=64) rfl hH (Nat.zero_le _) (show decode kb0 144 = .ok (.aload_n 0,1) from by decide +kernel) rfl (show decode kb0 145 = .ok (.bipush 64,2) from by decide +kernel) (fun _ => rfl) (by decide) (show decode kb0 147 = .ok (.newarray .int,2) from by decide +kernel) rfl (by decide +kernel) (by decide) (by decide) rfl (show decode kb0 149 = .ok (.putfield 64,3) from by decide +kernel) pf0_64 hj
theorem pf0_67 : pfR tables_1 y0.cls y0.name 67 = some ("AgentExprDbg", 19,.array .int):=by decide +kernel
theorem m0_152a (hH : H.length = b) {vs : List Value} {r : AHeap} (hj : 19 < vs.length) : M0 152 (.val (.ref b)::[l1,l2,l3,l4]) [] (H ++ (.object "AgentExprDbg", vs)::r) Q = M0 159 (.val (.ref b)::[l1,l2,l3,l4]) [] (H ++ (.object "AgentExprDbg", vs.set 19 (.ref (b + (r.length + 1))))::(r ++ [(.array .int,List.replicate 4 (.int 0))])) Q:=w_iarr (n:=4) rfl hH (Nat.zero_le _) (show decode kb0 152 = .ok (.aload_n 0,1) from by decide +kernel) rfl (show decode kb0 153 = .ok (.iconst 4,1) from by decide +kernel) (fun _ => rfl) (by decide) (show decode kb0 154 = .ok (.newarray .int,2) from by decide +kernel) rfl (by decide +kernel) (by decide) (by decide) rfl (show decode kb0 156 = .ok (.putfield 67,3) from by decide +kernel) pf0_67 hj
theorem pf0_70 : pfR tables_1 y0.cls y0.name 70 = some ("AgentExprDbg", 20,.array .int):=by decide +kernel
theorem m0_159a (hH : H.length = b) {vs : List Value} {r : AHeap} (hj : 20 < vs.length) : M0 159 (.val (.ref b)::[l1,l2,l3,l4]) [] (H ++ (.object "AgentExprDbg", vs)::r) Q = M0 166 (.val (.ref b)::[l1,l2,l3,l4]) [] (H ++ (.object "AgentExprDbg", vs.set 20 (.ref (b + (r.length + 1))))::(r ++ [(.array .int,List.replicate 4 (.int 0))])) Q:=w_iarr (n:=4) rfl hH (Nat.zero_le _) (show decode kb0 159 = .ok (.aload_n 0,1) from by decide +kernel) rfl (show decode kb0 160 = .ok (.iconst 4,1) from by decide +kernel) (fun _ => rfl) (by decide) (show decode kb0 161 = .ok (.newarray .int,2) from by decide +kernel) rfl (by decide +kernel) (by decide) (by decide) rfl (show decode kb0 163 = .ok (.putfield 70,3) from by decide +kernel) pf0_70 hj
theorem pf0_73 : pfR tables_1 y0.cls y0.name 73 = some ("AgentExprDbg", 21,.array .int):=by decide +kernel
theorem m0_166a (hH : H.length = b) {vs : List Value} {r : AHeap} (hj : 21 < vs.length) : M0 166 (.val (.ref b)::[l1,l2,l3,l4]) [] (H ++ (.object "AgentExprDbg", vs)::r) Q = M0 174 (.val (.ref b)::[l1,l2,l3,l4]) [] (H ++ (.object "AgentExprDbg", vs.set 21 (.ref (b + (r.length + 1))))::(r ++ [(.array .int,List.replicate 32 (.int 0))])) Q:=w_iarr (n:=32) rfl hH (Nat.zero_le _) (show decode kb0 166 = .ok (.aload_n 0,1) from by decide +kernel) rfl (show decode kb0 167 = .ok (.bipush 32,2) from by decide +kernel) (fun _ => rfl) (by decide) (show decode kb0 169 = .ok (.newarray .int,2) from by decide +kernel) rfl (by decide +kernel) (by decide) (by decide) rfl (show decode kb0 171 = .ok (.putfield 73,3) from by decide +kernel) pf0_73 hj
theorem pf0_76 : pfR tables_1 y0.cls y0.name 76 = some ("AgentExprDbg", 22,.array .int):=by decide +kernel
theorem m0_174a (hH : H.length = b) {vs : List Value} {r : AHeap} (hj : 22 < vs.length) : M0 174 (.val (.ref b)::[l1,l2,l3,l4]) [] (H ++ (.object "AgentExprDbg", vs)::r) Q = M0 182 (.val (.ref b)::[l1,l2,l3,l4]) [] (H ++ (.object "AgentExprDbg", vs.set 22 (.ref (b + (r.length + 1))))::(r ++ [(.array .int,List.replicate 32 (.int 0))])) Q:=w_iarr (n:=32) rfl hH (Nat.zero_le _) (show decode kb0 174 = .ok (.aload_n 0,1) from by decide +kernel) rfl (show decode kb0 175 = .ok (.bipush 32,2) from by decide +kernel) (fun _ => rfl) (by decide) (show decode kb0 177 = .ok (.newarray .int,2) from by decide +kernel) rfl (by decide +kernel) (by decide) (by decide) rfl (show decode kb0 179 = .ok (.putfield 76,3) from by decide +kernel) pf0_76 hj
theorem pf0_79 : pfR tables_1 y0.cls y0.name 79 = some ("AgentExprDbg", 23,.array .int):=by decide +kernel
theorem m0_182a (hH : H.length = b) {vs : List Value} {r : AHeap} (hj : 23 < vs.length) : M0 182 (.val (.ref b)::[l1,l2,l3,l4]) [] (H ++ (.object "AgentExprDbg", vs)::r) Q = M0 190 (.val (.ref b)::[l1,l2,l3,l4]) [] (H ++ (.object "AgentExprDbg", vs.set 23 (.ref (b + (r.length + 1))))::(r ++ [(.array .int,List.replicate 32 (.int 0))])) Q:=w_iarr (n:=32) rfl hH (Nat.zero_le _) (show decode kb0 182 = .ok (.aload_n 0,1) from by decide +kernel) rfl (show decode kb0 183 = .ok (.bipush 32,2) from by decide +kernel) (fun _ => rfl) (by decide) (show decode kb0 185 = .ok (.newarray .int,2) from by decide +kernel) rfl (by decide +kernel) (by decide) (by decide) rfl (show decode kb0 187 = .ok (.putfield 79,3) from by decide +kernel) pf0_79 hj
theorem pf0_82 : pfR tables_1 y0.cls y0.name 82 = some ("AgentExprDbg", 24,.array .int):=by decide +kernel
theorem m0_190a (hH : H.length = b) {vs : List Value} {r : AHeap} (hj : 24 < vs.length) : M0 190 (.val (.ref b)::[l1,l2,l3,l4]) [] (H ++ (.object "AgentExprDbg", vs)::r) Q = M0 198 (.val (.ref b)::[l1,l2,l3,l4]) [] (H ++ (.object "AgentExprDbg", vs.set 24 (.ref (b + (r.length + 1))))::(r ++ [(.array .int,List.replicate 40 (.int 0))])) Q:=w_iarr (n:=40) rfl hH (Nat.zero_le _) (show decode kb0 190 = .ok (.aload_n 0,1) from by decide +kernel) rfl (show decode kb0 191 = .ok (.bipush 40,2) from by decide +kernel) (fun _ => rfl) (by decide) (show decode kb0 193 = .ok (.newarray .int,2) from by decide +kernel) rfl (by decide +kernel) (by decide) (by decide) rfl (show decode kb0 195 = .ok (.putfield 82,3) from by decide +kernel) pf0_82 hj
theorem pf0_85 : pfR tables_1 y0.cls y0.name 85 = some ("AgentExprDbg", 25,.array .int):=by decide +kernel
theorem m0_198a (hH : H.length = b) {vs : List Value} {r : AHeap} (hj : 25 < vs.length) : M0 198 (.val (.ref b)::[l1,l2,l3,l4]) [] (H ++ (.object "AgentExprDbg", vs)::r) Q = M0 206 (.val (.ref b)::[l1,l2,l3,l4]) [] (H ++ (.object "AgentExprDbg", vs.set 25 (.ref (b + (r.length + 1))))::(r ++ [(.array .int,List.replicate 8 (.int 0))])) Q:=w_iarr (n:=8) rfl hH (Nat.zero_le _) (show decode kb0 198 = .ok (.aload_n 0,1) from by decide +kernel) rfl (show decode kb0 199 = .ok (.bipush 8,2) from by decide +kernel) (fun _ => rfl) (by decide) (show decode kb0 201 = .ok (.newarray .int,2) from by decide +kernel) rfl (by decide +kernel) (by decide) (by decide) rfl (show decode kb0 203 = .ok (.putfield 85,3) from by decide +kernel) pf0_85 hj
theorem pf0_88 : pfR tables_1 y0.cls y0.name 88 = some ("AgentExprDbg", 26,.array .int):=by decide +kernel
theorem m0_206a (hH : H.length = b) {vs : List Value} {r : AHeap} (hj : 26 < vs.length) : M0 206 (.val (.ref b)::[l1,l2,l3,l4]) [] (H ++ (.object "AgentExprDbg", vs)::r) Q = M0 214 (.val (.ref b)::[l1,l2,l3,l4]) [] (H ++ (.object "AgentExprDbg", vs.set 26 (.ref (b + (r.length + 1))))::(r ++ [(.array .int,List.replicate 8 (.int 0))])) Q:=w_iarr (n:=8) rfl hH (Nat.zero_le _) (show decode kb0 206 = .ok (.aload_n 0,1) from by decide +kernel) rfl (show decode kb0 207 = .ok (.bipush 8,2) from by decide +kernel) (fun _ => rfl) (by decide) (show decode kb0 209 = .ok (.newarray .int,2) from by decide +kernel) rfl (by decide +kernel) (by decide) (by decide) rfl (show decode kb0 211 = .ok (.putfield 88,3) from by decide +kernel) pf0_88 hj
theorem pf0_91 : pfR tables_1 y0.cls y0.name 91 = some ("AgentExprDbg", 27,.array .int):=by decide +kernel
theorem m0_214a (hH : H.length = b) {vs : List Value} {r : AHeap} (hj : 27 < vs.length) : M0 214 (.val (.ref b)::[l1,l2,l3,l4]) [] (H ++ (.object "AgentExprDbg", vs)::r) Q = M0 222 (.val (.ref b)::[l1,l2,l3,l4]) [] (H ++ (.object "AgentExprDbg", vs.set 27 (.ref (b + (r.length + 1))))::(r ++ [(.array .int,List.replicate 8 (.int 0))])) Q:=w_iarr (n:=8) rfl hH (Nat.zero_le _) (show decode kb0 214 = .ok (.aload_n 0,1) from by decide +kernel) rfl (show decode kb0 215 = .ok (.bipush 8,2) from by decide +kernel) (fun _ => rfl) (by decide) (show decode kb0 217 = .ok (.newarray .int,2) from by decide +kernel) rfl (by decide +kernel) (by decide) (by decide) rfl (show decode kb0 219 = .ok (.putfield 91,3) from by decide +kernel) pf0_91 hj
theorem pf0_94 : pfR tables_1 y0.cls y0.name 94 = some ("AgentExprDbg", 28,.array .int):=by decide +kernel
theorem m0_222a (hH : H.length = b) {vs : List Value} {r : AHeap} (hj : 28 < vs.length) : M0 222 (.val (.ref b)::[l1,l2,l3,l4]) [] (H ++ (.object "AgentExprDbg", vs)::r) Q = M0 230 (.val (.ref b)::[l1,l2,l3,l4]) [] (H ++ (.object "AgentExprDbg", vs.set 28 (.ref (b + (r.length + 1))))::(r ++ [(.array .int,List.replicate 8 (.int 0))])) Q:=w_iarr (n:=8) rfl hH (Nat.zero_le _) (show decode kb0 222 = .ok (.aload_n 0,1) from by decide +kernel) rfl (show decode kb0 223 = .ok (.bipush 8,2) from by decide +kernel) (fun _ => rfl) (by decide) (show decode kb0 225 = .ok (.newarray .int,2) from by decide +kernel) rfl (by decide +kernel) (by decide) (by decide) rfl (show decode kb0 227 = .ok (.putfield 94,3) from by decide +kernel) pf0_94 hj
theorem pf0_97 : pfR tables_1 y0.cls y0.name 97 = some ("AgentExprDbg", 29,.array .int):=by decide +kernel
theorem m0_230a (hH : H.length = b) {vs : List Value} {r : AHeap} (hj : 29 < vs.length) : M0 230 (.val (.ref b)::[l1,l2,l3,l4]) [] (H ++ (.object "AgentExprDbg", vs)::r) Q = M0 238 (.val (.ref b)::[l1,l2,l3,l4]) [] (H ++ (.object "AgentExprDbg", vs.set 29 (.ref (b + (r.length + 1))))::(r ++ [(.array .int,List.replicate 8 (.int 0))])) Q:=w_iarr (n:=8) rfl hH (Nat.zero_le _) (show decode kb0 230 = .ok (.aload_n 0,1) from by decide +kernel) rfl (show decode kb0 231 = .ok (.bipush 8,2) from by decide +kernel) (fun _ => rfl) (by decide) (show decode kb0 233 = .ok (.newarray .int,2) from by decide +kernel) rfl (by decide +kernel) (by decide) (by decide) rfl (show decode kb0 235 = .ok (.putfield 97,3) from by decide +kernel) pf0_97 hj
theorem pf0_100 : pfR tables_1 y0.cls y0.name 100 = some ("AgentExprDbg", 30,.array .int):=by decide +kernel
theorem m0_238a (hH : H.length = b) {vs : List Value} {r : AHeap} (hj : 30 < vs.length) : M0 238 (.val (.ref b)::[l1,l2,l3,l4]) [] (H ++ (.object "AgentExprDbg", vs)::r) Q = M0 246 (.val (.ref b)::[l1,l2,l3,l4]) [] (H ++ (.object "AgentExprDbg", vs.set 30 (.ref (b + (r.length + 1))))::(r ++ [(.array .int,List.replicate 24 (.int 0))])) Q:=w_iarr (n:=24) rfl hH (Nat.zero_le _) (show decode kb0 238 = .ok (.aload_n 0,1) from by decide +kernel) rfl (show decode kb0 239 = .ok (.bipush 24,2) from by decide +kernel) (fun _ => rfl) (by decide) (show decode kb0 241 = .ok (.newarray .int,2) from by decide +kernel) rfl (by decide +kernel) (by decide) (by decide) rfl (show decode kb0 243 = .ok (.putfield 100,3) from by decide +kernel) pf0_100 hj
theorem pf0_103 : pfR tables_1 y0.cls y0.name 103 = some ("AgentExprDbg", 31,.array .int):=by decide +kernel
theorem m0_246a (hH : H.length = b) {vs : List Value} {r : AHeap} (hj : 31 < vs.length) : M0 246 (.val (.ref b)::[l1,l2,l3,l4]) [] (H ++ (.object "AgentExprDbg", vs)::r) Q = M0 253 (.val (.ref b)::[l1,l2,l3,l4]) [] (H ++ (.object "AgentExprDbg", vs.set 31 (.ref (b + (r.length + 1))))::(r ++ [(.array .int,List.replicate 3 (.int 0))])) Q:=w_iarr (n:=3) rfl hH (Nat.zero_le _) (show decode kb0 246 = .ok (.aload_n 0,1) from by decide +kernel) rfl (show decode kb0 247 = .ok (.iconst 3,1) from by decide +kernel) (fun _ => rfl) (by decide) (show decode kb0 248 = .ok (.newarray .int,2) from by decide +kernel) rfl (by decide +kernel) (by decide) (by decide) rfl (show decode kb0 250 = .ok (.putfield 103,3) from by decide +kernel) pf0_103 hj
def A0 : Nat→List Int32
  | 0 => List.replicate 8 0
  | 1 => List.replicate 32 0
  | 2 => List.replicate 32 0
  | 3 => List.replicate 32 0
  | 4 => List.replicate 32 0
  | 5 => List.replicate 32 0
  | 6 => List.replicate 32 0
  | 7 => List.replicate 4 0
  | 8 => List.replicate 4 0
  | 9 => List.replicate 4 0
  | 10 => List.replicate 4 0
  | 11 => List.replicate 4 0
  | 12 => List.replicate 4 0
  | 13 => List.replicate 256 0
  | 14 => List.replicate 256 0
  | 15 => List.replicate 16 0
  | 16 => List.replicate 16 0
  | 17 => List.replicate 64 0
  | 18 => List.replicate 64 0
  | 19 => List.replicate 4 0
  | 20 => List.replicate 4 0
  | 21 => List.replicate 32 0
  | 22 => List.replicate 32 0
  | 23 => List.replicate 32 0
  | 24 => List.replicate 40 0
  | 25 => List.replicate 8 0
  | 26 => List.replicate 8 0
  | 27 => List.replicate 8 0
  | 28 => List.replicate 8 0
  | 29 => List.replicate 8 0
  | 30 => List.replicate 24 0
  | 31 => List.replicate 3 0
  | _ => []
theorem A0l_0 : (A0 0).length = 8:=List.length_replicate
theorem A0g_0 (j : Int32) : getA (A0 0) j = 0:=getA_rep _ _
theorem A0l_1 : (A0 1).length = 32:=List.length_replicate
theorem A0g_1 (j : Int32) : getA (A0 1) j = 0:=getA_rep _ _
theorem A0l_2 : (A0 2).length = 32:=List.length_replicate
theorem A0g_2 (j : Int32) : getA (A0 2) j = 0:=getA_rep _ _
theorem A0l_3 : (A0 3).length = 32:=List.length_replicate
theorem A0g_3 (j : Int32) : getA (A0 3) j = 0:=getA_rep _ _
theorem A0l_4 : (A0 4).length = 32:=List.length_replicate
theorem A0g_4 (j : Int32) : getA (A0 4) j = 0:=getA_rep _ _
theorem A0l_5 : (A0 5).length = 32:=List.length_replicate
theorem A0g_5 (j : Int32) : getA (A0 5) j = 0:=getA_rep _ _
theorem A0l_6 : (A0 6).length = 32:=List.length_replicate
theorem A0g_6 (j : Int32) : getA (A0 6) j = 0:=getA_rep _ _
theorem A0l_7 : (A0 7).length = 4:=List.length_replicate
theorem A0g_7 (j : Int32) : getA (A0 7) j = 0:=getA_rep _ _
theorem A0l_8 : (A0 8).length = 4:=List.length_replicate
theorem A0g_8 (j : Int32) : getA (A0 8) j = 0:=getA_rep _ _
theorem A0l_9 : (A0 9).length = 4:=List.length_replicate
theorem A0g_9 (j : Int32) : getA (A0 9) j = 0:=getA_rep _ _
theorem A0l_10 : (A0 10).length = 4:=List.length_replicate
theorem A0g_10 (j : Int32) : getA (A0 10) j = 0:=getA_rep _ _
theorem A0l_11 : (A0 11).length = 4:=List.length_replicate
theorem A0g_11 (j : Int32) : getA (A0 11) j = 0:=getA_rep _ _
theorem A0l_12 : (A0 12).length = 4:=List.length_replicate
theorem A0g_12 (j : Int32) : getA (A0 12) j = 0:=getA_rep _ _
theorem A0l_13 : (A0 13).length = 256:=List.length_replicate
theorem A0g_13 (j : Int32) : getA (A0 13) j = 0:=getA_rep _ _
theorem A0l_14 : (A0 14).length = 256:=List.length_replicate
theorem A0g_14 (j : Int32) : getA (A0 14) j = 0:=getA_rep _ _
theorem A0l_15 : (A0 15).length = 16:=List.length_replicate
theorem A0g_15 (j : Int32) : getA (A0 15) j = 0:=getA_rep _ _
theorem A0l_16 : (A0 16).length = 16:=List.length_replicate
theorem A0g_16 (j : Int32) : getA (A0 16) j = 0:=getA_rep _ _
theorem A0l_17 : (A0 17).length = 64:=List.length_replicate
theorem A0g_17 (j : Int32) : getA (A0 17) j = 0:=getA_rep _ _
theorem A0l_18 : (A0 18).length = 64:=List.length_replicate
theorem A0g_18 (j : Int32) : getA (A0 18) j = 0:=getA_rep _ _
theorem A0l_19 : (A0 19).length = 4:=List.length_replicate
theorem A0g_19 (j : Int32) : getA (A0 19) j = 0:=getA_rep _ _
theorem A0l_20 : (A0 20).length = 4:=List.length_replicate
theorem A0g_20 (j : Int32) : getA (A0 20) j = 0:=getA_rep _ _
theorem A0l_21 : (A0 21).length = 32:=List.length_replicate
theorem A0g_21 (j : Int32) : getA (A0 21) j = 0:=getA_rep _ _
theorem A0l_22 : (A0 22).length = 32:=List.length_replicate
theorem A0g_22 (j : Int32) : getA (A0 22) j = 0:=getA_rep _ _
theorem A0l_23 : (A0 23).length = 32:=List.length_replicate
theorem A0g_23 (j : Int32) : getA (A0 23) j = 0:=getA_rep _ _
theorem A0l_24 : (A0 24).length = 40:=List.length_replicate
theorem A0g_24 (j : Int32) : getA (A0 24) j = 0:=getA_rep _ _
theorem A0l_25 : (A0 25).length = 8:=List.length_replicate
theorem A0g_25 (j : Int32) : getA (A0 25) j = 0:=getA_rep _ _
theorem A0l_26 : (A0 26).length = 8:=List.length_replicate
theorem A0g_26 (j : Int32) : getA (A0 26) j = 0:=getA_rep _ _
theorem A0l_27 : (A0 27).length = 8:=List.length_replicate
theorem A0g_27 (j : Int32) : getA (A0 27) j = 0:=getA_rep _ _
theorem A0l_28 : (A0 28).length = 8:=List.length_replicate
theorem A0g_28 (j : Int32) : getA (A0 28) j = 0:=getA_rep _ _
theorem A0l_29 : (A0 29).length = 8:=List.length_replicate
theorem A0g_29 (j : Int32) : getA (A0 29) j = 0:=getA_rep _ _
theorem A0l_30 : (A0 30).length = 24:=List.length_replicate
theorem A0g_30 (j : Int32) : getA (A0 30) j = 0:=getA_rep _ _
theorem A0l_31 : (A0 31).length = 3:=List.length_replicate
theorem A0g_31 (j : Int32) : getA (A0 31) j = 0:=getA_rep _ _
theorem own_ctor0 (hb : pre.length = b) : M0 0 (.val (.ref b)::[l1,l2,l3,l4]) [] (pre ++ [(.object "AgentExprDbg", D0)]) Q = M0 253 (.val (.ref b)::[l1,l2,l3,l4]) [] (put b pre (fun _ => 0) A0 []) Q:=by
  rw [m0_0,m0_1,m0_4a hb (by (repeat rw [List.length_set]); exact Nat.le_of_ble_eq_true rfl),m0_12a hb (by (repeat rw [List.length_set]); exact Nat.le_of_ble_eq_true rfl),m0_20a hb (by (repeat rw [List.length_set]); exact Nat.le_of_ble_eq_true rfl),m0_28a hb (by (repeat rw [List.length_set]); exact Nat.le_of_ble_eq_true rfl),m0_36a hb (by (repeat rw [List.length_set]); exact Nat.le_of_ble_eq_true rfl),m0_44a hb (by (repeat rw [List.length_set]); exact Nat.le_of_ble_eq_true rfl),m0_52a hb (by (repeat rw [List.length_set]); exact Nat.le_of_ble_eq_true rfl),m0_60a hb (by (repeat rw [List.length_set]); exact Nat.le_of_ble_eq_true rfl),m0_67a hb (by (repeat rw [List.length_set]); exact Nat.le_of_ble_eq_true rfl),m0_74a hb (by (repeat rw [List.length_set]); exact Nat.le_of_ble_eq_true rfl),m0_81a hb (by (repeat rw [List.length_set]); exact Nat.le_of_ble_eq_true rfl),m0_88a hb (by (repeat rw [List.length_set]); exact Nat.le_of_ble_eq_true rfl),m0_95a hb (by (repeat rw [List.length_set]); exact Nat.le_of_ble_eq_true rfl),m0_102a hb (by (repeat rw [List.length_set]); exact Nat.le_of_ble_eq_true rfl),m0_111a hb (by (repeat rw [List.length_set]); exact Nat.le_of_ble_eq_true rfl),m0_120a hb (by (repeat rw [List.length_set]); exact Nat.le_of_ble_eq_true rfl),m0_128a hb (by (repeat rw [List.length_set]); exact Nat.le_of_ble_eq_true rfl),m0_136a hb (by (repeat rw [List.length_set]); exact Nat.le_of_ble_eq_true rfl),m0_144a hb (by (repeat rw [List.length_set]); exact Nat.le_of_ble_eq_true rfl),m0_152a hb (by (repeat rw [List.length_set]); exact Nat.le_of_ble_eq_true rfl),m0_159a hb (by (repeat rw [List.length_set]); exact Nat.le_of_ble_eq_true rfl),m0_166a hb (by (repeat rw [List.length_set]); exact Nat.le_of_ble_eq_true rfl),m0_174a hb (by (repeat rw [List.length_set]); exact Nat.le_of_ble_eq_true rfl),m0_182a hb (by (repeat rw [List.length_set]); exact Nat.le_of_ble_eq_true rfl),m0_190a hb (by (repeat rw [List.length_set]); exact Nat.le_of_ble_eq_true rfl),m0_198a hb (by (repeat rw [List.length_set]); exact Nat.le_of_ble_eq_true rfl),m0_206a hb (by (repeat rw [List.length_set]); exact Nat.le_of_ble_eq_true rfl),m0_214a hb (by (repeat rw [List.length_set]); exact Nat.le_of_ble_eq_true rfl),m0_222a hb (by (repeat rw [List.length_set]); exact Nat.le_of_ble_eq_true rfl),m0_230a hb (by (repeat rw [List.length_set]); exact Nat.le_of_ble_eq_true rfl),m0_238a hb (by (repeat rw [List.length_set]); exact Nat.le_of_ble_eq_true rfl),m0_246a hb (by (repeat rw [List.length_set]); exact Nat.le_of_ble_eq_true rfl)]
  simp only [put,pad_eq hb,objv,D0,A0,List.map_replicate,List.set_cons_succ,List.set_cons_zero,List.nil_append,List.cons_append,List.length_cons,List.length_nil,List.append_nil]
end Rules
/- methods: 0=AgentExprDbg.<init>(II)V; 1=AgentExprDbg.setReg(II)Z; 2=AgentExprDbg.inRange(III)Z; 3=AgentExprDbg.setMem(II)Z; 4=AgentExprDbg.setInstr(IIII)Z; 5=AgentExprDbg.validInstr(IIII)Z; 6=AgentExprDbg.validSecond(II)Z; 7=AgentExprDbg.addToken(II)Z; 8=AgentExprDbg.compile(I)I; 9=AgentExprDbg.compileChecked(I)I; 10=AgentExprDbg.parseAll()Z; 11=AgentExprDbg.resetScratch()V; 12=AgentExprDbg.parseOperand(II)Z; 13=AgentExprDbg.pushNeed(I)Z; 14=AgentExprDbg.emit(II)Z; 15=AgentExprDbg.parseOperator(I)Z; 16=AgentExprDbg.isBinary(I)Z; 17=AgentExprDbg.binaryOperator(I)Z; 18=AgentExprDbg.precedence(I)I; 19=AgentExprDbg.reduceWhile(I)Z; 20=AgentExprDbg.pushOp(II)Z; 21=AgentExprDbg.endOfExpr()Z; 22=AgentExprDbg.reduceOne(II)Z; 23=AgentExprDbg.isUnary(I)Z; 24=AgentExprDbg.combineNeed()Z; 25=AgentExprDbg.closeExpr()Z; 26=AgentExprDbg.finishSource()Z; 27=AgentExprDbg.storeAgent(I)V; 28=AgentExprDbg.install(III)Z; 29=AgentExprDbg.slotAt(I)I; 30=AgentExprDbg.run(I)I; 31=AgentExprDbg.runLoop(I)I; 32=AgentExprDbg.oneStep()I; 33=AgentExprDbg.execute(I)V; 34=AgentExprDbg.executeData(III)V; 35=AgentExprDbg.agentHit(II)I; 36=AgentExprDbg.evalExpr(II)I; 37=AgentExprDbg.evalStep(III)I; 38=AgentExprDbg.push(I)V; 39=AgentExprDbg.binaryStep(I)V; 40=AgentExprDbg.pop()I; 41=AgentExprDbg.applyBinary(III)I; 42=AgentExprDbg.compare(III)I; 43=AgentExprDbg.boolInt(Z)I; 44=AgentExprDbg.top()I; 45=AgentExprDbg.status(I)I; 46=AgentExprDbg.getReg(I)I; 47=AgentExprDbg.slotInfo(II)I; 48=AgentExprDbg.statusMore(I)I; 49=AgentExprDbg.frame(II)I; 50=AgentExprDbg.buildFrame(II)V; 51=AgentExprDbg.divide(III)I; 52=AgentExprDbg.unaryStep(I)V; 53=AgentExprDbg.applyUnary(II)I; 54=AgentExprDbg.storeFrame()Z; 55=AgentExprDbg.writePending(I)V; 56=AgentExprDbg.frameValue(II)I; 57=AgentExprDbgL3.law(IIIIII)Z -/
theorem own_gt {a b : Int32} {c : Int32} (h : ¬ a < b) (hb : c < b) : c < a:=by
  rw [lt_i] at *
  omega
theorem own_fin (s' : Nat→Int32) (A' : Nat→List Int32) (hl : ∀ i,(A' i).length = (A0 i).length) : (some (Value.int 1) : Option Value) = some (.int 1)∧(put 0 [] s' A' []).length - ([] : AHeap).length≤80∧tot tables_1 (put 0 [] s' A' []) - tot tables_1 []≤2432:=by
  refine ⟨rfl,?_,?_⟩ <;> simp only [hl,put_len,put_tot,pad_0,tot_nil,List.length_nil,List.length_cons,A0l_0,A0l_1,A0l_2,A0l_3,A0l_4,A0l_5,A0l_6,A0l_7,A0l_8,A0l_9,A0l_10,A0l_11,A0l_12,A0l_13,A0l_14,A0l_15,A0l_16,A0l_17,A0l_18,A0l_19,A0l_20,A0l_21,A0l_22,A0l_23,A0l_24,A0l_25,A0l_26,A0l_27,A0l_28,A0l_29,A0l_30,A0l_31] <;> omega
theorem own_l0 : (0 : Int32) &&& 31 = 0:=by decide +kernel
theorem own_l1 : (0 : Int32) &&& 7 = 0:=by decide +kernel
theorem own_l2 : (0 : Int32) ||| 0 = 0:=by decide +kernel
theorem own_l3 : (0 : Int32) ||| 2 = 2:=by decide +kernel
theorem own_l4 : (0 : Int32) ||| 4 = 4:=by decide +kernel
theorem own_l5 : (1 : Int32) &&& 31 = 1:=by decide +kernel
theorem own_l6 : (1 : Int32) &&& 7 = 1:=by decide +kernel
theorem own_l7 : (1 : Int32) <<< 1 = 2:=by decide +kernel
theorem own_l8 : (1 : Int32) <<< 2 = 4:=by decide +kernel
theorem own_l9 : (2 : Int32) &&& 31 = 2:=by decide +kernel
theorem own_l10 : (2 : Int32) &&& 7 = 2:=by decide +kernel
theorem own_l11 : (2 : Int32) ||| 0 = 2:=by decide +kernel
theorem own_l12 : (2 : Int32) ||| 4 = 6:=by decide +kernel
theorem own_l13 : (3 : Int32) &&& 7 = 3:=by decide +kernel
set_option maxRecDepth 1000000 in
set_option maxHeartbeats 20000000 in
theorem own_r0 (i0 i1 i2 i3 i4 i5 : Int32) (s : Nat→Int32) (h0 : s 0 = 0) (h1 : s 1 = 0) (h2 : s 2 = 0) (h3 : s 3 = 0) (h4 : s 4 = 0) (h5 : s 5 = 0) (h6 : s 6 = 0) (h7 : s 7 = 0) (h8 : s 8 = 0) (h9 : s 9 = 0) (h10 : s 10 = 0) (h11 : s 11 = 0) (h12 : s 12 = 0) (h13 : s 13 = 0) (h14 : s 14 = 0) (h15 : s 15 = 0) (h16 : s 16 = 0) (h19 : s 19 = 0) (h20 : s 20 = 0) (h21 : s 21 = 0) (h22 : s 22 = 0) (h23 : s 23 = 0) (h24 : s 24 = 0) (h25 : s 25 = 0) (h26 : s 26 = 0) (h27 : s 27 = 0) (hc : 0 < s 17) (Q : Option Value→AHeap→Prop) (hQ : ∀ s' A',(∀ i,(A' i).length = (A0 i).length)→Q (some (.int 1)) (put 0 [] s' A' [])) (q1 : i2 < 0) :
    M57 11 [.val (.int i0),.val (.int i1),.val (.int i2),.val (.int i3),.val (.int i4),.val (.int i5),.unset,.unset,.unset,.unset,.unset,.unset,.unset,.unset,.unset,.unset,.unset,.unset] [.ref 0] (put 0 [] s A0 []) Q:=by
  have c:=and_bd i4 7 (by decide)
  have c2 : 0≤(i4 &&& 7).toInt:=c.1
  have c3 : (i4 &&& 7).toInt < 8:=Int.lt_of_le_of_lt c.2 (by decide)
  simp [h0,h1,h2,h3,h4,h5,h6,h7,h8,h9,h10,h11,h12,h13,h14,h15,h16,h19,h20,h21,h22,h23,h24,h25,h26,h27,hc,c2,c3,q1,m0_0,m0_1,m0_4,m0_5,m0_12,m0_13,m0_20,m0_21,m0_28,m0_29,m0_36,m0_37,m0_44,m0_45,m0_52,m0_53,m0_60,m0_61,m0_67,m0_68,m0_74,m0_75,m0_81,m0_82,m0_88,m0_89,m0_95,m0_96,m0_102,m0_103,m0_111,m0_112,m0_120,m0_121,m0_128,m0_129,m0_136,m0_137,m0_144,m0_145,m0_152,m0_153,m0_159,m0_160,m0_166,m0_167,m0_174,m0_175,m0_182,m0_183,m0_190,m0_191,m0_198,m0_199,m0_206,m0_207,m0_214,m0_215,m0_222,m0_223,m0_230,m0_231,m0_238,m0_239,m0_246,m0_247,m0_253,m0_254u,m0_255,m0_256,m0_257,m0_260,m0_261i,m0_262,m0_263,m0_265,m0_268,m0_270i,m0_271,m0_272,m0_273,m0_276,m0_277u,m0_279,m0_281,m0_284,m0_285i,m0_287,m0_289,m0_290,m0_293,m0_294i,m0_296,m0_297,m0_299,m0_302,m0_303,m0_304,m0_307,m0_308,m0_309,m0_312,m0_313,m0_314,m0_317,m1_0,m1_1,m1_2,m1_3,m1_5,m1_8,m1_11,m1_12,m1_15,m1_16,m1_17,m1_18,m1_19,m2_0,m2_1,m2_2,m2_5,m2_6,m2_7,m2_10,m2_11,m2_14,m2_15,m3_0,m3_1,m3_2,m3_3,m3_5,m3_8,m3_11,m3_12,m3_13,m3_14,m3_17,m3_18,m3_19,m3_20,m3_21,m4_0,m4_1,m4_2,m4_3,m4_4,m4_6,m4_9,m4_14,m4_15,m4_41,m4_42,m4_45,m4_46,m4_47,m4_48,m4_49,m4_52,m4_53,m4_54,m4_55,m4_56,m4_59,m4_60,m4_62,m4_63,m4_64,m5_0,m5_1,m5_2,m5_3,m5_5,m5_8,m5_13,m5_14,m5_15,m5_16,m5_18,m5_21,m5_26,m5_27,m5_32,m5_33,m5_34,m5_35,m5_37,m5_40,m5_45,m5_46,m5_47,m5_49,m5_52,m6_0,m6_1,m6_2,m6_5,m6_6,m6_7,m6_10,m6_11,m6_12,m6_15,m6_16,m6_18,m6_30,m6_31,m6_33,m6_45,m6_46,m7_0,m7_1,m7_4,m7_7,m7_8,m7_11,m7_13,m7_18,m7_19,m7_20,m7_21,m7_23,m7_26,m7_31,m7_32,m7_33,m7_36,m7_37,m7_38,m7_39,m7_41,m7_44,m7_49,m7_50,m7_53,m7_54,m7_57,m7_58,m7_59,m7_60,m7_63,m7_64,m7_65,m7_68,m7_69,m7_72,m7_73,m7_76,m7_77,m7_78,m7_81,m7_82,m7_85,m7_86,m7_89,m7_90,m7_91,m7_92,m7_93,m7_96,m7_97,m7_98,m7_101,m7_102,m8_0,m8_1,m8_2,m8_5u,m8_6,m8_7,m8_8,m8_11,m8_12,m9_0,m9_1,m9_2,m9_3,m9_4,m9_7,m9_12,m9_13,m9_16,m9_21,m9_22,m9_25,m9_26,m9_31,m9_32,m9_35,m9_37,m9_42,m9_43,m9_44,m9_47,m9_48,m10_0,m10_1,m10_4,m10_5,m10_8,m10_13,m10_14u,m10_15,m10_16,m10_18,m10_21,m10_22,m10_23,m10_26,m10_29,m10_30,m10_33,m10_34,m10_35u,m10_35i,m10_35r,m10_36,m10_37,m10_40,m10_41,m10_42u,m10_42i,m10_42r,m10_43,m10_44,m10_47,m10_50,m10_51,m10_52,m10_53,m10_56,m10_59,m10_60,m10_61,m10_64u,m10_64i,m10_64r,m10_66,m10_68,m10_73,m10_76,m10_79,m10_80,m10_83,m11_0,m11_1,m11_2,m11_5,m11_6,m11_7,m11_10,m11_11,m11_12,m11_15,m11_16,m11_17,m11_20,m11_21,m11_22,m11_25,m11_26,m11_27,m11_30,m11_31,m11_32,m11_35,m12_0,m12_1,m12_4,m12_5,m12_6,m12_9,m12_10,m12_11,m12_14,m12_19,m12_20,m12_21,m12_22,m12_25,m12_30,m12_31,m12_32,m12_35,m12_36,m12_37,m12_38,m12_39,m12_42,m12_50,m12_51,m12_52,m12_53,m12_56,m13_0,m13_1,m13_4,m13_7,m13_8,m13_11,m13_13,m13_18,m13_19,m13_22,m13_23,m13_26,m13_27,m13_28,m13_29,m13_30,m13_33,m13_34,m13_35,m13_38,m13_39,m14_0,m14_1,m14_4,m14_7,m14_8,m14_11,m14_13,m14_18,m14_19,m14_22,m14_23,m14_26,m14_27,m14_28,m14_29,m14_32,m14_33,m14_36,m14_37,m14_38,m14_39,m14_40,m14_43,m14_44,m14_45,m14_48,m14_49,m15_0,m15_1,m15_2,m15_10,m15_11,m15_12,m15_15,m15_16,m15_19,m15_20,m15_21,m15_22,m15_25,m15_30,m15_31,m15_32,m15_35,m16_0,m16_1,m16_3,m16_6,m16_7,m16_9,m16_12,m16_13,m16_17,m17_0,m17_1,m17_2,m17_5u,m17_6,m17_7,m17_8,m17_11,m17_16,m17_17,m17_20u,m17_21,m17_22,m17_24,m17_27,m17_28,m17_30,m17_44,m17_45,m17_46,m17_47,m17_50,m17_55,m17_56,m17_57,m17_60,m17_61,m18_0,m18_1,m18_3,m18_6,m18_7,m18_9,m18_12,m18_13,m18_15,m18_18,m18_20,m18_21,m18_22,m18_24,m18_27,m18_28,m18_30,m18_33,m18_34,m18_35,m18_36,m18_38,m18_41,m18_42,m18_44,m18_47,m18_48,m18_49,m18_50,m18_52,m18_55,m18_56,m18_58,m18_63,m18_64,m18_66,m18_71,m18_72,m18_74,m18_79,m18_80,m18_81,m18_84,m18_87,m18_89,m19_0,m19_1u,m19_2,m19_3,m19_5,m19_8,m19_9,m19_12,m19_15,m19_16,m19_19,m19_20,m19_23,m19_24,m19_25,m19_26u,m19_26i,m19_26r,m19_27,m19_28,m19_29,m19_34,m19_35,m19_36,m19_39,m19_40,m19_45,m19_46,m19_47,m19_50,m19_51,m19_52,m19_55,m19_56,m19_57,m19_58,m19_61,m19_62,m19_65,m19_66,m19_69,m19_74,m19_77,m19_80,m19_81,m20_0,m20_1,m20_4,m20_7,m20_8,m20_11,m20_13,m20_18,m20_19,m20_22,m20_23,m20_26,m20_27,m20_28,m20_29,m20_32,m20_33,m20_36,m20_37,m20_38,m20_39,m20_40,m20_43,m20_44,m20_45,m20_48,m20_49,m21_0,m21_1,m21_2,m21_5,m21_10,m21_11,m21_14,m21_19,m21_20,m21_23,m21_28,m21_29,m21_30,m21_33,m21_34,m22_0,m22_1,m22_2,m22_5,m22_8,m22_9,m22_12,m22_13,m22_18,m22_19,m22_20,m22_21,m22_24,m22_25,m22_26,m22_29,m22_34,m22_35,m22_37,m22_40,m22_41,m22_43,m22_80,m22_81,m22_82,m22_83,m22_86,m23_0,m23_1,m23_2,m23_5,m23_6,m23_8,m23_11,m23_12,m23_14,m23_17,m23_18,m23_21,m23_22,m24_0,m24_1,m24_4,m24_5,m24_8,m24_9,m24_12,m24_14,m24_19,m24_20,m24_23,m24_24,m24_27,m24_28,m24_29,m24_30u,m24_31,m24_32,m24_35,m24_36,m24_39,m24_40,m24_41,m24_42u,m24_43,m24_44,m24_45,m24_48,m24_49,m24_50,m24_53,m24_54,m24_55,m24_56u,m24_57,m24_58,m24_61,m24_62,m24_65,m24_66,m24_67,m24_68,m24_69,m24_76,m24_77,m24_78,m24_79,m25_0,m25_1,m25_4,m25_5,m25_10,m25_11,m25_14,m25_15,m25_16u,m25_17,m25_18,m25_19,m25_22,m25_25,m25_26,m25_27,m25_30,m25_31,m25_34,m25_37,m25_38,m25_41,m25_42,m25_45,m25_46,m25_49,m25_50,m25_53,m25_54,m25_57,m25_58,m25_59,m25_62,m25_63,m25_66,m25_67,m25_70,m25_71,m25_72,m25_73,m25_76,m25_77,m25_78,m25_81,m25_82,m25_83,m25_86,m25_89,m25_90,m25_91,m25_94,m25_95,m26_0,m26_1,m26_4,m26_9,m26_10,m26_11,m26_14,m26_19,m26_20,m26_23,m26_28,m26_29,m26_32,m27_0,m27_1,m27_2,m27_3,m27_4,m27_7,m27_11,m27_12,m27_14,m27_15u,m27_16,m27_17u,m27_18,m27_19,m27_21,m27_24,m27_25,m27_26,m27_29,m27_32,m27_33,m27_36,m27_37u,m27_37i,m27_37r,m27_39,m27_40,m27_43,m27_44,m27_45,m27_46,m27_48,m27_51,m27_52,m27_55,m27_56,m27_57,m27_60,m27_61,m27_62,m27_63,m27_66,m27_67,m27_68,m27_69,m27_71,m27_74,m27_75,m27_78,m27_79,m27_80,m27_83,m27_84,m27_85,m27_88,m27_91,m27_92i,m27_93,m27_94,m27_95,m27_98,m27_99,m27_100,m27_103,m27_106,m27_107,m27_111u,m27_111i,m27_111r,m27_113,m27_114,m27_117,m27_118,m27_119,m27_120,m27_121,m27_122,m27_124,m27_127,m27_128,m27_131,m27_132,m27_133,m27_137,m27_138,m27_139,m27_142,m27_143,m27_144,m27_145,m27_146,m27_147,m27_149,m27_152,m27_153,m27_156,m27_157,m27_158,m27_162,m27_163,m27_166,m27_169,m27_170,m27_173,m27_174,m27_175,m27_178,m27_179,m27_180,m27_183,m27_184,m27_185,m27_188,m27_189,m27_190,m27_193,m27_194,m27_195,m27_198,m27_199,m27_202,m27_203,m27_204,m27_205,m27_206,m27_209,m27_210,m27_211,m27_212,m28_0,m28_1,m28_2,m28_3,m28_4,m28_7,m28_12,m28_13,m28_16,m28_17,m28_18,m28_23,m28_24,m28_25,m28_26,m28_28,m28_31,m28_36,m28_37,m28_47,m28_48,m28_49,m28_52u,m28_54,m28_56,m28_67,m28_68,m28_71,m28_72,m28_73,m28_74,m28_75,m28_78,m28_79,m28_80,m28_81,m28_82,m28_85,m28_86,m28_87,m28_88,m28_89,m28_92,m28_93,m28_94,m28_95,m28_96,m29_0,m29_1u,m29_2,m29_3,m29_4,m29_7,m29_8,m29_11,m29_12,m29_13,m29_14,m29_17,m29_18,m29_21,m29_22,m29_23,m29_24,m29_27,m29_28,m29_29,m29_32,m29_35,m29_36,m30_0,m30_1,m30_2,m30_7,m30_8,m30_11,m30_20,m30_21u,m30_22,m30_23,m30_24,m30_27,m30_28,m30_29,m30_32,m30_33u,m30_34,m30_35,m30_38,m30_41,m30_42,m30_43,m30_46i,m30_47,m30_48,m30_49,m30_52,m30_53,m31_0,m31_1u,m31_2,m31_3,m31_4,m31_7,m31_8,m31_11,m31_14,m31_15,m31_18u,m31_18i,m31_18r,m31_19,m31_20,m31_23,m31_24,m31_25,m31_28,m32_0,m32_1,m32_4,m32_6,m32_7u,m32_8,m32_9,m32_12,m32_23,m32_24,m32_25,m32_28u,m32_29,m32_30,m32_33,m32_34,m32_35,m32_36,m32_39u,m32_40,m32_41,m32_44,m32_45,m32_46,m32_47,m32_48,m32_51,m32_52,m32_53,m32_56,m32_57,m32_58,m32_61,m32_62,m32_65,m32_68,m32_69,m32_70,m32_71,m33_0,m33_1,m33_3,m33_4u,m33_5,m33_6,m33_9,m33_10,m33_11u,m33_12,m33_13,m33_16,m33_17,m33_18,m33_20,m33_21u,m33_23,m33_24,m33_27,m33_28,m33_29u,m33_31,m33_32,m33_35,m33_36,m33_37,m33_40,m33_41,m33_42,m33_45,m33_46,m33_47,m33_49,m33_81,m33_82,m33_83,m33_85,m33_87,m33_90,m33_91,m33_92,m33_93,m33_94,m33_96,m33_97,m33_100,m34_0,m34_1,m34_4,m34_5,m34_7,m34_8,m34_9u,m34_11,m34_12,m34_13,m34_26,m34_27,m34_28,m34_49,m34_50,m34_51,m34_72,m34_73,m34_74,m34_77,m34_78,m34_81,m34_82,m34_83,m34_86,m34_87,m34_88,m34_89,m34_90,m34_91,m34_140,m35_0,m35_1,m35_2,m35_3,m35_4,m35_7,m35_12,m35_13,m35_16,m35_17,m35_18,m35_21,m35_22,m35_23,m35_24,m35_25,m35_26,m35_27,m35_28,m35_29,m35_32u,m35_33,m35_34,m35_37,m35_55,m35_56,m35_59,m35_60,m35_61,m35_62,m35_63,m35_64,m35_67,m35_68,m35_71,m35_81,m35_82,m35_85,m35_86,m35_87,m35_90,m35_91,m35_92,m35_95,m35_96,m36_0,m36_1,m36_2,m36_5,m36_6,m36_7,m36_10,m36_11,m36_12,m36_13,m36_14,m36_17,m36_20,m36_21,m36_22,m36_23,m36_24,m36_27,m36_32,m36_33,m36_35,m36_36u,m36_37,m36_38,m36_41,m36_42,m36_43,m36_44,m36_45,m36_46,m36_47u,m36_49,m36_50,m36_53,m36_54,m36_55,m36_56,m36_57,m36_58,m36_59u,m36_61,m36_63,m36_65,m36_72,m36_73u,m36_75,m36_77,m36_79,m36_82,m36_84,m36_87,m36_89,m36_91,m36_94,m36_95,m36_96,m36_99,m36_100,m36_102,m36_103,m36_104,m36_105,m36_108,m36_109,m36_111,m36_112,m36_113,m36_115,m36_118i,m36_120,m36_121,m36_124,m36_127,m36_128,m36_129,m36_132,m36_135,m36_136,m36_139,m37_0,m37_1,m37_13,m37_14,m37_15,m37_18,m37_19,m37_20,m37_23,m37_24,m37_26,m37_27,m37_28,m37_31,m37_32,m37_33,m37_34,m37_35,m37_36,m37_38,m37_41,m37_42,m37_44,m37_55,m37_56,m37_58,m37_85,m37_86,m37_87,m37_90,m37_93,m37_94,m37_95,m37_98,m37_99,m37_100,m37_101,m37_102,m37_103,m37_104,m37_107,m37_108,m37_109,m37_110,m38_0,m38_1,m38_4,m38_7,m38_8,m38_11,m38_13,m38_16,m38_17,m38_20,m38_21,m38_24,m38_25,m38_26,m38_27,m38_28,m38_31,m38_32,m38_33,m38_36,m39_0,m39_1,m39_4u,m39_5,m39_6,m39_9u,m39_10,m39_11,m39_12,m39_13,m39_14,m39_17u,m39_19,m39_20,m39_22,m39_25,m40_0,m40_1,m40_4,m40_7,m40_8,m40_11,m40_13,m40_16,m40_17,m40_18,m40_21,m40_22,m40_23,m40_26,m40_27,m40_30,m40_31,m40_34,m40_35,m41_0,m41_1,m41_3,m41_10,m41_11,m41_13,m41_20,m41_21,m41_23,m41_26,m41_27,m41_28,m41_29,m41_30,m41_31,m41_33,m41_36,m41_37,m41_39,m41_42,m41_43,m41_44,m41_45,m41_46,m41_49,m41_50,m41_51,m41_52,m41_53,m41_54,m41_57,m42_0,m42_1,m42_3,m42_21,m42_22,m42_24,m42_42,m42_43,m42_45,m42_48,m42_49,m42_50,m42_51,m42_54,m42_55,m42_58,m42_59,m42_62,m43_0,m43_1,m43_4,m43_5,m43_8,m43_9,m44_0,m44_1,m44_4,m44_7,m44_8,m44_11,m44_13,m44_16,m44_17,m44_20,m44_21,m44_24,m44_25,m44_26,m44_27,m45_0,m45_1,m45_17,m45_18,m45_19,m45_35,m45_36,m45_37,m45_40,m45_41,m45_44,m45_45,m45_46,m45_47,m45_55,m45_56,m45_57,m45_65,m45_66,m45_67,m45_75,m45_76,m45_77,m45_80,m46_0,m46_1,m46_2,m46_3,m46_5,m46_8,m46_11,m46_12,m46_15,m46_16,m46_17,m46_18,m46_19,m46_21,m46_24,m46_25,m46_28,m47_0,m47_1,m47_2,m47_3,m47_4,m47_7,m47_12,m47_13,m47_16,m47_17,m47_18,m47_19,m47_22,m47_23,m47_27u,m47_28,m47_29,m47_39,m47_40,m47_41,m47_59,m47_60,m47_61,m47_79,m47_80,m47_81,m47_84,m47_85,m47_88,m47_89,m47_90,m48_0,m48_1,m48_3,m48_6,m48_7,m48_10,m49_0,m49_1,m49_4,m49_5,m49_6,m49_9,m49_12,m49_13,m49_14,m49_15,m49_18,m49_19,m49_20,m49_22,m49_23u,m49_24,m49_25,m49_28,m49_29,m49_32,m49_33,m49_34,m49_35,m49_36,m49_37,m49_40,m49_41,m49_44,m49_45,m49_46,m49_47,m49_48,m49_49,m49_52,m49_53,m49_56,m49_57,m49_58,m49_59,m49_60,m49_61,m49_64,m49_65,m49_68,m49_69,m49_70,m49_71,m49_72,m49_74,m49_77,m49_78,m49_81,m49_82,m49_83,m49_84,m49_85,m49_86,m49_87,m49_90,m50_0,m50_1,m50_2,m50_5,m50_6,m50_7,m50_10,m50_11,m50_14,m50_15,m50_16u,m50_17,m50_18,m50_19,m50_22,m50_23,m50_24,m50_27,m50_28,m50_29,m50_32,m50_33,m50_34,m50_35,m50_39,m50_42,m50_43,m50_44,m50_47,m50_48,m50_49,m50_52,m50_55,m50_56u,m50_58,m50_60,m50_61,m50_64,m50_65,m50_68,m50_70,m50_71,m50_72,m50_75,m50_78,m50_79i,m50_81,m50_83,m50_84,m50_87,m50_89,m50_90,m50_93,m50_94,m50_95,m50_97,m50_100u,m50_100i,m50_100r,m50_102,m50_103,m50_106,m50_109,m50_110,m50_111,m50_114,m50_115,m50_117,m50_118,m50_119,m50_120,m50_121,m50_124,m50_127,m50_128,m50_131,m50_133,m50_134,m50_135,m50_137,m50_138,m50_141,m50_144,m51_0,m51_1,m51_4,m51_5,m51_6,m51_9,m51_10,m51_11,m51_12,m51_14,m51_17,m51_18,m51_19,m51_20,m52_0,m52_1,m52_4u,m52_5,m52_6,m52_7,m52_8,m52_11u,m52_12,m52_13,m52_14,m52_17,m53_0,m53_1,m53_2,m53_9,m53_10,m53_12,m53_25,m53_26,m53_27,m53_28,m53_30,m53_33,m53_36,m53_37,m53_40,m53_41,m53_42,m53_43,m53_44,m53_45,m53_48,m53_49,m54_0,m54_1,m54_4,m54_5,m54_8,m54_11,m54_12,m54_13,m54_16,m54_17,m54_20,m54_21,m54_24,m54_25,m54_26,m54_29,m54_30,m54_31,m54_34,m54_35,m55_0,m55_1,m55_3,m55_4u,m55_5,m55_6,m55_9,m55_10,m55_11,m55_14,m55_15,m55_16,m55_19,m55_20,m55_21,m55_24,m55_25,m55_26,m55_29,m55_30,m55_31,m55_34,m55_35,m55_36,m55_39,m55_40,m55_41,m55_44,m55_45,m55_46,m55_49,m55_50,m55_51,m55_54,m55_55,m55_56u,m55_57,m55_58,m55_59,m55_62,m55_63,m55_66,m55_67,m55_68,m55_69,m55_70,m55_71,m55_72,m55_75,m55_76,m55_77,m55_78,m55_81,m55_84,m56_0,m56_1,m56_2,m56_5,m56_6,m56_8,m56_13,m56_14,m56_15,m56_16u,m56_17,m56_18,m56_19,m56_22,m56_23,m56_24,m56_29,m56_30,m56_33,m56_34,m56_35,m56_36,m56_37,m56_38,m56_39,m57_0,m57_3,m57_4,m57_6,m57_8,m57_11u,m57_13,m57_15,m57_16,m57_17,m57_20,m57_21,m57_23,m57_24,m57_25,m57_28,m57_29,m57_31,m57_32,m57_33,m57_36,m57_37,m57_39,m57_40,m57_41,m57_44,m57_45,m57_47,m57_48,m57_49,m57_50,m57_52,m57_55,m57_56,m57_58,m57_59,m57_60,m57_63,m57_64,m57_66,m57_68,m57_69,m57_72,m57_73,m57_75,m57_76,m57_77,m57_80,m57_81,m57_83,m57_84,m57_85,m57_88,m57_89,m57_91,m57_92,m57_93,m57_96,m57_97,m57_99,m57_101,m57_102,m57_105,m57_106,m57_108,m57_109,m57_110,m57_113,m57_114,m57_116,m57_117,m57_118,m57_121,m57_122,m57_124,m57_125,m57_126,m57_129,m57_130,m57_132,m57_134,m57_135,m57_138,m57_139,m57_141,m57_142,m57_143,m57_146,m57_147,m57_149,m57_150,m57_151,m57_154,m57_155,m57_157,m57_159,m57_160,m57_163,m57_164,m57_166,m57_167,m57_168,m57_171,m57_172,m57_174,m57_175,m57_178,m57_183,m57_185,m57_186,m57_187,m57_188,m57_191,m57_196,m57_198,m57_203u,m57_205,m57_206,m57_208,m57_209u,m57_211,m57_213,m57_214,m57_217,m57_218,m57_221,m57_222u,m57_224,m57_225,m57_228,m57_229,m57_231,m57_234,m57_235,m57_238,m57_239u,m57_241,m57_243,m57_245,m57_248,m57_249,m57_252,m57_253,m57_258,m57_260,m57_261,m57_264,m57_266,m57_269,m57_270,m57_273,m57_274,m57_279,m57_281,m57_283,m57_286,m57_287,m57_292,m57_294,m57_295,m57_298,m57_300,m57_305,m57_307,m57_308,m57_309,m57_312,m57_313,m57_318,m57_320,m57_322,m57_325,m57_327,m57_330,m57_331,m57_334,m57_335,m57_340,m57_342,m57_345,m57_346,m57_349,m57_350u,m57_352,m57_354,m57_357,m57_358,m57_361,m57_362u,m57_364,m57_366,m57_369,m57_371,m57_372,m57_373,m57_376,m57_377u,m57_379,m57_381,m57_384,m57_385,m57_388,m57_390,m57_391,m57_392,m57_395,m57_396u,m57_398,m57_400,m57_403,m57_405,m57_408,m57_409,m57_412,m57_413u,m57_415,m57_417,m57_420,m57_421,m57_424,m57_425,m57_428,m57_429,m57_431,m57_434,m57_435,m57_438,m57_439,m57_440,m57_443,m57_444u,m57_446,m57_448,m57_451,m57_452,m57_455,m57_456u,m57_458,m57_460,m57_461,m57_462,m57_465,m57_467,m57_472,m57_474,m57_475,m57_476,m57_479,m57_484,m57_486,m57_487,m57_488,m57_491,m57_493,m57_498,m57_500,m57_501,m57_502,m57_505,m57_507,m57_512,m57_514,m57_515,m57_516,m57_519,m57_521,m57_526,m57_528,m57_529,m57_531,m57_534,m57_536,m57_541,m57_543,m57_544,m57_545,m57_548,m57_550,m57_555,m57_557,m57_558,m57_560,m57_563,m57_565,m57_568,m57_569,m57_573,nb0,nb1,ou_a,Option.toList_some,Option.toList_none,List.nil_append,List.cons_append,ou_same,ou_comm,setA_same,setA_comm,own_l0,own_l1,own_l2,own_l3,own_l4,own_l5,own_l6,own_l7,own_l8,own_l9,own_l10,own_l11,own_l12,own_l13,getA_set2,setA_len,inB_iff,A0g_0,A0g_1,A0g_2,A0g_3,A0g_4,A0g_5,A0g_6,A0g_7,A0g_8,A0g_9,A0g_10,A0g_11,A0g_12,A0g_13,A0g_14,A0g_15,A0g_16,A0g_17,A0g_18,A0g_19,A0g_20,A0g_21,A0g_22,A0g_23,A0g_24,A0g_25,A0g_26,A0g_27,A0g_28,A0g_29,A0g_30,A0g_31,A0l_0,A0l_1,A0l_2,A0l_3,A0l_4,A0l_5,A0l_6,A0l_7,A0l_8,A0l_9,A0l_10,A0l_11,A0l_12,A0l_13,A0l_14,A0l_15,A0l_16,A0l_17,A0l_18,A0l_19,A0l_20,A0l_21,A0l_22,A0l_23,A0l_24,A0l_25,A0l_26,A0l_27,A0l_28,A0l_29,A0l_30,A0l_31]
  by_cases g : i1 < i0 + i4
  · by_cases z : i1 = 0
    · subst z
      simp [h0,h1,h2,h3,h4,h5,h6,h7,h8,h9,h10,h11,h12,h13,h14,h15,h16,h19,h20,h21,h22,h23,h24,h25,h26,h27,hc,c2,c3,g,q1,m0_0,m0_1,m0_4,m0_5,m0_12,m0_13,m0_20,m0_21,m0_28,m0_29,m0_36,m0_37,m0_44,m0_45,m0_52,m0_53,m0_60,m0_61,m0_67,m0_68,m0_74,m0_75,m0_81,m0_82,m0_88,m0_89,m0_95,m0_96,m0_102,m0_103,m0_111,m0_112,m0_120,m0_121,m0_128,m0_129,m0_136,m0_137,m0_144,m0_145,m0_152,m0_153,m0_159,m0_160,m0_166,m0_167,m0_174,m0_175,m0_182,m0_183,m0_190,m0_191,m0_198,m0_199,m0_206,m0_207,m0_214,m0_215,m0_222,m0_223,m0_230,m0_231,m0_238,m0_239,m0_246,m0_247,m0_253,m0_254u,m0_255,m0_256,m0_257,m0_260,m0_261i,m0_262,m0_263,m0_265,m0_268,m0_270i,m0_271,m0_272,m0_273,m0_276,m0_277u,m0_279,m0_281,m0_284,m0_285i,m0_287,m0_289,m0_290,m0_293,m0_294i,m0_296,m0_297,m0_299,m0_302,m0_303,m0_304,m0_307,m0_308,m0_309,m0_312,m0_313,m0_314,m0_317,m1_0,m1_1,m1_2,m1_3,m1_5,m1_8,m1_11,m1_12,m1_15,m1_16,m1_17,m1_18,m1_19,m2_0,m2_1,m2_2,m2_5,m2_6,m2_7,m2_10,m2_11,m2_14,m2_15,m3_0,m3_1,m3_2,m3_3,m3_5,m3_8,m3_11,m3_12,m3_13,m3_14,m3_17,m3_18,m3_19,m3_20,m3_21,m4_0,m4_1,m4_2,m4_3,m4_4,m4_6,m4_9,m4_14,m4_15,m4_41,m4_42,m4_45,m4_46,m4_47,m4_48,m4_49,m4_52,m4_53,m4_54,m4_55,m4_56,m4_59,m4_60,m4_62,m4_63,m4_64,m5_0,m5_1,m5_2,m5_3,m5_5,m5_8,m5_13,m5_14,m5_15,m5_16,m5_18,m5_21,m5_26,m5_27,m5_32,m5_33,m5_34,m5_35,m5_37,m5_40,m5_45,m5_46,m5_47,m5_49,m5_52,m6_0,m6_1,m6_2,m6_5,m6_6,m6_7,m6_10,m6_11,m6_12,m6_15,m6_16,m6_18,m6_30,m6_31,m6_33,m6_45,m6_46,m7_0,m7_1,m7_4,m7_7,m7_8,m7_11,m7_13,m7_18,m7_19,m7_20,m7_21,m7_23,m7_26,m7_31,m7_32,m7_33,m7_36,m7_37,m7_38,m7_39,m7_41,m7_44,m7_49,m7_50,m7_53,m7_54,m7_57,m7_58,m7_59,m7_60,m7_63,m7_64,m7_65,m7_68,m7_69,m7_72,m7_73,m7_76,m7_77,m7_78,m7_81,m7_82,m7_85,m7_86,m7_89,m7_90,m7_91,m7_92,m7_93,m7_96,m7_97,m7_98,m7_101,m7_102,m8_0,m8_1,m8_2,m8_5u,m8_6,m8_7,m8_8,m8_11,m8_12,m9_0,m9_1,m9_2,m9_3,m9_4,m9_7,m9_12,m9_13,m9_16,m9_21,m9_22,m9_25,m9_26,m9_31,m9_32,m9_35,m9_37,m9_42,m9_43,m9_44,m9_47,m9_48,m10_0,m10_1,m10_4,m10_5,m10_8,m10_13,m10_14u,m10_15,m10_16,m10_18,m10_21,m10_22,m10_23,m10_26,m10_29,m10_30,m10_33,m10_34,m10_35u,m10_35i,m10_35r,m10_36,m10_37,m10_40,m10_41,m10_42u,m10_42i,m10_42r,m10_43,m10_44,m10_47,m10_50,m10_51,m10_52,m10_53,m10_56,m10_59,m10_60,m10_61,m10_64u,m10_64i,m10_64r,m10_66,m10_68,m10_73,m10_76,m10_79,m10_80,m10_83,m11_0,m11_1,m11_2,m11_5,m11_6,m11_7,m11_10,m11_11,m11_12,m11_15,m11_16,m11_17,m11_20,m11_21,m11_22,m11_25,m11_26,m11_27,m11_30,m11_31,m11_32,m11_35,m12_0,m12_1,m12_4,m12_5,m12_6,m12_9,m12_10,m12_11,m12_14,m12_19,m12_20,m12_21,m12_22,m12_25,m12_30,m12_31,m12_32,m12_35,m12_36,m12_37,m12_38,m12_39,m12_42,m12_50,m12_51,m12_52,m12_53,m12_56,m13_0,m13_1,m13_4,m13_7,m13_8,m13_11,m13_13,m13_18,m13_19,m13_22,m13_23,m13_26,m13_27,m13_28,m13_29,m13_30,m13_33,m13_34,m13_35,m13_38,m13_39,m14_0,m14_1,m14_4,m14_7,m14_8,m14_11,m14_13,m14_18,m14_19,m14_22,m14_23,m14_26,m14_27,m14_28,m14_29,m14_32,m14_33,m14_36,m14_37,m14_38,m14_39,m14_40,m14_43,m14_44,m14_45,m14_48,m14_49,m15_0,m15_1,m15_2,m15_10,m15_11,m15_12,m15_15,m15_16,m15_19,m15_20,m15_21,m15_22,m15_25,m15_30,m15_31,m15_32,m15_35,m16_0,m16_1,m16_3,m16_6,m16_7,m16_9,m16_12,m16_13,m16_17,m17_0,m17_1,m17_2,m17_5u,m17_6,m17_7,m17_8,m17_11,m17_16,m17_17,m17_20u,m17_21,m17_22,m17_24,m17_27,m17_28,m17_30,m17_44,m17_45,m17_46,m17_47,m17_50,m17_55,m17_56,m17_57,m17_60,m17_61,m18_0,m18_1,m18_3,m18_6,m18_7,m18_9,m18_12,m18_13,m18_15,m18_18,m18_20,m18_21,m18_22,m18_24,m18_27,m18_28,m18_30,m18_33,m18_34,m18_35,m18_36,m18_38,m18_41,m18_42,m18_44,m18_47,m18_48,m18_49,m18_50,m18_52,m18_55,m18_56,m18_58,m18_63,m18_64,m18_66,m18_71,m18_72,m18_74,m18_79,m18_80,m18_81,m18_84,m18_87,m18_89,m19_0,m19_1u,m19_2,m19_3,m19_5,m19_8,m19_9,m19_12,m19_15,m19_16,m19_19,m19_20,m19_23,m19_24,m19_25,m19_26u,m19_26i,m19_26r,m19_27,m19_28,m19_29,m19_34,m19_35,m19_36,m19_39,m19_40,m19_45,m19_46,m19_47,m19_50,m19_51,m19_52,m19_55,m19_56,m19_57,m19_58,m19_61,m19_62,m19_65,m19_66,m19_69,m19_74,m19_77,m19_80,m19_81,m20_0,m20_1,m20_4,m20_7,m20_8,m20_11,m20_13,m20_18,m20_19,m20_22,m20_23,m20_26,m20_27,m20_28,m20_29,m20_32,m20_33,m20_36,m20_37,m20_38,m20_39,m20_40,m20_43,m20_44,m20_45,m20_48,m20_49,m21_0,m21_1,m21_2,m21_5,m21_10,m21_11,m21_14,m21_19,m21_20,m21_23,m21_28,m21_29,m21_30,m21_33,m21_34,m22_0,m22_1,m22_2,m22_5,m22_8,m22_9,m22_12,m22_13,m22_18,m22_19,m22_20,m22_21,m22_24,m22_25,m22_26,m22_29,m22_34,m22_35,m22_37,m22_40,m22_41,m22_43,m22_80,m22_81,m22_82,m22_83,m22_86,m23_0,m23_1,m23_2,m23_5,m23_6,m23_8,m23_11,m23_12,m23_14,m23_17,m23_18,m23_21,m23_22,m24_0,m24_1,m24_4,m24_5,m24_8,m24_9,m24_12,m24_14,m24_19,m24_20,m24_23,m24_24,m24_27,m24_28,m24_29,m24_30u,m24_31,m24_32,m24_35,m24_36,m24_39,m24_40,m24_41,m24_42u,m24_43,m24_44,m24_45,m24_48,m24_49,m24_50,m24_53,m24_54,m24_55,m24_56u,m24_57,m24_58,m24_61,m24_62,m24_65,m24_66,m24_67,m24_68,m24_69,m24_76,m24_77,m24_78,m24_79,m25_0,m25_1,m25_4,m25_5,m25_10,m25_11,m25_14,m25_15,m25_16u,m25_17,m25_18,m25_19,m25_22,m25_25,m25_26,m25_27,m25_30,m25_31,m25_34,m25_37,m25_38,m25_41,m25_42,m25_45,m25_46,m25_49,m25_50,m25_53,m25_54,m25_57,m25_58,m25_59,m25_62,m25_63,m25_66,m25_67,m25_70,m25_71,m25_72,m25_73,m25_76,m25_77,m25_78,m25_81,m25_82,m25_83,m25_86,m25_89,m25_90,m25_91,m25_94,m25_95,m26_0,m26_1,m26_4,m26_9,m26_10,m26_11,m26_14,m26_19,m26_20,m26_23,m26_28,m26_29,m26_32,m27_0,m27_1,m27_2,m27_3,m27_4,m27_7,m27_11,m27_12,m27_14,m27_15u,m27_16,m27_17u,m27_18,m27_19,m27_21,m27_24,m27_25,m27_26,m27_29,m27_32,m27_33,m27_36,m27_37u,m27_37i,m27_37r,m27_39,m27_40,m27_43,m27_44,m27_45,m27_46,m27_48,m27_51,m27_52,m27_55,m27_56,m27_57,m27_60,m27_61,m27_62,m27_63,m27_66,m27_67,m27_68,m27_69,m27_71,m27_74,m27_75,m27_78,m27_79,m27_80,m27_83,m27_84,m27_85,m27_88,m27_91,m27_92i,m27_93,m27_94,m27_95,m27_98,m27_99,m27_100,m27_103,m27_106,m27_107,m27_111u,m27_111i,m27_111r,m27_113,m27_114,m27_117,m27_118,m27_119,m27_120,m27_121,m27_122,m27_124,m27_127,m27_128,m27_131,m27_132,m27_133,m27_137,m27_138,m27_139,m27_142,m27_143,m27_144,m27_145,m27_146,m27_147,m27_149,m27_152,m27_153,m27_156,m27_157,m27_158,m27_162,m27_163,m27_166,m27_169,m27_170,m27_173,m27_174,m27_175,m27_178,m27_179,m27_180,m27_183,m27_184,m27_185,m27_188,m27_189,m27_190,m27_193,m27_194,m27_195,m27_198,m27_199,m27_202,m27_203,m27_204,m27_205,m27_206,m27_209,m27_210,m27_211,m27_212,m28_0,m28_1,m28_2,m28_3,m28_4,m28_7,m28_12,m28_13,m28_16,m28_17,m28_18,m28_23,m28_24,m28_25,m28_26,m28_28,m28_31,m28_36,m28_37,m28_47,m28_48,m28_49,m28_52u,m28_54,m28_56,m28_67,m28_68,m28_71,m28_72,m28_73,m28_74,m28_75,m28_78,m28_79,m28_80,m28_81,m28_82,m28_85,m28_86,m28_87,m28_88,m28_89,m28_92,m28_93,m28_94,m28_95,m28_96,m29_0,m29_1u,m29_2,m29_3,m29_4,m29_7,m29_8,m29_11,m29_12,m29_13,m29_14,m29_17,m29_18,m29_21,m29_22,m29_23,m29_24,m29_27,m29_28,m29_29,m29_32,m29_35,m29_36,m30_0,m30_1,m30_2,m30_7,m30_8,m30_11,m30_20,m30_21u,m30_22,m30_23,m30_24,m30_27,m30_28,m30_29,m30_32,m30_33u,m30_34,m30_35,m30_38,m30_41,m30_42,m30_43,m30_46i,m30_47,m30_48,m30_49,m30_52,m30_53,m31_0,m31_1u,m31_2,m31_3,m31_4,m31_7,m31_8,m31_11,m31_14,m31_15,m31_18u,m31_18i,m31_18r,m31_19,m31_20,m31_23,m31_24,m31_25,m31_28,m32_0,m32_1,m32_4,m32_6,m32_7u,m32_8,m32_9,m32_12,m32_23,m32_24,m32_25,m32_28u,m32_29,m32_30,m32_33,m32_34,m32_35,m32_36,m32_39u,m32_40,m32_41,m32_44,m32_45,m32_46,m32_47,m32_48,m32_51,m32_52,m32_53,m32_56,m32_57,m32_58,m32_61,m32_62,m32_65,m32_68,m32_69,m32_70,m32_71,m33_0,m33_1,m33_3,m33_4u,m33_5,m33_6,m33_9,m33_10,m33_11u,m33_12,m33_13,m33_16,m33_17,m33_18,m33_20,m33_21u,m33_23,m33_24,m33_27,m33_28,m33_29u,m33_31,m33_32,m33_35,m33_36,m33_37,m33_40,m33_41,m33_42,m33_45,m33_46,m33_47,m33_49,m33_81,m33_82,m33_83,m33_85,m33_87,m33_90,m33_91,m33_92,m33_93,m33_94,m33_96,m33_97,m33_100,m34_0,m34_1,m34_4,m34_5,m34_7,m34_8,m34_9u,m34_11,m34_12,m34_13,m34_26,m34_27,m34_28,m34_49,m34_50,m34_51,m34_72,m34_73,m34_74,m34_77,m34_78,m34_81,m34_82,m34_83,m34_86,m34_87,m34_88,m34_89,m34_90,m34_91,m34_140,m35_0,m35_1,m35_2,m35_3,m35_4,m35_7,m35_12,m35_13,m35_16,m35_17,m35_18,m35_21,m35_22,m35_23,m35_24,m35_25,m35_26,m35_27,m35_28,m35_29,m35_32u,m35_33,m35_34,m35_37,m35_55,m35_56,m35_59,m35_60,m35_61,m35_62,m35_63,m35_64,m35_67,m35_68,m35_71,m35_81,m35_82,m35_85,m35_86,m35_87,m35_90,m35_91,m35_92,m35_95,m35_96,m36_0,m36_1,m36_2,m36_5,m36_6,m36_7,m36_10,m36_11,m36_12,m36_13,m36_14,m36_17,m36_20,m36_21,m36_22,m36_23,m36_24,m36_27,m36_32,m36_33,m36_35,m36_36u,m36_37,m36_38,m36_41,m36_42,m36_43,m36_44,m36_45,m36_46,m36_47u,m36_49,m36_50,m36_53,m36_54,m36_55,m36_56,m36_57,m36_58,m36_59u,m36_61,m36_63,m36_65,m36_72,m36_73u,m36_75,m36_77,m36_79,m36_82,m36_84,m36_87,m36_89,m36_91,m36_94,m36_95,m36_96,m36_99,m36_100,m36_102,m36_103,m36_104,m36_105,m36_108,m36_109,m36_111,m36_112,m36_113,m36_115,m36_118i,m36_120,m36_121,m36_124,m36_127,m36_128,m36_129,m36_132,m36_135,m36_136,m36_139,m37_0,m37_1,m37_13,m37_14,m37_15,m37_18,m37_19,m37_20,m37_23,m37_24,m37_26,m37_27,m37_28,m37_31,m37_32,m37_33,m37_34,m37_35,m37_36,m37_38,m37_41,m37_42,m37_44,m37_55,m37_56,m37_58,m37_85,m37_86,m37_87,m37_90,m37_93,m37_94,m37_95,m37_98,m37_99,m37_100,m37_101,m37_102,m37_103,m37_104,m37_107,m37_108,m37_109,m37_110,m38_0,m38_1,m38_4,m38_7,m38_8,m38_11,m38_13,m38_16,m38_17,m38_20,m38_21,m38_24,m38_25,m38_26,m38_27,m38_28,m38_31,m38_32,m38_33,m38_36,m39_0,m39_1,m39_4u,m39_5,m39_6,m39_9u,m39_10,m39_11,m39_12,m39_13,m39_14,m39_17u,m39_19,m39_20,m39_22,m39_25,m40_0,m40_1,m40_4,m40_7,m40_8,m40_11,m40_13,m40_16,m40_17,m40_18,m40_21,m40_22,m40_23,m40_26,m40_27,m40_30,m40_31,m40_34,m40_35,m41_0,m41_1,m41_3,m41_10,m41_11,m41_13,m41_20,m41_21,m41_23,m41_26,m41_27,m41_28,m41_29,m41_30,m41_31,m41_33,m41_36,m41_37,m41_39,m41_42,m41_43,m41_44,m41_45,m41_46,m41_49,m41_50,m41_51,m41_52,m41_53,m41_54,m41_57,m42_0,m42_1,m42_3,m42_21,m42_22,m42_24,m42_42,m42_43,m42_45,m42_48,m42_49,m42_50,m42_51,m42_54,m42_55,m42_58,m42_59,m42_62,m43_0,m43_1,m43_4,m43_5,m43_8,m43_9,m44_0,m44_1,m44_4,m44_7,m44_8,m44_11,m44_13,m44_16,m44_17,m44_20,m44_21,m44_24,m44_25,m44_26,m44_27,m45_0,m45_1,m45_17,m45_18,m45_19,m45_35,m45_36,m45_37,m45_40,m45_41,m45_44,m45_45,m45_46,m45_47,m45_55,m45_56,m45_57,m45_65,m45_66,m45_67,m45_75,m45_76,m45_77,m45_80,m46_0,m46_1,m46_2,m46_3,m46_5,m46_8,m46_11,m46_12,m46_15,m46_16,m46_17,m46_18,m46_19,m46_21,m46_24,m46_25,m46_28,m47_0,m47_1,m47_2,m47_3,m47_4,m47_7,m47_12,m47_13,m47_16,m47_17,m47_18,m47_19,m47_22,m47_23,m47_27u,m47_28,m47_29,m47_39,m47_40,m47_41,m47_59,m47_60,m47_61,m47_79,m47_80,m47_81,m47_84,m47_85,m47_88,m47_89,m47_90,m48_0,m48_1,m48_3,m48_6,m48_7,m48_10,m49_0,m49_1,m49_4,m49_5,m49_6,m49_9,m49_12,m49_13,m49_14,m49_15,m49_18,m49_19,m49_20,m49_22,m49_23u,m49_24,m49_25,m49_28,m49_29,m49_32,m49_33,m49_34,m49_35,m49_36,m49_37,m49_40,m49_41,m49_44,m49_45,m49_46,m49_47,m49_48,m49_49,m49_52,m49_53,m49_56,m49_57,m49_58,m49_59,m49_60,m49_61,m49_64,m49_65,m49_68,m49_69,m49_70,m49_71,m49_72,m49_74,m49_77,m49_78,m49_81,m49_82,m49_83,m49_84,m49_85,m49_86,m49_87,m49_90,m50_0,m50_1,m50_2,m50_5,m50_6,m50_7,m50_10,m50_11,m50_14,m50_15,m50_16u,m50_17,m50_18,m50_19,m50_22,m50_23,m50_24,m50_27,m50_28,m50_29,m50_32,m50_33,m50_34,m50_35,m50_39,m50_42,m50_43,m50_44,m50_47,m50_48,m50_49,m50_52,m50_55,m50_56u,m50_58,m50_60,m50_61,m50_64,m50_65,m50_68,m50_70,m50_71,m50_72,m50_75,m50_78,m50_79i,m50_81,m50_83,m50_84,m50_87,m50_89,m50_90,m50_93,m50_94,m50_95,m50_97,m50_100u,m50_100i,m50_100r,m50_102,m50_103,m50_106,m50_109,m50_110,m50_111,m50_114,m50_115,m50_117,m50_118,m50_119,m50_120,m50_121,m50_124,m50_127,m50_128,m50_131,m50_133,m50_134,m50_135,m50_137,m50_138,m50_141,m50_144,m51_0,m51_1,m51_4,m51_5,m51_6,m51_9,m51_10,m51_11,m51_12,m51_14,m51_17,m51_18,m51_19,m51_20,m52_0,m52_1,m52_4u,m52_5,m52_6,m52_7,m52_8,m52_11u,m52_12,m52_13,m52_14,m52_17,m53_0,m53_1,m53_2,m53_9,m53_10,m53_12,m53_25,m53_26,m53_27,m53_28,m53_30,m53_33,m53_36,m53_37,m53_40,m53_41,m53_42,m53_43,m53_44,m53_45,m53_48,m53_49,m54_0,m54_1,m54_4,m54_5,m54_8,m54_11,m54_12,m54_13,m54_16,m54_17,m54_20,m54_21,m54_24,m54_25,m54_26,m54_29,m54_30,m54_31,m54_34,m54_35,m55_0,m55_1,m55_3,m55_4u,m55_5,m55_6,m55_9,m55_10,m55_11,m55_14,m55_15,m55_16,m55_19,m55_20,m55_21,m55_24,m55_25,m55_26,m55_29,m55_30,m55_31,m55_34,m55_35,m55_36,m55_39,m55_40,m55_41,m55_44,m55_45,m55_46,m55_49,m55_50,m55_51,m55_54,m55_55,m55_56u,m55_57,m55_58,m55_59,m55_62,m55_63,m55_66,m55_67,m55_68,m55_69,m55_70,m55_71,m55_72,m55_75,m55_76,m55_77,m55_78,m55_81,m55_84,m56_0,m56_1,m56_2,m56_5,m56_6,m56_8,m56_13,m56_14,m56_15,m56_16u,m56_17,m56_18,m56_19,m56_22,m56_23,m56_24,m56_29,m56_30,m56_33,m56_34,m56_35,m56_36,m56_37,m56_38,m56_39,m57_0,m57_3,m57_4,m57_6,m57_8,m57_11u,m57_13,m57_15,m57_16,m57_17,m57_20,m57_21,m57_23,m57_24,m57_25,m57_28,m57_29,m57_31,m57_32,m57_33,m57_36,m57_37,m57_39,m57_40,m57_41,m57_44,m57_45,m57_47,m57_48,m57_49,m57_50,m57_52,m57_55,m57_56,m57_58,m57_59,m57_60,m57_63,m57_64,m57_66,m57_68,m57_69,m57_72,m57_73,m57_75,m57_76,m57_77,m57_80,m57_81,m57_83,m57_84,m57_85,m57_88,m57_89,m57_91,m57_92,m57_93,m57_96,m57_97,m57_99,m57_101,m57_102,m57_105,m57_106,m57_108,m57_109,m57_110,m57_113,m57_114,m57_116,m57_117,m57_118,m57_121,m57_122,m57_124,m57_125,m57_126,m57_129,m57_130,m57_132,m57_134,m57_135,m57_138,m57_139,m57_141,m57_142,m57_143,m57_146,m57_147,m57_149,m57_150,m57_151,m57_154,m57_155,m57_157,m57_159,m57_160,m57_163,m57_164,m57_166,m57_167,m57_168,m57_171,m57_172,m57_174,m57_175,m57_178,m57_183,m57_185,m57_186,m57_187,m57_188,m57_191,m57_196,m57_198,m57_200,m57_203u,m57_205,m57_206,m57_208,m57_209u,m57_211,m57_213,m57_214,m57_217,m57_218,m57_221,m57_222u,m57_224,m57_225,m57_228,m57_229,m57_231,m57_234,m57_235,m57_238,m57_239u,m57_241,m57_243,m57_245,m57_248,m57_249,m57_252,m57_253,m57_258,m57_260,m57_261,m57_264,m57_266,m57_269,m57_270,m57_273,m57_274,m57_279,m57_281,m57_283,m57_286,m57_287,m57_292,m57_294,m57_295,m57_298,m57_300,m57_305,m57_307,m57_308,m57_309,m57_312,m57_313,m57_318,m57_320,m57_322,m57_325,m57_327,m57_330,m57_331,m57_334,m57_335,m57_340,m57_342,m57_345,m57_346,m57_349,m57_350u,m57_352,m57_354,m57_357,m57_358,m57_361,m57_362u,m57_364,m57_366,m57_369,m57_371,m57_372,m57_373,m57_376,m57_377u,m57_379,m57_381,m57_384,m57_385,m57_388,m57_390,m57_391,m57_392,m57_395,m57_396u,m57_398,m57_400,m57_403,m57_405,m57_408,m57_409,m57_412,m57_413u,m57_415,m57_417,m57_420,m57_421,m57_424,m57_425,m57_428,m57_429,m57_431,m57_434,m57_435,m57_438,m57_439,m57_440,m57_443,m57_444u,m57_446,m57_448,m57_451,m57_452,m57_455,m57_456u,m57_458,m57_460,m57_461,m57_462,m57_465,m57_467,m57_472,m57_474,m57_475,m57_476,m57_479,m57_484,m57_486,m57_487,m57_488,m57_491,m57_493,m57_498,m57_500,m57_501,m57_502,m57_505,m57_507,m57_512,m57_514,m57_515,m57_516,m57_519,m57_521,m57_526,m57_528,m57_529,m57_531,m57_534,m57_536,m57_541,m57_543,m57_544,m57_545,m57_548,m57_550,m57_555,m57_557,m57_558,m57_560,m57_563,m57_565,m57_568,m57_569,m57_573,nb0,nb1,ou_a,Option.toList_some,Option.toList_none,List.nil_append,List.cons_append,ou_same,ou_comm,setA_same,setA_comm,own_l0,own_l1,own_l2,own_l3,own_l4,own_l5,own_l6,own_l7,own_l8,own_l9,own_l10,own_l11,own_l12,own_l13,getA_set2,setA_len,inB_iff,A0g_0,A0g_1,A0g_2,A0g_3,A0g_4,A0g_5,A0g_6,A0g_7,A0g_8,A0g_9,A0g_10,A0g_11,A0g_12,A0g_13,A0g_14,A0g_15,A0g_16,A0g_17,A0g_18,A0g_19,A0g_20,A0g_21,A0g_22,A0g_23,A0g_24,A0g_25,A0g_26,A0g_27,A0g_28,A0g_29,A0g_30,A0g_31,A0l_0,A0l_1,A0l_2,A0l_3,A0l_4,A0l_5,A0l_6,A0l_7,A0l_8,A0l_9,A0l_10,A0l_11,A0l_12,A0l_13,A0l_14,A0l_15,A0l_16,A0l_17,A0l_18,A0l_19,A0l_20,A0l_21,A0l_22,A0l_23,A0l_24,A0l_25,A0l_26,A0l_27,A0l_28,A0l_29,A0l_30,A0l_31]
      exact hQ _ _ (by (repeat refine len_ou ?_ (by simp only [setA_len])); exact fun _ => rfl)
    · simp [h0,h1,h2,h3,h4,h5,h6,h7,h8,h9,h10,h11,h12,h13,h14,h15,h16,h19,h20,h21,h22,h23,h24,h25,h26,h27,hc,c2,c3,g,z,q1,m0_0,m0_1,m0_4,m0_5,m0_12,m0_13,m0_20,m0_21,m0_28,m0_29,m0_36,m0_37,m0_44,m0_45,m0_52,m0_53,m0_60,m0_61,m0_67,m0_68,m0_74,m0_75,m0_81,m0_82,m0_88,m0_89,m0_95,m0_96,m0_102,m0_103,m0_111,m0_112,m0_120,m0_121,m0_128,m0_129,m0_136,m0_137,m0_144,m0_145,m0_152,m0_153,m0_159,m0_160,m0_166,m0_167,m0_174,m0_175,m0_182,m0_183,m0_190,m0_191,m0_198,m0_199,m0_206,m0_207,m0_214,m0_215,m0_222,m0_223,m0_230,m0_231,m0_238,m0_239,m0_246,m0_247,m0_253,m0_254u,m0_255,m0_256,m0_257,m0_260,m0_261i,m0_262,m0_263,m0_265,m0_268,m0_270i,m0_271,m0_272,m0_273,m0_276,m0_277u,m0_279,m0_281,m0_284,m0_285i,m0_287,m0_289,m0_290,m0_293,m0_294i,m0_296,m0_297,m0_299,m0_302,m0_303,m0_304,m0_307,m0_308,m0_309,m0_312,m0_313,m0_314,m0_317,m1_0,m1_1,m1_2,m1_3,m1_5,m1_8,m1_11,m1_12,m1_15,m1_16,m1_17,m1_18,m1_19,m2_0,m2_1,m2_2,m2_5,m2_6,m2_7,m2_10,m2_11,m2_14,m2_15,m3_0,m3_1,m3_2,m3_3,m3_5,m3_8,m3_11,m3_12,m3_13,m3_14,m3_17,m3_18,m3_19,m3_20,m3_21,m4_0,m4_1,m4_2,m4_3,m4_4,m4_6,m4_9,m4_14,m4_15,m4_41,m4_42,m4_45,m4_46,m4_47,m4_48,m4_49,m4_52,m4_53,m4_54,m4_55,m4_56,m4_59,m4_60,m4_62,m4_63,m4_64,m5_0,m5_1,m5_2,m5_3,m5_5,m5_8,m5_13,m5_14,m5_15,m5_16,m5_18,m5_21,m5_26,m5_27,m5_32,m5_33,m5_34,m5_35,m5_37,m5_40,m5_45,m5_46,m5_47,m5_49,m5_52,m6_0,m6_1,m6_2,m6_5,m6_6,m6_7,m6_10,m6_11,m6_12,m6_15,m6_16,m6_18,m6_30,m6_31,m6_33,m6_45,m6_46,m7_0,m7_1,m7_4,m7_7,m7_8,m7_11,m7_13,m7_18,m7_19,m7_20,m7_21,m7_23,m7_26,m7_31,m7_32,m7_33,m7_36,m7_37,m7_38,m7_39,m7_41,m7_44,m7_49,m7_50,m7_53,m7_54,m7_57,m7_58,m7_59,m7_60,m7_63,m7_64,m7_65,m7_68,m7_69,m7_72,m7_73,m7_76,m7_77,m7_78,m7_81,m7_82,m7_85,m7_86,m7_89,m7_90,m7_91,m7_92,m7_93,m7_96,m7_97,m7_98,m7_101,m7_102,m8_0,m8_1,m8_2,m8_5u,m8_6,m8_7,m8_8,m8_11,m8_12,m9_0,m9_1,m9_2,m9_3,m9_4,m9_7,m9_12,m9_13,m9_16,m9_21,m9_22,m9_25,m9_26,m9_31,m9_32,m9_35,m9_37,m9_42,m9_43,m9_44,m9_47,m9_48,m10_0,m10_1,m10_4,m10_5,m10_8,m10_13,m10_14u,m10_15,m10_16,m10_18,m10_21,m10_22,m10_23,m10_26,m10_29,m10_30,m10_33,m10_34,m10_35u,m10_35i,m10_35r,m10_36,m10_37,m10_40,m10_41,m10_42u,m10_42i,m10_42r,m10_43,m10_44,m10_47,m10_50,m10_51,m10_52,m10_53,m10_56,m10_59,m10_60,m10_61,m10_64u,m10_64i,m10_64r,m10_66,m10_68,m10_73,m10_76,m10_79,m10_80,m10_83,m11_0,m11_1,m11_2,m11_5,m11_6,m11_7,m11_10,m11_11,m11_12,m11_15,m11_16,m11_17,m11_20,m11_21,m11_22,m11_25,m11_26,m11_27,m11_30,m11_31,m11_32,m11_35,m12_0,m12_1,m12_4,m12_5,m12_6,m12_9,m12_10,m12_11,m12_14,m12_19,m12_20,m12_21,m12_22,m12_25,m12_30,m12_31,m12_32,m12_35,m12_36,m12_37,m12_38,m12_39,m12_42,m12_50,m12_51,m12_52,m12_53,m12_56,m13_0,m13_1,m13_4,m13_7,m13_8,m13_11,m13_13,m13_18,m13_19,m13_22,m13_23,m13_26,m13_27,m13_28,m13_29,m13_30,m13_33,m13_34,m13_35,m13_38,m13_39,m14_0,m14_1,m14_4,m14_7,m14_8,m14_11,m14_13,m14_18,m14_19,m14_22,m14_23,m14_26,m14_27,m14_28,m14_29,m14_32,m14_33,m14_36,m14_37,m14_38,m14_39,m14_40,m14_43,m14_44,m14_45,m14_48,m14_49,m15_0,m15_1,m15_2,m15_10,m15_11,m15_12,m15_15,m15_16,m15_19,m15_20,m15_21,m15_22,m15_25,m15_30,m15_31,m15_32,m15_35,m16_0,m16_1,m16_3,m16_6,m16_7,m16_9,m16_12,m16_13,m16_17,m17_0,m17_1,m17_2,m17_5u,m17_6,m17_7,m17_8,m17_11,m17_16,m17_17,m17_20u,m17_21,m17_22,m17_24,m17_27,m17_28,m17_30,m17_44,m17_45,m17_46,m17_47,m17_50,m17_55,m17_56,m17_57,m17_60,m17_61,m18_0,m18_1,m18_3,m18_6,m18_7,m18_9,m18_12,m18_13,m18_15,m18_18,m18_20,m18_21,m18_22,m18_24,m18_27,m18_28,m18_30,m18_33,m18_34,m18_35,m18_36,m18_38,m18_41,m18_42,m18_44,m18_47,m18_48,m18_49,m18_50,m18_52,m18_55,m18_56,m18_58,m18_63,m18_64,m18_66,m18_71,m18_72,m18_74,m18_79,m18_80,m18_81,m18_84,m18_87,m18_89,m19_0,m19_1u,m19_2,m19_3,m19_5,m19_8,m19_9,m19_12,m19_15,m19_16,m19_19,m19_20,m19_23,m19_24,m19_25,m19_26u,m19_26i,m19_26r,m19_27,m19_28,m19_29,m19_34,m19_35,m19_36,m19_39,m19_40,m19_45,m19_46,m19_47,m19_50,m19_51,m19_52,m19_55,m19_56,m19_57,m19_58,m19_61,m19_62,m19_65,m19_66,m19_69,m19_74,m19_77,m19_80,m19_81,m20_0,m20_1,m20_4,m20_7,m20_8,m20_11,m20_13,m20_18,m20_19,m20_22,m20_23,m20_26,m20_27,m20_28,m20_29,m20_32,m20_33,m20_36,m20_37,m20_38,m20_39,m20_40,m20_43,m20_44,m20_45,m20_48,m20_49,m21_0,m21_1,m21_2,m21_5,m21_10,m21_11,m21_14,m21_19,m21_20,m21_23,m21_28,m21_29,m21_30,m21_33,m21_34,m22_0,m22_1,m22_2,m22_5,m22_8,m22_9,m22_12,m22_13,m22_18,m22_19,m22_20,m22_21,m22_24,m22_25,m22_26,m22_29,m22_34,m22_35,m22_37,m22_40,m22_41,m22_43,m22_80,m22_81,m22_82,m22_83,m22_86,m23_0,m23_1,m23_2,m23_5,m23_6,m23_8,m23_11,m23_12,m23_14,m23_17,m23_18,m23_21,m23_22,m24_0,m24_1,m24_4,m24_5,m24_8,m24_9,m24_12,m24_14,m24_19,m24_20,m24_23,m24_24,m24_27,m24_28,m24_29,m24_30u,m24_31,m24_32,m24_35,m24_36,m24_39,m24_40,m24_41,m24_42u,m24_43,m24_44,m24_45,m24_48,m24_49,m24_50,m24_53,m24_54,m24_55,m24_56u,m24_57,m24_58,m24_61,m24_62,m24_65,m24_66,m24_67,m24_68,m24_69,m24_76,m24_77,m24_78,m24_79,m25_0,m25_1,m25_4,m25_5,m25_10,m25_11,m25_14,m25_15,m25_16u,m25_17,m25_18,m25_19,m25_22,m25_25,m25_26,m25_27,m25_30,m25_31,m25_34,m25_37,m25_38,m25_41,m25_42,m25_45,m25_46,m25_49,m25_50,m25_53,m25_54,m25_57,m25_58,m25_59,m25_62,m25_63,m25_66,m25_67,m25_70,m25_71,m25_72,m25_73,m25_76,m25_77,m25_78,m25_81,m25_82,m25_83,m25_86,m25_89,m25_90,m25_91,m25_94,m25_95,m26_0,m26_1,m26_4,m26_9,m26_10,m26_11,m26_14,m26_19,m26_20,m26_23,m26_28,m26_29,m26_32,m27_0,m27_1,m27_2,m27_3,m27_4,m27_7,m27_11,m27_12,m27_14,m27_15u,m27_16,m27_17u,m27_18,m27_19,m27_21,m27_24,m27_25,m27_26,m27_29,m27_32,m27_33,m27_36,m27_37u,m27_37i,m27_37r,m27_39,m27_40,m27_43,m27_44,m27_45,m27_46,m27_48,m27_51,m27_52,m27_55,m27_56,m27_57,m27_60,m27_61,m27_62,m27_63,m27_66,m27_67,m27_68,m27_69,m27_71,m27_74,m27_75,m27_78,m27_79,m27_80,m27_83,m27_84,m27_85,m27_88,m27_91,m27_92i,m27_93,m27_94,m27_95,m27_98,m27_99,m27_100,m27_103,m27_106,m27_107,m27_111u,m27_111i,m27_111r,m27_113,m27_114,m27_117,m27_118,m27_119,m27_120,m27_121,m27_122,m27_124,m27_127,m27_128,m27_131,m27_132,m27_133,m27_137,m27_138,m27_139,m27_142,m27_143,m27_144,m27_145,m27_146,m27_147,m27_149,m27_152,m27_153,m27_156,m27_157,m27_158,m27_162,m27_163,m27_166,m27_169,m27_170,m27_173,m27_174,m27_175,m27_178,m27_179,m27_180,m27_183,m27_184,m27_185,m27_188,m27_189,m27_190,m27_193,m27_194,m27_195,m27_198,m27_199,m27_202,m27_203,m27_204,m27_205,m27_206,m27_209,m27_210,m27_211,m27_212,m28_0,m28_1,m28_2,m28_3,m28_4,m28_7,m28_12,m28_13,m28_16,m28_17,m28_18,m28_23,m28_24,m28_25,m28_26,m28_28,m28_31,m28_36,m28_37,m28_47,m28_48,m28_49,m28_52u,m28_54,m28_56,m28_67,m28_68,m28_71,m28_72,m28_73,m28_74,m28_75,m28_78,m28_79,m28_80,m28_81,m28_82,m28_85,m28_86,m28_87,m28_88,m28_89,m28_92,m28_93,m28_94,m28_95,m28_96,m29_0,m29_1u,m29_2,m29_3,m29_4,m29_7,m29_8,m29_11,m29_12,m29_13,m29_14,m29_17,m29_18,m29_21,m29_22,m29_23,m29_24,m29_27,m29_28,m29_29,m29_32,m29_35,m29_36,m30_0,m30_1,m30_2,m30_7,m30_8,m30_11,m30_20,m30_21u,m30_22,m30_23,m30_24,m30_27,m30_28,m30_29,m30_32,m30_33u,m30_34,m30_35,m30_38,m30_41,m30_42,m30_43,m30_46i,m30_47,m30_48,m30_49,m30_52,m30_53,m31_0,m31_1u,m31_2,m31_3,m31_4,m31_7,m31_8,m31_11,m31_14,m31_15,m31_18u,m31_18i,m31_18r,m31_19,m31_20,m31_23,m31_24,m31_25,m31_28,m32_0,m32_1,m32_4,m32_6,m32_7u,m32_8,m32_9,m32_12,m32_23,m32_24,m32_25,m32_28u,m32_29,m32_30,m32_33,m32_34,m32_35,m32_36,m32_39u,m32_40,m32_41,m32_44,m32_45,m32_46,m32_47,m32_48,m32_51,m32_52,m32_53,m32_56,m32_57,m32_58,m32_61,m32_62,m32_65,m32_68,m32_69,m32_70,m32_71,m33_0,m33_1,m33_3,m33_4u,m33_5,m33_6,m33_9,m33_10,m33_11u,m33_12,m33_13,m33_16,m33_17,m33_18,m33_20,m33_21u,m33_23,m33_24,m33_27,m33_28,m33_29u,m33_31,m33_32,m33_35,m33_36,m33_37,m33_40,m33_41,m33_42,m33_45,m33_46,m33_47,m33_49,m33_81,m33_82,m33_83,m33_85,m33_87,m33_90,m33_91,m33_92,m33_93,m33_94,m33_96,m33_97,m33_100,m34_0,m34_1,m34_4,m34_5,m34_7,m34_8,m34_9u,m34_11,m34_12,m34_13,m34_26,m34_27,m34_28,m34_49,m34_50,m34_51,m34_72,m34_73,m34_74,m34_77,m34_78,m34_81,m34_82,m34_83,m34_86,m34_87,m34_88,m34_89,m34_90,m34_91,m34_140,m35_0,m35_1,m35_2,m35_3,m35_4,m35_7,m35_12,m35_13,m35_16,m35_17,m35_18,m35_21,m35_22,m35_23,m35_24,m35_25,m35_26,m35_27,m35_28,m35_29,m35_32u,m35_33,m35_34,m35_37,m35_55,m35_56,m35_59,m35_60,m35_61,m35_62,m35_63,m35_64,m35_67,m35_68,m35_71,m35_81,m35_82,m35_85,m35_86,m35_87,m35_90,m35_91,m35_92,m35_95,m35_96,m36_0,m36_1,m36_2,m36_5,m36_6,m36_7,m36_10,m36_11,m36_12,m36_13,m36_14,m36_17,m36_20,m36_21,m36_22,m36_23,m36_24,m36_27,m36_32,m36_33,m36_35,m36_36u,m36_37,m36_38,m36_41,m36_42,m36_43,m36_44,m36_45,m36_46,m36_47u,m36_49,m36_50,m36_53,m36_54,m36_55,m36_56,m36_57,m36_58,m36_59u,m36_61,m36_63,m36_65,m36_72,m36_73u,m36_75,m36_77,m36_79,m36_82,m36_84,m36_87,m36_89,m36_91,m36_94,m36_95,m36_96,m36_99,m36_100,m36_102,m36_103,m36_104,m36_105,m36_108,m36_109,m36_111,m36_112,m36_113,m36_115,m36_118i,m36_120,m36_121,m36_124,m36_127,m36_128,m36_129,m36_132,m36_135,m36_136,m36_139,m37_0,m37_1,m37_13,m37_14,m37_15,m37_18,m37_19,m37_20,m37_23,m37_24,m37_26,m37_27,m37_28,m37_31,m37_32,m37_33,m37_34,m37_35,m37_36,m37_38,m37_41,m37_42,m37_44,m37_55,m37_56,m37_58,m37_85,m37_86,m37_87,m37_90,m37_93,m37_94,m37_95,m37_98,m37_99,m37_100,m37_101,m37_102,m37_103,m37_104,m37_107,m37_108,m37_109,m37_110,m38_0,m38_1,m38_4,m38_7,m38_8,m38_11,m38_13,m38_16,m38_17,m38_20,m38_21,m38_24,m38_25,m38_26,m38_27,m38_28,m38_31,m38_32,m38_33,m38_36,m39_0,m39_1,m39_4u,m39_5,m39_6,m39_9u,m39_10,m39_11,m39_12,m39_13,m39_14,m39_17u,m39_19,m39_20,m39_22,m39_25,m40_0,m40_1,m40_4,m40_7,m40_8,m40_11,m40_13,m40_16,m40_17,m40_18,m40_21,m40_22,m40_23,m40_26,m40_27,m40_30,m40_31,m40_34,m40_35,m41_0,m41_1,m41_3,m41_10,m41_11,m41_13,m41_20,m41_21,m41_23,m41_26,m41_27,m41_28,m41_29,m41_30,m41_31,m41_33,m41_36,m41_37,m41_39,m41_42,m41_43,m41_44,m41_45,m41_46,m41_49,m41_50,m41_51,m41_52,m41_53,m41_54,m41_57,m42_0,m42_1,m42_3,m42_21,m42_22,m42_24,m42_42,m42_43,m42_45,m42_48,m42_49,m42_50,m42_51,m42_54,m42_55,m42_58,m42_59,m42_62,m43_0,m43_1,m43_4,m43_5,m43_8,m43_9,m44_0,m44_1,m44_4,m44_7,m44_8,m44_11,m44_13,m44_16,m44_17,m44_20,m44_21,m44_24,m44_25,m44_26,m44_27,m45_0,m45_1,m45_17,m45_18,m45_19,m45_35,m45_36,m45_37,m45_40,m45_41,m45_44,m45_45,m45_46,m45_47,m45_55,m45_56,m45_57,m45_65,m45_66,m45_67,m45_75,m45_76,m45_77,m45_80,m46_0,m46_1,m46_2,m46_3,m46_5,m46_8,m46_11,m46_12,m46_15,m46_16,m46_17,m46_18,m46_19,m46_21,m46_24,m46_25,m46_28,m47_0,m47_1,m47_2,m47_3,m47_4,m47_7,m47_12,m47_13,m47_16,m47_17,m47_18,m47_19,m47_22,m47_23,m47_27u,m47_28,m47_29,m47_39,m47_40,m47_41,m47_59,m47_60,m47_61,m47_79,m47_80,m47_81,m47_84,m47_85,m47_88,m47_89,m47_90,m48_0,m48_1,m48_3,m48_6,m48_7,m48_10,m49_0,m49_1,m49_4,m49_5,m49_6,m49_9,m49_12,m49_13,m49_14,m49_15,m49_18,m49_19,m49_20,m49_22,m49_23u,m49_24,m49_25,m49_28,m49_29,m49_32,m49_33,m49_34,m49_35,m49_36,m49_37,m49_40,m49_41,m49_44,m49_45,m49_46,m49_47,m49_48,m49_49,m49_52,m49_53,m49_56,m49_57,m49_58,m49_59,m49_60,m49_61,m49_64,m49_65,m49_68,m49_69,m49_70,m49_71,m49_72,m49_74,m49_77,m49_78,m49_81,m49_82,m49_83,m49_84,m49_85,m49_86,m49_87,m49_90,m50_0,m50_1,m50_2,m50_5,m50_6,m50_7,m50_10,m50_11,m50_14,m50_15,m50_16u,m50_17,m50_18,m50_19,m50_22,m50_23,m50_24,m50_27,m50_28,m50_29,m50_32,m50_33,m50_34,m50_35,m50_39,m50_42,m50_43,m50_44,m50_47,m50_48,m50_49,m50_52,m50_55,m50_56u,m50_58,m50_60,m50_61,m50_64,m50_65,m50_68,m50_70,m50_71,m50_72,m50_75,m50_78,m50_79i,m50_81,m50_83,m50_84,m50_87,m50_89,m50_90,m50_93,m50_94,m50_95,m50_97,m50_100u,m50_100i,m50_100r,m50_102,m50_103,m50_106,m50_109,m50_110,m50_111,m50_114,m50_115,m50_117,m50_118,m50_119,m50_120,m50_121,m50_124,m50_127,m50_128,m50_131,m50_133,m50_134,m50_135,m50_137,m50_138,m50_141,m50_144,m51_0,m51_1,m51_4,m51_5,m51_6,m51_9,m51_10,m51_11,m51_12,m51_14,m51_17,m51_18,m51_19,m51_20,m52_0,m52_1,m52_4u,m52_5,m52_6,m52_7,m52_8,m52_11u,m52_12,m52_13,m52_14,m52_17,m53_0,m53_1,m53_2,m53_9,m53_10,m53_12,m53_25,m53_26,m53_27,m53_28,m53_30,m53_33,m53_36,m53_37,m53_40,m53_41,m53_42,m53_43,m53_44,m53_45,m53_48,m53_49,m54_0,m54_1,m54_4,m54_5,m54_8,m54_11,m54_12,m54_13,m54_16,m54_17,m54_20,m54_21,m54_24,m54_25,m54_26,m54_29,m54_30,m54_31,m54_34,m54_35,m55_0,m55_1,m55_3,m55_4u,m55_5,m55_6,m55_9,m55_10,m55_11,m55_14,m55_15,m55_16,m55_19,m55_20,m55_21,m55_24,m55_25,m55_26,m55_29,m55_30,m55_31,m55_34,m55_35,m55_36,m55_39,m55_40,m55_41,m55_44,m55_45,m55_46,m55_49,m55_50,m55_51,m55_54,m55_55,m55_56u,m55_57,m55_58,m55_59,m55_62,m55_63,m55_66,m55_67,m55_68,m55_69,m55_70,m55_71,m55_72,m55_75,m55_76,m55_77,m55_78,m55_81,m55_84,m56_0,m56_1,m56_2,m56_5,m56_6,m56_8,m56_13,m56_14,m56_15,m56_16u,m56_17,m56_18,m56_19,m56_22,m56_23,m56_24,m56_29,m56_30,m56_33,m56_34,m56_35,m56_36,m56_37,m56_38,m56_39,m57_0,m57_3,m57_4,m57_6,m57_8,m57_11u,m57_13,m57_15,m57_16,m57_17,m57_20,m57_21,m57_23,m57_24,m57_25,m57_28,m57_29,m57_31,m57_32,m57_33,m57_36,m57_37,m57_39,m57_40,m57_41,m57_44,m57_45,m57_47,m57_48,m57_49,m57_50,m57_52,m57_55,m57_56,m57_58,m57_59,m57_60,m57_63,m57_64,m57_66,m57_68,m57_69,m57_72,m57_73,m57_75,m57_76,m57_77,m57_80,m57_81,m57_83,m57_84,m57_85,m57_88,m57_89,m57_91,m57_92,m57_93,m57_96,m57_97,m57_99,m57_101,m57_102,m57_105,m57_106,m57_108,m57_109,m57_110,m57_113,m57_114,m57_116,m57_117,m57_118,m57_121,m57_122,m57_124,m57_125,m57_126,m57_129,m57_130,m57_132,m57_134,m57_135,m57_138,m57_139,m57_141,m57_142,m57_143,m57_146,m57_147,m57_149,m57_150,m57_151,m57_154,m57_155,m57_157,m57_159,m57_160,m57_163,m57_164,m57_166,m57_167,m57_168,m57_171,m57_172,m57_174,m57_175,m57_178,m57_183,m57_185,m57_186,m57_187,m57_188,m57_191,m57_196,m57_198,m57_200,m57_203u,m57_205,m57_206,m57_208,m57_209u,m57_211,m57_213,m57_214,m57_217,m57_218,m57_221,m57_222u,m57_224,m57_225,m57_228,m57_229,m57_231,m57_234,m57_235,m57_238,m57_239u,m57_241,m57_243,m57_245,m57_248,m57_249,m57_252,m57_253,m57_258,m57_260,m57_261,m57_264,m57_266,m57_269,m57_270,m57_273,m57_274,m57_279,m57_281,m57_283,m57_286,m57_287,m57_292,m57_294,m57_295,m57_298,m57_300,m57_305,m57_307,m57_308,m57_309,m57_312,m57_313,m57_318,m57_320,m57_322,m57_325,m57_327,m57_330,m57_331,m57_334,m57_335,m57_340,m57_342,m57_345,m57_346,m57_349,m57_350u,m57_352,m57_354,m57_357,m57_358,m57_361,m57_362u,m57_364,m57_366,m57_369,m57_371,m57_372,m57_373,m57_376,m57_377u,m57_379,m57_381,m57_384,m57_385,m57_388,m57_390,m57_391,m57_392,m57_395,m57_396u,m57_398,m57_400,m57_403,m57_405,m57_408,m57_409,m57_412,m57_413u,m57_415,m57_417,m57_420,m57_421,m57_424,m57_425,m57_428,m57_429,m57_431,m57_434,m57_435,m57_438,m57_439,m57_440,m57_443,m57_444u,m57_446,m57_448,m57_451,m57_452,m57_455,m57_456u,m57_458,m57_460,m57_461,m57_462,m57_465,m57_467,m57_472,m57_474,m57_475,m57_476,m57_479,m57_484,m57_486,m57_487,m57_488,m57_491,m57_493,m57_498,m57_500,m57_501,m57_502,m57_505,m57_507,m57_512,m57_514,m57_515,m57_516,m57_519,m57_521,m57_526,m57_528,m57_529,m57_531,m57_534,m57_536,m57_541,m57_543,m57_544,m57_545,m57_548,m57_550,m57_555,m57_557,m57_558,m57_560,m57_563,m57_565,m57_568,m57_569,m57_573,nb0,nb1,ou_a,Option.toList_some,Option.toList_none,List.nil_append,List.cons_append,ou_same,ou_comm,setA_same,setA_comm,own_l0,own_l1,own_l2,own_l3,own_l4,own_l5,own_l6,own_l7,own_l8,own_l9,own_l10,own_l11,own_l12,own_l13,getA_set2,setA_len,inB_iff,A0g_0,A0g_1,A0g_2,A0g_3,A0g_4,A0g_5,A0g_6,A0g_7,A0g_8,A0g_9,A0g_10,A0g_11,A0g_12,A0g_13,A0g_14,A0g_15,A0g_16,A0g_17,A0g_18,A0g_19,A0g_20,A0g_21,A0g_22,A0g_23,A0g_24,A0g_25,A0g_26,A0g_27,A0g_28,A0g_29,A0g_30,A0g_31,A0l_0,A0l_1,A0l_2,A0l_3,A0l_4,A0l_5,A0l_6,A0l_7,A0l_8,A0l_9,A0l_10,A0l_11,A0l_12,A0l_13,A0l_14,A0l_15,A0l_16,A0l_17,A0l_18,A0l_19,A0l_20,A0l_21,A0l_22,A0l_23,A0l_24,A0l_25,A0l_26,A0l_27,A0l_28,A0l_29,A0l_30,A0l_31]
      exact hQ _ _ (by (repeat refine len_ou ?_ (by simp only [setA_len])); exact fun _ => rfl)
  · simp [h0,h1,h2,h3,h4,h5,h6,h7,h8,h9,h10,h11,h12,h13,h14,h15,h16,h19,h20,h21,h22,h23,h24,h25,h26,h27,hc,c2,c3,g,q1,m0_0,m0_1,m0_4,m0_5,m0_12,m0_13,m0_20,m0_21,m0_28,m0_29,m0_36,m0_37,m0_44,m0_45,m0_52,m0_53,m0_60,m0_61,m0_67,m0_68,m0_74,m0_75,m0_81,m0_82,m0_88,m0_89,m0_95,m0_96,m0_102,m0_103,m0_111,m0_112,m0_120,m0_121,m0_128,m0_129,m0_136,m0_137,m0_144,m0_145,m0_152,m0_153,m0_159,m0_160,m0_166,m0_167,m0_174,m0_175,m0_182,m0_183,m0_190,m0_191,m0_198,m0_199,m0_206,m0_207,m0_214,m0_215,m0_222,m0_223,m0_230,m0_231,m0_238,m0_239,m0_246,m0_247,m0_253,m0_254u,m0_255,m0_256,m0_257,m0_260,m0_261i,m0_262,m0_263,m0_265,m0_268,m0_270i,m0_271,m0_272,m0_273,m0_276,m0_277u,m0_279,m0_281,m0_284,m0_285i,m0_287,m0_289,m0_290,m0_293,m0_294i,m0_296,m0_297,m0_299,m0_302,m0_303,m0_304,m0_307,m0_308,m0_309,m0_312,m0_313,m0_314,m0_317,m1_0,m1_1,m1_2,m1_3,m1_5,m1_8,m1_11,m1_12,m1_15,m1_16,m1_17,m1_18,m1_19,m2_0,m2_1,m2_2,m2_5,m2_6,m2_7,m2_10,m2_11,m2_14,m2_15,m3_0,m3_1,m3_2,m3_3,m3_5,m3_8,m3_11,m3_12,m3_13,m3_14,m3_17,m3_18,m3_19,m3_20,m3_21,m4_0,m4_1,m4_2,m4_3,m4_4,m4_6,m4_9,m4_14,m4_15,m4_41,m4_42,m4_45,m4_46,m4_47,m4_48,m4_49,m4_52,m4_53,m4_54,m4_55,m4_56,m4_59,m4_60,m4_62,m4_63,m4_64,m5_0,m5_1,m5_2,m5_3,m5_5,m5_8,m5_13,m5_14,m5_15,m5_16,m5_18,m5_21,m5_26,m5_27,m5_32,m5_33,m5_34,m5_35,m5_37,m5_40,m5_45,m5_46,m5_47,m5_49,m5_52,m6_0,m6_1,m6_2,m6_5,m6_6,m6_7,m6_10,m6_11,m6_12,m6_15,m6_16,m6_18,m6_30,m6_31,m6_33,m6_45,m6_46,m7_0,m7_1,m7_4,m7_7,m7_8,m7_11,m7_13,m7_18,m7_19,m7_20,m7_21,m7_23,m7_26,m7_31,m7_32,m7_33,m7_36,m7_37,m7_38,m7_39,m7_41,m7_44,m7_49,m7_50,m7_53,m7_54,m7_57,m7_58,m7_59,m7_60,m7_63,m7_64,m7_65,m7_68,m7_69,m7_72,m7_73,m7_76,m7_77,m7_78,m7_81,m7_82,m7_85,m7_86,m7_89,m7_90,m7_91,m7_92,m7_93,m7_96,m7_97,m7_98,m7_101,m7_102,m8_0,m8_1,m8_2,m8_5u,m8_6,m8_7,m8_8,m8_11,m8_12,m9_0,m9_1,m9_2,m9_3,m9_4,m9_7,m9_12,m9_13,m9_16,m9_21,m9_22,m9_25,m9_26,m9_31,m9_32,m9_35,m9_37,m9_42,m9_43,m9_44,m9_47,m9_48,m10_0,m10_1,m10_4,m10_5,m10_8,m10_13,m10_14u,m10_15,m10_16,m10_18,m10_21,m10_22,m10_23,m10_26,m10_29,m10_30,m10_33,m10_34,m10_35u,m10_35i,m10_35r,m10_36,m10_37,m10_40,m10_41,m10_42u,m10_42i,m10_42r,m10_43,m10_44,m10_47,m10_50,m10_51,m10_52,m10_53,m10_56,m10_59,m10_60,m10_61,m10_64u,m10_64i,m10_64r,m10_66,m10_68,m10_73,m10_76,m10_79,m10_80,m10_83,m11_0,m11_1,m11_2,m11_5,m11_6,m11_7,m11_10,m11_11,m11_12,m11_15,m11_16,m11_17,m11_20,m11_21,m11_22,m11_25,m11_26,m11_27,m11_30,m11_31,m11_32,m11_35,m12_0,m12_1,m12_4,m12_5,m12_6,m12_9,m12_10,m12_11,m12_14,m12_19,m12_20,m12_21,m12_22,m12_25,m12_30,m12_31,m12_32,m12_35,m12_36,m12_37,m12_38,m12_39,m12_42,m12_50,m12_51,m12_52,m12_53,m12_56,m13_0,m13_1,m13_4,m13_7,m13_8,m13_11,m13_13,m13_18,m13_19,m13_22,m13_23,m13_26,m13_27,m13_28,m13_29,m13_30,m13_33,m13_34,m13_35,m13_38,m13_39,m14_0,m14_1,m14_4,m14_7,m14_8,m14_11,m14_13,m14_18,m14_19,m14_22,m14_23,m14_26,m14_27,m14_28,m14_29,m14_32,m14_33,m14_36,m14_37,m14_38,m14_39,m14_40,m14_43,m14_44,m14_45,m14_48,m14_49,m15_0,m15_1,m15_2,m15_10,m15_11,m15_12,m15_15,m15_16,m15_19,m15_20,m15_21,m15_22,m15_25,m15_30,m15_31,m15_32,m15_35,m16_0,m16_1,m16_3,m16_6,m16_7,m16_9,m16_12,m16_13,m16_17,m17_0,m17_1,m17_2,m17_5u,m17_6,m17_7,m17_8,m17_11,m17_16,m17_17,m17_20u,m17_21,m17_22,m17_24,m17_27,m17_28,m17_30,m17_44,m17_45,m17_46,m17_47,m17_50,m17_55,m17_56,m17_57,m17_60,m17_61,m18_0,m18_1,m18_3,m18_6,m18_7,m18_9,m18_12,m18_13,m18_15,m18_18,m18_20,m18_21,m18_22,m18_24,m18_27,m18_28,m18_30,m18_33,m18_34,m18_35,m18_36,m18_38,m18_41,m18_42,m18_44,m18_47,m18_48,m18_49,m18_50,m18_52,m18_55,m18_56,m18_58,m18_63,m18_64,m18_66,m18_71,m18_72,m18_74,m18_79,m18_80,m18_81,m18_84,m18_87,m18_89,m19_0,m19_1u,m19_2,m19_3,m19_5,m19_8,m19_9,m19_12,m19_15,m19_16,m19_19,m19_20,m19_23,m19_24,m19_25,m19_26u,m19_26i,m19_26r,m19_27,m19_28,m19_29,m19_34,m19_35,m19_36,m19_39,m19_40,m19_45,m19_46,m19_47,m19_50,m19_51,m19_52,m19_55,m19_56,m19_57,m19_58,m19_61,m19_62,m19_65,m19_66,m19_69,m19_74,m19_77,m19_80,m19_81,m20_0,m20_1,m20_4,m20_7,m20_8,m20_11,m20_13,m20_18,m20_19,m20_22,m20_23,m20_26,m20_27,m20_28,m20_29,m20_32,m20_33,m20_36,m20_37,m20_38,m20_39,m20_40,m20_43,m20_44,m20_45,m20_48,m20_49,m21_0,m21_1,m21_2,m21_5,m21_10,m21_11,m21_14,m21_19,m21_20,m21_23,m21_28,m21_29,m21_30,m21_33,m21_34,m22_0,m22_1,m22_2,m22_5,m22_8,m22_9,m22_12,m22_13,m22_18,m22_19,m22_20,m22_21,m22_24,m22_25,m22_26,m22_29,m22_34,m22_35,m22_37,m22_40,m22_41,m22_43,m22_80,m22_81,m22_82,m22_83,m22_86,m23_0,m23_1,m23_2,m23_5,m23_6,m23_8,m23_11,m23_12,m23_14,m23_17,m23_18,m23_21,m23_22,m24_0,m24_1,m24_4,m24_5,m24_8,m24_9,m24_12,m24_14,m24_19,m24_20,m24_23,m24_24,m24_27,m24_28,m24_29,m24_30u,m24_31,m24_32,m24_35,m24_36,m24_39,m24_40,m24_41,m24_42u,m24_43,m24_44,m24_45,m24_48,m24_49,m24_50,m24_53,m24_54,m24_55,m24_56u,m24_57,m24_58,m24_61,m24_62,m24_65,m24_66,m24_67,m24_68,m24_69,m24_76,m24_77,m24_78,m24_79,m25_0,m25_1,m25_4,m25_5,m25_10,m25_11,m25_14,m25_15,m25_16u,m25_17,m25_18,m25_19,m25_22,m25_25,m25_26,m25_27,m25_30,m25_31,m25_34,m25_37,m25_38,m25_41,m25_42,m25_45,m25_46,m25_49,m25_50,m25_53,m25_54,m25_57,m25_58,m25_59,m25_62,m25_63,m25_66,m25_67,m25_70,m25_71,m25_72,m25_73,m25_76,m25_77,m25_78,m25_81,m25_82,m25_83,m25_86,m25_89,m25_90,m25_91,m25_94,m25_95,m26_0,m26_1,m26_4,m26_9,m26_10,m26_11,m26_14,m26_19,m26_20,m26_23,m26_28,m26_29,m26_32,m27_0,m27_1,m27_2,m27_3,m27_4,m27_7,m27_11,m27_12,m27_14,m27_15u,m27_16,m27_17u,m27_18,m27_19,m27_21,m27_24,m27_25,m27_26,m27_29,m27_32,m27_33,m27_36,m27_37u,m27_37i,m27_37r,m27_39,m27_40,m27_43,m27_44,m27_45,m27_46,m27_48,m27_51,m27_52,m27_55,m27_56,m27_57,m27_60,m27_61,m27_62,m27_63,m27_66,m27_67,m27_68,m27_69,m27_71,m27_74,m27_75,m27_78,m27_79,m27_80,m27_83,m27_84,m27_85,m27_88,m27_91,m27_92i,m27_93,m27_94,m27_95,m27_98,m27_99,m27_100,m27_103,m27_106,m27_107,m27_111u,m27_111i,m27_111r,m27_113,m27_114,m27_117,m27_118,m27_119,m27_120,m27_121,m27_122,m27_124,m27_127,m27_128,m27_131,m27_132,m27_133,m27_137,m27_138,m27_139,m27_142,m27_143,m27_144,m27_145,m27_146,m27_147,m27_149,m27_152,m27_153,m27_156,m27_157,m27_158,m27_162,m27_163,m27_166,m27_169,m27_170,m27_173,m27_174,m27_175,m27_178,m27_179,m27_180,m27_183,m27_184,m27_185,m27_188,m27_189,m27_190,m27_193,m27_194,m27_195,m27_198,m27_199,m27_202,m27_203,m27_204,m27_205,m27_206,m27_209,m27_210,m27_211,m27_212,m28_0,m28_1,m28_2,m28_3,m28_4,m28_7,m28_12,m28_13,m28_16,m28_17,m28_18,m28_23,m28_24,m28_25,m28_26,m28_28,m28_31,m28_36,m28_37,m28_47,m28_48,m28_49,m28_52u,m28_54,m28_56,m28_67,m28_68,m28_71,m28_72,m28_73,m28_74,m28_75,m28_78,m28_79,m28_80,m28_81,m28_82,m28_85,m28_86,m28_87,m28_88,m28_89,m28_92,m28_93,m28_94,m28_95,m28_96,m29_0,m29_1u,m29_2,m29_3,m29_4,m29_7,m29_8,m29_11,m29_12,m29_13,m29_14,m29_17,m29_18,m29_21,m29_22,m29_23,m29_24,m29_27,m29_28,m29_29,m29_32,m29_35,m29_36,m30_0,m30_1,m30_2,m30_7,m30_8,m30_11,m30_20,m30_21u,m30_22,m30_23,m30_24,m30_27,m30_28,m30_29,m30_32,m30_33u,m30_34,m30_35,m30_38,m30_41,m30_42,m30_43,m30_46i,m30_47,m30_48,m30_49,m30_52,m30_53,m31_0,m31_1u,m31_2,m31_3,m31_4,m31_7,m31_8,m31_11,m31_14,m31_15,m31_18u,m31_18i,m31_18r,m31_19,m31_20,m31_23,m31_24,m31_25,m31_28,m32_0,m32_1,m32_4,m32_6,m32_7u,m32_8,m32_9,m32_12,m32_23,m32_24,m32_25,m32_28u,m32_29,m32_30,m32_33,m32_34,m32_35,m32_36,m32_39u,m32_40,m32_41,m32_44,m32_45,m32_46,m32_47,m32_48,m32_51,m32_52,m32_53,m32_56,m32_57,m32_58,m32_61,m32_62,m32_65,m32_68,m32_69,m32_70,m32_71,m33_0,m33_1,m33_3,m33_4u,m33_5,m33_6,m33_9,m33_10,m33_11u,m33_12,m33_13,m33_16,m33_17,m33_18,m33_20,m33_21u,m33_23,m33_24,m33_27,m33_28,m33_29u,m33_31,m33_32,m33_35,m33_36,m33_37,m33_40,m33_41,m33_42,m33_45,m33_46,m33_47,m33_49,m33_81,m33_82,m33_83,m33_85,m33_87,m33_90,m33_91,m33_92,m33_93,m33_94,m33_96,m33_97,m33_100,m34_0,m34_1,m34_4,m34_5,m34_7,m34_8,m34_9u,m34_11,m34_12,m34_13,m34_26,m34_27,m34_28,m34_49,m34_50,m34_51,m34_72,m34_73,m34_74,m34_77,m34_78,m34_81,m34_82,m34_83,m34_86,m34_87,m34_88,m34_89,m34_90,m34_91,m34_140,m35_0,m35_1,m35_2,m35_3,m35_4,m35_7,m35_12,m35_13,m35_16,m35_17,m35_18,m35_21,m35_22,m35_23,m35_24,m35_25,m35_26,m35_27,m35_28,m35_29,m35_32u,m35_33,m35_34,m35_37,m35_55,m35_56,m35_59,m35_60,m35_61,m35_62,m35_63,m35_64,m35_67,m35_68,m35_71,m35_81,m35_82,m35_85,m35_86,m35_87,m35_90,m35_91,m35_92,m35_95,m35_96,m36_0,m36_1,m36_2,m36_5,m36_6,m36_7,m36_10,m36_11,m36_12,m36_13,m36_14,m36_17,m36_20,m36_21,m36_22,m36_23,m36_24,m36_27,m36_32,m36_33,m36_35,m36_36u,m36_37,m36_38,m36_41,m36_42,m36_43,m36_44,m36_45,m36_46,m36_47u,m36_49,m36_50,m36_53,m36_54,m36_55,m36_56,m36_57,m36_58,m36_59u,m36_61,m36_63,m36_65,m36_72,m36_73u,m36_75,m36_77,m36_79,m36_82,m36_84,m36_87,m36_89,m36_91,m36_94,m36_95,m36_96,m36_99,m36_100,m36_102,m36_103,m36_104,m36_105,m36_108,m36_109,m36_111,m36_112,m36_113,m36_115,m36_118i,m36_120,m36_121,m36_124,m36_127,m36_128,m36_129,m36_132,m36_135,m36_136,m36_139,m37_0,m37_1,m37_13,m37_14,m37_15,m37_18,m37_19,m37_20,m37_23,m37_24,m37_26,m37_27,m37_28,m37_31,m37_32,m37_33,m37_34,m37_35,m37_36,m37_38,m37_41,m37_42,m37_44,m37_55,m37_56,m37_58,m37_85,m37_86,m37_87,m37_90,m37_93,m37_94,m37_95,m37_98,m37_99,m37_100,m37_101,m37_102,m37_103,m37_104,m37_107,m37_108,m37_109,m37_110,m38_0,m38_1,m38_4,m38_7,m38_8,m38_11,m38_13,m38_16,m38_17,m38_20,m38_21,m38_24,m38_25,m38_26,m38_27,m38_28,m38_31,m38_32,m38_33,m38_36,m39_0,m39_1,m39_4u,m39_5,m39_6,m39_9u,m39_10,m39_11,m39_12,m39_13,m39_14,m39_17u,m39_19,m39_20,m39_22,m39_25,m40_0,m40_1,m40_4,m40_7,m40_8,m40_11,m40_13,m40_16,m40_17,m40_18,m40_21,m40_22,m40_23,m40_26,m40_27,m40_30,m40_31,m40_34,m40_35,m41_0,m41_1,m41_3,m41_10,m41_11,m41_13,m41_20,m41_21,m41_23,m41_26,m41_27,m41_28,m41_29,m41_30,m41_31,m41_33,m41_36,m41_37,m41_39,m41_42,m41_43,m41_44,m41_45,m41_46,m41_49,m41_50,m41_51,m41_52,m41_53,m41_54,m41_57,m42_0,m42_1,m42_3,m42_21,m42_22,m42_24,m42_42,m42_43,m42_45,m42_48,m42_49,m42_50,m42_51,m42_54,m42_55,m42_58,m42_59,m42_62,m43_0,m43_1,m43_4,m43_5,m43_8,m43_9,m44_0,m44_1,m44_4,m44_7,m44_8,m44_11,m44_13,m44_16,m44_17,m44_20,m44_21,m44_24,m44_25,m44_26,m44_27,m45_0,m45_1,m45_17,m45_18,m45_19,m45_35,m45_36,m45_37,m45_40,m45_41,m45_44,m45_45,m45_46,m45_47,m45_55,m45_56,m45_57,m45_65,m45_66,m45_67,m45_75,m45_76,m45_77,m45_80,m46_0,m46_1,m46_2,m46_3,m46_5,m46_8,m46_11,m46_12,m46_15,m46_16,m46_17,m46_18,m46_19,m46_21,m46_24,m46_25,m46_28,m47_0,m47_1,m47_2,m47_3,m47_4,m47_7,m47_12,m47_13,m47_16,m47_17,m47_18,m47_19,m47_22,m47_23,m47_27u,m47_28,m47_29,m47_39,m47_40,m47_41,m47_59,m47_60,m47_61,m47_79,m47_80,m47_81,m47_84,m47_85,m47_88,m47_89,m47_90,m48_0,m48_1,m48_3,m48_6,m48_7,m48_10,m49_0,m49_1,m49_4,m49_5,m49_6,m49_9,m49_12,m49_13,m49_14,m49_15,m49_18,m49_19,m49_20,m49_22,m49_23u,m49_24,m49_25,m49_28,m49_29,m49_32,m49_33,m49_34,m49_35,m49_36,m49_37,m49_40,m49_41,m49_44,m49_45,m49_46,m49_47,m49_48,m49_49,m49_52,m49_53,m49_56,m49_57,m49_58,m49_59,m49_60,m49_61,m49_64,m49_65,m49_68,m49_69,m49_70,m49_71,m49_72,m49_74,m49_77,m49_78,m49_81,m49_82,m49_83,m49_84,m49_85,m49_86,m49_87,m49_90,m50_0,m50_1,m50_2,m50_5,m50_6,m50_7,m50_10,m50_11,m50_14,m50_15,m50_16u,m50_17,m50_18,m50_19,m50_22,m50_23,m50_24,m50_27,m50_28,m50_29,m50_32,m50_33,m50_34,m50_35,m50_39,m50_42,m50_43,m50_44,m50_47,m50_48,m50_49,m50_52,m50_55,m50_56u,m50_58,m50_60,m50_61,m50_64,m50_65,m50_68,m50_70,m50_71,m50_72,m50_75,m50_78,m50_79i,m50_81,m50_83,m50_84,m50_87,m50_89,m50_90,m50_93,m50_94,m50_95,m50_97,m50_100u,m50_100i,m50_100r,m50_102,m50_103,m50_106,m50_109,m50_110,m50_111,m50_114,m50_115,m50_117,m50_118,m50_119,m50_120,m50_121,m50_124,m50_127,m50_128,m50_131,m50_133,m50_134,m50_135,m50_137,m50_138,m50_141,m50_144,m51_0,m51_1,m51_4,m51_5,m51_6,m51_9,m51_10,m51_11,m51_12,m51_14,m51_17,m51_18,m51_19,m51_20,m52_0,m52_1,m52_4u,m52_5,m52_6,m52_7,m52_8,m52_11u,m52_12,m52_13,m52_14,m52_17,m53_0,m53_1,m53_2,m53_9,m53_10,m53_12,m53_25,m53_26,m53_27,m53_28,m53_30,m53_33,m53_36,m53_37,m53_40,m53_41,m53_42,m53_43,m53_44,m53_45,m53_48,m53_49,m54_0,m54_1,m54_4,m54_5,m54_8,m54_11,m54_12,m54_13,m54_16,m54_17,m54_20,m54_21,m54_24,m54_25,m54_26,m54_29,m54_30,m54_31,m54_34,m54_35,m55_0,m55_1,m55_3,m55_4u,m55_5,m55_6,m55_9,m55_10,m55_11,m55_14,m55_15,m55_16,m55_19,m55_20,m55_21,m55_24,m55_25,m55_26,m55_29,m55_30,m55_31,m55_34,m55_35,m55_36,m55_39,m55_40,m55_41,m55_44,m55_45,m55_46,m55_49,m55_50,m55_51,m55_54,m55_55,m55_56u,m55_57,m55_58,m55_59,m55_62,m55_63,m55_66,m55_67,m55_68,m55_69,m55_70,m55_71,m55_72,m55_75,m55_76,m55_77,m55_78,m55_81,m55_84,m56_0,m56_1,m56_2,m56_5,m56_6,m56_8,m56_13,m56_14,m56_15,m56_16u,m56_17,m56_18,m56_19,m56_22,m56_23,m56_24,m56_29,m56_30,m56_33,m56_34,m56_35,m56_36,m56_37,m56_38,m56_39,m57_0,m57_3,m57_4,m57_6,m57_8,m57_11u,m57_13,m57_15,m57_16,m57_17,m57_20,m57_21,m57_23,m57_24,m57_25,m57_28,m57_29,m57_31,m57_32,m57_33,m57_36,m57_37,m57_39,m57_40,m57_41,m57_44,m57_45,m57_47,m57_48,m57_49,m57_50,m57_52,m57_55,m57_56,m57_58,m57_59,m57_60,m57_63,m57_64,m57_66,m57_68,m57_69,m57_72,m57_73,m57_75,m57_76,m57_77,m57_80,m57_81,m57_83,m57_84,m57_85,m57_88,m57_89,m57_91,m57_92,m57_93,m57_96,m57_97,m57_99,m57_101,m57_102,m57_105,m57_106,m57_108,m57_109,m57_110,m57_113,m57_114,m57_116,m57_117,m57_118,m57_121,m57_122,m57_124,m57_125,m57_126,m57_129,m57_130,m57_132,m57_134,m57_135,m57_138,m57_139,m57_141,m57_142,m57_143,m57_146,m57_147,m57_149,m57_150,m57_151,m57_154,m57_155,m57_157,m57_159,m57_160,m57_163,m57_164,m57_166,m57_167,m57_168,m57_171,m57_172,m57_174,m57_175,m57_178,m57_183,m57_185,m57_186,m57_187,m57_188,m57_191,m57_196,m57_198,m57_200,m57_203u,m57_205,m57_206,m57_208,m57_209u,m57_211,m57_213,m57_214,m57_217,m57_218,m57_221,m57_222u,m57_224,m57_225,m57_228,m57_229,m57_231,m57_234,m57_235,m57_238,m57_239u,m57_241,m57_243,m57_245,m57_248,m57_249,m57_252,m57_253,m57_258,m57_260,m57_261,m57_264,m57_266,m57_269,m57_270,m57_273,m57_274,m57_279,m57_281,m57_283,m57_286,m57_287,m57_292,m57_294,m57_295,m57_298,m57_300,m57_305,m57_307,m57_308,m57_309,m57_312,m57_313,m57_318,m57_320,m57_322,m57_325,m57_327,m57_330,m57_331,m57_334,m57_335,m57_340,m57_342,m57_345,m57_346,m57_349,m57_350u,m57_352,m57_354,m57_357,m57_358,m57_361,m57_362u,m57_364,m57_366,m57_369,m57_371,m57_372,m57_373,m57_376,m57_377u,m57_379,m57_381,m57_384,m57_385,m57_388,m57_390,m57_391,m57_392,m57_395,m57_396u,m57_398,m57_400,m57_403,m57_405,m57_408,m57_409,m57_412,m57_413u,m57_415,m57_417,m57_420,m57_421,m57_424,m57_425,m57_428,m57_429,m57_431,m57_434,m57_435,m57_438,m57_439,m57_440,m57_443,m57_444u,m57_446,m57_448,m57_451,m57_452,m57_455,m57_456u,m57_458,m57_460,m57_461,m57_462,m57_465,m57_467,m57_472,m57_474,m57_475,m57_476,m57_479,m57_484,m57_486,m57_487,m57_488,m57_491,m57_493,m57_498,m57_500,m57_501,m57_502,m57_505,m57_507,m57_512,m57_514,m57_515,m57_516,m57_519,m57_521,m57_526,m57_528,m57_529,m57_531,m57_534,m57_536,m57_541,m57_543,m57_544,m57_545,m57_548,m57_550,m57_555,m57_557,m57_558,m57_560,m57_563,m57_565,m57_568,m57_569,m57_573,nb0,nb1,ou_a,Option.toList_some,Option.toList_none,List.nil_append,List.cons_append,ou_same,ou_comm,setA_same,setA_comm,own_l0,own_l1,own_l2,own_l3,own_l4,own_l5,own_l6,own_l7,own_l8,own_l9,own_l10,own_l11,own_l12,own_l13,getA_set2,setA_len,inB_iff,A0g_0,A0g_1,A0g_2,A0g_3,A0g_4,A0g_5,A0g_6,A0g_7,A0g_8,A0g_9,A0g_10,A0g_11,A0g_12,A0g_13,A0g_14,A0g_15,A0g_16,A0g_17,A0g_18,A0g_19,A0g_20,A0g_21,A0g_22,A0g_23,A0g_24,A0g_25,A0g_26,A0g_27,A0g_28,A0g_29,A0g_30,A0g_31,A0l_0,A0l_1,A0l_2,A0l_3,A0l_4,A0l_5,A0l_6,A0l_7,A0l_8,A0l_9,A0l_10,A0l_11,A0l_12,A0l_13,A0l_14,A0l_15,A0l_16,A0l_17,A0l_18,A0l_19,A0l_20,A0l_21,A0l_22,A0l_23,A0l_24,A0l_25,A0l_26,A0l_27,A0l_28,A0l_29,A0l_30,A0l_31]
    exact hQ _ _ (by (repeat refine len_ou ?_ (by simp only [setA_len])); exact fun _ => rfl)
set_option maxRecDepth 1000000 in
set_option maxHeartbeats 20000000 in
theorem own_r1 (i0 i1 i2 i3 i4 i5 : Int32) (s : Nat→Int32) (h0 : s 0 = 0) (h1 : s 1 = 0) (h2 : s 2 = 0) (h3 : s 3 = 0) (h4 : s 4 = 0) (h5 : s 5 = 0) (h6 : s 6 = 0) (h7 : s 7 = 0) (h8 : s 8 = 0) (h9 : s 9 = 0) (h10 : s 10 = 0) (h11 : s 11 = 0) (h12 : s 12 = 0) (h13 : s 13 = 0) (h14 : s 14 = 0) (h15 : s 15 = 0) (h16 : s 16 = 0) (h19 : s 19 = 0) (h20 : s 20 = 0) (h21 : s 21 = 0) (h22 : s 22 = 0) (h23 : s 23 = 0) (h24 : s 24 = 0) (h25 : s 25 = 0) (h26 : s 26 = 0) (h27 : s 27 = 0) (hc : 0 < s 17) (Q : Option Value→AHeap→Prop) (hQ : ∀ s' A',(∀ i,(A' i).length = (A0 i).length)→Q (some (.int 1)) (put 0 [] s' A' [])) (q1 : ¬ i2 < 0) (q2 : 31 < i2) :
    M57 11 [.val (.int i0),.val (.int i1),.val (.int i2),.val (.int i3),.val (.int i4),.val (.int i5),.unset,.unset,.unset,.unset,.unset,.unset,.unset,.unset,.unset,.unset,.unset,.unset] [.ref 0] (put 0 [] s A0 []) Q:=by
  have c:=and_bd i4 7 (by decide)
  have c2 : 0≤(i4 &&& 7).toInt:=c.1
  have c3 : (i4 &&& 7).toInt < 8:=Int.lt_of_le_of_lt c.2 (by decide)
  simp [h0,h1,h2,h3,h4,h5,h6,h7,h8,h9,h10,h11,h12,h13,h14,h15,h16,h19,h20,h21,h22,h23,h24,h25,h26,h27,hc,c2,c3,q1,q2,m0_0,m0_1,m0_4,m0_5,m0_12,m0_13,m0_20,m0_21,m0_28,m0_29,m0_36,m0_37,m0_44,m0_45,m0_52,m0_53,m0_60,m0_61,m0_67,m0_68,m0_74,m0_75,m0_81,m0_82,m0_88,m0_89,m0_95,m0_96,m0_102,m0_103,m0_111,m0_112,m0_120,m0_121,m0_128,m0_129,m0_136,m0_137,m0_144,m0_145,m0_152,m0_153,m0_159,m0_160,m0_166,m0_167,m0_174,m0_175,m0_182,m0_183,m0_190,m0_191,m0_198,m0_199,m0_206,m0_207,m0_214,m0_215,m0_222,m0_223,m0_230,m0_231,m0_238,m0_239,m0_246,m0_247,m0_253,m0_254u,m0_255,m0_256,m0_257,m0_260,m0_261i,m0_262,m0_263,m0_265,m0_268,m0_270i,m0_271,m0_272,m0_273,m0_276,m0_277u,m0_279,m0_281,m0_284,m0_285i,m0_287,m0_289,m0_290,m0_293,m0_294i,m0_296,m0_297,m0_299,m0_302,m0_303,m0_304,m0_307,m0_308,m0_309,m0_312,m0_313,m0_314,m0_317,m1_0,m1_1,m1_2,m1_3,m1_5,m1_8,m1_11,m1_12,m1_15,m1_16,m1_17,m1_18,m1_19,m2_0,m2_1,m2_2,m2_5,m2_6,m2_7,m2_10,m2_11,m2_14,m2_15,m3_0,m3_1,m3_2,m3_3,m3_5,m3_8,m3_11,m3_12,m3_13,m3_14,m3_17,m3_18,m3_19,m3_20,m3_21,m4_0,m4_1,m4_2,m4_3,m4_4,m4_6,m4_9,m4_14,m4_15,m4_41,m4_42,m4_45,m4_46,m4_47,m4_48,m4_49,m4_52,m4_53,m4_54,m4_55,m4_56,m4_59,m4_60,m4_62,m4_63,m4_64,m5_0,m5_1,m5_2,m5_3,m5_5,m5_8,m5_13,m5_14,m5_15,m5_16,m5_18,m5_21,m5_26,m5_27,m5_32,m5_33,m5_34,m5_35,m5_37,m5_40,m5_45,m5_46,m5_47,m5_49,m5_52,m6_0,m6_1,m6_2,m6_5,m6_6,m6_7,m6_10,m6_11,m6_12,m6_15,m6_16,m6_18,m6_30,m6_31,m6_33,m6_45,m6_46,m7_0,m7_1,m7_4,m7_7,m7_8,m7_11,m7_13,m7_18,m7_19,m7_20,m7_21,m7_23,m7_26,m7_31,m7_32,m7_33,m7_36,m7_37,m7_38,m7_39,m7_41,m7_44,m7_49,m7_50,m7_53,m7_54,m7_57,m7_58,m7_59,m7_60,m7_63,m7_64,m7_65,m7_68,m7_69,m7_72,m7_73,m7_76,m7_77,m7_78,m7_81,m7_82,m7_85,m7_86,m7_89,m7_90,m7_91,m7_92,m7_93,m7_96,m7_97,m7_98,m7_101,m7_102,m8_0,m8_1,m8_2,m8_5u,m8_6,m8_7,m8_8,m8_11,m8_12,m9_0,m9_1,m9_2,m9_3,m9_4,m9_7,m9_12,m9_13,m9_16,m9_21,m9_22,m9_25,m9_26,m9_31,m9_32,m9_35,m9_37,m9_42,m9_43,m9_44,m9_47,m9_48,m10_0,m10_1,m10_4,m10_5,m10_8,m10_13,m10_14u,m10_15,m10_16,m10_18,m10_21,m10_22,m10_23,m10_26,m10_29,m10_30,m10_33,m10_34,m10_35u,m10_35i,m10_35r,m10_36,m10_37,m10_40,m10_41,m10_42u,m10_42i,m10_42r,m10_43,m10_44,m10_47,m10_50,m10_51,m10_52,m10_53,m10_56,m10_59,m10_60,m10_61,m10_64u,m10_64i,m10_64r,m10_66,m10_68,m10_73,m10_76,m10_79,m10_80,m10_83,m11_0,m11_1,m11_2,m11_5,m11_6,m11_7,m11_10,m11_11,m11_12,m11_15,m11_16,m11_17,m11_20,m11_21,m11_22,m11_25,m11_26,m11_27,m11_30,m11_31,m11_32,m11_35,m12_0,m12_1,m12_4,m12_5,m12_6,m12_9,m12_10,m12_11,m12_14,m12_19,m12_20,m12_21,m12_22,m12_25,m12_30,m12_31,m12_32,m12_35,m12_36,m12_37,m12_38,m12_39,m12_42,m12_50,m12_51,m12_52,m12_53,m12_56,m13_0,m13_1,m13_4,m13_7,m13_8,m13_11,m13_13,m13_18,m13_19,m13_22,m13_23,m13_26,m13_27,m13_28,m13_29,m13_30,m13_33,m13_34,m13_35,m13_38,m13_39,m14_0,m14_1,m14_4,m14_7,m14_8,m14_11,m14_13,m14_18,m14_19,m14_22,m14_23,m14_26,m14_27,m14_28,m14_29,m14_32,m14_33,m14_36,m14_37,m14_38,m14_39,m14_40,m14_43,m14_44,m14_45,m14_48,m14_49,m15_0,m15_1,m15_2,m15_10,m15_11,m15_12,m15_15,m15_16,m15_19,m15_20,m15_21,m15_22,m15_25,m15_30,m15_31,m15_32,m15_35,m16_0,m16_1,m16_3,m16_6,m16_7,m16_9,m16_12,m16_13,m16_17,m17_0,m17_1,m17_2,m17_5u,m17_6,m17_7,m17_8,m17_11,m17_16,m17_17,m17_20u,m17_21,m17_22,m17_24,m17_27,m17_28,m17_30,m17_44,m17_45,m17_46,m17_47,m17_50,m17_55,m17_56,m17_57,m17_60,m17_61,m18_0,m18_1,m18_3,m18_6,m18_7,m18_9,m18_12,m18_13,m18_15,m18_18,m18_20,m18_21,m18_22,m18_24,m18_27,m18_28,m18_30,m18_33,m18_34,m18_35,m18_36,m18_38,m18_41,m18_42,m18_44,m18_47,m18_48,m18_49,m18_50,m18_52,m18_55,m18_56,m18_58,m18_63,m18_64,m18_66,m18_71,m18_72,m18_74,m18_79,m18_80,m18_81,m18_84,m18_87,m18_89,m19_0,m19_1u,m19_2,m19_3,m19_5,m19_8,m19_9,m19_12,m19_15,m19_16,m19_19,m19_20,m19_23,m19_24,m19_25,m19_26u,m19_26i,m19_26r,m19_27,m19_28,m19_29,m19_34,m19_35,m19_36,m19_39,m19_40,m19_45,m19_46,m19_47,m19_50,m19_51,m19_52,m19_55,m19_56,m19_57,m19_58,m19_61,m19_62,m19_65,m19_66,m19_69,m19_74,m19_77,m19_80,m19_81,m20_0,m20_1,m20_4,m20_7,m20_8,m20_11,m20_13,m20_18,m20_19,m20_22,m20_23,m20_26,m20_27,m20_28,m20_29,m20_32,m20_33,m20_36,m20_37,m20_38,m20_39,m20_40,m20_43,m20_44,m20_45,m20_48,m20_49,m21_0,m21_1,m21_2,m21_5,m21_10,m21_11,m21_14,m21_19,m21_20,m21_23,m21_28,m21_29,m21_30,m21_33,m21_34,m22_0,m22_1,m22_2,m22_5,m22_8,m22_9,m22_12,m22_13,m22_18,m22_19,m22_20,m22_21,m22_24,m22_25,m22_26,m22_29,m22_34,m22_35,m22_37,m22_40,m22_41,m22_43,m22_80,m22_81,m22_82,m22_83,m22_86,m23_0,m23_1,m23_2,m23_5,m23_6,m23_8,m23_11,m23_12,m23_14,m23_17,m23_18,m23_21,m23_22,m24_0,m24_1,m24_4,m24_5,m24_8,m24_9,m24_12,m24_14,m24_19,m24_20,m24_23,m24_24,m24_27,m24_28,m24_29,m24_30u,m24_31,m24_32,m24_35,m24_36,m24_39,m24_40,m24_41,m24_42u,m24_43,m24_44,m24_45,m24_48,m24_49,m24_50,m24_53,m24_54,m24_55,m24_56u,m24_57,m24_58,m24_61,m24_62,m24_65,m24_66,m24_67,m24_68,m24_69,m24_76,m24_77,m24_78,m24_79,m25_0,m25_1,m25_4,m25_5,m25_10,m25_11,m25_14,m25_15,m25_16u,m25_17,m25_18,m25_19,m25_22,m25_25,m25_26,m25_27,m25_30,m25_31,m25_34,m25_37,m25_38,m25_41,m25_42,m25_45,m25_46,m25_49,m25_50,m25_53,m25_54,m25_57,m25_58,m25_59,m25_62,m25_63,m25_66,m25_67,m25_70,m25_71,m25_72,m25_73,m25_76,m25_77,m25_78,m25_81,m25_82,m25_83,m25_86,m25_89,m25_90,m25_91,m25_94,m25_95,m26_0,m26_1,m26_4,m26_9,m26_10,m26_11,m26_14,m26_19,m26_20,m26_23,m26_28,m26_29,m26_32,m27_0,m27_1,m27_2,m27_3,m27_4,m27_7,m27_11,m27_12,m27_14,m27_15u,m27_16,m27_17u,m27_18,m27_19,m27_21,m27_24,m27_25,m27_26,m27_29,m27_32,m27_33,m27_36,m27_37u,m27_37i,m27_37r,m27_39,m27_40,m27_43,m27_44,m27_45,m27_46,m27_48,m27_51,m27_52,m27_55,m27_56,m27_57,m27_60,m27_61,m27_62,m27_63,m27_66,m27_67,m27_68,m27_69,m27_71,m27_74,m27_75,m27_78,m27_79,m27_80,m27_83,m27_84,m27_85,m27_88,m27_91,m27_92i,m27_93,m27_94,m27_95,m27_98,m27_99,m27_100,m27_103,m27_106,m27_107,m27_111u,m27_111i,m27_111r,m27_113,m27_114,m27_117,m27_118,m27_119,m27_120,m27_121,m27_122,m27_124,m27_127,m27_128,m27_131,m27_132,m27_133,m27_137,m27_138,m27_139,m27_142,m27_143,m27_144,m27_145,m27_146,m27_147,m27_149,m27_152,m27_153,m27_156,m27_157,m27_158,m27_162,m27_163,m27_166,m27_169,m27_170,m27_173,m27_174,m27_175,m27_178,m27_179,m27_180,m27_183,m27_184,m27_185,m27_188,m27_189,m27_190,m27_193,m27_194,m27_195,m27_198,m27_199,m27_202,m27_203,m27_204,m27_205,m27_206,m27_209,m27_210,m27_211,m27_212,m28_0,m28_1,m28_2,m28_3,m28_4,m28_7,m28_12,m28_13,m28_16,m28_17,m28_18,m28_23,m28_24,m28_25,m28_26,m28_28,m28_31,m28_36,m28_37,m28_47,m28_48,m28_49,m28_52u,m28_54,m28_56,m28_67,m28_68,m28_71,m28_72,m28_73,m28_74,m28_75,m28_78,m28_79,m28_80,m28_81,m28_82,m28_85,m28_86,m28_87,m28_88,m28_89,m28_92,m28_93,m28_94,m28_95,m28_96,m29_0,m29_1u,m29_2,m29_3,m29_4,m29_7,m29_8,m29_11,m29_12,m29_13,m29_14,m29_17,m29_18,m29_21,m29_22,m29_23,m29_24,m29_27,m29_28,m29_29,m29_32,m29_35,m29_36,m30_0,m30_1,m30_2,m30_7,m30_8,m30_11,m30_20,m30_21u,m30_22,m30_23,m30_24,m30_27,m30_28,m30_29,m30_32,m30_33u,m30_34,m30_35,m30_38,m30_41,m30_42,m30_43,m30_46i,m30_47,m30_48,m30_49,m30_52,m30_53,m31_0,m31_1u,m31_2,m31_3,m31_4,m31_7,m31_8,m31_11,m31_14,m31_15,m31_18u,m31_18i,m31_18r,m31_19,m31_20,m31_23,m31_24,m31_25,m31_28,m32_0,m32_1,m32_4,m32_6,m32_7u,m32_8,m32_9,m32_12,m32_23,m32_24,m32_25,m32_28u,m32_29,m32_30,m32_33,m32_34,m32_35,m32_36,m32_39u,m32_40,m32_41,m32_44,m32_45,m32_46,m32_47,m32_48,m32_51,m32_52,m32_53,m32_56,m32_57,m32_58,m32_61,m32_62,m32_65,m32_68,m32_69,m32_70,m32_71,m33_0,m33_1,m33_3,m33_4u,m33_5,m33_6,m33_9,m33_10,m33_11u,m33_12,m33_13,m33_16,m33_17,m33_18,m33_20,m33_21u,m33_23,m33_24,m33_27,m33_28,m33_29u,m33_31,m33_32,m33_35,m33_36,m33_37,m33_40,m33_41,m33_42,m33_45,m33_46,m33_47,m33_49,m33_81,m33_82,m33_83,m33_85,m33_87,m33_90,m33_91,m33_92,m33_93,m33_94,m33_96,m33_97,m33_100,m34_0,m34_1,m34_4,m34_5,m34_7,m34_8,m34_9u,m34_11,m34_12,m34_13,m34_26,m34_27,m34_28,m34_49,m34_50,m34_51,m34_72,m34_73,m34_74,m34_77,m34_78,m34_81,m34_82,m34_83,m34_86,m34_87,m34_88,m34_89,m34_90,m34_91,m34_140,m35_0,m35_1,m35_2,m35_3,m35_4,m35_7,m35_12,m35_13,m35_16,m35_17,m35_18,m35_21,m35_22,m35_23,m35_24,m35_25,m35_26,m35_27,m35_28,m35_29,m35_32u,m35_33,m35_34,m35_37,m35_55,m35_56,m35_59,m35_60,m35_61,m35_62,m35_63,m35_64,m35_67,m35_68,m35_71,m35_81,m35_82,m35_85,m35_86,m35_87,m35_90,m35_91,m35_92,m35_95,m35_96,m36_0,m36_1,m36_2,m36_5,m36_6,m36_7,m36_10,m36_11,m36_12,m36_13,m36_14,m36_17,m36_20,m36_21,m36_22,m36_23,m36_24,m36_27,m36_32,m36_33,m36_35,m36_36u,m36_37,m36_38,m36_41,m36_42,m36_43,m36_44,m36_45,m36_46,m36_47u,m36_49,m36_50,m36_53,m36_54,m36_55,m36_56,m36_57,m36_58,m36_59u,m36_61,m36_63,m36_65,m36_72,m36_73u,m36_75,m36_77,m36_79,m36_82,m36_84,m36_87,m36_89,m36_91,m36_94,m36_95,m36_96,m36_99,m36_100,m36_102,m36_103,m36_104,m36_105,m36_108,m36_109,m36_111,m36_112,m36_113,m36_115,m36_118i,m36_120,m36_121,m36_124,m36_127,m36_128,m36_129,m36_132,m36_135,m36_136,m36_139,m37_0,m37_1,m37_13,m37_14,m37_15,m37_18,m37_19,m37_20,m37_23,m37_24,m37_26,m37_27,m37_28,m37_31,m37_32,m37_33,m37_34,m37_35,m37_36,m37_38,m37_41,m37_42,m37_44,m37_55,m37_56,m37_58,m37_85,m37_86,m37_87,m37_90,m37_93,m37_94,m37_95,m37_98,m37_99,m37_100,m37_101,m37_102,m37_103,m37_104,m37_107,m37_108,m37_109,m37_110,m38_0,m38_1,m38_4,m38_7,m38_8,m38_11,m38_13,m38_16,m38_17,m38_20,m38_21,m38_24,m38_25,m38_26,m38_27,m38_28,m38_31,m38_32,m38_33,m38_36,m39_0,m39_1,m39_4u,m39_5,m39_6,m39_9u,m39_10,m39_11,m39_12,m39_13,m39_14,m39_17u,m39_19,m39_20,m39_22,m39_25,m40_0,m40_1,m40_4,m40_7,m40_8,m40_11,m40_13,m40_16,m40_17,m40_18,m40_21,m40_22,m40_23,m40_26,m40_27,m40_30,m40_31,m40_34,m40_35,m41_0,m41_1,m41_3,m41_10,m41_11,m41_13,m41_20,m41_21,m41_23,m41_26,m41_27,m41_28,m41_29,m41_30,m41_31,m41_33,m41_36,m41_37,m41_39,m41_42,m41_43,m41_44,m41_45,m41_46,m41_49,m41_50,m41_51,m41_52,m41_53,m41_54,m41_57,m42_0,m42_1,m42_3,m42_21,m42_22,m42_24,m42_42,m42_43,m42_45,m42_48,m42_49,m42_50,m42_51,m42_54,m42_55,m42_58,m42_59,m42_62,m43_0,m43_1,m43_4,m43_5,m43_8,m43_9,m44_0,m44_1,m44_4,m44_7,m44_8,m44_11,m44_13,m44_16,m44_17,m44_20,m44_21,m44_24,m44_25,m44_26,m44_27,m45_0,m45_1,m45_17,m45_18,m45_19,m45_35,m45_36,m45_37,m45_40,m45_41,m45_44,m45_45,m45_46,m45_47,m45_55,m45_56,m45_57,m45_65,m45_66,m45_67,m45_75,m45_76,m45_77,m45_80,m46_0,m46_1,m46_2,m46_3,m46_5,m46_8,m46_11,m46_12,m46_15,m46_16,m46_17,m46_18,m46_19,m46_21,m46_24,m46_25,m46_28,m47_0,m47_1,m47_2,m47_3,m47_4,m47_7,m47_12,m47_13,m47_16,m47_17,m47_18,m47_19,m47_22,m47_23,m47_27u,m47_28,m47_29,m47_39,m47_40,m47_41,m47_59,m47_60,m47_61,m47_79,m47_80,m47_81,m47_84,m47_85,m47_88,m47_89,m47_90,m48_0,m48_1,m48_3,m48_6,m48_7,m48_10,m49_0,m49_1,m49_4,m49_5,m49_6,m49_9,m49_12,m49_13,m49_14,m49_15,m49_18,m49_19,m49_20,m49_22,m49_23u,m49_24,m49_25,m49_28,m49_29,m49_32,m49_33,m49_34,m49_35,m49_36,m49_37,m49_40,m49_41,m49_44,m49_45,m49_46,m49_47,m49_48,m49_49,m49_52,m49_53,m49_56,m49_57,m49_58,m49_59,m49_60,m49_61,m49_64,m49_65,m49_68,m49_69,m49_70,m49_71,m49_72,m49_74,m49_77,m49_78,m49_81,m49_82,m49_83,m49_84,m49_85,m49_86,m49_87,m49_90,m50_0,m50_1,m50_2,m50_5,m50_6,m50_7,m50_10,m50_11,m50_14,m50_15,m50_16u,m50_17,m50_18,m50_19,m50_22,m50_23,m50_24,m50_27,m50_28,m50_29,m50_32,m50_33,m50_34,m50_35,m50_39,m50_42,m50_43,m50_44,m50_47,m50_48,m50_49,m50_52,m50_55,m50_56u,m50_58,m50_60,m50_61,m50_64,m50_65,m50_68,m50_70,m50_71,m50_72,m50_75,m50_78,m50_79i,m50_81,m50_83,m50_84,m50_87,m50_89,m50_90,m50_93,m50_94,m50_95,m50_97,m50_100u,m50_100i,m50_100r,m50_102,m50_103,m50_106,m50_109,m50_110,m50_111,m50_114,m50_115,m50_117,m50_118,m50_119,m50_120,m50_121,m50_124,m50_127,m50_128,m50_131,m50_133,m50_134,m50_135,m50_137,m50_138,m50_141,m50_144,m51_0,m51_1,m51_4,m51_5,m51_6,m51_9,m51_10,m51_11,m51_12,m51_14,m51_17,m51_18,m51_19,m51_20,m52_0,m52_1,m52_4u,m52_5,m52_6,m52_7,m52_8,m52_11u,m52_12,m52_13,m52_14,m52_17,m53_0,m53_1,m53_2,m53_9,m53_10,m53_12,m53_25,m53_26,m53_27,m53_28,m53_30,m53_33,m53_36,m53_37,m53_40,m53_41,m53_42,m53_43,m53_44,m53_45,m53_48,m53_49,m54_0,m54_1,m54_4,m54_5,m54_8,m54_11,m54_12,m54_13,m54_16,m54_17,m54_20,m54_21,m54_24,m54_25,m54_26,m54_29,m54_30,m54_31,m54_34,m54_35,m55_0,m55_1,m55_3,m55_4u,m55_5,m55_6,m55_9,m55_10,m55_11,m55_14,m55_15,m55_16,m55_19,m55_20,m55_21,m55_24,m55_25,m55_26,m55_29,m55_30,m55_31,m55_34,m55_35,m55_36,m55_39,m55_40,m55_41,m55_44,m55_45,m55_46,m55_49,m55_50,m55_51,m55_54,m55_55,m55_56u,m55_57,m55_58,m55_59,m55_62,m55_63,m55_66,m55_67,m55_68,m55_69,m55_70,m55_71,m55_72,m55_75,m55_76,m55_77,m55_78,m55_81,m55_84,m56_0,m56_1,m56_2,m56_5,m56_6,m56_8,m56_13,m56_14,m56_15,m56_16u,m56_17,m56_18,m56_19,m56_22,m56_23,m56_24,m56_29,m56_30,m56_33,m56_34,m56_35,m56_36,m56_37,m56_38,m56_39,m57_0,m57_3,m57_4,m57_6,m57_8,m57_11u,m57_13,m57_15,m57_16,m57_17,m57_20,m57_21,m57_23,m57_24,m57_25,m57_28,m57_29,m57_31,m57_32,m57_33,m57_36,m57_37,m57_39,m57_40,m57_41,m57_44,m57_45,m57_47,m57_48,m57_49,m57_50,m57_52,m57_55,m57_56,m57_58,m57_59,m57_60,m57_63,m57_64,m57_66,m57_68,m57_69,m57_72,m57_73,m57_75,m57_76,m57_77,m57_80,m57_81,m57_83,m57_84,m57_85,m57_88,m57_89,m57_91,m57_92,m57_93,m57_96,m57_97,m57_99,m57_101,m57_102,m57_105,m57_106,m57_108,m57_109,m57_110,m57_113,m57_114,m57_116,m57_117,m57_118,m57_121,m57_122,m57_124,m57_125,m57_126,m57_129,m57_130,m57_132,m57_134,m57_135,m57_138,m57_139,m57_141,m57_142,m57_143,m57_146,m57_147,m57_149,m57_150,m57_151,m57_154,m57_155,m57_157,m57_159,m57_160,m57_163,m57_164,m57_166,m57_167,m57_168,m57_171,m57_172,m57_174,m57_175,m57_178,m57_183,m57_185,m57_186,m57_187,m57_188,m57_191,m57_196,m57_198,m57_203u,m57_205,m57_206,m57_208,m57_209u,m57_211,m57_213,m57_214,m57_217,m57_218,m57_221,m57_222u,m57_224,m57_225,m57_228,m57_229,m57_231,m57_234,m57_235,m57_238,m57_239u,m57_241,m57_243,m57_245,m57_248,m57_249,m57_252,m57_253,m57_258,m57_260,m57_261,m57_264,m57_266,m57_269,m57_270,m57_273,m57_274,m57_279,m57_281,m57_283,m57_286,m57_287,m57_292,m57_294,m57_295,m57_298,m57_300,m57_305,m57_307,m57_308,m57_309,m57_312,m57_313,m57_318,m57_320,m57_322,m57_325,m57_327,m57_330,m57_331,m57_334,m57_335,m57_340,m57_342,m57_345,m57_346,m57_349,m57_350u,m57_352,m57_354,m57_357,m57_358,m57_361,m57_362u,m57_364,m57_366,m57_369,m57_371,m57_372,m57_373,m57_376,m57_377u,m57_379,m57_381,m57_384,m57_385,m57_388,m57_390,m57_391,m57_392,m57_395,m57_396u,m57_398,m57_400,m57_403,m57_405,m57_408,m57_409,m57_412,m57_413u,m57_415,m57_417,m57_420,m57_421,m57_424,m57_425,m57_428,m57_429,m57_431,m57_434,m57_435,m57_438,m57_439,m57_440,m57_443,m57_444u,m57_446,m57_448,m57_451,m57_452,m57_455,m57_456u,m57_458,m57_460,m57_461,m57_462,m57_465,m57_467,m57_472,m57_474,m57_475,m57_476,m57_479,m57_484,m57_486,m57_487,m57_488,m57_491,m57_493,m57_498,m57_500,m57_501,m57_502,m57_505,m57_507,m57_512,m57_514,m57_515,m57_516,m57_519,m57_521,m57_526,m57_528,m57_529,m57_531,m57_534,m57_536,m57_541,m57_543,m57_544,m57_545,m57_548,m57_550,m57_555,m57_557,m57_558,m57_560,m57_563,m57_565,m57_568,m57_569,m57_573,nb0,nb1,ou_a,Option.toList_some,Option.toList_none,List.nil_append,List.cons_append,ou_same,ou_comm,setA_same,setA_comm,own_l0,own_l1,own_l2,own_l3,own_l4,own_l5,own_l6,own_l7,own_l8,own_l9,own_l10,own_l11,own_l12,own_l13,getA_set2,setA_len,inB_iff,A0g_0,A0g_1,A0g_2,A0g_3,A0g_4,A0g_5,A0g_6,A0g_7,A0g_8,A0g_9,A0g_10,A0g_11,A0g_12,A0g_13,A0g_14,A0g_15,A0g_16,A0g_17,A0g_18,A0g_19,A0g_20,A0g_21,A0g_22,A0g_23,A0g_24,A0g_25,A0g_26,A0g_27,A0g_28,A0g_29,A0g_30,A0g_31,A0l_0,A0l_1,A0l_2,A0l_3,A0l_4,A0l_5,A0l_6,A0l_7,A0l_8,A0l_9,A0l_10,A0l_11,A0l_12,A0l_13,A0l_14,A0l_15,A0l_16,A0l_17,A0l_18,A0l_19,A0l_20,A0l_21,A0l_22,A0l_23,A0l_24,A0l_25,A0l_26,A0l_27,A0l_28,A0l_29,A0l_30,A0l_31]
  by_cases g : i1 < i0 + i4
  · by_cases z : i1 = 0
    · subst z
      simp [h0,h1,h2,h3,h4,h5,h6,h7,h8,h9,h10,h11,h12,h13,h14,h15,h16,h19,h20,h21,h22,h23,h24,h25,h26,h27,hc,c2,c3,g,q1,q2,m0_0,m0_1,m0_4,m0_5,m0_12,m0_13,m0_20,m0_21,m0_28,m0_29,m0_36,m0_37,m0_44,m0_45,m0_52,m0_53,m0_60,m0_61,m0_67,m0_68,m0_74,m0_75,m0_81,m0_82,m0_88,m0_89,m0_95,m0_96,m0_102,m0_103,m0_111,m0_112,m0_120,m0_121,m0_128,m0_129,m0_136,m0_137,m0_144,m0_145,m0_152,m0_153,m0_159,m0_160,m0_166,m0_167,m0_174,m0_175,m0_182,m0_183,m0_190,m0_191,m0_198,m0_199,m0_206,m0_207,m0_214,m0_215,m0_222,m0_223,m0_230,m0_231,m0_238,m0_239,m0_246,m0_247,m0_253,m0_254u,m0_255,m0_256,m0_257,m0_260,m0_261i,m0_262,m0_263,m0_265,m0_268,m0_270i,m0_271,m0_272,m0_273,m0_276,m0_277u,m0_279,m0_281,m0_284,m0_285i,m0_287,m0_289,m0_290,m0_293,m0_294i,m0_296,m0_297,m0_299,m0_302,m0_303,m0_304,m0_307,m0_308,m0_309,m0_312,m0_313,m0_314,m0_317,m1_0,m1_1,m1_2,m1_3,m1_5,m1_8,m1_11,m1_12,m1_15,m1_16,m1_17,m1_18,m1_19,m2_0,m2_1,m2_2,m2_5,m2_6,m2_7,m2_10,m2_11,m2_14,m2_15,m3_0,m3_1,m3_2,m3_3,m3_5,m3_8,m3_11,m3_12,m3_13,m3_14,m3_17,m3_18,m3_19,m3_20,m3_21,m4_0,m4_1,m4_2,m4_3,m4_4,m4_6,m4_9,m4_14,m4_15,m4_41,m4_42,m4_45,m4_46,m4_47,m4_48,m4_49,m4_52,m4_53,m4_54,m4_55,m4_56,m4_59,m4_60,m4_62,m4_63,m4_64,m5_0,m5_1,m5_2,m5_3,m5_5,m5_8,m5_13,m5_14,m5_15,m5_16,m5_18,m5_21,m5_26,m5_27,m5_32,m5_33,m5_34,m5_35,m5_37,m5_40,m5_45,m5_46,m5_47,m5_49,m5_52,m6_0,m6_1,m6_2,m6_5,m6_6,m6_7,m6_10,m6_11,m6_12,m6_15,m6_16,m6_18,m6_30,m6_31,m6_33,m6_45,m6_46,m7_0,m7_1,m7_4,m7_7,m7_8,m7_11,m7_13,m7_18,m7_19,m7_20,m7_21,m7_23,m7_26,m7_31,m7_32,m7_33,m7_36,m7_37,m7_38,m7_39,m7_41,m7_44,m7_49,m7_50,m7_53,m7_54,m7_57,m7_58,m7_59,m7_60,m7_63,m7_64,m7_65,m7_68,m7_69,m7_72,m7_73,m7_76,m7_77,m7_78,m7_81,m7_82,m7_85,m7_86,m7_89,m7_90,m7_91,m7_92,m7_93,m7_96,m7_97,m7_98,m7_101,m7_102,m8_0,m8_1,m8_2,m8_5u,m8_6,m8_7,m8_8,m8_11,m8_12,m9_0,m9_1,m9_2,m9_3,m9_4,m9_7,m9_12,m9_13,m9_16,m9_21,m9_22,m9_25,m9_26,m9_31,m9_32,m9_35,m9_37,m9_42,m9_43,m9_44,m9_47,m9_48,m10_0,m10_1,m10_4,m10_5,m10_8,m10_13,m10_14u,m10_15,m10_16,m10_18,m10_21,m10_22,m10_23,m10_26,m10_29,m10_30,m10_33,m10_34,m10_35u,m10_35i,m10_35r,m10_36,m10_37,m10_40,m10_41,m10_42u,m10_42i,m10_42r,m10_43,m10_44,m10_47,m10_50,m10_51,m10_52,m10_53,m10_56,m10_59,m10_60,m10_61,m10_64u,m10_64i,m10_64r,m10_66,m10_68,m10_73,m10_76,m10_79,m10_80,m10_83,m11_0,m11_1,m11_2,m11_5,m11_6,m11_7,m11_10,m11_11,m11_12,m11_15,m11_16,m11_17,m11_20,m11_21,m11_22,m11_25,m11_26,m11_27,m11_30,m11_31,m11_32,m11_35,m12_0,m12_1,m12_4,m12_5,m12_6,m12_9,m12_10,m12_11,m12_14,m12_19,m12_20,m12_21,m12_22,m12_25,m12_30,m12_31,m12_32,m12_35,m12_36,m12_37,m12_38,m12_39,m12_42,m12_50,m12_51,m12_52,m12_53,m12_56,m13_0,m13_1,m13_4,m13_7,m13_8,m13_11,m13_13,m13_18,m13_19,m13_22,m13_23,m13_26,m13_27,m13_28,m13_29,m13_30,m13_33,m13_34,m13_35,m13_38,m13_39,m14_0,m14_1,m14_4,m14_7,m14_8,m14_11,m14_13,m14_18,m14_19,m14_22,m14_23,m14_26,m14_27,m14_28,m14_29,m14_32,m14_33,m14_36,m14_37,m14_38,m14_39,m14_40,m14_43,m14_44,m14_45,m14_48,m14_49,m15_0,m15_1,m15_2,m15_10,m15_11,m15_12,m15_15,m15_16,m15_19,m15_20,m15_21,m15_22,m15_25,m15_30,m15_31,m15_32,m15_35,m16_0,m16_1,m16_3,m16_6,m16_7,m16_9,m16_12,m16_13,m16_17,m17_0,m17_1,m17_2,m17_5u,m17_6,m17_7,m17_8,m17_11,m17_16,m17_17,m17_20u,m17_21,m17_22,m17_24,m17_27,m17_28,m17_30,m17_44,m17_45,m17_46,m17_47,m17_50,m17_55,m17_56,m17_57,m17_60,m17_61,m18_0,m18_1,m18_3,m18_6,m18_7,m18_9,m18_12,m18_13,m18_15,m18_18,m18_20,m18_21,m18_22,m18_24,m18_27,m18_28,m18_30,m18_33,m18_34,m18_35,m18_36,m18_38,m18_41,m18_42,m18_44,m18_47,m18_48,m18_49,m18_50,m18_52,m18_55,m18_56,m18_58,m18_63,m18_64,m18_66,m18_71,m18_72,m18_74,m18_79,m18_80,m18_81,m18_84,m18_87,m18_89,m19_0,m19_1u,m19_2,m19_3,m19_5,m19_8,m19_9,m19_12,m19_15,m19_16,m19_19,m19_20,m19_23,m19_24,m19_25,m19_26u,m19_26i,m19_26r,m19_27,m19_28,m19_29,m19_34,m19_35,m19_36,m19_39,m19_40,m19_45,m19_46,m19_47,m19_50,m19_51,m19_52,m19_55,m19_56,m19_57,m19_58,m19_61,m19_62,m19_65,m19_66,m19_69,m19_74,m19_77,m19_80,m19_81,m20_0,m20_1,m20_4,m20_7,m20_8,m20_11,m20_13,m20_18,m20_19,m20_22,m20_23,m20_26,m20_27,m20_28,m20_29,m20_32,m20_33,m20_36,m20_37,m20_38,m20_39,m20_40,m20_43,m20_44,m20_45,m20_48,m20_49,m21_0,m21_1,m21_2,m21_5,m21_10,m21_11,m21_14,m21_19,m21_20,m21_23,m21_28,m21_29,m21_30,m21_33,m21_34,m22_0,m22_1,m22_2,m22_5,m22_8,m22_9,m22_12,m22_13,m22_18,m22_19,m22_20,m22_21,m22_24,m22_25,m22_26,m22_29,m22_34,m22_35,m22_37,m22_40,m22_41,m22_43,m22_80,m22_81,m22_82,m22_83,m22_86,m23_0,m23_1,m23_2,m23_5,m23_6,m23_8,m23_11,m23_12,m23_14,m23_17,m23_18,m23_21,m23_22,m24_0,m24_1,m24_4,m24_5,m24_8,m24_9,m24_12,m24_14,m24_19,m24_20,m24_23,m24_24,m24_27,m24_28,m24_29,m24_30u,m24_31,m24_32,m24_35,m24_36,m24_39,m24_40,m24_41,m24_42u,m24_43,m24_44,m24_45,m24_48,m24_49,m24_50,m24_53,m24_54,m24_55,m24_56u,m24_57,m24_58,m24_61,m24_62,m24_65,m24_66,m24_67,m24_68,m24_69,m24_76,m24_77,m24_78,m24_79,m25_0,m25_1,m25_4,m25_5,m25_10,m25_11,m25_14,m25_15,m25_16u,m25_17,m25_18,m25_19,m25_22,m25_25,m25_26,m25_27,m25_30,m25_31,m25_34,m25_37,m25_38,m25_41,m25_42,m25_45,m25_46,m25_49,m25_50,m25_53,m25_54,m25_57,m25_58,m25_59,m25_62,m25_63,m25_66,m25_67,m25_70,m25_71,m25_72,m25_73,m25_76,m25_77,m25_78,m25_81,m25_82,m25_83,m25_86,m25_89,m25_90,m25_91,m25_94,m25_95,m26_0,m26_1,m26_4,m26_9,m26_10,m26_11,m26_14,m26_19,m26_20,m26_23,m26_28,m26_29,m26_32,m27_0,m27_1,m27_2,m27_3,m27_4,m27_7,m27_11,m27_12,m27_14,m27_15u,m27_16,m27_17u,m27_18,m27_19,m27_21,m27_24,m27_25,m27_26,m27_29,m27_32,m27_33,m27_36,m27_37u,m27_37i,m27_37r,m27_39,m27_40,m27_43,m27_44,m27_45,m27_46,m27_48,m27_51,m27_52,m27_55,m27_56,m27_57,m27_60,m27_61,m27_62,m27_63,m27_66,m27_67,m27_68,m27_69,m27_71,m27_74,m27_75,m27_78,m27_79,m27_80,m27_83,m27_84,m27_85,m27_88,m27_91,m27_92i,m27_93,m27_94,m27_95,m27_98,m27_99,m27_100,m27_103,m27_106,m27_107,m27_111u,m27_111i,m27_111r,m27_113,m27_114,m27_117,m27_118,m27_119,m27_120,m27_121,m27_122,m27_124,m27_127,m27_128,m27_131,m27_132,m27_133,m27_137,m27_138,m27_139,m27_142,m27_143,m27_144,m27_145,m27_146,m27_147,m27_149,m27_152,m27_153,m27_156,m27_157,m27_158,m27_162,m27_163,m27_166,m27_169,m27_170,m27_173,m27_174,m27_175,m27_178,m27_179,m27_180,m27_183,m27_184,m27_185,m27_188,m27_189,m27_190,m27_193,m27_194,m27_195,m27_198,m27_199,m27_202,m27_203,m27_204,m27_205,m27_206,m27_209,m27_210,m27_211,m27_212,m28_0,m28_1,m28_2,m28_3,m28_4,m28_7,m28_12,m28_13,m28_16,m28_17,m28_18,m28_23,m28_24,m28_25,m28_26,m28_28,m28_31,m28_36,m28_37,m28_47,m28_48,m28_49,m28_52u,m28_54,m28_56,m28_67,m28_68,m28_71,m28_72,m28_73,m28_74,m28_75,m28_78,m28_79,m28_80,m28_81,m28_82,m28_85,m28_86,m28_87,m28_88,m28_89,m28_92,m28_93,m28_94,m28_95,m28_96,m29_0,m29_1u,m29_2,m29_3,m29_4,m29_7,m29_8,m29_11,m29_12,m29_13,m29_14,m29_17,m29_18,m29_21,m29_22,m29_23,m29_24,m29_27,m29_28,m29_29,m29_32,m29_35,m29_36,m30_0,m30_1,m30_2,m30_7,m30_8,m30_11,m30_20,m30_21u,m30_22,m30_23,m30_24,m30_27,m30_28,m30_29,m30_32,m30_33u,m30_34,m30_35,m30_38,m30_41,m30_42,m30_43,m30_46i,m30_47,m30_48,m30_49,m30_52,m30_53,m31_0,m31_1u,m31_2,m31_3,m31_4,m31_7,m31_8,m31_11,m31_14,m31_15,m31_18u,m31_18i,m31_18r,m31_19,m31_20,m31_23,m31_24,m31_25,m31_28,m32_0,m32_1,m32_4,m32_6,m32_7u,m32_8,m32_9,m32_12,m32_23,m32_24,m32_25,m32_28u,m32_29,m32_30,m32_33,m32_34,m32_35,m32_36,m32_39u,m32_40,m32_41,m32_44,m32_45,m32_46,m32_47,m32_48,m32_51,m32_52,m32_53,m32_56,m32_57,m32_58,m32_61,m32_62,m32_65,m32_68,m32_69,m32_70,m32_71,m33_0,m33_1,m33_3,m33_4u,m33_5,m33_6,m33_9,m33_10,m33_11u,m33_12,m33_13,m33_16,m33_17,m33_18,m33_20,m33_21u,m33_23,m33_24,m33_27,m33_28,m33_29u,m33_31,m33_32,m33_35,m33_36,m33_37,m33_40,m33_41,m33_42,m33_45,m33_46,m33_47,m33_49,m33_81,m33_82,m33_83,m33_85,m33_87,m33_90,m33_91,m33_92,m33_93,m33_94,m33_96,m33_97,m33_100,m34_0,m34_1,m34_4,m34_5,m34_7,m34_8,m34_9u,m34_11,m34_12,m34_13,m34_26,m34_27,m34_28,m34_49,m34_50,m34_51,m34_72,m34_73,m34_74,m34_77,m34_78,m34_81,m34_82,m34_83,m34_86,m34_87,m34_88,m34_89,m34_90,m34_91,m34_140,m35_0,m35_1,m35_2,m35_3,m35_4,m35_7,m35_12,m35_13,m35_16,m35_17,m35_18,m35_21,m35_22,m35_23,m35_24,m35_25,m35_26,m35_27,m35_28,m35_29,m35_32u,m35_33,m35_34,m35_37,m35_55,m35_56,m35_59,m35_60,m35_61,m35_62,m35_63,m35_64,m35_67,m35_68,m35_71,m35_81,m35_82,m35_85,m35_86,m35_87,m35_90,m35_91,m35_92,m35_95,m35_96,m36_0,m36_1,m36_2,m36_5,m36_6,m36_7,m36_10,m36_11,m36_12,m36_13,m36_14,m36_17,m36_20,m36_21,m36_22,m36_23,m36_24,m36_27,m36_32,m36_33,m36_35,m36_36u,m36_37,m36_38,m36_41,m36_42,m36_43,m36_44,m36_45,m36_46,m36_47u,m36_49,m36_50,m36_53,m36_54,m36_55,m36_56,m36_57,m36_58,m36_59u,m36_61,m36_63,m36_65,m36_72,m36_73u,m36_75,m36_77,m36_79,m36_82,m36_84,m36_87,m36_89,m36_91,m36_94,m36_95,m36_96,m36_99,m36_100,m36_102,m36_103,m36_104,m36_105,m36_108,m36_109,m36_111,m36_112,m36_113,m36_115,m36_118i,m36_120,m36_121,m36_124,m36_127,m36_128,m36_129,m36_132,m36_135,m36_136,m36_139,m37_0,m37_1,m37_13,m37_14,m37_15,m37_18,m37_19,m37_20,m37_23,m37_24,m37_26,m37_27,m37_28,m37_31,m37_32,m37_33,m37_34,m37_35,m37_36,m37_38,m37_41,m37_42,m37_44,m37_55,m37_56,m37_58,m37_85,m37_86,m37_87,m37_90,m37_93,m37_94,m37_95,m37_98,m37_99,m37_100,m37_101,m37_102,m37_103,m37_104,m37_107,m37_108,m37_109,m37_110,m38_0,m38_1,m38_4,m38_7,m38_8,m38_11,m38_13,m38_16,m38_17,m38_20,m38_21,m38_24,m38_25,m38_26,m38_27,m38_28,m38_31,m38_32,m38_33,m38_36,m39_0,m39_1,m39_4u,m39_5,m39_6,m39_9u,m39_10,m39_11,m39_12,m39_13,m39_14,m39_17u,m39_19,m39_20,m39_22,m39_25,m40_0,m40_1,m40_4,m40_7,m40_8,m40_11,m40_13,m40_16,m40_17,m40_18,m40_21,m40_22,m40_23,m40_26,m40_27,m40_30,m40_31,m40_34,m40_35,m41_0,m41_1,m41_3,m41_10,m41_11,m41_13,m41_20,m41_21,m41_23,m41_26,m41_27,m41_28,m41_29,m41_30,m41_31,m41_33,m41_36,m41_37,m41_39,m41_42,m41_43,m41_44,m41_45,m41_46,m41_49,m41_50,m41_51,m41_52,m41_53,m41_54,m41_57,m42_0,m42_1,m42_3,m42_21,m42_22,m42_24,m42_42,m42_43,m42_45,m42_48,m42_49,m42_50,m42_51,m42_54,m42_55,m42_58,m42_59,m42_62,m43_0,m43_1,m43_4,m43_5,m43_8,m43_9,m44_0,m44_1,m44_4,m44_7,m44_8,m44_11,m44_13,m44_16,m44_17,m44_20,m44_21,m44_24,m44_25,m44_26,m44_27,m45_0,m45_1,m45_17,m45_18,m45_19,m45_35,m45_36,m45_37,m45_40,m45_41,m45_44,m45_45,m45_46,m45_47,m45_55,m45_56,m45_57,m45_65,m45_66,m45_67,m45_75,m45_76,m45_77,m45_80,m46_0,m46_1,m46_2,m46_3,m46_5,m46_8,m46_11,m46_12,m46_15,m46_16,m46_17,m46_18,m46_19,m46_21,m46_24,m46_25,m46_28,m47_0,m47_1,m47_2,m47_3,m47_4,m47_7,m47_12,m47_13,m47_16,m47_17,m47_18,m47_19,m47_22,m47_23,m47_27u,m47_28,m47_29,m47_39,m47_40,m47_41,m47_59,m47_60,m47_61,m47_79,m47_80,m47_81,m47_84,m47_85,m47_88,m47_89,m47_90,m48_0,m48_1,m48_3,m48_6,m48_7,m48_10,m49_0,m49_1,m49_4,m49_5,m49_6,m49_9,m49_12,m49_13,m49_14,m49_15,m49_18,m49_19,m49_20,m49_22,m49_23u,m49_24,m49_25,m49_28,m49_29,m49_32,m49_33,m49_34,m49_35,m49_36,m49_37,m49_40,m49_41,m49_44,m49_45,m49_46,m49_47,m49_48,m49_49,m49_52,m49_53,m49_56,m49_57,m49_58,m49_59,m49_60,m49_61,m49_64,m49_65,m49_68,m49_69,m49_70,m49_71,m49_72,m49_74,m49_77,m49_78,m49_81,m49_82,m49_83,m49_84,m49_85,m49_86,m49_87,m49_90,m50_0,m50_1,m50_2,m50_5,m50_6,m50_7,m50_10,m50_11,m50_14,m50_15,m50_16u,m50_17,m50_18,m50_19,m50_22,m50_23,m50_24,m50_27,m50_28,m50_29,m50_32,m50_33,m50_34,m50_35,m50_39,m50_42,m50_43,m50_44,m50_47,m50_48,m50_49,m50_52,m50_55,m50_56u,m50_58,m50_60,m50_61,m50_64,m50_65,m50_68,m50_70,m50_71,m50_72,m50_75,m50_78,m50_79i,m50_81,m50_83,m50_84,m50_87,m50_89,m50_90,m50_93,m50_94,m50_95,m50_97,m50_100u,m50_100i,m50_100r,m50_102,m50_103,m50_106,m50_109,m50_110,m50_111,m50_114,m50_115,m50_117,m50_118,m50_119,m50_120,m50_121,m50_124,m50_127,m50_128,m50_131,m50_133,m50_134,m50_135,m50_137,m50_138,m50_141,m50_144,m51_0,m51_1,m51_4,m51_5,m51_6,m51_9,m51_10,m51_11,m51_12,m51_14,m51_17,m51_18,m51_19,m51_20,m52_0,m52_1,m52_4u,m52_5,m52_6,m52_7,m52_8,m52_11u,m52_12,m52_13,m52_14,m52_17,m53_0,m53_1,m53_2,m53_9,m53_10,m53_12,m53_25,m53_26,m53_27,m53_28,m53_30,m53_33,m53_36,m53_37,m53_40,m53_41,m53_42,m53_43,m53_44,m53_45,m53_48,m53_49,m54_0,m54_1,m54_4,m54_5,m54_8,m54_11,m54_12,m54_13,m54_16,m54_17,m54_20,m54_21,m54_24,m54_25,m54_26,m54_29,m54_30,m54_31,m54_34,m54_35,m55_0,m55_1,m55_3,m55_4u,m55_5,m55_6,m55_9,m55_10,m55_11,m55_14,m55_15,m55_16,m55_19,m55_20,m55_21,m55_24,m55_25,m55_26,m55_29,m55_30,m55_31,m55_34,m55_35,m55_36,m55_39,m55_40,m55_41,m55_44,m55_45,m55_46,m55_49,m55_50,m55_51,m55_54,m55_55,m55_56u,m55_57,m55_58,m55_59,m55_62,m55_63,m55_66,m55_67,m55_68,m55_69,m55_70,m55_71,m55_72,m55_75,m55_76,m55_77,m55_78,m55_81,m55_84,m56_0,m56_1,m56_2,m56_5,m56_6,m56_8,m56_13,m56_14,m56_15,m56_16u,m56_17,m56_18,m56_19,m56_22,m56_23,m56_24,m56_29,m56_30,m56_33,m56_34,m56_35,m56_36,m56_37,m56_38,m56_39,m57_0,m57_3,m57_4,m57_6,m57_8,m57_11u,m57_13,m57_15,m57_16,m57_17,m57_20,m57_21,m57_23,m57_24,m57_25,m57_28,m57_29,m57_31,m57_32,m57_33,m57_36,m57_37,m57_39,m57_40,m57_41,m57_44,m57_45,m57_47,m57_48,m57_49,m57_50,m57_52,m57_55,m57_56,m57_58,m57_59,m57_60,m57_63,m57_64,m57_66,m57_68,m57_69,m57_72,m57_73,m57_75,m57_76,m57_77,m57_80,m57_81,m57_83,m57_84,m57_85,m57_88,m57_89,m57_91,m57_92,m57_93,m57_96,m57_97,m57_99,m57_101,m57_102,m57_105,m57_106,m57_108,m57_109,m57_110,m57_113,m57_114,m57_116,m57_117,m57_118,m57_121,m57_122,m57_124,m57_125,m57_126,m57_129,m57_130,m57_132,m57_134,m57_135,m57_138,m57_139,m57_141,m57_142,m57_143,m57_146,m57_147,m57_149,m57_150,m57_151,m57_154,m57_155,m57_157,m57_159,m57_160,m57_163,m57_164,m57_166,m57_167,m57_168,m57_171,m57_172,m57_174,m57_175,m57_178,m57_183,m57_185,m57_186,m57_187,m57_188,m57_191,m57_196,m57_198,m57_200,m57_203u,m57_205,m57_206,m57_208,m57_209u,m57_211,m57_213,m57_214,m57_217,m57_218,m57_221,m57_222u,m57_224,m57_225,m57_228,m57_229,m57_231,m57_234,m57_235,m57_238,m57_239u,m57_241,m57_243,m57_245,m57_248,m57_249,m57_252,m57_253,m57_258,m57_260,m57_261,m57_264,m57_266,m57_269,m57_270,m57_273,m57_274,m57_279,m57_281,m57_283,m57_286,m57_287,m57_292,m57_294,m57_295,m57_298,m57_300,m57_305,m57_307,m57_308,m57_309,m57_312,m57_313,m57_318,m57_320,m57_322,m57_325,m57_327,m57_330,m57_331,m57_334,m57_335,m57_340,m57_342,m57_345,m57_346,m57_349,m57_350u,m57_352,m57_354,m57_357,m57_358,m57_361,m57_362u,m57_364,m57_366,m57_369,m57_371,m57_372,m57_373,m57_376,m57_377u,m57_379,m57_381,m57_384,m57_385,m57_388,m57_390,m57_391,m57_392,m57_395,m57_396u,m57_398,m57_400,m57_403,m57_405,m57_408,m57_409,m57_412,m57_413u,m57_415,m57_417,m57_420,m57_421,m57_424,m57_425,m57_428,m57_429,m57_431,m57_434,m57_435,m57_438,m57_439,m57_440,m57_443,m57_444u,m57_446,m57_448,m57_451,m57_452,m57_455,m57_456u,m57_458,m57_460,m57_461,m57_462,m57_465,m57_467,m57_472,m57_474,m57_475,m57_476,m57_479,m57_484,m57_486,m57_487,m57_488,m57_491,m57_493,m57_498,m57_500,m57_501,m57_502,m57_505,m57_507,m57_512,m57_514,m57_515,m57_516,m57_519,m57_521,m57_526,m57_528,m57_529,m57_531,m57_534,m57_536,m57_541,m57_543,m57_544,m57_545,m57_548,m57_550,m57_555,m57_557,m57_558,m57_560,m57_563,m57_565,m57_568,m57_569,m57_573,nb0,nb1,ou_a,Option.toList_some,Option.toList_none,List.nil_append,List.cons_append,ou_same,ou_comm,setA_same,setA_comm,own_l0,own_l1,own_l2,own_l3,own_l4,own_l5,own_l6,own_l7,own_l8,own_l9,own_l10,own_l11,own_l12,own_l13,getA_set2,setA_len,inB_iff,A0g_0,A0g_1,A0g_2,A0g_3,A0g_4,A0g_5,A0g_6,A0g_7,A0g_8,A0g_9,A0g_10,A0g_11,A0g_12,A0g_13,A0g_14,A0g_15,A0g_16,A0g_17,A0g_18,A0g_19,A0g_20,A0g_21,A0g_22,A0g_23,A0g_24,A0g_25,A0g_26,A0g_27,A0g_28,A0g_29,A0g_30,A0g_31,A0l_0,A0l_1,A0l_2,A0l_3,A0l_4,A0l_5,A0l_6,A0l_7,A0l_8,A0l_9,A0l_10,A0l_11,A0l_12,A0l_13,A0l_14,A0l_15,A0l_16,A0l_17,A0l_18,A0l_19,A0l_20,A0l_21,A0l_22,A0l_23,A0l_24,A0l_25,A0l_26,A0l_27,A0l_28,A0l_29,A0l_30,A0l_31]
      exact hQ _ _ (by (repeat refine len_ou ?_ (by simp only [setA_len])); exact fun _ => rfl)
    · simp [h0,h1,h2,h3,h4,h5,h6,h7,h8,h9,h10,h11,h12,h13,h14,h15,h16,h19,h20,h21,h22,h23,h24,h25,h26,h27,hc,c2,c3,g,z,q1,q2,m0_0,m0_1,m0_4,m0_5,m0_12,m0_13,m0_20,m0_21,m0_28,m0_29,m0_36,m0_37,m0_44,m0_45,m0_52,m0_53,m0_60,m0_61,m0_67,m0_68,m0_74,m0_75,m0_81,m0_82,m0_88,m0_89,m0_95,m0_96,m0_102,m0_103,m0_111,m0_112,m0_120,m0_121,m0_128,m0_129,m0_136,m0_137,m0_144,m0_145,m0_152,m0_153,m0_159,m0_160,m0_166,m0_167,m0_174,m0_175,m0_182,m0_183,m0_190,m0_191,m0_198,m0_199,m0_206,m0_207,m0_214,m0_215,m0_222,m0_223,m0_230,m0_231,m0_238,m0_239,m0_246,m0_247,m0_253,m0_254u,m0_255,m0_256,m0_257,m0_260,m0_261i,m0_262,m0_263,m0_265,m0_268,m0_270i,m0_271,m0_272,m0_273,m0_276,m0_277u,m0_279,m0_281,m0_284,m0_285i,m0_287,m0_289,m0_290,m0_293,m0_294i,m0_296,m0_297,m0_299,m0_302,m0_303,m0_304,m0_307,m0_308,m0_309,m0_312,m0_313,m0_314,m0_317,m1_0,m1_1,m1_2,m1_3,m1_5,m1_8,m1_11,m1_12,m1_15,m1_16,m1_17,m1_18,m1_19,m2_0,m2_1,m2_2,m2_5,m2_6,m2_7,m2_10,m2_11,m2_14,m2_15,m3_0,m3_1,m3_2,m3_3,m3_5,m3_8,m3_11,m3_12,m3_13,m3_14,m3_17,m3_18,m3_19,m3_20,m3_21,m4_0,m4_1,m4_2,m4_3,m4_4,m4_6,m4_9,m4_14,m4_15,m4_41,m4_42,m4_45,m4_46,m4_47,m4_48,m4_49,m4_52,m4_53,m4_54,m4_55,m4_56,m4_59,m4_60,m4_62,m4_63,m4_64,m5_0,m5_1,m5_2,m5_3,m5_5,m5_8,m5_13,m5_14,m5_15,m5_16,m5_18,m5_21,m5_26,m5_27,m5_32,m5_33,m5_34,m5_35,m5_37,m5_40,m5_45,m5_46,m5_47,m5_49,m5_52,m6_0,m6_1,m6_2,m6_5,m6_6,m6_7,m6_10,m6_11,m6_12,m6_15,m6_16,m6_18,m6_30,m6_31,m6_33,m6_45,m6_46,m7_0,m7_1,m7_4,m7_7,m7_8,m7_11,m7_13,m7_18,m7_19,m7_20,m7_21,m7_23,m7_26,m7_31,m7_32,m7_33,m7_36,m7_37,m7_38,m7_39,m7_41,m7_44,m7_49,m7_50,m7_53,m7_54,m7_57,m7_58,m7_59,m7_60,m7_63,m7_64,m7_65,m7_68,m7_69,m7_72,m7_73,m7_76,m7_77,m7_78,m7_81,m7_82,m7_85,m7_86,m7_89,m7_90,m7_91,m7_92,m7_93,m7_96,m7_97,m7_98,m7_101,m7_102,m8_0,m8_1,m8_2,m8_5u,m8_6,m8_7,m8_8,m8_11,m8_12,m9_0,m9_1,m9_2,m9_3,m9_4,m9_7,m9_12,m9_13,m9_16,m9_21,m9_22,m9_25,m9_26,m9_31,m9_32,m9_35,m9_37,m9_42,m9_43,m9_44,m9_47,m9_48,m10_0,m10_1,m10_4,m10_5,m10_8,m10_13,m10_14u,m10_15,m10_16,m10_18,m10_21,m10_22,m10_23,m10_26,m10_29,m10_30,m10_33,m10_34,m10_35u,m10_35i,m10_35r,m10_36,m10_37,m10_40,m10_41,m10_42u,m10_42i,m10_42r,m10_43,m10_44,m10_47,m10_50,m10_51,m10_52,m10_53,m10_56,m10_59,m10_60,m10_61,m10_64u,m10_64i,m10_64r,m10_66,m10_68,m10_73,m10_76,m10_79,m10_80,m10_83,m11_0,m11_1,m11_2,m11_5,m11_6,m11_7,m11_10,m11_11,m11_12,m11_15,m11_16,m11_17,m11_20,m11_21,m11_22,m11_25,m11_26,m11_27,m11_30,m11_31,m11_32,m11_35,m12_0,m12_1,m12_4,m12_5,m12_6,m12_9,m12_10,m12_11,m12_14,m12_19,m12_20,m12_21,m12_22,m12_25,m12_30,m12_31,m12_32,m12_35,m12_36,m12_37,m12_38,m12_39,m12_42,m12_50,m12_51,m12_52,m12_53,m12_56,m13_0,m13_1,m13_4,m13_7,m13_8,m13_11,m13_13,m13_18,m13_19,m13_22,m13_23,m13_26,m13_27,m13_28,m13_29,m13_30,m13_33,m13_34,m13_35,m13_38,m13_39,m14_0,m14_1,m14_4,m14_7,m14_8,m14_11,m14_13,m14_18,m14_19,m14_22,m14_23,m14_26,m14_27,m14_28,m14_29,m14_32,m14_33,m14_36,m14_37,m14_38,m14_39,m14_40,m14_43,m14_44,m14_45,m14_48,m14_49,m15_0,m15_1,m15_2,m15_10,m15_11,m15_12,m15_15,m15_16,m15_19,m15_20,m15_21,m15_22,m15_25,m15_30,m15_31,m15_32,m15_35,m16_0,m16_1,m16_3,m16_6,m16_7,m16_9,m16_12,m16_13,m16_17,m17_0,m17_1,m17_2,m17_5u,m17_6,m17_7,m17_8,m17_11,m17_16,m17_17,m17_20u,m17_21,m17_22,m17_24,m17_27,m17_28,m17_30,m17_44,m17_45,m17_46,m17_47,m17_50,m17_55,m17_56,m17_57,m17_60,m17_61,m18_0,m18_1,m18_3,m18_6,m18_7,m18_9,m18_12,m18_13,m18_15,m18_18,m18_20,m18_21,m18_22,m18_24,m18_27,m18_28,m18_30,m18_33,m18_34,m18_35,m18_36,m18_38,m18_41,m18_42,m18_44,m18_47,m18_48,m18_49,m18_50,m18_52,m18_55,m18_56,m18_58,m18_63,m18_64,m18_66,m18_71,m18_72,m18_74,m18_79,m18_80,m18_81,m18_84,m18_87,m18_89,m19_0,m19_1u,m19_2,m19_3,m19_5,m19_8,m19_9,m19_12,m19_15,m19_16,m19_19,m19_20,m19_23,m19_24,m19_25,m19_26u,m19_26i,m19_26r,m19_27,m19_28,m19_29,m19_34,m19_35,m19_36,m19_39,m19_40,m19_45,m19_46,m19_47,m19_50,m19_51,m19_52,m19_55,m19_56,m19_57,m19_58,m19_61,m19_62,m19_65,m19_66,m19_69,m19_74,m19_77,m19_80,m19_81,m20_0,m20_1,m20_4,m20_7,m20_8,m20_11,m20_13,m20_18,m20_19,m20_22,m20_23,m20_26,m20_27,m20_28,m20_29,m20_32,m20_33,m20_36,m20_37,m20_38,m20_39,m20_40,m20_43,m20_44,m20_45,m20_48,m20_49,m21_0,m21_1,m21_2,m21_5,m21_10,m21_11,m21_14,m21_19,m21_20,m21_23,m21_28,m21_29,m21_30,m21_33,m21_34,m22_0,m22_1,m22_2,m22_5,m22_8,m22_9,m22_12,m22_13,m22_18,m22_19,m22_20,m22_21,m22_24,m22_25,m22_26,m22_29,m22_34,m22_35,m22_37,m22_40,m22_41,m22_43,m22_80,m22_81,m22_82,m22_83,m22_86,m23_0,m23_1,m23_2,m23_5,m23_6,m23_8,m23_11,m23_12,m23_14,m23_17,m23_18,m23_21,m23_22,m24_0,m24_1,m24_4,m24_5,m24_8,m24_9,m24_12,m24_14,m24_19,m24_20,m24_23,m24_24,m24_27,m24_28,m24_29,m24_30u,m24_31,m24_32,m24_35,m24_36,m24_39,m24_40,m24_41,m24_42u,m24_43,m24_44,m24_45,m24_48,m24_49,m24_50,m24_53,m24_54,m24_55,m24_56u,m24_57,m24_58,m24_61,m24_62,m24_65,m24_66,m24_67,m24_68,m24_69,m24_76,m24_77,m24_78,m24_79,m25_0,m25_1,m25_4,m25_5,m25_10,m25_11,m25_14,m25_15,m25_16u,m25_17,m25_18,m25_19,m25_22,m25_25,m25_26,m25_27,m25_30,m25_31,m25_34,m25_37,m25_38,m25_41,m25_42,m25_45,m25_46,m25_49,m25_50,m25_53,m25_54,m25_57,m25_58,m25_59,m25_62,m25_63,m25_66,m25_67,m25_70,m25_71,m25_72,m25_73,m25_76,m25_77,m25_78,m25_81,m25_82,m25_83,m25_86,m25_89,m25_90,m25_91,m25_94,m25_95,m26_0,m26_1,m26_4,m26_9,m26_10,m26_11,m26_14,m26_19,m26_20,m26_23,m26_28,m26_29,m26_32,m27_0,m27_1,m27_2,m27_3,m27_4,m27_7,m27_11,m27_12,m27_14,m27_15u,m27_16,m27_17u,m27_18,m27_19,m27_21,m27_24,m27_25,m27_26,m27_29,m27_32,m27_33,m27_36,m27_37u,m27_37i,m27_37r,m27_39,m27_40,m27_43,m27_44,m27_45,m27_46,m27_48,m27_51,m27_52,m27_55,m27_56,m27_57,m27_60,m27_61,m27_62,m27_63,m27_66,m27_67,m27_68,m27_69,m27_71,m27_74,m27_75,m27_78,m27_79,m27_80,m27_83,m27_84,m27_85,m27_88,m27_91,m27_92i,m27_93,m27_94,m27_95,m27_98,m27_99,m27_100,m27_103,m27_106,m27_107,m27_111u,m27_111i,m27_111r,m27_113,m27_114,m27_117,m27_118,m27_119,m27_120,m27_121,m27_122,m27_124,m27_127,m27_128,m27_131,m27_132,m27_133,m27_137,m27_138,m27_139,m27_142,m27_143,m27_144,m27_145,m27_146,m27_147,m27_149,m27_152,m27_153,m27_156,m27_157,m27_158,m27_162,m27_163,m27_166,m27_169,m27_170,m27_173,m27_174,m27_175,m27_178,m27_179,m27_180,m27_183,m27_184,m27_185,m27_188,m27_189,m27_190,m27_193,m27_194,m27_195,m27_198,m27_199,m27_202,m27_203,m27_204,m27_205,m27_206,m27_209,m27_210,m27_211,m27_212,m28_0,m28_1,m28_2,m28_3,m28_4,m28_7,m28_12,m28_13,m28_16,m28_17,m28_18,m28_23,m28_24,m28_25,m28_26,m28_28,m28_31,m28_36,m28_37,m28_47,m28_48,m28_49,m28_52u,m28_54,m28_56,m28_67,m28_68,m28_71,m28_72,m28_73,m28_74,m28_75,m28_78,m28_79,m28_80,m28_81,m28_82,m28_85,m28_86,m28_87,m28_88,m28_89,m28_92,m28_93,m28_94,m28_95,m28_96,m29_0,m29_1u,m29_2,m29_3,m29_4,m29_7,m29_8,m29_11,m29_12,m29_13,m29_14,m29_17,m29_18,m29_21,m29_22,m29_23,m29_24,m29_27,m29_28,m29_29,m29_32,m29_35,m29_36,m30_0,m30_1,m30_2,m30_7,m30_8,m30_11,m30_20,m30_21u,m30_22,m30_23,m30_24,m30_27,m30_28,m30_29,m30_32,m30_33u,m30_34,m30_35,m30_38,m30_41,m30_42,m30_43,m30_46i,m30_47,m30_48,m30_49,m30_52,m30_53,m31_0,m31_1u,m31_2,m31_3,m31_4,m31_7,m31_8,m31_11,m31_14,m31_15,m31_18u,m31_18i,m31_18r,m31_19,m31_20,m31_23,m31_24,m31_25,m31_28,m32_0,m32_1,m32_4,m32_6,m32_7u,m32_8,m32_9,m32_12,m32_23,m32_24,m32_25,m32_28u,m32_29,m32_30,m32_33,m32_34,m32_35,m32_36,m32_39u,m32_40,m32_41,m32_44,m32_45,m32_46,m32_47,m32_48,m32_51,m32_52,m32_53,m32_56,m32_57,m32_58,m32_61,m32_62,m32_65,m32_68,m32_69,m32_70,m32_71,m33_0,m33_1,m33_3,m33_4u,m33_5,m33_6,m33_9,m33_10,m33_11u,m33_12,m33_13,m33_16,m33_17,m33_18,m33_20,m33_21u,m33_23,m33_24,m33_27,m33_28,m33_29u,m33_31,m33_32,m33_35,m33_36,m33_37,m33_40,m33_41,m33_42,m33_45,m33_46,m33_47,m33_49,m33_81,m33_82,m33_83,m33_85,m33_87,m33_90,m33_91,m33_92,m33_93,m33_94,m33_96,m33_97,m33_100,m34_0,m34_1,m34_4,m34_5,m34_7,m34_8,m34_9u,m34_11,m34_12,m34_13,m34_26,m34_27,m34_28,m34_49,m34_50,m34_51,m34_72,m34_73,m34_74,m34_77,m34_78,m34_81,m34_82,m34_83,m34_86,m34_87,m34_88,m34_89,m34_90,m34_91,m34_140,m35_0,m35_1,m35_2,m35_3,m35_4,m35_7,m35_12,m35_13,m35_16,m35_17,m35_18,m35_21,m35_22,m35_23,m35_24,m35_25,m35_26,m35_27,m35_28,m35_29,m35_32u,m35_33,m35_34,m35_37,m35_55,m35_56,m35_59,m35_60,m35_61,m35_62,m35_63,m35_64,m35_67,m35_68,m35_71,m35_81,m35_82,m35_85,m35_86,m35_87,m35_90,m35_91,m35_92,m35_95,m35_96,m36_0,m36_1,m36_2,m36_5,m36_6,m36_7,m36_10,m36_11,m36_12,m36_13,m36_14,m36_17,m36_20,m36_21,m36_22,m36_23,m36_24,m36_27,m36_32,m36_33,m36_35,m36_36u,m36_37,m36_38,m36_41,m36_42,m36_43,m36_44,m36_45,m36_46,m36_47u,m36_49,m36_50,m36_53,m36_54,m36_55,m36_56,m36_57,m36_58,m36_59u,m36_61,m36_63,m36_65,m36_72,m36_73u,m36_75,m36_77,m36_79,m36_82,m36_84,m36_87,m36_89,m36_91,m36_94,m36_95,m36_96,m36_99,m36_100,m36_102,m36_103,m36_104,m36_105,m36_108,m36_109,m36_111,m36_112,m36_113,m36_115,m36_118i,m36_120,m36_121,m36_124,m36_127,m36_128,m36_129,m36_132,m36_135,m36_136,m36_139,m37_0,m37_1,m37_13,m37_14,m37_15,m37_18,m37_19,m37_20,m37_23,m37_24,m37_26,m37_27,m37_28,m37_31,m37_32,m37_33,m37_34,m37_35,m37_36,m37_38,m37_41,m37_42,m37_44,m37_55,m37_56,m37_58,m37_85,m37_86,m37_87,m37_90,m37_93,m37_94,m37_95,m37_98,m37_99,m37_100,m37_101,m37_102,m37_103,m37_104,m37_107,m37_108,m37_109,m37_110,m38_0,m38_1,m38_4,m38_7,m38_8,m38_11,m38_13,m38_16,m38_17,m38_20,m38_21,m38_24,m38_25,m38_26,m38_27,m38_28,m38_31,m38_32,m38_33,m38_36,m39_0,m39_1,m39_4u,m39_5,m39_6,m39_9u,m39_10,m39_11,m39_12,m39_13,m39_14,m39_17u,m39_19,m39_20,m39_22,m39_25,m40_0,m40_1,m40_4,m40_7,m40_8,m40_11,m40_13,m40_16,m40_17,m40_18,m40_21,m40_22,m40_23,m40_26,m40_27,m40_30,m40_31,m40_34,m40_35,m41_0,m41_1,m41_3,m41_10,m41_11,m41_13,m41_20,m41_21,m41_23,m41_26,m41_27,m41_28,m41_29,m41_30,m41_31,m41_33,m41_36,m41_37,m41_39,m41_42,m41_43,m41_44,m41_45,m41_46,m41_49,m41_50,m41_51,m41_52,m41_53,m41_54,m41_57,m42_0,m42_1,m42_3,m42_21,m42_22,m42_24,m42_42,m42_43,m42_45,m42_48,m42_49,m42_50,m42_51,m42_54,m42_55,m42_58,m42_59,m42_62,m43_0,m43_1,m43_4,m43_5,m43_8,m43_9,m44_0,m44_1,m44_4,m44_7,m44_8,m44_11,m44_13,m44_16,m44_17,m44_20,m44_21,m44_24,m44_25,m44_26,m44_27,m45_0,m45_1,m45_17,m45_18,m45_19,m45_35,m45_36,m45_37,m45_40,m45_41,m45_44,m45_45,m45_46,m45_47,m45_55,m45_56,m45_57,m45_65,m45_66,m45_67,m45_75,m45_76,m45_77,m45_80,m46_0,m46_1,m46_2,m46_3,m46_5,m46_8,m46_11,m46_12,m46_15,m46_16,m46_17,m46_18,m46_19,m46_21,m46_24,m46_25,m46_28,m47_0,m47_1,m47_2,m47_3,m47_4,m47_7,m47_12,m47_13,m47_16,m47_17,m47_18,m47_19,m47_22,m47_23,m47_27u,m47_28,m47_29,m47_39,m47_40,m47_41,m47_59,m47_60,m47_61,m47_79,m47_80,m47_81,m47_84,m47_85,m47_88,m47_89,m47_90,m48_0,m48_1,m48_3,m48_6,m48_7,m48_10,m49_0,m49_1,m49_4,m49_5,m49_6,m49_9,m49_12,m49_13,m49_14,m49_15,m49_18,m49_19,m49_20,m49_22,m49_23u,m49_24,m49_25,m49_28,m49_29,m49_32,m49_33,m49_34,m49_35,m49_36,m49_37,m49_40,m49_41,m49_44,m49_45,m49_46,m49_47,m49_48,m49_49,m49_52,m49_53,m49_56,m49_57,m49_58,m49_59,m49_60,m49_61,m49_64,m49_65,m49_68,m49_69,m49_70,m49_71,m49_72,m49_74,m49_77,m49_78,m49_81,m49_82,m49_83,m49_84,m49_85,m49_86,m49_87,m49_90,m50_0,m50_1,m50_2,m50_5,m50_6,m50_7,m50_10,m50_11,m50_14,m50_15,m50_16u,m50_17,m50_18,m50_19,m50_22,m50_23,m50_24,m50_27,m50_28,m50_29,m50_32,m50_33,m50_34,m50_35,m50_39,m50_42,m50_43,m50_44,m50_47,m50_48,m50_49,m50_52,m50_55,m50_56u,m50_58,m50_60,m50_61,m50_64,m50_65,m50_68,m50_70,m50_71,m50_72,m50_75,m50_78,m50_79i,m50_81,m50_83,m50_84,m50_87,m50_89,m50_90,m50_93,m50_94,m50_95,m50_97,m50_100u,m50_100i,m50_100r,m50_102,m50_103,m50_106,m50_109,m50_110,m50_111,m50_114,m50_115,m50_117,m50_118,m50_119,m50_120,m50_121,m50_124,m50_127,m50_128,m50_131,m50_133,m50_134,m50_135,m50_137,m50_138,m50_141,m50_144,m51_0,m51_1,m51_4,m51_5,m51_6,m51_9,m51_10,m51_11,m51_12,m51_14,m51_17,m51_18,m51_19,m51_20,m52_0,m52_1,m52_4u,m52_5,m52_6,m52_7,m52_8,m52_11u,m52_12,m52_13,m52_14,m52_17,m53_0,m53_1,m53_2,m53_9,m53_10,m53_12,m53_25,m53_26,m53_27,m53_28,m53_30,m53_33,m53_36,m53_37,m53_40,m53_41,m53_42,m53_43,m53_44,m53_45,m53_48,m53_49,m54_0,m54_1,m54_4,m54_5,m54_8,m54_11,m54_12,m54_13,m54_16,m54_17,m54_20,m54_21,m54_24,m54_25,m54_26,m54_29,m54_30,m54_31,m54_34,m54_35,m55_0,m55_1,m55_3,m55_4u,m55_5,m55_6,m55_9,m55_10,m55_11,m55_14,m55_15,m55_16,m55_19,m55_20,m55_21,m55_24,m55_25,m55_26,m55_29,m55_30,m55_31,m55_34,m55_35,m55_36,m55_39,m55_40,m55_41,m55_44,m55_45,m55_46,m55_49,m55_50,m55_51,m55_54,m55_55,m55_56u,m55_57,m55_58,m55_59,m55_62,m55_63,m55_66,m55_67,m55_68,m55_69,m55_70,m55_71,m55_72,m55_75,m55_76,m55_77,m55_78,m55_81,m55_84,m56_0,m56_1,m56_2,m56_5,m56_6,m56_8,m56_13,m56_14,m56_15,m56_16u,m56_17,m56_18,m56_19,m56_22,m56_23,m56_24,m56_29,m56_30,m56_33,m56_34,m56_35,m56_36,m56_37,m56_38,m56_39,m57_0,m57_3,m57_4,m57_6,m57_8,m57_11u,m57_13,m57_15,m57_16,m57_17,m57_20,m57_21,m57_23,m57_24,m57_25,m57_28,m57_29,m57_31,m57_32,m57_33,m57_36,m57_37,m57_39,m57_40,m57_41,m57_44,m57_45,m57_47,m57_48,m57_49,m57_50,m57_52,m57_55,m57_56,m57_58,m57_59,m57_60,m57_63,m57_64,m57_66,m57_68,m57_69,m57_72,m57_73,m57_75,m57_76,m57_77,m57_80,m57_81,m57_83,m57_84,m57_85,m57_88,m57_89,m57_91,m57_92,m57_93,m57_96,m57_97,m57_99,m57_101,m57_102,m57_105,m57_106,m57_108,m57_109,m57_110,m57_113,m57_114,m57_116,m57_117,m57_118,m57_121,m57_122,m57_124,m57_125,m57_126,m57_129,m57_130,m57_132,m57_134,m57_135,m57_138,m57_139,m57_141,m57_142,m57_143,m57_146,m57_147,m57_149,m57_150,m57_151,m57_154,m57_155,m57_157,m57_159,m57_160,m57_163,m57_164,m57_166,m57_167,m57_168,m57_171,m57_172,m57_174,m57_175,m57_178,m57_183,m57_185,m57_186,m57_187,m57_188,m57_191,m57_196,m57_198,m57_200,m57_203u,m57_205,m57_206,m57_208,m57_209u,m57_211,m57_213,m57_214,m57_217,m57_218,m57_221,m57_222u,m57_224,m57_225,m57_228,m57_229,m57_231,m57_234,m57_235,m57_238,m57_239u,m57_241,m57_243,m57_245,m57_248,m57_249,m57_252,m57_253,m57_258,m57_260,m57_261,m57_264,m57_266,m57_269,m57_270,m57_273,m57_274,m57_279,m57_281,m57_283,m57_286,m57_287,m57_292,m57_294,m57_295,m57_298,m57_300,m57_305,m57_307,m57_308,m57_309,m57_312,m57_313,m57_318,m57_320,m57_322,m57_325,m57_327,m57_330,m57_331,m57_334,m57_335,m57_340,m57_342,m57_345,m57_346,m57_349,m57_350u,m57_352,m57_354,m57_357,m57_358,m57_361,m57_362u,m57_364,m57_366,m57_369,m57_371,m57_372,m57_373,m57_376,m57_377u,m57_379,m57_381,m57_384,m57_385,m57_388,m57_390,m57_391,m57_392,m57_395,m57_396u,m57_398,m57_400,m57_403,m57_405,m57_408,m57_409,m57_412,m57_413u,m57_415,m57_417,m57_420,m57_421,m57_424,m57_425,m57_428,m57_429,m57_431,m57_434,m57_435,m57_438,m57_439,m57_440,m57_443,m57_444u,m57_446,m57_448,m57_451,m57_452,m57_455,m57_456u,m57_458,m57_460,m57_461,m57_462,m57_465,m57_467,m57_472,m57_474,m57_475,m57_476,m57_479,m57_484,m57_486,m57_487,m57_488,m57_491,m57_493,m57_498,m57_500,m57_501,m57_502,m57_505,m57_507,m57_512,m57_514,m57_515,m57_516,m57_519,m57_521,m57_526,m57_528,m57_529,m57_531,m57_534,m57_536,m57_541,m57_543,m57_544,m57_545,m57_548,m57_550,m57_555,m57_557,m57_558,m57_560,m57_563,m57_565,m57_568,m57_569,m57_573,nb0,nb1,ou_a,Option.toList_some,Option.toList_none,List.nil_append,List.cons_append,ou_same,ou_comm,setA_same,setA_comm,own_l0,own_l1,own_l2,own_l3,own_l4,own_l5,own_l6,own_l7,own_l8,own_l9,own_l10,own_l11,own_l12,own_l13,getA_set2,setA_len,inB_iff,A0g_0,A0g_1,A0g_2,A0g_3,A0g_4,A0g_5,A0g_6,A0g_7,A0g_8,A0g_9,A0g_10,A0g_11,A0g_12,A0g_13,A0g_14,A0g_15,A0g_16,A0g_17,A0g_18,A0g_19,A0g_20,A0g_21,A0g_22,A0g_23,A0g_24,A0g_25,A0g_26,A0g_27,A0g_28,A0g_29,A0g_30,A0g_31,A0l_0,A0l_1,A0l_2,A0l_3,A0l_4,A0l_5,A0l_6,A0l_7,A0l_8,A0l_9,A0l_10,A0l_11,A0l_12,A0l_13,A0l_14,A0l_15,A0l_16,A0l_17,A0l_18,A0l_19,A0l_20,A0l_21,A0l_22,A0l_23,A0l_24,A0l_25,A0l_26,A0l_27,A0l_28,A0l_29,A0l_30,A0l_31]
      exact hQ _ _ (by (repeat refine len_ou ?_ (by simp only [setA_len])); exact fun _ => rfl)
  · simp [h0,h1,h2,h3,h4,h5,h6,h7,h8,h9,h10,h11,h12,h13,h14,h15,h16,h19,h20,h21,h22,h23,h24,h25,h26,h27,hc,c2,c3,g,q1,q2,m0_0,m0_1,m0_4,m0_5,m0_12,m0_13,m0_20,m0_21,m0_28,m0_29,m0_36,m0_37,m0_44,m0_45,m0_52,m0_53,m0_60,m0_61,m0_67,m0_68,m0_74,m0_75,m0_81,m0_82,m0_88,m0_89,m0_95,m0_96,m0_102,m0_103,m0_111,m0_112,m0_120,m0_121,m0_128,m0_129,m0_136,m0_137,m0_144,m0_145,m0_152,m0_153,m0_159,m0_160,m0_166,m0_167,m0_174,m0_175,m0_182,m0_183,m0_190,m0_191,m0_198,m0_199,m0_206,m0_207,m0_214,m0_215,m0_222,m0_223,m0_230,m0_231,m0_238,m0_239,m0_246,m0_247,m0_253,m0_254u,m0_255,m0_256,m0_257,m0_260,m0_261i,m0_262,m0_263,m0_265,m0_268,m0_270i,m0_271,m0_272,m0_273,m0_276,m0_277u,m0_279,m0_281,m0_284,m0_285i,m0_287,m0_289,m0_290,m0_293,m0_294i,m0_296,m0_297,m0_299,m0_302,m0_303,m0_304,m0_307,m0_308,m0_309,m0_312,m0_313,m0_314,m0_317,m1_0,m1_1,m1_2,m1_3,m1_5,m1_8,m1_11,m1_12,m1_15,m1_16,m1_17,m1_18,m1_19,m2_0,m2_1,m2_2,m2_5,m2_6,m2_7,m2_10,m2_11,m2_14,m2_15,m3_0,m3_1,m3_2,m3_3,m3_5,m3_8,m3_11,m3_12,m3_13,m3_14,m3_17,m3_18,m3_19,m3_20,m3_21,m4_0,m4_1,m4_2,m4_3,m4_4,m4_6,m4_9,m4_14,m4_15,m4_41,m4_42,m4_45,m4_46,m4_47,m4_48,m4_49,m4_52,m4_53,m4_54,m4_55,m4_56,m4_59,m4_60,m4_62,m4_63,m4_64,m5_0,m5_1,m5_2,m5_3,m5_5,m5_8,m5_13,m5_14,m5_15,m5_16,m5_18,m5_21,m5_26,m5_27,m5_32,m5_33,m5_34,m5_35,m5_37,m5_40,m5_45,m5_46,m5_47,m5_49,m5_52,m6_0,m6_1,m6_2,m6_5,m6_6,m6_7,m6_10,m6_11,m6_12,m6_15,m6_16,m6_18,m6_30,m6_31,m6_33,m6_45,m6_46,m7_0,m7_1,m7_4,m7_7,m7_8,m7_11,m7_13,m7_18,m7_19,m7_20,m7_21,m7_23,m7_26,m7_31,m7_32,m7_33,m7_36,m7_37,m7_38,m7_39,m7_41,m7_44,m7_49,m7_50,m7_53,m7_54,m7_57,m7_58,m7_59,m7_60,m7_63,m7_64,m7_65,m7_68,m7_69,m7_72,m7_73,m7_76,m7_77,m7_78,m7_81,m7_82,m7_85,m7_86,m7_89,m7_90,m7_91,m7_92,m7_93,m7_96,m7_97,m7_98,m7_101,m7_102,m8_0,m8_1,m8_2,m8_5u,m8_6,m8_7,m8_8,m8_11,m8_12,m9_0,m9_1,m9_2,m9_3,m9_4,m9_7,m9_12,m9_13,m9_16,m9_21,m9_22,m9_25,m9_26,m9_31,m9_32,m9_35,m9_37,m9_42,m9_43,m9_44,m9_47,m9_48,m10_0,m10_1,m10_4,m10_5,m10_8,m10_13,m10_14u,m10_15,m10_16,m10_18,m10_21,m10_22,m10_23,m10_26,m10_29,m10_30,m10_33,m10_34,m10_35u,m10_35i,m10_35r,m10_36,m10_37,m10_40,m10_41,m10_42u,m10_42i,m10_42r,m10_43,m10_44,m10_47,m10_50,m10_51,m10_52,m10_53,m10_56,m10_59,m10_60,m10_61,m10_64u,m10_64i,m10_64r,m10_66,m10_68,m10_73,m10_76,m10_79,m10_80,m10_83,m11_0,m11_1,m11_2,m11_5,m11_6,m11_7,m11_10,m11_11,m11_12,m11_15,m11_16,m11_17,m11_20,m11_21,m11_22,m11_25,m11_26,m11_27,m11_30,m11_31,m11_32,m11_35,m12_0,m12_1,m12_4,m12_5,m12_6,m12_9,m12_10,m12_11,m12_14,m12_19,m12_20,m12_21,m12_22,m12_25,m12_30,m12_31,m12_32,m12_35,m12_36,m12_37,m12_38,m12_39,m12_42,m12_50,m12_51,m12_52,m12_53,m12_56,m13_0,m13_1,m13_4,m13_7,m13_8,m13_11,m13_13,m13_18,m13_19,m13_22,m13_23,m13_26,m13_27,m13_28,m13_29,m13_30,m13_33,m13_34,m13_35,m13_38,m13_39,m14_0,m14_1,m14_4,m14_7,m14_8,m14_11,m14_13,m14_18,m14_19,m14_22,m14_23,m14_26,m14_27,m14_28,m14_29,m14_32,m14_33,m14_36,m14_37,m14_38,m14_39,m14_40,m14_43,m14_44,m14_45,m14_48,m14_49,m15_0,m15_1,m15_2,m15_10,m15_11,m15_12,m15_15,m15_16,m15_19,m15_20,m15_21,m15_22,m15_25,m15_30,m15_31,m15_32,m15_35,m16_0,m16_1,m16_3,m16_6,m16_7,m16_9,m16_12,m16_13,m16_17,m17_0,m17_1,m17_2,m17_5u,m17_6,m17_7,m17_8,m17_11,m17_16,m17_17,m17_20u,m17_21,m17_22,m17_24,m17_27,m17_28,m17_30,m17_44,m17_45,m17_46,m17_47,m17_50,m17_55,m17_56,m17_57,m17_60,m17_61,m18_0,m18_1,m18_3,m18_6,m18_7,m18_9,m18_12,m18_13,m18_15,m18_18,m18_20,m18_21,m18_22,m18_24,m18_27,m18_28,m18_30,m18_33,m18_34,m18_35,m18_36,m18_38,m18_41,m18_42,m18_44,m18_47,m18_48,m18_49,m18_50,m18_52,m18_55,m18_56,m18_58,m18_63,m18_64,m18_66,m18_71,m18_72,m18_74,m18_79,m18_80,m18_81,m18_84,m18_87,m18_89,m19_0,m19_1u,m19_2,m19_3,m19_5,m19_8,m19_9,m19_12,m19_15,m19_16,m19_19,m19_20,m19_23,m19_24,m19_25,m19_26u,m19_26i,m19_26r,m19_27,m19_28,m19_29,m19_34,m19_35,m19_36,m19_39,m19_40,m19_45,m19_46,m19_47,m19_50,m19_51,m19_52,m19_55,m19_56,m19_57,m19_58,m19_61,m19_62,m19_65,m19_66,m19_69,m19_74,m19_77,m19_80,m19_81,m20_0,m20_1,m20_4,m20_7,m20_8,m20_11,m20_13,m20_18,m20_19,m20_22,m20_23,m20_26,m20_27,m20_28,m20_29,m20_32,m20_33,m20_36,m20_37,m20_38,m20_39,m20_40,m20_43,m20_44,m20_45,m20_48,m20_49,m21_0,m21_1,m21_2,m21_5,m21_10,m21_11,m21_14,m21_19,m21_20,m21_23,m21_28,m21_29,m21_30,m21_33,m21_34,m22_0,m22_1,m22_2,m22_5,m22_8,m22_9,m22_12,m22_13,m22_18,m22_19,m22_20,m22_21,m22_24,m22_25,m22_26,m22_29,m22_34,m22_35,m22_37,m22_40,m22_41,m22_43,m22_80,m22_81,m22_82,m22_83,m22_86,m23_0,m23_1,m23_2,m23_5,m23_6,m23_8,m23_11,m23_12,m23_14,m23_17,m23_18,m23_21,m23_22,m24_0,m24_1,m24_4,m24_5,m24_8,m24_9,m24_12,m24_14,m24_19,m24_20,m24_23,m24_24,m24_27,m24_28,m24_29,m24_30u,m24_31,m24_32,m24_35,m24_36,m24_39,m24_40,m24_41,m24_42u,m24_43,m24_44,m24_45,m24_48,m24_49,m24_50,m24_53,m24_54,m24_55,m24_56u,m24_57,m24_58,m24_61,m24_62,m24_65,m24_66,m24_67,m24_68,m24_69,m24_76,m24_77,m24_78,m24_79,m25_0,m25_1,m25_4,m25_5,m25_10,m25_11,m25_14,m25_15,m25_16u,m25_17,m25_18,m25_19,m25_22,m25_25,m25_26,m25_27,m25_30,m25_31,m25_34,m25_37,m25_38,m25_41,m25_42,m25_45,m25_46,m25_49,m25_50,m25_53,m25_54,m25_57,m25_58,m25_59,m25_62,m25_63,m25_66,m25_67,m25_70,m25_71,m25_72,m25_73,m25_76,m25_77,m25_78,m25_81,m25_82,m25_83,m25_86,m25_89,m25_90,m25_91,m25_94,m25_95,m26_0,m26_1,m26_4,m26_9,m26_10,m26_11,m26_14,m26_19,m26_20,m26_23,m26_28,m26_29,m26_32,m27_0,m27_1,m27_2,m27_3,m27_4,m27_7,m27_11,m27_12,m27_14,m27_15u,m27_16,m27_17u,m27_18,m27_19,m27_21,m27_24,m27_25,m27_26,m27_29,m27_32,m27_33,m27_36,m27_37u,m27_37i,m27_37r,m27_39,m27_40,m27_43,m27_44,m27_45,m27_46,m27_48,m27_51,m27_52,m27_55,m27_56,m27_57,m27_60,m27_61,m27_62,m27_63,m27_66,m27_67,m27_68,m27_69,m27_71,m27_74,m27_75,m27_78,m27_79,m27_80,m27_83,m27_84,m27_85,m27_88,m27_91,m27_92i,m27_93,m27_94,m27_95,m27_98,m27_99,m27_100,m27_103,m27_106,m27_107,m27_111u,m27_111i,m27_111r,m27_113,m27_114,m27_117,m27_118,m27_119,m27_120,m27_121,m27_122,m27_124,m27_127,m27_128,m27_131,m27_132,m27_133,m27_137,m27_138,m27_139,m27_142,m27_143,m27_144,m27_145,m27_146,m27_147,m27_149,m27_152,m27_153,m27_156,m27_157,m27_158,m27_162,m27_163,m27_166,m27_169,m27_170,m27_173,m27_174,m27_175,m27_178,m27_179,m27_180,m27_183,m27_184,m27_185,m27_188,m27_189,m27_190,m27_193,m27_194,m27_195,m27_198,m27_199,m27_202,m27_203,m27_204,m27_205,m27_206,m27_209,m27_210,m27_211,m27_212,m28_0,m28_1,m28_2,m28_3,m28_4,m28_7,m28_12,m28_13,m28_16,m28_17,m28_18,m28_23,m28_24,m28_25,m28_26,m28_28,m28_31,m28_36,m28_37,m28_47,m28_48,m28_49,m28_52u,m28_54,m28_56,m28_67,m28_68,m28_71,m28_72,m28_73,m28_74,m28_75,m28_78,m28_79,m28_80,m28_81,m28_82,m28_85,m28_86,m28_87,m28_88,m28_89,m28_92,m28_93,m28_94,m28_95,m28_96,m29_0,m29_1u,m29_2,m29_3,m29_4,m29_7,m29_8,m29_11,m29_12,m29_13,m29_14,m29_17,m29_18,m29_21,m29_22,m29_23,m29_24,m29_27,m29_28,m29_29,m29_32,m29_35,m29_36,m30_0,m30_1,m30_2,m30_7,m30_8,m30_11,m30_20,m30_21u,m30_22,m30_23,m30_24,m30_27,m30_28,m30_29,m30_32,m30_33u,m30_34,m30_35,m30_38,m30_41,m30_42,m30_43,m30_46i,m30_47,m30_48,m30_49,m30_52,m30_53,m31_0,m31_1u,m31_2,m31_3,m31_4,m31_7,m31_8,m31_11,m31_14,m31_15,m31_18u,m31_18i,m31_18r,m31_19,m31_20,m31_23,m31_24,m31_25,m31_28,m32_0,m32_1,m32_4,m32_6,m32_7u,m32_8,m32_9,m32_12,m32_23,m32_24,m32_25,m32_28u,m32_29,m32_30,m32_33,m32_34,m32_35,m32_36,m32_39u,m32_40,m32_41,m32_44,m32_45,m32_46,m32_47,m32_48,m32_51,m32_52,m32_53,m32_56,m32_57,m32_58,m32_61,m32_62,m32_65,m32_68,m32_69,m32_70,m32_71,m33_0,m33_1,m33_3,m33_4u,m33_5,m33_6,m33_9,m33_10,m33_11u,m33_12,m33_13,m33_16,m33_17,m33_18,m33_20,m33_21u,m33_23,m33_24,m33_27,m33_28,m33_29u,m33_31,m33_32,m33_35,m33_36,m33_37,m33_40,m33_41,m33_42,m33_45,m33_46,m33_47,m33_49,m33_81,m33_82,m33_83,m33_85,m33_87,m33_90,m33_91,m33_92,m33_93,m33_94,m33_96,m33_97,m33_100,m34_0,m34_1,m34_4,m34_5,m34_7,m34_8,m34_9u,m34_11,m34_12,m34_13,m34_26,m34_27,m34_28,m34_49,m34_50,m34_51,m34_72,m34_73,m34_74,m34_77,m34_78,m34_81,m34_82,m34_83,m34_86,m34_87,m34_88,m34_89,m34_90,m34_91,m34_140,m35_0,m35_1,m35_2,m35_3,m35_4,m35_7,m35_12,m35_13,m35_16,m35_17,m35_18,m35_21,m35_22,m35_23,m35_24,m35_25,m35_26,m35_27,m35_28,m35_29,m35_32u,m35_33,m35_34,m35_37,m35_55,m35_56,m35_59,m35_60,m35_61,m35_62,m35_63,m35_64,m35_67,m35_68,m35_71,m35_81,m35_82,m35_85,m35_86,m35_87,m35_90,m35_91,m35_92,m35_95,m35_96,m36_0,m36_1,m36_2,m36_5,m36_6,m36_7,m36_10,m36_11,m36_12,m36_13,m36_14,m36_17,m36_20,m36_21,m36_22,m36_23,m36_24,m36_27,m36_32,m36_33,m36_35,m36_36u,m36_37,m36_38,m36_41,m36_42,m36_43,m36_44,m36_45,m36_46,m36_47u,m36_49,m36_50,m36_53,m36_54,m36_55,m36_56,m36_57,m36_58,m36_59u,m36_61,m36_63,m36_65,m36_72,m36_73u,m36_75,m36_77,m36_79,m36_82,m36_84,m36_87,m36_89,m36_91,m36_94,m36_95,m36_96,m36_99,m36_100,m36_102,m36_103,m36_104,m36_105,m36_108,m36_109,m36_111,m36_112,m36_113,m36_115,m36_118i,m36_120,m36_121,m36_124,m36_127,m36_128,m36_129,m36_132,m36_135,m36_136,m36_139,m37_0,m37_1,m37_13,m37_14,m37_15,m37_18,m37_19,m37_20,m37_23,m37_24,m37_26,m37_27,m37_28,m37_31,m37_32,m37_33,m37_34,m37_35,m37_36,m37_38,m37_41,m37_42,m37_44,m37_55,m37_56,m37_58,m37_85,m37_86,m37_87,m37_90,m37_93,m37_94,m37_95,m37_98,m37_99,m37_100,m37_101,m37_102,m37_103,m37_104,m37_107,m37_108,m37_109,m37_110,m38_0,m38_1,m38_4,m38_7,m38_8,m38_11,m38_13,m38_16,m38_17,m38_20,m38_21,m38_24,m38_25,m38_26,m38_27,m38_28,m38_31,m38_32,m38_33,m38_36,m39_0,m39_1,m39_4u,m39_5,m39_6,m39_9u,m39_10,m39_11,m39_12,m39_13,m39_14,m39_17u,m39_19,m39_20,m39_22,m39_25,m40_0,m40_1,m40_4,m40_7,m40_8,m40_11,m40_13,m40_16,m40_17,m40_18,m40_21,m40_22,m40_23,m40_26,m40_27,m40_30,m40_31,m40_34,m40_35,m41_0,m41_1,m41_3,m41_10,m41_11,m41_13,m41_20,m41_21,m41_23,m41_26,m41_27,m41_28,m41_29,m41_30,m41_31,m41_33,m41_36,m41_37,m41_39,m41_42,m41_43,m41_44,m41_45,m41_46,m41_49,m41_50,m41_51,m41_52,m41_53,m41_54,m41_57,m42_0,m42_1,m42_3,m42_21,m42_22,m42_24,m42_42,m42_43,m42_45,m42_48,m42_49,m42_50,m42_51,m42_54,m42_55,m42_58,m42_59,m42_62,m43_0,m43_1,m43_4,m43_5,m43_8,m43_9,m44_0,m44_1,m44_4,m44_7,m44_8,m44_11,m44_13,m44_16,m44_17,m44_20,m44_21,m44_24,m44_25,m44_26,m44_27,m45_0,m45_1,m45_17,m45_18,m45_19,m45_35,m45_36,m45_37,m45_40,m45_41,m45_44,m45_45,m45_46,m45_47,m45_55,m45_56,m45_57,m45_65,m45_66,m45_67,m45_75,m45_76,m45_77,m45_80,m46_0,m46_1,m46_2,m46_3,m46_5,m46_8,m46_11,m46_12,m46_15,m46_16,m46_17,m46_18,m46_19,m46_21,m46_24,m46_25,m46_28,m47_0,m47_1,m47_2,m47_3,m47_4,m47_7,m47_12,m47_13,m47_16,m47_17,m47_18,m47_19,m47_22,m47_23,m47_27u,m47_28,m47_29,m47_39,m47_40,m47_41,m47_59,m47_60,m47_61,m47_79,m47_80,m47_81,m47_84,m47_85,m47_88,m47_89,m47_90,m48_0,m48_1,m48_3,m48_6,m48_7,m48_10,m49_0,m49_1,m49_4,m49_5,m49_6,m49_9,m49_12,m49_13,m49_14,m49_15,m49_18,m49_19,m49_20,m49_22,m49_23u,m49_24,m49_25,m49_28,m49_29,m49_32,m49_33,m49_34,m49_35,m49_36,m49_37,m49_40,m49_41,m49_44,m49_45,m49_46,m49_47,m49_48,m49_49,m49_52,m49_53,m49_56,m49_57,m49_58,m49_59,m49_60,m49_61,m49_64,m49_65,m49_68,m49_69,m49_70,m49_71,m49_72,m49_74,m49_77,m49_78,m49_81,m49_82,m49_83,m49_84,m49_85,m49_86,m49_87,m49_90,m50_0,m50_1,m50_2,m50_5,m50_6,m50_7,m50_10,m50_11,m50_14,m50_15,m50_16u,m50_17,m50_18,m50_19,m50_22,m50_23,m50_24,m50_27,m50_28,m50_29,m50_32,m50_33,m50_34,m50_35,m50_39,m50_42,m50_43,m50_44,m50_47,m50_48,m50_49,m50_52,m50_55,m50_56u,m50_58,m50_60,m50_61,m50_64,m50_65,m50_68,m50_70,m50_71,m50_72,m50_75,m50_78,m50_79i,m50_81,m50_83,m50_84,m50_87,m50_89,m50_90,m50_93,m50_94,m50_95,m50_97,m50_100u,m50_100i,m50_100r,m50_102,m50_103,m50_106,m50_109,m50_110,m50_111,m50_114,m50_115,m50_117,m50_118,m50_119,m50_120,m50_121,m50_124,m50_127,m50_128,m50_131,m50_133,m50_134,m50_135,m50_137,m50_138,m50_141,m50_144,m51_0,m51_1,m51_4,m51_5,m51_6,m51_9,m51_10,m51_11,m51_12,m51_14,m51_17,m51_18,m51_19,m51_20,m52_0,m52_1,m52_4u,m52_5,m52_6,m52_7,m52_8,m52_11u,m52_12,m52_13,m52_14,m52_17,m53_0,m53_1,m53_2,m53_9,m53_10,m53_12,m53_25,m53_26,m53_27,m53_28,m53_30,m53_33,m53_36,m53_37,m53_40,m53_41,m53_42,m53_43,m53_44,m53_45,m53_48,m53_49,m54_0,m54_1,m54_4,m54_5,m54_8,m54_11,m54_12,m54_13,m54_16,m54_17,m54_20,m54_21,m54_24,m54_25,m54_26,m54_29,m54_30,m54_31,m54_34,m54_35,m55_0,m55_1,m55_3,m55_4u,m55_5,m55_6,m55_9,m55_10,m55_11,m55_14,m55_15,m55_16,m55_19,m55_20,m55_21,m55_24,m55_25,m55_26,m55_29,m55_30,m55_31,m55_34,m55_35,m55_36,m55_39,m55_40,m55_41,m55_44,m55_45,m55_46,m55_49,m55_50,m55_51,m55_54,m55_55,m55_56u,m55_57,m55_58,m55_59,m55_62,m55_63,m55_66,m55_67,m55_68,m55_69,m55_70,m55_71,m55_72,m55_75,m55_76,m55_77,m55_78,m55_81,m55_84,m56_0,m56_1,m56_2,m56_5,m56_6,m56_8,m56_13,m56_14,m56_15,m56_16u,m56_17,m56_18,m56_19,m56_22,m56_23,m56_24,m56_29,m56_30,m56_33,m56_34,m56_35,m56_36,m56_37,m56_38,m56_39,m57_0,m57_3,m57_4,m57_6,m57_8,m57_11u,m57_13,m57_15,m57_16,m57_17,m57_20,m57_21,m57_23,m57_24,m57_25,m57_28,m57_29,m57_31,m57_32,m57_33,m57_36,m57_37,m57_39,m57_40,m57_41,m57_44,m57_45,m57_47,m57_48,m57_49,m57_50,m57_52,m57_55,m57_56,m57_58,m57_59,m57_60,m57_63,m57_64,m57_66,m57_68,m57_69,m57_72,m57_73,m57_75,m57_76,m57_77,m57_80,m57_81,m57_83,m57_84,m57_85,m57_88,m57_89,m57_91,m57_92,m57_93,m57_96,m57_97,m57_99,m57_101,m57_102,m57_105,m57_106,m57_108,m57_109,m57_110,m57_113,m57_114,m57_116,m57_117,m57_118,m57_121,m57_122,m57_124,m57_125,m57_126,m57_129,m57_130,m57_132,m57_134,m57_135,m57_138,m57_139,m57_141,m57_142,m57_143,m57_146,m57_147,m57_149,m57_150,m57_151,m57_154,m57_155,m57_157,m57_159,m57_160,m57_163,m57_164,m57_166,m57_167,m57_168,m57_171,m57_172,m57_174,m57_175,m57_178,m57_183,m57_185,m57_186,m57_187,m57_188,m57_191,m57_196,m57_198,m57_200,m57_203u,m57_205,m57_206,m57_208,m57_209u,m57_211,m57_213,m57_214,m57_217,m57_218,m57_221,m57_222u,m57_224,m57_225,m57_228,m57_229,m57_231,m57_234,m57_235,m57_238,m57_239u,m57_241,m57_243,m57_245,m57_248,m57_249,m57_252,m57_253,m57_258,m57_260,m57_261,m57_264,m57_266,m57_269,m57_270,m57_273,m57_274,m57_279,m57_281,m57_283,m57_286,m57_287,m57_292,m57_294,m57_295,m57_298,m57_300,m57_305,m57_307,m57_308,m57_309,m57_312,m57_313,m57_318,m57_320,m57_322,m57_325,m57_327,m57_330,m57_331,m57_334,m57_335,m57_340,m57_342,m57_345,m57_346,m57_349,m57_350u,m57_352,m57_354,m57_357,m57_358,m57_361,m57_362u,m57_364,m57_366,m57_369,m57_371,m57_372,m57_373,m57_376,m57_377u,m57_379,m57_381,m57_384,m57_385,m57_388,m57_390,m57_391,m57_392,m57_395,m57_396u,m57_398,m57_400,m57_403,m57_405,m57_408,m57_409,m57_412,m57_413u,m57_415,m57_417,m57_420,m57_421,m57_424,m57_425,m57_428,m57_429,m57_431,m57_434,m57_435,m57_438,m57_439,m57_440,m57_443,m57_444u,m57_446,m57_448,m57_451,m57_452,m57_455,m57_456u,m57_458,m57_460,m57_461,m57_462,m57_465,m57_467,m57_472,m57_474,m57_475,m57_476,m57_479,m57_484,m57_486,m57_487,m57_488,m57_491,m57_493,m57_498,m57_500,m57_501,m57_502,m57_505,m57_507,m57_512,m57_514,m57_515,m57_516,m57_519,m57_521,m57_526,m57_528,m57_529,m57_531,m57_534,m57_536,m57_541,m57_543,m57_544,m57_545,m57_548,m57_550,m57_555,m57_557,m57_558,m57_560,m57_563,m57_565,m57_568,m57_569,m57_573,nb0,nb1,ou_a,Option.toList_some,Option.toList_none,List.nil_append,List.cons_append,ou_same,ou_comm,setA_same,setA_comm,own_l0,own_l1,own_l2,own_l3,own_l4,own_l5,own_l6,own_l7,own_l8,own_l9,own_l10,own_l11,own_l12,own_l13,getA_set2,setA_len,inB_iff,A0g_0,A0g_1,A0g_2,A0g_3,A0g_4,A0g_5,A0g_6,A0g_7,A0g_8,A0g_9,A0g_10,A0g_11,A0g_12,A0g_13,A0g_14,A0g_15,A0g_16,A0g_17,A0g_18,A0g_19,A0g_20,A0g_21,A0g_22,A0g_23,A0g_24,A0g_25,A0g_26,A0g_27,A0g_28,A0g_29,A0g_30,A0g_31,A0l_0,A0l_1,A0l_2,A0l_3,A0l_4,A0l_5,A0l_6,A0l_7,A0l_8,A0l_9,A0l_10,A0l_11,A0l_12,A0l_13,A0l_14,A0l_15,A0l_16,A0l_17,A0l_18,A0l_19,A0l_20,A0l_21,A0l_22,A0l_23,A0l_24,A0l_25,A0l_26,A0l_27,A0l_28,A0l_29,A0l_30,A0l_31]
    exact hQ _ _ (by (repeat refine len_ou ?_ (by simp only [setA_len])); exact fun _ => rfl)
set_option maxRecDepth 1000000 in
set_option maxHeartbeats 20000000 in
theorem own_r2 (i0 i1 i2 i3 i4 i5 : Int32) (s : Nat→Int32) (h0 : s 0 = 0) (h1 : s 1 = 0) (h2 : s 2 = 0) (h3 : s 3 = 0) (h4 : s 4 = 0) (h5 : s 5 = 0) (h6 : s 6 = 0) (h7 : s 7 = 0) (h8 : s 8 = 0) (h9 : s 9 = 0) (h10 : s 10 = 0) (h11 : s 11 = 0) (h12 : s 12 = 0) (h13 : s 13 = 0) (h14 : s 14 = 0) (h15 : s 15 = 0) (h16 : s 16 = 0) (h19 : s 19 = 0) (h20 : s 20 = 0) (h21 : s 21 = 0) (h22 : s 22 = 0) (h23 : s 23 = 0) (h24 : s 24 = 0) (h25 : s 25 = 0) (h26 : s 26 = 0) (h27 : s 27 = 0) (hc : 0 < s 17) (Q : Option Value→AHeap→Prop) (hQ : ∀ s' A',(∀ i,(A' i).length = (A0 i).length)→Q (some (.int 1)) (put 0 [] s' A' [])) (q1 : ¬ i2 < 0) (q2 : ¬ 31 < i2) (k1 : i2.toNatClampNeg < 32) (k2 : 0≤i2.toInt) (k3 : i2.toInt < 32) :
    M57 11 [.val (.int i0),.val (.int i1),.val (.int i2),.val (.int i3),.val (.int i4),.val (.int i5),.unset,.unset,.unset,.unset,.unset,.unset,.unset,.unset,.unset,.unset,.unset,.unset] [.ref 0] (put 0 [] s A0 []) Q:=by
  have c:=and_bd i4 7 (by decide)
  have c2 : 0≤(i4 &&& 7).toInt:=c.1
  have c3 : (i4 &&& 7).toInt < 8:=Int.lt_of_le_of_lt c.2 (by decide)
  simp [h0,h1,h2,h3,h4,h5,h6,h7,h8,h9,h10,h11,h12,h13,h14,h15,h16,h19,h20,h21,h22,h23,h24,h25,h26,h27,hc,c2,c3,q1,q2,k1,k2,k3,m0_0,m0_1,m0_4,m0_5,m0_12,m0_13,m0_20,m0_21,m0_28,m0_29,m0_36,m0_37,m0_44,m0_45,m0_52,m0_53,m0_60,m0_61,m0_67,m0_68,m0_74,m0_75,m0_81,m0_82,m0_88,m0_89,m0_95,m0_96,m0_102,m0_103,m0_111,m0_112,m0_120,m0_121,m0_128,m0_129,m0_136,m0_137,m0_144,m0_145,m0_152,m0_153,m0_159,m0_160,m0_166,m0_167,m0_174,m0_175,m0_182,m0_183,m0_190,m0_191,m0_198,m0_199,m0_206,m0_207,m0_214,m0_215,m0_222,m0_223,m0_230,m0_231,m0_238,m0_239,m0_246,m0_247,m0_253,m0_254u,m0_255,m0_256,m0_257,m0_260,m0_261i,m0_262,m0_263,m0_265,m0_268,m0_270i,m0_271,m0_272,m0_273,m0_276,m0_277u,m0_279,m0_281,m0_284,m0_285i,m0_287,m0_289,m0_290,m0_293,m0_294i,m0_296,m0_297,m0_299,m0_302,m0_303,m0_304,m0_307,m0_308,m0_309,m0_312,m0_313,m0_314,m0_317,m1_0,m1_1,m1_2,m1_3,m1_5,m1_8,m1_11,m1_12,m1_15,m1_16,m1_17,m1_18,m1_19,m2_0,m2_1,m2_2,m2_5,m2_6,m2_7,m2_10,m2_11,m2_14,m2_15,m3_0,m3_1,m3_2,m3_3,m3_5,m3_8,m3_11,m3_12,m3_13,m3_14,m3_17,m3_18,m3_19,m3_20,m3_21,m4_0,m4_1,m4_2,m4_3,m4_4,m4_6,m4_9,m4_14,m4_15,m4_41,m4_42,m4_45,m4_46,m4_47,m4_48,m4_49,m4_52,m4_53,m4_54,m4_55,m4_56,m4_59,m4_60,m4_62,m4_63,m4_64,m5_0,m5_1,m5_2,m5_3,m5_5,m5_8,m5_13,m5_14,m5_15,m5_16,m5_18,m5_21,m5_26,m5_27,m5_32,m5_33,m5_34,m5_35,m5_37,m5_40,m5_45,m5_46,m5_47,m5_49,m5_52,m6_0,m6_1,m6_2,m6_5,m6_6,m6_7,m6_10,m6_11,m6_12,m6_15,m6_16,m6_18,m6_30,m6_31,m6_33,m6_45,m6_46,m7_0,m7_1,m7_4,m7_7,m7_8,m7_11,m7_13,m7_18,m7_19,m7_20,m7_21,m7_23,m7_26,m7_31,m7_32,m7_33,m7_36,m7_37,m7_38,m7_39,m7_41,m7_44,m7_49,m7_50,m7_53,m7_54,m7_57,m7_58,m7_59,m7_60,m7_63,m7_64,m7_65,m7_68,m7_69,m7_72,m7_73,m7_76,m7_77,m7_78,m7_81,m7_82,m7_85,m7_86,m7_89,m7_90,m7_91,m7_92,m7_93,m7_96,m7_97,m7_98,m7_101,m7_102,m8_0,m8_1,m8_2,m8_5u,m8_6,m8_7,m8_8,m8_11,m8_12,m9_0,m9_1,m9_2,m9_3,m9_4,m9_7,m9_12,m9_13,m9_16,m9_21,m9_22,m9_25,m9_26,m9_31,m9_32,m9_35,m9_37,m9_42,m9_43,m9_44,m9_47,m9_48,m10_0,m10_1,m10_4,m10_5,m10_8,m10_13,m10_14u,m10_15,m10_16,m10_18,m10_21,m10_22,m10_23,m10_26,m10_29,m10_30,m10_33,m10_34,m10_35u,m10_35i,m10_35r,m10_36,m10_37,m10_40,m10_41,m10_42u,m10_42i,m10_42r,m10_43,m10_44,m10_47,m10_50,m10_51,m10_52,m10_53,m10_56,m10_59,m10_60,m10_61,m10_64u,m10_64i,m10_64r,m10_66,m10_68,m10_73,m10_76,m10_79,m10_80,m10_83,m11_0,m11_1,m11_2,m11_5,m11_6,m11_7,m11_10,m11_11,m11_12,m11_15,m11_16,m11_17,m11_20,m11_21,m11_22,m11_25,m11_26,m11_27,m11_30,m11_31,m11_32,m11_35,m12_0,m12_1,m12_4,m12_5,m12_6,m12_9,m12_10,m12_11,m12_14,m12_19,m12_20,m12_21,m12_22,m12_25,m12_30,m12_31,m12_32,m12_35,m12_36,m12_37,m12_38,m12_39,m12_42,m12_50,m12_51,m12_52,m12_53,m12_56,m13_0,m13_1,m13_4,m13_7,m13_8,m13_11,m13_13,m13_18,m13_19,m13_22,m13_23,m13_26,m13_27,m13_28,m13_29,m13_30,m13_33,m13_34,m13_35,m13_38,m13_39,m14_0,m14_1,m14_4,m14_7,m14_8,m14_11,m14_13,m14_18,m14_19,m14_22,m14_23,m14_26,m14_27,m14_28,m14_29,m14_32,m14_33,m14_36,m14_37,m14_38,m14_39,m14_40,m14_43,m14_44,m14_45,m14_48,m14_49,m15_0,m15_1,m15_2,m15_10,m15_11,m15_12,m15_15,m15_16,m15_19,m15_20,m15_21,m15_22,m15_25,m15_30,m15_31,m15_32,m15_35,m16_0,m16_1,m16_3,m16_6,m16_7,m16_9,m16_12,m16_13,m16_17,m17_0,m17_1,m17_2,m17_5u,m17_6,m17_7,m17_8,m17_11,m17_16,m17_17,m17_20u,m17_21,m17_22,m17_24,m17_27,m17_28,m17_30,m17_44,m17_45,m17_46,m17_47,m17_50,m17_55,m17_56,m17_57,m17_60,m17_61,m18_0,m18_1,m18_3,m18_6,m18_7,m18_9,m18_12,m18_13,m18_15,m18_18,m18_20,m18_21,m18_22,m18_24,m18_27,m18_28,m18_30,m18_33,m18_34,m18_35,m18_36,m18_38,m18_41,m18_42,m18_44,m18_47,m18_48,m18_49,m18_50,m18_52,m18_55,m18_56,m18_58,m18_63,m18_64,m18_66,m18_71,m18_72,m18_74,m18_79,m18_80,m18_81,m18_84,m18_87,m18_89,m19_0,m19_1u,m19_2,m19_3,m19_5,m19_8,m19_9,m19_12,m19_15,m19_16,m19_19,m19_20,m19_23,m19_24,m19_25,m19_26u,m19_26i,m19_26r,m19_27,m19_28,m19_29,m19_34,m19_35,m19_36,m19_39,m19_40,m19_45,m19_46,m19_47,m19_50,m19_51,m19_52,m19_55,m19_56,m19_57,m19_58,m19_61,m19_62,m19_65,m19_66,m19_69,m19_74,m19_77,m19_80,m19_81,m20_0,m20_1,m20_4,m20_7,m20_8,m20_11,m20_13,m20_18,m20_19,m20_22,m20_23,m20_26,m20_27,m20_28,m20_29,m20_32,m20_33,m20_36,m20_37,m20_38,m20_39,m20_40,m20_43,m20_44,m20_45,m20_48,m20_49,m21_0,m21_1,m21_2,m21_5,m21_10,m21_11,m21_14,m21_19,m21_20,m21_23,m21_28,m21_29,m21_30,m21_33,m21_34,m22_0,m22_1,m22_2,m22_5,m22_8,m22_9,m22_12,m22_13,m22_18,m22_19,m22_20,m22_21,m22_24,m22_25,m22_26,m22_29,m22_34,m22_35,m22_37,m22_40,m22_41,m22_43,m22_80,m22_81,m22_82,m22_83,m22_86,m23_0,m23_1,m23_2,m23_5,m23_6,m23_8,m23_11,m23_12,m23_14,m23_17,m23_18,m23_21,m23_22,m24_0,m24_1,m24_4,m24_5,m24_8,m24_9,m24_12,m24_14,m24_19,m24_20,m24_23,m24_24,m24_27,m24_28,m24_29,m24_30u,m24_31,m24_32,m24_35,m24_36,m24_39,m24_40,m24_41,m24_42u,m24_43,m24_44,m24_45,m24_48,m24_49,m24_50,m24_53,m24_54,m24_55,m24_56u,m24_57,m24_58,m24_61,m24_62,m24_65,m24_66,m24_67,m24_68,m24_69,m24_76,m24_77,m24_78,m24_79,m25_0,m25_1,m25_4,m25_5,m25_10,m25_11,m25_14,m25_15,m25_16u,m25_17,m25_18,m25_19,m25_22,m25_25,m25_26,m25_27,m25_30,m25_31,m25_34,m25_37,m25_38,m25_41,m25_42,m25_45,m25_46,m25_49,m25_50,m25_53,m25_54,m25_57,m25_58,m25_59,m25_62,m25_63,m25_66,m25_67,m25_70,m25_71,m25_72,m25_73,m25_76,m25_77,m25_78,m25_81,m25_82,m25_83,m25_86,m25_89,m25_90,m25_91,m25_94,m25_95,m26_0,m26_1,m26_4,m26_9,m26_10,m26_11,m26_14,m26_19,m26_20,m26_23,m26_28,m26_29,m26_32,m27_0,m27_1,m27_2,m27_3,m27_4,m27_7,m27_11,m27_12,m27_14,m27_15u,m27_16,m27_17u,m27_18,m27_19,m27_21,m27_24,m27_25,m27_26,m27_29,m27_32,m27_33,m27_36,m27_37u,m27_37i,m27_37r,m27_39,m27_40,m27_43,m27_44,m27_45,m27_46,m27_48,m27_51,m27_52,m27_55,m27_56,m27_57,m27_60,m27_61,m27_62,m27_63,m27_66,m27_67,m27_68,m27_69,m27_71,m27_74,m27_75,m27_78,m27_79,m27_80,m27_83,m27_84,m27_85,m27_88,m27_91,m27_92i,m27_93,m27_94,m27_95,m27_98,m27_99,m27_100,m27_103,m27_106,m27_107,m27_111u,m27_111i,m27_111r,m27_113,m27_114,m27_117,m27_118,m27_119,m27_120,m27_121,m27_122,m27_124,m27_127,m27_128,m27_131,m27_132,m27_133,m27_137,m27_138,m27_139,m27_142,m27_143,m27_144,m27_145,m27_146,m27_147,m27_149,m27_152,m27_153,m27_156,m27_157,m27_158,m27_162,m27_163,m27_166,m27_169,m27_170,m27_173,m27_174,m27_175,m27_178,m27_179,m27_180,m27_183,m27_184,m27_185,m27_188,m27_189,m27_190,m27_193,m27_194,m27_195,m27_198,m27_199,m27_202,m27_203,m27_204,m27_205,m27_206,m27_209,m27_210,m27_211,m27_212,m28_0,m28_1,m28_2,m28_3,m28_4,m28_7,m28_12,m28_13,m28_16,m28_17,m28_18,m28_23,m28_24,m28_25,m28_26,m28_28,m28_31,m28_36,m28_37,m28_47,m28_48,m28_49,m28_52u,m28_54,m28_56,m28_67,m28_68,m28_71,m28_72,m28_73,m28_74,m28_75,m28_78,m28_79,m28_80,m28_81,m28_82,m28_85,m28_86,m28_87,m28_88,m28_89,m28_92,m28_93,m28_94,m28_95,m28_96,m29_0,m29_1u,m29_2,m29_3,m29_4,m29_7,m29_8,m29_11,m29_12,m29_13,m29_14,m29_17,m29_18,m29_21,m29_22,m29_23,m29_24,m29_27,m29_28,m29_29,m29_32,m29_35,m29_36,m30_0,m30_1,m30_2,m30_7,m30_8,m30_11,m30_20,m30_21u,m30_22,m30_23,m30_24,m30_27,m30_28,m30_29,m30_32,m30_33u,m30_34,m30_35,m30_38,m30_41,m30_42,m30_43,m30_46i,m30_47,m30_48,m30_49,m30_52,m30_53,m31_0,m31_1u,m31_2,m31_3,m31_4,m31_7,m31_8,m31_11,m31_14,m31_15,m31_18u,m31_18i,m31_18r,m31_19,m31_20,m31_23,m31_24,m31_25,m31_28,m32_0,m32_1,m32_4,m32_6,m32_7u,m32_8,m32_9,m32_12,m32_23,m32_24,m32_25,m32_28u,m32_29,m32_30,m32_33,m32_34,m32_35,m32_36,m32_39u,m32_40,m32_41,m32_44,m32_45,m32_46,m32_47,m32_48,m32_51,m32_52,m32_53,m32_56,m32_57,m32_58,m32_61,m32_62,m32_65,m32_68,m32_69,m32_70,m32_71,m33_0,m33_1,m33_3,m33_4u,m33_5,m33_6,m33_9,m33_10,m33_11u,m33_12,m33_13,m33_16,m33_17,m33_18,m33_20,m33_21u,m33_23,m33_24,m33_27,m33_28,m33_29u,m33_31,m33_32,m33_35,m33_36,m33_37,m33_40,m33_41,m33_42,m33_45,m33_46,m33_47,m33_49,m33_81,m33_82,m33_83,m33_85,m33_87,m33_90,m33_91,m33_92,m33_93,m33_94,m33_96,m33_97,m33_100,m34_0,m34_1,m34_4,m34_5,m34_7,m34_8,m34_9u,m34_11,m34_12,m34_13,m34_26,m34_27,m34_28,m34_49,m34_50,m34_51,m34_72,m34_73,m34_74,m34_77,m34_78,m34_81,m34_82,m34_83,m34_86,m34_87,m34_88,m34_89,m34_90,m34_91,m34_140,m35_0,m35_1,m35_2,m35_3,m35_4,m35_7,m35_12,m35_13,m35_16,m35_17,m35_18,m35_21,m35_22,m35_23,m35_24,m35_25,m35_26,m35_27,m35_28,m35_29,m35_32u,m35_33,m35_34,m35_37,m35_55,m35_56,m35_59,m35_60,m35_61,m35_62,m35_63,m35_64,m35_67,m35_68,m35_71,m35_81,m35_82,m35_85,m35_86,m35_87,m35_90,m35_91,m35_92,m35_95,m35_96,m36_0,m36_1,m36_2,m36_5,m36_6,m36_7,m36_10,m36_11,m36_12,m36_13,m36_14,m36_17,m36_20,m36_21,m36_22,m36_23,m36_24,m36_27,m36_32,m36_33,m36_35,m36_36u,m36_37,m36_38,m36_41,m36_42,m36_43,m36_44,m36_45,m36_46,m36_47u,m36_49,m36_50,m36_53,m36_54,m36_55,m36_56,m36_57,m36_58,m36_59u,m36_61,m36_63,m36_65,m36_72,m36_73u,m36_75,m36_77,m36_79,m36_82,m36_84,m36_87,m36_89,m36_91,m36_94,m36_95,m36_96,m36_99,m36_100,m36_102,m36_103,m36_104,m36_105,m36_108,m36_109,m36_111,m36_112,m36_113,m36_115,m36_118i,m36_120,m36_121,m36_124,m36_127,m36_128,m36_129,m36_132,m36_135,m36_136,m36_139,m37_0,m37_1,m37_13,m37_14,m37_15,m37_18,m37_19,m37_20,m37_23,m37_24,m37_26,m37_27,m37_28,m37_31,m37_32,m37_33,m37_34,m37_35,m37_36,m37_38,m37_41,m37_42,m37_44,m37_55,m37_56,m37_58,m37_85,m37_86,m37_87,m37_90,m37_93,m37_94,m37_95,m37_98,m37_99,m37_100,m37_101,m37_102,m37_103,m37_104,m37_107,m37_108,m37_109,m37_110,m38_0,m38_1,m38_4,m38_7,m38_8,m38_11,m38_13,m38_16,m38_17,m38_20,m38_21,m38_24,m38_25,m38_26,m38_27,m38_28,m38_31,m38_32,m38_33,m38_36,m39_0,m39_1,m39_4u,m39_5,m39_6,m39_9u,m39_10,m39_11,m39_12,m39_13,m39_14,m39_17u,m39_19,m39_20,m39_22,m39_25,m40_0,m40_1,m40_4,m40_7,m40_8,m40_11,m40_13,m40_16,m40_17,m40_18,m40_21,m40_22,m40_23,m40_26,m40_27,m40_30,m40_31,m40_34,m40_35,m41_0,m41_1,m41_3,m41_10,m41_11,m41_13,m41_20,m41_21,m41_23,m41_26,m41_27,m41_28,m41_29,m41_30,m41_31,m41_33,m41_36,m41_37,m41_39,m41_42,m41_43,m41_44,m41_45,m41_46,m41_49,m41_50,m41_51,m41_52,m41_53,m41_54,m41_57,m42_0,m42_1,m42_3,m42_21,m42_22,m42_24,m42_42,m42_43,m42_45,m42_48,m42_49,m42_50,m42_51,m42_54,m42_55,m42_58,m42_59,m42_62,m43_0,m43_1,m43_4,m43_5,m43_8,m43_9,m44_0,m44_1,m44_4,m44_7,m44_8,m44_11,m44_13,m44_16,m44_17,m44_20,m44_21,m44_24,m44_25,m44_26,m44_27,m45_0,m45_1,m45_17,m45_18,m45_19,m45_35,m45_36,m45_37,m45_40,m45_41,m45_44,m45_45,m45_46,m45_47,m45_55,m45_56,m45_57,m45_65,m45_66,m45_67,m45_75,m45_76,m45_77,m45_80,m46_0,m46_1,m46_2,m46_3,m46_5,m46_8,m46_11,m46_12,m46_15,m46_16,m46_17,m46_18,m46_19,m46_21,m46_24,m46_25,m46_28,m47_0,m47_1,m47_2,m47_3,m47_4,m47_7,m47_12,m47_13,m47_16,m47_17,m47_18,m47_19,m47_22,m47_23,m47_27u,m47_28,m47_29,m47_39,m47_40,m47_41,m47_59,m47_60,m47_61,m47_79,m47_80,m47_81,m47_84,m47_85,m47_88,m47_89,m47_90,m48_0,m48_1,m48_3,m48_6,m48_7,m48_10,m49_0,m49_1,m49_4,m49_5,m49_6,m49_9,m49_12,m49_13,m49_14,m49_15,m49_18,m49_19,m49_20,m49_22,m49_23u,m49_24,m49_25,m49_28,m49_29,m49_32,m49_33,m49_34,m49_35,m49_36,m49_37,m49_40,m49_41,m49_44,m49_45,m49_46,m49_47,m49_48,m49_49,m49_52,m49_53,m49_56,m49_57,m49_58,m49_59,m49_60,m49_61,m49_64,m49_65,m49_68,m49_69,m49_70,m49_71,m49_72,m49_74,m49_77,m49_78,m49_81,m49_82,m49_83,m49_84,m49_85,m49_86,m49_87,m49_90,m50_0,m50_1,m50_2,m50_5,m50_6,m50_7,m50_10,m50_11,m50_14,m50_15,m50_16u,m50_17,m50_18,m50_19,m50_22,m50_23,m50_24,m50_27,m50_28,m50_29,m50_32,m50_33,m50_34,m50_35,m50_39,m50_42,m50_43,m50_44,m50_47,m50_48,m50_49,m50_52,m50_55,m50_56u,m50_58,m50_60,m50_61,m50_64,m50_65,m50_68,m50_70,m50_71,m50_72,m50_75,m50_78,m50_79i,m50_81,m50_83,m50_84,m50_87,m50_89,m50_90,m50_93,m50_94,m50_95,m50_97,m50_100u,m50_100i,m50_100r,m50_102,m50_103,m50_106,m50_109,m50_110,m50_111,m50_114,m50_115,m50_117,m50_118,m50_119,m50_120,m50_121,m50_124,m50_127,m50_128,m50_131,m50_133,m50_134,m50_135,m50_137,m50_138,m50_141,m50_144,m51_0,m51_1,m51_4,m51_5,m51_6,m51_9,m51_10,m51_11,m51_12,m51_14,m51_17,m51_18,m51_19,m51_20,m52_0,m52_1,m52_4u,m52_5,m52_6,m52_7,m52_8,m52_11u,m52_12,m52_13,m52_14,m52_17,m53_0,m53_1,m53_2,m53_9,m53_10,m53_12,m53_25,m53_26,m53_27,m53_28,m53_30,m53_33,m53_36,m53_37,m53_40,m53_41,m53_42,m53_43,m53_44,m53_45,m53_48,m53_49,m54_0,m54_1,m54_4,m54_5,m54_8,m54_11,m54_12,m54_13,m54_16,m54_17,m54_20,m54_21,m54_24,m54_25,m54_26,m54_29,m54_30,m54_31,m54_34,m54_35,m55_0,m55_1,m55_3,m55_4u,m55_5,m55_6,m55_9,m55_10,m55_11,m55_14,m55_15,m55_16,m55_19,m55_20,m55_21,m55_24,m55_25,m55_26,m55_29,m55_30,m55_31,m55_34,m55_35,m55_36,m55_39,m55_40,m55_41,m55_44,m55_45,m55_46,m55_49,m55_50,m55_51,m55_54,m55_55,m55_56u,m55_57,m55_58,m55_59,m55_62,m55_63,m55_66,m55_67,m55_68,m55_69,m55_70,m55_71,m55_72,m55_75,m55_76,m55_77,m55_78,m55_81,m55_84,m56_0,m56_1,m56_2,m56_5,m56_6,m56_8,m56_13,m56_14,m56_15,m56_16u,m56_17,m56_18,m56_19,m56_22,m56_23,m56_24,m56_29,m56_30,m56_33,m56_34,m56_35,m56_36,m56_37,m56_38,m56_39,m57_0,m57_3,m57_4,m57_6,m57_8,m57_11u,m57_13,m57_15,m57_16,m57_17,m57_20,m57_21,m57_23,m57_24,m57_25,m57_28,m57_29,m57_31,m57_32,m57_33,m57_36,m57_37,m57_39,m57_40,m57_41,m57_44,m57_45,m57_47,m57_48,m57_49,m57_50,m57_52,m57_55,m57_56,m57_58,m57_59,m57_60,m57_63,m57_64,m57_66,m57_68,m57_69,m57_72,m57_73,m57_75,m57_76,m57_77,m57_80,m57_81,m57_83,m57_84,m57_85,m57_88,m57_89,m57_91,m57_92,m57_93,m57_96,m57_97,m57_99,m57_101,m57_102,m57_105,m57_106,m57_108,m57_109,m57_110,m57_113,m57_114,m57_116,m57_117,m57_118,m57_121,m57_122,m57_124,m57_125,m57_126,m57_129,m57_130,m57_132,m57_134,m57_135,m57_138,m57_139,m57_141,m57_142,m57_143,m57_146,m57_147,m57_149,m57_150,m57_151,m57_154,m57_155,m57_157,m57_159,m57_160,m57_163,m57_164,m57_166,m57_167,m57_168,m57_171,m57_172,m57_174,m57_175,m57_178,m57_183,m57_185,m57_186,m57_187,m57_188,m57_191,m57_196,m57_198,m57_203u,m57_205,m57_206,m57_208,m57_209u,m57_211,m57_213,m57_214,m57_217,m57_218,m57_221,m57_222u,m57_224,m57_225,m57_228,m57_229,m57_231,m57_234,m57_235,m57_238,m57_239u,m57_241,m57_243,m57_245,m57_248,m57_249,m57_252,m57_253,m57_258,m57_260,m57_261,m57_264,m57_266,m57_269,m57_270,m57_273,m57_274,m57_279,m57_281,m57_283,m57_286,m57_287,m57_292,m57_294,m57_295,m57_298,m57_300,m57_305,m57_307,m57_308,m57_309,m57_312,m57_313,m57_318,m57_320,m57_322,m57_325,m57_327,m57_330,m57_331,m57_334,m57_335,m57_340,m57_342,m57_345,m57_346,m57_349,m57_350u,m57_352,m57_354,m57_357,m57_358,m57_361,m57_362u,m57_364,m57_366,m57_369,m57_371,m57_372,m57_373,m57_376,m57_377u,m57_379,m57_381,m57_384,m57_385,m57_388,m57_390,m57_391,m57_392,m57_395,m57_396u,m57_398,m57_400,m57_403,m57_405,m57_408,m57_409,m57_412,m57_413u,m57_415,m57_417,m57_420,m57_421,m57_424,m57_425,m57_428,m57_429,m57_431,m57_434,m57_435,m57_438,m57_439,m57_440,m57_443,m57_444u,m57_446,m57_448,m57_451,m57_452,m57_455,m57_456u,m57_458,m57_460,m57_461,m57_462,m57_465,m57_467,m57_472,m57_474,m57_475,m57_476,m57_479,m57_484,m57_486,m57_487,m57_488,m57_491,m57_493,m57_498,m57_500,m57_501,m57_502,m57_505,m57_507,m57_512,m57_514,m57_515,m57_516,m57_519,m57_521,m57_526,m57_528,m57_529,m57_531,m57_534,m57_536,m57_541,m57_543,m57_544,m57_545,m57_548,m57_550,m57_555,m57_557,m57_558,m57_560,m57_563,m57_565,m57_568,m57_569,m57_573,nb0,nb1,ou_a,Option.toList_some,Option.toList_none,List.nil_append,List.cons_append,ou_same,ou_comm,setA_same,setA_comm,own_l0,own_l1,own_l2,own_l3,own_l4,own_l5,own_l6,own_l7,own_l8,own_l9,own_l10,own_l11,own_l12,own_l13,getA_set2,setA_len,inB_iff,A0g_0,A0g_1,A0g_2,A0g_3,A0g_4,A0g_5,A0g_6,A0g_7,A0g_8,A0g_9,A0g_10,A0g_11,A0g_12,A0g_13,A0g_14,A0g_15,A0g_16,A0g_17,A0g_18,A0g_19,A0g_20,A0g_21,A0g_22,A0g_23,A0g_24,A0g_25,A0g_26,A0g_27,A0g_28,A0g_29,A0g_30,A0g_31,A0l_0,A0l_1,A0l_2,A0l_3,A0l_4,A0l_5,A0l_6,A0l_7,A0l_8,A0l_9,A0l_10,A0l_11,A0l_12,A0l_13,A0l_14,A0l_15,A0l_16,A0l_17,A0l_18,A0l_19,A0l_20,A0l_21,A0l_22,A0l_23,A0l_24,A0l_25,A0l_26,A0l_27,A0l_28,A0l_29,A0l_30,A0l_31]
  by_cases g : i1 < i0 + i4
  · by_cases z : i1 = 0
    · subst z
      simp [h0,h1,h2,h3,h4,h5,h6,h7,h8,h9,h10,h11,h12,h13,h14,h15,h16,h19,h20,h21,h22,h23,h24,h25,h26,h27,hc,c2,c3,g,q1,q2,k1,k2,k3,m0_0,m0_1,m0_4,m0_5,m0_12,m0_13,m0_20,m0_21,m0_28,m0_29,m0_36,m0_37,m0_44,m0_45,m0_52,m0_53,m0_60,m0_61,m0_67,m0_68,m0_74,m0_75,m0_81,m0_82,m0_88,m0_89,m0_95,m0_96,m0_102,m0_103,m0_111,m0_112,m0_120,m0_121,m0_128,m0_129,m0_136,m0_137,m0_144,m0_145,m0_152,m0_153,m0_159,m0_160,m0_166,m0_167,m0_174,m0_175,m0_182,m0_183,m0_190,m0_191,m0_198,m0_199,m0_206,m0_207,m0_214,m0_215,m0_222,m0_223,m0_230,m0_231,m0_238,m0_239,m0_246,m0_247,m0_253,m0_254u,m0_255,m0_256,m0_257,m0_260,m0_261i,m0_262,m0_263,m0_265,m0_268,m0_270i,m0_271,m0_272,m0_273,m0_276,m0_277u,m0_279,m0_281,m0_284,m0_285i,m0_287,m0_289,m0_290,m0_293,m0_294i,m0_296,m0_297,m0_299,m0_302,m0_303,m0_304,m0_307,m0_308,m0_309,m0_312,m0_313,m0_314,m0_317,m1_0,m1_1,m1_2,m1_3,m1_5,m1_8,m1_11,m1_12,m1_15,m1_16,m1_17,m1_18,m1_19,m2_0,m2_1,m2_2,m2_5,m2_6,m2_7,m2_10,m2_11,m2_14,m2_15,m3_0,m3_1,m3_2,m3_3,m3_5,m3_8,m3_11,m3_12,m3_13,m3_14,m3_17,m3_18,m3_19,m3_20,m3_21,m4_0,m4_1,m4_2,m4_3,m4_4,m4_6,m4_9,m4_14,m4_15,m4_41,m4_42,m4_45,m4_46,m4_47,m4_48,m4_49,m4_52,m4_53,m4_54,m4_55,m4_56,m4_59,m4_60,m4_62,m4_63,m4_64,m5_0,m5_1,m5_2,m5_3,m5_5,m5_8,m5_13,m5_14,m5_15,m5_16,m5_18,m5_21,m5_26,m5_27,m5_32,m5_33,m5_34,m5_35,m5_37,m5_40,m5_45,m5_46,m5_47,m5_49,m5_52,m6_0,m6_1,m6_2,m6_5,m6_6,m6_7,m6_10,m6_11,m6_12,m6_15,m6_16,m6_18,m6_30,m6_31,m6_33,m6_45,m6_46,m7_0,m7_1,m7_4,m7_7,m7_8,m7_11,m7_13,m7_18,m7_19,m7_20,m7_21,m7_23,m7_26,m7_31,m7_32,m7_33,m7_36,m7_37,m7_38,m7_39,m7_41,m7_44,m7_49,m7_50,m7_53,m7_54,m7_57,m7_58,m7_59,m7_60,m7_63,m7_64,m7_65,m7_68,m7_69,m7_72,m7_73,m7_76,m7_77,m7_78,m7_81,m7_82,m7_85,m7_86,m7_89,m7_90,m7_91,m7_92,m7_93,m7_96,m7_97,m7_98,m7_101,m7_102,m8_0,m8_1,m8_2,m8_5u,m8_6,m8_7,m8_8,m8_11,m8_12,m9_0,m9_1,m9_2,m9_3,m9_4,m9_7,m9_12,m9_13,m9_16,m9_21,m9_22,m9_25,m9_26,m9_31,m9_32,m9_35,m9_37,m9_42,m9_43,m9_44,m9_47,m9_48,m10_0,m10_1,m10_4,m10_5,m10_8,m10_13,m10_14u,m10_15,m10_16,m10_18,m10_21,m10_22,m10_23,m10_26,m10_29,m10_30,m10_33,m10_34,m10_35u,m10_35i,m10_35r,m10_36,m10_37,m10_40,m10_41,m10_42u,m10_42i,m10_42r,m10_43,m10_44,m10_47,m10_50,m10_51,m10_52,m10_53,m10_56,m10_59,m10_60,m10_61,m10_64u,m10_64i,m10_64r,m10_66,m10_68,m10_73,m10_76,m10_79,m10_80,m10_83,m11_0,m11_1,m11_2,m11_5,m11_6,m11_7,m11_10,m11_11,m11_12,m11_15,m11_16,m11_17,m11_20,m11_21,m11_22,m11_25,m11_26,m11_27,m11_30,m11_31,m11_32,m11_35,m12_0,m12_1,m12_4,m12_5,m12_6,m12_9,m12_10,m12_11,m12_14,m12_19,m12_20,m12_21,m12_22,m12_25,m12_30,m12_31,m12_32,m12_35,m12_36,m12_37,m12_38,m12_39,m12_42,m12_50,m12_51,m12_52,m12_53,m12_56,m13_0,m13_1,m13_4,m13_7,m13_8,m13_11,m13_13,m13_18,m13_19,m13_22,m13_23,m13_26,m13_27,m13_28,m13_29,m13_30,m13_33,m13_34,m13_35,m13_38,m13_39,m14_0,m14_1,m14_4,m14_7,m14_8,m14_11,m14_13,m14_18,m14_19,m14_22,m14_23,m14_26,m14_27,m14_28,m14_29,m14_32,m14_33,m14_36,m14_37,m14_38,m14_39,m14_40,m14_43,m14_44,m14_45,m14_48,m14_49,m15_0,m15_1,m15_2,m15_10,m15_11,m15_12,m15_15,m15_16,m15_19,m15_20,m15_21,m15_22,m15_25,m15_30,m15_31,m15_32,m15_35,m16_0,m16_1,m16_3,m16_6,m16_7,m16_9,m16_12,m16_13,m16_17,m17_0,m17_1,m17_2,m17_5u,m17_6,m17_7,m17_8,m17_11,m17_16,m17_17,m17_20u,m17_21,m17_22,m17_24,m17_27,m17_28,m17_30,m17_44,m17_45,m17_46,m17_47,m17_50,m17_55,m17_56,m17_57,m17_60,m17_61,m18_0,m18_1,m18_3,m18_6,m18_7,m18_9,m18_12,m18_13,m18_15,m18_18,m18_20,m18_21,m18_22,m18_24,m18_27,m18_28,m18_30,m18_33,m18_34,m18_35,m18_36,m18_38,m18_41,m18_42,m18_44,m18_47,m18_48,m18_49,m18_50,m18_52,m18_55,m18_56,m18_58,m18_63,m18_64,m18_66,m18_71,m18_72,m18_74,m18_79,m18_80,m18_81,m18_84,m18_87,m18_89,m19_0,m19_1u,m19_2,m19_3,m19_5,m19_8,m19_9,m19_12,m19_15,m19_16,m19_19,m19_20,m19_23,m19_24,m19_25,m19_26u,m19_26i,m19_26r,m19_27,m19_28,m19_29,m19_34,m19_35,m19_36,m19_39,m19_40,m19_45,m19_46,m19_47,m19_50,m19_51,m19_52,m19_55,m19_56,m19_57,m19_58,m19_61,m19_62,m19_65,m19_66,m19_69,m19_74,m19_77,m19_80,m19_81,m20_0,m20_1,m20_4,m20_7,m20_8,m20_11,m20_13,m20_18,m20_19,m20_22,m20_23,m20_26,m20_27,m20_28,m20_29,m20_32,m20_33,m20_36,m20_37,m20_38,m20_39,m20_40,m20_43,m20_44,m20_45,m20_48,m20_49,m21_0,m21_1,m21_2,m21_5,m21_10,m21_11,m21_14,m21_19,m21_20,m21_23,m21_28,m21_29,m21_30,m21_33,m21_34,m22_0,m22_1,m22_2,m22_5,m22_8,m22_9,m22_12,m22_13,m22_18,m22_19,m22_20,m22_21,m22_24,m22_25,m22_26,m22_29,m22_34,m22_35,m22_37,m22_40,m22_41,m22_43,m22_80,m22_81,m22_82,m22_83,m22_86,m23_0,m23_1,m23_2,m23_5,m23_6,m23_8,m23_11,m23_12,m23_14,m23_17,m23_18,m23_21,m23_22,m24_0,m24_1,m24_4,m24_5,m24_8,m24_9,m24_12,m24_14,m24_19,m24_20,m24_23,m24_24,m24_27,m24_28,m24_29,m24_30u,m24_31,m24_32,m24_35,m24_36,m24_39,m24_40,m24_41,m24_42u,m24_43,m24_44,m24_45,m24_48,m24_49,m24_50,m24_53,m24_54,m24_55,m24_56u,m24_57,m24_58,m24_61,m24_62,m24_65,m24_66,m24_67,m24_68,m24_69,m24_76,m24_77,m24_78,m24_79,m25_0,m25_1,m25_4,m25_5,m25_10,m25_11,m25_14,m25_15,m25_16u,m25_17,m25_18,m25_19,m25_22,m25_25,m25_26,m25_27,m25_30,m25_31,m25_34,m25_37,m25_38,m25_41,m25_42,m25_45,m25_46,m25_49,m25_50,m25_53,m25_54,m25_57,m25_58,m25_59,m25_62,m25_63,m25_66,m25_67,m25_70,m25_71,m25_72,m25_73,m25_76,m25_77,m25_78,m25_81,m25_82,m25_83,m25_86,m25_89,m25_90,m25_91,m25_94,m25_95,m26_0,m26_1,m26_4,m26_9,m26_10,m26_11,m26_14,m26_19,m26_20,m26_23,m26_28,m26_29,m26_32,m27_0,m27_1,m27_2,m27_3,m27_4,m27_7,m27_11,m27_12,m27_14,m27_15u,m27_16,m27_17u,m27_18,m27_19,m27_21,m27_24,m27_25,m27_26,m27_29,m27_32,m27_33,m27_36,m27_37u,m27_37i,m27_37r,m27_39,m27_40,m27_43,m27_44,m27_45,m27_46,m27_48,m27_51,m27_52,m27_55,m27_56,m27_57,m27_60,m27_61,m27_62,m27_63,m27_66,m27_67,m27_68,m27_69,m27_71,m27_74,m27_75,m27_78,m27_79,m27_80,m27_83,m27_84,m27_85,m27_88,m27_91,m27_92i,m27_93,m27_94,m27_95,m27_98,m27_99,m27_100,m27_103,m27_106,m27_107,m27_111u,m27_111i,m27_111r,m27_113,m27_114,m27_117,m27_118,m27_119,m27_120,m27_121,m27_122,m27_124,m27_127,m27_128,m27_131,m27_132,m27_133,m27_137,m27_138,m27_139,m27_142,m27_143,m27_144,m27_145,m27_146,m27_147,m27_149,m27_152,m27_153,m27_156,m27_157,m27_158,m27_162,m27_163,m27_166,m27_169,m27_170,m27_173,m27_174,m27_175,m27_178,m27_179,m27_180,m27_183,m27_184,m27_185,m27_188,m27_189,m27_190,m27_193,m27_194,m27_195,m27_198,m27_199,m27_202,m27_203,m27_204,m27_205,m27_206,m27_209,m27_210,m27_211,m27_212,m28_0,m28_1,m28_2,m28_3,m28_4,m28_7,m28_12,m28_13,m28_16,m28_17,m28_18,m28_23,m28_24,m28_25,m28_26,m28_28,m28_31,m28_36,m28_37,m28_47,m28_48,m28_49,m28_52u,m28_54,m28_56,m28_67,m28_68,m28_71,m28_72,m28_73,m28_74,m28_75,m28_78,m28_79,m28_80,m28_81,m28_82,m28_85,m28_86,m28_87,m28_88,m28_89,m28_92,m28_93,m28_94,m28_95,m28_96,m29_0,m29_1u,m29_2,m29_3,m29_4,m29_7,m29_8,m29_11,m29_12,m29_13,m29_14,m29_17,m29_18,m29_21,m29_22,m29_23,m29_24,m29_27,m29_28,m29_29,m29_32,m29_35,m29_36,m30_0,m30_1,m30_2,m30_7,m30_8,m30_11,m30_20,m30_21u,m30_22,m30_23,m30_24,m30_27,m30_28,m30_29,m30_32,m30_33u,m30_34,m30_35,m30_38,m30_41,m30_42,m30_43,m30_46i,m30_47,m30_48,m30_49,m30_52,m30_53,m31_0,m31_1u,m31_2,m31_3,m31_4,m31_7,m31_8,m31_11,m31_14,m31_15,m31_18u,m31_18i,m31_18r,m31_19,m31_20,m31_23,m31_24,m31_25,m31_28,m32_0,m32_1,m32_4,m32_6,m32_7u,m32_8,m32_9,m32_12,m32_23,m32_24,m32_25,m32_28u,m32_29,m32_30,m32_33,m32_34,m32_35,m32_36,m32_39u,m32_40,m32_41,m32_44,m32_45,m32_46,m32_47,m32_48,m32_51,m32_52,m32_53,m32_56,m32_57,m32_58,m32_61,m32_62,m32_65,m32_68,m32_69,m32_70,m32_71,m33_0,m33_1,m33_3,m33_4u,m33_5,m33_6,m33_9,m33_10,m33_11u,m33_12,m33_13,m33_16,m33_17,m33_18,m33_20,m33_21u,m33_23,m33_24,m33_27,m33_28,m33_29u,m33_31,m33_32,m33_35,m33_36,m33_37,m33_40,m33_41,m33_42,m33_45,m33_46,m33_47,m33_49,m33_81,m33_82,m33_83,m33_85,m33_87,m33_90,m33_91,m33_92,m33_93,m33_94,m33_96,m33_97,m33_100,m34_0,m34_1,m34_4,m34_5,m34_7,m34_8,m34_9u,m34_11,m34_12,m34_13,m34_26,m34_27,m34_28,m34_49,m34_50,m34_51,m34_72,m34_73,m34_74,m34_77,m34_78,m34_81,m34_82,m34_83,m34_86,m34_87,m34_88,m34_89,m34_90,m34_91,m34_140,m35_0,m35_1,m35_2,m35_3,m35_4,m35_7,m35_12,m35_13,m35_16,m35_17,m35_18,m35_21,m35_22,m35_23,m35_24,m35_25,m35_26,m35_27,m35_28,m35_29,m35_32u,m35_33,m35_34,m35_37,m35_55,m35_56,m35_59,m35_60,m35_61,m35_62,m35_63,m35_64,m35_67,m35_68,m35_71,m35_81,m35_82,m35_85,m35_86,m35_87,m35_90,m35_91,m35_92,m35_95,m35_96,m36_0,m36_1,m36_2,m36_5,m36_6,m36_7,m36_10,m36_11,m36_12,m36_13,m36_14,m36_17,m36_20,m36_21,m36_22,m36_23,m36_24,m36_27,m36_32,m36_33,m36_35,m36_36u,m36_37,m36_38,m36_41,m36_42,m36_43,m36_44,m36_45,m36_46,m36_47u,m36_49,m36_50,m36_53,m36_54,m36_55,m36_56,m36_57,m36_58,m36_59u,m36_61,m36_63,m36_65,m36_72,m36_73u,m36_75,m36_77,m36_79,m36_82,m36_84,m36_87,m36_89,m36_91,m36_94,m36_95,m36_96,m36_99,m36_100,m36_102,m36_103,m36_104,m36_105,m36_108,m36_109,m36_111,m36_112,m36_113,m36_115,m36_118i,m36_120,m36_121,m36_124,m36_127,m36_128,m36_129,m36_132,m36_135,m36_136,m36_139,m37_0,m37_1,m37_13,m37_14,m37_15,m37_18,m37_19,m37_20,m37_23,m37_24,m37_26,m37_27,m37_28,m37_31,m37_32,m37_33,m37_34,m37_35,m37_36,m37_38,m37_41,m37_42,m37_44,m37_55,m37_56,m37_58,m37_85,m37_86,m37_87,m37_90,m37_93,m37_94,m37_95,m37_98,m37_99,m37_100,m37_101,m37_102,m37_103,m37_104,m37_107,m37_108,m37_109,m37_110,m38_0,m38_1,m38_4,m38_7,m38_8,m38_11,m38_13,m38_16,m38_17,m38_20,m38_21,m38_24,m38_25,m38_26,m38_27,m38_28,m38_31,m38_32,m38_33,m38_36,m39_0,m39_1,m39_4u,m39_5,m39_6,m39_9u,m39_10,m39_11,m39_12,m39_13,m39_14,m39_17u,m39_19,m39_20,m39_22,m39_25,m40_0,m40_1,m40_4,m40_7,m40_8,m40_11,m40_13,m40_16,m40_17,m40_18,m40_21,m40_22,m40_23,m40_26,m40_27,m40_30,m40_31,m40_34,m40_35,m41_0,m41_1,m41_3,m41_10,m41_11,m41_13,m41_20,m41_21,m41_23,m41_26,m41_27,m41_28,m41_29,m41_30,m41_31,m41_33,m41_36,m41_37,m41_39,m41_42,m41_43,m41_44,m41_45,m41_46,m41_49,m41_50,m41_51,m41_52,m41_53,m41_54,m41_57,m42_0,m42_1,m42_3,m42_21,m42_22,m42_24,m42_42,m42_43,m42_45,m42_48,m42_49,m42_50,m42_51,m42_54,m42_55,m42_58,m42_59,m42_62,m43_0,m43_1,m43_4,m43_5,m43_8,m43_9,m44_0,m44_1,m44_4,m44_7,m44_8,m44_11,m44_13,m44_16,m44_17,m44_20,m44_21,m44_24,m44_25,m44_26,m44_27,m45_0,m45_1,m45_17,m45_18,m45_19,m45_35,m45_36,m45_37,m45_40,m45_41,m45_44,m45_45,m45_46,m45_47,m45_55,m45_56,m45_57,m45_65,m45_66,m45_67,m45_75,m45_76,m45_77,m45_80,m46_0,m46_1,m46_2,m46_3,m46_5,m46_8,m46_11,m46_12,m46_15,m46_16,m46_17,m46_18,m46_19,m46_21,m46_24,m46_25,m46_28,m47_0,m47_1,m47_2,m47_3,m47_4,m47_7,m47_12,m47_13,m47_16,m47_17,m47_18,m47_19,m47_22,m47_23,m47_27u,m47_28,m47_29,m47_39,m47_40,m47_41,m47_59,m47_60,m47_61,m47_79,m47_80,m47_81,m47_84,m47_85,m47_88,m47_89,m47_90,m48_0,m48_1,m48_3,m48_6,m48_7,m48_10,m49_0,m49_1,m49_4,m49_5,m49_6,m49_9,m49_12,m49_13,m49_14,m49_15,m49_18,m49_19,m49_20,m49_22,m49_23u,m49_24,m49_25,m49_28,m49_29,m49_32,m49_33,m49_34,m49_35,m49_36,m49_37,m49_40,m49_41,m49_44,m49_45,m49_46,m49_47,m49_48,m49_49,m49_52,m49_53,m49_56,m49_57,m49_58,m49_59,m49_60,m49_61,m49_64,m49_65,m49_68,m49_69,m49_70,m49_71,m49_72,m49_74,m49_77,m49_78,m49_81,m49_82,m49_83,m49_84,m49_85,m49_86,m49_87,m49_90,m50_0,m50_1,m50_2,m50_5,m50_6,m50_7,m50_10,m50_11,m50_14,m50_15,m50_16u,m50_17,m50_18,m50_19,m50_22,m50_23,m50_24,m50_27,m50_28,m50_29,m50_32,m50_33,m50_34,m50_35,m50_39,m50_42,m50_43,m50_44,m50_47,m50_48,m50_49,m50_52,m50_55,m50_56u,m50_58,m50_60,m50_61,m50_64,m50_65,m50_68,m50_70,m50_71,m50_72,m50_75,m50_78,m50_79i,m50_81,m50_83,m50_84,m50_87,m50_89,m50_90,m50_93,m50_94,m50_95,m50_97,m50_100u,m50_100i,m50_100r,m50_102,m50_103,m50_106,m50_109,m50_110,m50_111,m50_114,m50_115,m50_117,m50_118,m50_119,m50_120,m50_121,m50_124,m50_127,m50_128,m50_131,m50_133,m50_134,m50_135,m50_137,m50_138,m50_141,m50_144,m51_0,m51_1,m51_4,m51_5,m51_6,m51_9,m51_10,m51_11,m51_12,m51_14,m51_17,m51_18,m51_19,m51_20,m52_0,m52_1,m52_4u,m52_5,m52_6,m52_7,m52_8,m52_11u,m52_12,m52_13,m52_14,m52_17,m53_0,m53_1,m53_2,m53_9,m53_10,m53_12,m53_25,m53_26,m53_27,m53_28,m53_30,m53_33,m53_36,m53_37,m53_40,m53_41,m53_42,m53_43,m53_44,m53_45,m53_48,m53_49,m54_0,m54_1,m54_4,m54_5,m54_8,m54_11,m54_12,m54_13,m54_16,m54_17,m54_20,m54_21,m54_24,m54_25,m54_26,m54_29,m54_30,m54_31,m54_34,m54_35,m55_0,m55_1,m55_3,m55_4u,m55_5,m55_6,m55_9,m55_10,m55_11,m55_14,m55_15,m55_16,m55_19,m55_20,m55_21,m55_24,m55_25,m55_26,m55_29,m55_30,m55_31,m55_34,m55_35,m55_36,m55_39,m55_40,m55_41,m55_44,m55_45,m55_46,m55_49,m55_50,m55_51,m55_54,m55_55,m55_56u,m55_57,m55_58,m55_59,m55_62,m55_63,m55_66,m55_67,m55_68,m55_69,m55_70,m55_71,m55_72,m55_75,m55_76,m55_77,m55_78,m55_81,m55_84,m56_0,m56_1,m56_2,m56_5,m56_6,m56_8,m56_13,m56_14,m56_15,m56_16u,m56_17,m56_18,m56_19,m56_22,m56_23,m56_24,m56_29,m56_30,m56_33,m56_34,m56_35,m56_36,m56_37,m56_38,m56_39,m57_0,m57_3,m57_4,m57_6,m57_8,m57_11u,m57_13,m57_15,m57_16,m57_17,m57_20,m57_21,m57_23,m57_24,m57_25,m57_28,m57_29,m57_31,m57_32,m57_33,m57_36,m57_37,m57_39,m57_40,m57_41,m57_44,m57_45,m57_47,m57_48,m57_49,m57_50,m57_52,m57_55,m57_56,m57_58,m57_59,m57_60,m57_63,m57_64,m57_66,m57_68,m57_69,m57_72,m57_73,m57_75,m57_76,m57_77,m57_80,m57_81,m57_83,m57_84,m57_85,m57_88,m57_89,m57_91,m57_92,m57_93,m57_96,m57_97,m57_99,m57_101,m57_102,m57_105,m57_106,m57_108,m57_109,m57_110,m57_113,m57_114,m57_116,m57_117,m57_118,m57_121,m57_122,m57_124,m57_125,m57_126,m57_129,m57_130,m57_132,m57_134,m57_135,m57_138,m57_139,m57_141,m57_142,m57_143,m57_146,m57_147,m57_149,m57_150,m57_151,m57_154,m57_155,m57_157,m57_159,m57_160,m57_163,m57_164,m57_166,m57_167,m57_168,m57_171,m57_172,m57_174,m57_175,m57_178,m57_183,m57_185,m57_186,m57_187,m57_188,m57_191,m57_196,m57_198,m57_200,m57_203u,m57_205,m57_206,m57_208,m57_209u,m57_211,m57_213,m57_214,m57_217,m57_218,m57_221,m57_222u,m57_224,m57_225,m57_228,m57_229,m57_231,m57_234,m57_235,m57_238,m57_239u,m57_241,m57_243,m57_245,m57_248,m57_249,m57_252,m57_253,m57_258,m57_260,m57_261,m57_264,m57_266,m57_269,m57_270,m57_273,m57_274,m57_279,m57_281,m57_283,m57_286,m57_287,m57_292,m57_294,m57_295,m57_298,m57_300,m57_305,m57_307,m57_308,m57_309,m57_312,m57_313,m57_318,m57_320,m57_322,m57_325,m57_327,m57_330,m57_331,m57_334,m57_335,m57_340,m57_342,m57_345,m57_346,m57_349,m57_350u,m57_352,m57_354,m57_357,m57_358,m57_361,m57_362u,m57_364,m57_366,m57_369,m57_371,m57_372,m57_373,m57_376,m57_377u,m57_379,m57_381,m57_384,m57_385,m57_388,m57_390,m57_391,m57_392,m57_395,m57_396u,m57_398,m57_400,m57_403,m57_405,m57_408,m57_409,m57_412,m57_413u,m57_415,m57_417,m57_420,m57_421,m57_424,m57_425,m57_428,m57_429,m57_431,m57_434,m57_435,m57_438,m57_439,m57_440,m57_443,m57_444u,m57_446,m57_448,m57_451,m57_452,m57_455,m57_456u,m57_458,m57_460,m57_461,m57_462,m57_465,m57_467,m57_472,m57_474,m57_475,m57_476,m57_479,m57_484,m57_486,m57_487,m57_488,m57_491,m57_493,m57_498,m57_500,m57_501,m57_502,m57_505,m57_507,m57_512,m57_514,m57_515,m57_516,m57_519,m57_521,m57_526,m57_528,m57_529,m57_531,m57_534,m57_536,m57_541,m57_543,m57_544,m57_545,m57_548,m57_550,m57_555,m57_557,m57_558,m57_560,m57_563,m57_565,m57_568,m57_569,m57_573,nb0,nb1,ou_a,Option.toList_some,Option.toList_none,List.nil_append,List.cons_append,ou_same,ou_comm,setA_same,setA_comm,own_l0,own_l1,own_l2,own_l3,own_l4,own_l5,own_l6,own_l7,own_l8,own_l9,own_l10,own_l11,own_l12,own_l13,getA_set2,setA_len,inB_iff,A0g_0,A0g_1,A0g_2,A0g_3,A0g_4,A0g_5,A0g_6,A0g_7,A0g_8,A0g_9,A0g_10,A0g_11,A0g_12,A0g_13,A0g_14,A0g_15,A0g_16,A0g_17,A0g_18,A0g_19,A0g_20,A0g_21,A0g_22,A0g_23,A0g_24,A0g_25,A0g_26,A0g_27,A0g_28,A0g_29,A0g_30,A0g_31,A0l_0,A0l_1,A0l_2,A0l_3,A0l_4,A0l_5,A0l_6,A0l_7,A0l_8,A0l_9,A0l_10,A0l_11,A0l_12,A0l_13,A0l_14,A0l_15,A0l_16,A0l_17,A0l_18,A0l_19,A0l_20,A0l_21,A0l_22,A0l_23,A0l_24,A0l_25,A0l_26,A0l_27,A0l_28,A0l_29,A0l_30,A0l_31]
      exact hQ _ _ (by (repeat refine len_ou ?_ (by simp only [setA_len])); exact fun _ => rfl)
    · simp [h0,h1,h2,h3,h4,h5,h6,h7,h8,h9,h10,h11,h12,h13,h14,h15,h16,h19,h20,h21,h22,h23,h24,h25,h26,h27,hc,c2,c3,g,z,q1,q2,k1,k2,k3,m0_0,m0_1,m0_4,m0_5,m0_12,m0_13,m0_20,m0_21,m0_28,m0_29,m0_36,m0_37,m0_44,m0_45,m0_52,m0_53,m0_60,m0_61,m0_67,m0_68,m0_74,m0_75,m0_81,m0_82,m0_88,m0_89,m0_95,m0_96,m0_102,m0_103,m0_111,m0_112,m0_120,m0_121,m0_128,m0_129,m0_136,m0_137,m0_144,m0_145,m0_152,m0_153,m0_159,m0_160,m0_166,m0_167,m0_174,m0_175,m0_182,m0_183,m0_190,m0_191,m0_198,m0_199,m0_206,m0_207,m0_214,m0_215,m0_222,m0_223,m0_230,m0_231,m0_238,m0_239,m0_246,m0_247,m0_253,m0_254u,m0_255,m0_256,m0_257,m0_260,m0_261i,m0_262,m0_263,m0_265,m0_268,m0_270i,m0_271,m0_272,m0_273,m0_276,m0_277u,m0_279,m0_281,m0_284,m0_285i,m0_287,m0_289,m0_290,m0_293,m0_294i,m0_296,m0_297,m0_299,m0_302,m0_303,m0_304,m0_307,m0_308,m0_309,m0_312,m0_313,m0_314,m0_317,m1_0,m1_1,m1_2,m1_3,m1_5,m1_8,m1_11,m1_12,m1_15,m1_16,m1_17,m1_18,m1_19,m2_0,m2_1,m2_2,m2_5,m2_6,m2_7,m2_10,m2_11,m2_14,m2_15,m3_0,m3_1,m3_2,m3_3,m3_5,m3_8,m3_11,m3_12,m3_13,m3_14,m3_17,m3_18,m3_19,m3_20,m3_21,m4_0,m4_1,m4_2,m4_3,m4_4,m4_6,m4_9,m4_14,m4_15,m4_41,m4_42,m4_45,m4_46,m4_47,m4_48,m4_49,m4_52,m4_53,m4_54,m4_55,m4_56,m4_59,m4_60,m4_62,m4_63,m4_64,m5_0,m5_1,m5_2,m5_3,m5_5,m5_8,m5_13,m5_14,m5_15,m5_16,m5_18,m5_21,m5_26,m5_27,m5_32,m5_33,m5_34,m5_35,m5_37,m5_40,m5_45,m5_46,m5_47,m5_49,m5_52,m6_0,m6_1,m6_2,m6_5,m6_6,m6_7,m6_10,m6_11,m6_12,m6_15,m6_16,m6_18,m6_30,m6_31,m6_33,m6_45,m6_46,m7_0,m7_1,m7_4,m7_7,m7_8,m7_11,m7_13,m7_18,m7_19,m7_20,m7_21,m7_23,m7_26,m7_31,m7_32,m7_33,m7_36,m7_37,m7_38,m7_39,m7_41,m7_44,m7_49,m7_50,m7_53,m7_54,m7_57,m7_58,m7_59,m7_60,m7_63,m7_64,m7_65,m7_68,m7_69,m7_72,m7_73,m7_76,m7_77,m7_78,m7_81,m7_82,m7_85,m7_86,m7_89,m7_90,m7_91,m7_92,m7_93,m7_96,m7_97,m7_98,m7_101,m7_102,m8_0,m8_1,m8_2,m8_5u,m8_6,m8_7,m8_8,m8_11,m8_12,m9_0,m9_1,m9_2,m9_3,m9_4,m9_7,m9_12,m9_13,m9_16,m9_21,m9_22,m9_25,m9_26,m9_31,m9_32,m9_35,m9_37,m9_42,m9_43,m9_44,m9_47,m9_48,m10_0,m10_1,m10_4,m10_5,m10_8,m10_13,m10_14u,m10_15,m10_16,m10_18,m10_21,m10_22,m10_23,m10_26,m10_29,m10_30,m10_33,m10_34,m10_35u,m10_35i,m10_35r,m10_36,m10_37,m10_40,m10_41,m10_42u,m10_42i,m10_42r,m10_43,m10_44,m10_47,m10_50,m10_51,m10_52,m10_53,m10_56,m10_59,m10_60,m10_61,m10_64u,m10_64i,m10_64r,m10_66,m10_68,m10_73,m10_76,m10_79,m10_80,m10_83,m11_0,m11_1,m11_2,m11_5,m11_6,m11_7,m11_10,m11_11,m11_12,m11_15,m11_16,m11_17,m11_20,m11_21,m11_22,m11_25,m11_26,m11_27,m11_30,m11_31,m11_32,m11_35,m12_0,m12_1,m12_4,m12_5,m12_6,m12_9,m12_10,m12_11,m12_14,m12_19,m12_20,m12_21,m12_22,m12_25,m12_30,m12_31,m12_32,m12_35,m12_36,m12_37,m12_38,m12_39,m12_42,m12_50,m12_51,m12_52,m12_53,m12_56,m13_0,m13_1,m13_4,m13_7,m13_8,m13_11,m13_13,m13_18,m13_19,m13_22,m13_23,m13_26,m13_27,m13_28,m13_29,m13_30,m13_33,m13_34,m13_35,m13_38,m13_39,m14_0,m14_1,m14_4,m14_7,m14_8,m14_11,m14_13,m14_18,m14_19,m14_22,m14_23,m14_26,m14_27,m14_28,m14_29,m14_32,m14_33,m14_36,m14_37,m14_38,m14_39,m14_40,m14_43,m14_44,m14_45,m14_48,m14_49,m15_0,m15_1,m15_2,m15_10,m15_11,m15_12,m15_15,m15_16,m15_19,m15_20,m15_21,m15_22,m15_25,m15_30,m15_31,m15_32,m15_35,m16_0,m16_1,m16_3,m16_6,m16_7,m16_9,m16_12,m16_13,m16_17,m17_0,m17_1,m17_2,m17_5u,m17_6,m17_7,m17_8,m17_11,m17_16,m17_17,m17_20u,m17_21,m17_22,m17_24,m17_27,m17_28,m17_30,m17_44,m17_45,m17_46,m17_47,m17_50,m17_55,m17_56,m17_57,m17_60,m17_61,m18_0,m18_1,m18_3,m18_6,m18_7,m18_9,m18_12,m18_13,m18_15,m18_18,m18_20,m18_21,m18_22,m18_24,m18_27,m18_28,m18_30,m18_33,m18_34,m18_35,m18_36,m18_38,m18_41,m18_42,m18_44,m18_47,m18_48,m18_49,m18_50,m18_52,m18_55,m18_56,m18_58,m18_63,m18_64,m18_66,m18_71,m18_72,m18_74,m18_79,m18_80,m18_81,m18_84,m18_87,m18_89,m19_0,m19_1u,m19_2,m19_3,m19_5,m19_8,m19_9,m19_12,m19_15,m19_16,m19_19,m19_20,m19_23,m19_24,m19_25,m19_26u,m19_26i,m19_26r,m19_27,m19_28,m19_29,m19_34,m19_35,m19_36,m19_39,m19_40,m19_45,m19_46,m19_47,m19_50,m19_51,m19_52,m19_55,m19_56,m19_57,m19_58,m19_61,m19_62,m19_65,m19_66,m19_69,m19_74,m19_77,m19_80,m19_81,m20_0,m20_1,m20_4,m20_7,m20_8,m20_11,m20_13,m20_18,m20_19,m20_22,m20_23,m20_26,m20_27,m20_28,m20_29,m20_32,m20_33,m20_36,m20_37,m20_38,m20_39,m20_40,m20_43,m20_44,m20_45,m20_48,m20_49,m21_0,m21_1,m21_2,m21_5,m21_10,m21_11,m21_14,m21_19,m21_20,m21_23,m21_28,m21_29,m21_30,m21_33,m21_34,m22_0,m22_1,m22_2,m22_5,m22_8,m22_9,m22_12,m22_13,m22_18,m22_19,m22_20,m22_21,m22_24,m22_25,m22_26,m22_29,m22_34,m22_35,m22_37,m22_40,m22_41,m22_43,m22_80,m22_81,m22_82,m22_83,m22_86,m23_0,m23_1,m23_2,m23_5,m23_6,m23_8,m23_11,m23_12,m23_14,m23_17,m23_18,m23_21,m23_22,m24_0,m24_1,m24_4,m24_5,m24_8,m24_9,m24_12,m24_14,m24_19,m24_20,m24_23,m24_24,m24_27,m24_28,m24_29,m24_30u,m24_31,m24_32,m24_35,m24_36,m24_39,m24_40,m24_41,m24_42u,m24_43,m24_44,m24_45,m24_48,m24_49,m24_50,m24_53,m24_54,m24_55,m24_56u,m24_57,m24_58,m24_61,m24_62,m24_65,m24_66,m24_67,m24_68,m24_69,m24_76,m24_77,m24_78,m24_79,m25_0,m25_1,m25_4,m25_5,m25_10,m25_11,m25_14,m25_15,m25_16u,m25_17,m25_18,m25_19,m25_22,m25_25,m25_26,m25_27,m25_30,m25_31,m25_34,m25_37,m25_38,m25_41,m25_42,m25_45,m25_46,m25_49,m25_50,m25_53,m25_54,m25_57,m25_58,m25_59,m25_62,m25_63,m25_66,m25_67,m25_70,m25_71,m25_72,m25_73,m25_76,m25_77,m25_78,m25_81,m25_82,m25_83,m25_86,m25_89,m25_90,m25_91,m25_94,m25_95,m26_0,m26_1,m26_4,m26_9,m26_10,m26_11,m26_14,m26_19,m26_20,m26_23,m26_28,m26_29,m26_32,m27_0,m27_1,m27_2,m27_3,m27_4,m27_7,m27_11,m27_12,m27_14,m27_15u,m27_16,m27_17u,m27_18,m27_19,m27_21,m27_24,m27_25,m27_26,m27_29,m27_32,m27_33,m27_36,m27_37u,m27_37i,m27_37r,m27_39,m27_40,m27_43,m27_44,m27_45,m27_46,m27_48,m27_51,m27_52,m27_55,m27_56,m27_57,m27_60,m27_61,m27_62,m27_63,m27_66,m27_67,m27_68,m27_69,m27_71,m27_74,m27_75,m27_78,m27_79,m27_80,m27_83,m27_84,m27_85,m27_88,m27_91,m27_92i,m27_93,m27_94,m27_95,m27_98,m27_99,m27_100,m27_103,m27_106,m27_107,m27_111u,m27_111i,m27_111r,m27_113,m27_114,m27_117,m27_118,m27_119,m27_120,m27_121,m27_122,m27_124,m27_127,m27_128,m27_131,m27_132,m27_133,m27_137,m27_138,m27_139,m27_142,m27_143,m27_144,m27_145,m27_146,m27_147,m27_149,m27_152,m27_153,m27_156,m27_157,m27_158,m27_162,m27_163,m27_166,m27_169,m27_170,m27_173,m27_174,m27_175,m27_178,m27_179,m27_180,m27_183,m27_184,m27_185,m27_188,m27_189,m27_190,m27_193,m27_194,m27_195,m27_198,m27_199,m27_202,m27_203,m27_204,m27_205,m27_206,m27_209,m27_210,m27_211,m27_212,m28_0,m28_1,m28_2,m28_3,m28_4,m28_7,m28_12,m28_13,m28_16,m28_17,m28_18,m28_23,m28_24,m28_25,m28_26,m28_28,m28_31,m28_36,m28_37,m28_47,m28_48,m28_49,m28_52u,m28_54,m28_56,m28_67,m28_68,m28_71,m28_72,m28_73,m28_74,m28_75,m28_78,m28_79,m28_80,m28_81,m28_82,m28_85,m28_86,m28_87,m28_88,m28_89,m28_92,m28_93,m28_94,m28_95,m28_96,m29_0,m29_1u,m29_2,m29_3,m29_4,m29_7,m29_8,m29_11,m29_12,m29_13,m29_14,m29_17,m29_18,m29_21,m29_22,m29_23,m29_24,m29_27,m29_28,m29_29,m29_32,m29_35,m29_36,m30_0,m30_1,m30_2,m30_7,m30_8,m30_11,m30_20,m30_21u,m30_22,m30_23,m30_24,m30_27,m30_28,m30_29,m30_32,m30_33u,m30_34,m30_35,m30_38,m30_41,m30_42,m30_43,m30_46i,m30_47,m30_48,m30_49,m30_52,m30_53,m31_0,m31_1u,m31_2,m31_3,m31_4,m31_7,m31_8,m31_11,m31_14,m31_15,m31_18u,m31_18i,m31_18r,m31_19,m31_20,m31_23,m31_24,m31_25,m31_28,m32_0,m32_1,m32_4,m32_6,m32_7u,m32_8,m32_9,m32_12,m32_23,m32_24,m32_25,m32_28u,m32_29,m32_30,m32_33,m32_34,m32_35,m32_36,m32_39u,m32_40,m32_41,m32_44,m32_45,m32_46,m32_47,m32_48,m32_51,m32_52,m32_53,m32_56,m32_57,m32_58,m32_61,m32_62,m32_65,m32_68,m32_69,m32_70,m32_71,m33_0,m33_1,m33_3,m33_4u,m33_5,m33_6,m33_9,m33_10,m33_11u,m33_12,m33_13,m33_16,m33_17,m33_18,m33_20,m33_21u,m33_23,m33_24,m33_27,m33_28,m33_29u,m33_31,m33_32,m33_35,m33_36,m33_37,m33_40,m33_41,m33_42,m33_45,m33_46,m33_47,m33_49,m33_81,m33_82,m33_83,m33_85,m33_87,m33_90,m33_91,m33_92,m33_93,m33_94,m33_96,m33_97,m33_100,m34_0,m34_1,m34_4,m34_5,m34_7,m34_8,m34_9u,m34_11,m34_12,m34_13,m34_26,m34_27,m34_28,m34_49,m34_50,m34_51,m34_72,m34_73,m34_74,m34_77,m34_78,m34_81,m34_82,m34_83,m34_86,m34_87,m34_88,m34_89,m34_90,m34_91,m34_140,m35_0,m35_1,m35_2,m35_3,m35_4,m35_7,m35_12,m35_13,m35_16,m35_17,m35_18,m35_21,m35_22,m35_23,m35_24,m35_25,m35_26,m35_27,m35_28,m35_29,m35_32u,m35_33,m35_34,m35_37,m35_55,m35_56,m35_59,m35_60,m35_61,m35_62,m35_63,m35_64,m35_67,m35_68,m35_71,m35_81,m35_82,m35_85,m35_86,m35_87,m35_90,m35_91,m35_92,m35_95,m35_96,m36_0,m36_1,m36_2,m36_5,m36_6,m36_7,m36_10,m36_11,m36_12,m36_13,m36_14,m36_17,m36_20,m36_21,m36_22,m36_23,m36_24,m36_27,m36_32,m36_33,m36_35,m36_36u,m36_37,m36_38,m36_41,m36_42,m36_43,m36_44,m36_45,m36_46,m36_47u,m36_49,m36_50,m36_53,m36_54,m36_55,m36_56,m36_57,m36_58,m36_59u,m36_61,m36_63,m36_65,m36_72,m36_73u,m36_75,m36_77,m36_79,m36_82,m36_84,m36_87,m36_89,m36_91,m36_94,m36_95,m36_96,m36_99,m36_100,m36_102,m36_103,m36_104,m36_105,m36_108,m36_109,m36_111,m36_112,m36_113,m36_115,m36_118i,m36_120,m36_121,m36_124,m36_127,m36_128,m36_129,m36_132,m36_135,m36_136,m36_139,m37_0,m37_1,m37_13,m37_14,m37_15,m37_18,m37_19,m37_20,m37_23,m37_24,m37_26,m37_27,m37_28,m37_31,m37_32,m37_33,m37_34,m37_35,m37_36,m37_38,m37_41,m37_42,m37_44,m37_55,m37_56,m37_58,m37_85,m37_86,m37_87,m37_90,m37_93,m37_94,m37_95,m37_98,m37_99,m37_100,m37_101,m37_102,m37_103,m37_104,m37_107,m37_108,m37_109,m37_110,m38_0,m38_1,m38_4,m38_7,m38_8,m38_11,m38_13,m38_16,m38_17,m38_20,m38_21,m38_24,m38_25,m38_26,m38_27,m38_28,m38_31,m38_32,m38_33,m38_36,m39_0,m39_1,m39_4u,m39_5,m39_6,m39_9u,m39_10,m39_11,m39_12,m39_13,m39_14,m39_17u,m39_19,m39_20,m39_22,m39_25,m40_0,m40_1,m40_4,m40_7,m40_8,m40_11,m40_13,m40_16,m40_17,m40_18,m40_21,m40_22,m40_23,m40_26,m40_27,m40_30,m40_31,m40_34,m40_35,m41_0,m41_1,m41_3,m41_10,m41_11,m41_13,m41_20,m41_21,m41_23,m41_26,m41_27,m41_28,m41_29,m41_30,m41_31,m41_33,m41_36,m41_37,m41_39,m41_42,m41_43,m41_44,m41_45,m41_46,m41_49,m41_50,m41_51,m41_52,m41_53,m41_54,m41_57,m42_0,m42_1,m42_3,m42_21,m42_22,m42_24,m42_42,m42_43,m42_45,m42_48,m42_49,m42_50,m42_51,m42_54,m42_55,m42_58,m42_59,m42_62,m43_0,m43_1,m43_4,m43_5,m43_8,m43_9,m44_0,m44_1,m44_4,m44_7,m44_8,m44_11,m44_13,m44_16,m44_17,m44_20,m44_21,m44_24,m44_25,m44_26,m44_27,m45_0,m45_1,m45_17,m45_18,m45_19,m45_35,m45_36,m45_37,m45_40,m45_41,m45_44,m45_45,m45_46,m45_47,m45_55,m45_56,m45_57,m45_65,m45_66,m45_67,m45_75,m45_76,m45_77,m45_80,m46_0,m46_1,m46_2,m46_3,m46_5,m46_8,m46_11,m46_12,m46_15,m46_16,m46_17,m46_18,m46_19,m46_21,m46_24,m46_25,m46_28,m47_0,m47_1,m47_2,m47_3,m47_4,m47_7,m47_12,m47_13,m47_16,m47_17,m47_18,m47_19,m47_22,m47_23,m47_27u,m47_28,m47_29,m47_39,m47_40,m47_41,m47_59,m47_60,m47_61,m47_79,m47_80,m47_81,m47_84,m47_85,m47_88,m47_89,m47_90,m48_0,m48_1,m48_3,m48_6,m48_7,m48_10,m49_0,m49_1,m49_4,m49_5,m49_6,m49_9,m49_12,m49_13,m49_14,m49_15,m49_18,m49_19,m49_20,m49_22,m49_23u,m49_24,m49_25,m49_28,m49_29,m49_32,m49_33,m49_34,m49_35,m49_36,m49_37,m49_40,m49_41,m49_44,m49_45,m49_46,m49_47,m49_48,m49_49,m49_52,m49_53,m49_56,m49_57,m49_58,m49_59,m49_60,m49_61,m49_64,m49_65,m49_68,m49_69,m49_70,m49_71,m49_72,m49_74,m49_77,m49_78,m49_81,m49_82,m49_83,m49_84,m49_85,m49_86,m49_87,m49_90,m50_0,m50_1,m50_2,m50_5,m50_6,m50_7,m50_10,m50_11,m50_14,m50_15,m50_16u,m50_17,m50_18,m50_19,m50_22,m50_23,m50_24,m50_27,m50_28,m50_29,m50_32,m50_33,m50_34,m50_35,m50_39,m50_42,m50_43,m50_44,m50_47,m50_48,m50_49,m50_52,m50_55,m50_56u,m50_58,m50_60,m50_61,m50_64,m50_65,m50_68,m50_70,m50_71,m50_72,m50_75,m50_78,m50_79i,m50_81,m50_83,m50_84,m50_87,m50_89,m50_90,m50_93,m50_94,m50_95,m50_97,m50_100u,m50_100i,m50_100r,m50_102,m50_103,m50_106,m50_109,m50_110,m50_111,m50_114,m50_115,m50_117,m50_118,m50_119,m50_120,m50_121,m50_124,m50_127,m50_128,m50_131,m50_133,m50_134,m50_135,m50_137,m50_138,m50_141,m50_144,m51_0,m51_1,m51_4,m51_5,m51_6,m51_9,m51_10,m51_11,m51_12,m51_14,m51_17,m51_18,m51_19,m51_20,m52_0,m52_1,m52_4u,m52_5,m52_6,m52_7,m52_8,m52_11u,m52_12,m52_13,m52_14,m52_17,m53_0,m53_1,m53_2,m53_9,m53_10,m53_12,m53_25,m53_26,m53_27,m53_28,m53_30,m53_33,m53_36,m53_37,m53_40,m53_41,m53_42,m53_43,m53_44,m53_45,m53_48,m53_49,m54_0,m54_1,m54_4,m54_5,m54_8,m54_11,m54_12,m54_13,m54_16,m54_17,m54_20,m54_21,m54_24,m54_25,m54_26,m54_29,m54_30,m54_31,m54_34,m54_35,m55_0,m55_1,m55_3,m55_4u,m55_5,m55_6,m55_9,m55_10,m55_11,m55_14,m55_15,m55_16,m55_19,m55_20,m55_21,m55_24,m55_25,m55_26,m55_29,m55_30,m55_31,m55_34,m55_35,m55_36,m55_39,m55_40,m55_41,m55_44,m55_45,m55_46,m55_49,m55_50,m55_51,m55_54,m55_55,m55_56u,m55_57,m55_58,m55_59,m55_62,m55_63,m55_66,m55_67,m55_68,m55_69,m55_70,m55_71,m55_72,m55_75,m55_76,m55_77,m55_78,m55_81,m55_84,m56_0,m56_1,m56_2,m56_5,m56_6,m56_8,m56_13,m56_14,m56_15,m56_16u,m56_17,m56_18,m56_19,m56_22,m56_23,m56_24,m56_29,m56_30,m56_33,m56_34,m56_35,m56_36,m56_37,m56_38,m56_39,m57_0,m57_3,m57_4,m57_6,m57_8,m57_11u,m57_13,m57_15,m57_16,m57_17,m57_20,m57_21,m57_23,m57_24,m57_25,m57_28,m57_29,m57_31,m57_32,m57_33,m57_36,m57_37,m57_39,m57_40,m57_41,m57_44,m57_45,m57_47,m57_48,m57_49,m57_50,m57_52,m57_55,m57_56,m57_58,m57_59,m57_60,m57_63,m57_64,m57_66,m57_68,m57_69,m57_72,m57_73,m57_75,m57_76,m57_77,m57_80,m57_81,m57_83,m57_84,m57_85,m57_88,m57_89,m57_91,m57_92,m57_93,m57_96,m57_97,m57_99,m57_101,m57_102,m57_105,m57_106,m57_108,m57_109,m57_110,m57_113,m57_114,m57_116,m57_117,m57_118,m57_121,m57_122,m57_124,m57_125,m57_126,m57_129,m57_130,m57_132,m57_134,m57_135,m57_138,m57_139,m57_141,m57_142,m57_143,m57_146,m57_147,m57_149,m57_150,m57_151,m57_154,m57_155,m57_157,m57_159,m57_160,m57_163,m57_164,m57_166,m57_167,m57_168,m57_171,m57_172,m57_174,m57_175,m57_178,m57_183,m57_185,m57_186,m57_187,m57_188,m57_191,m57_196,m57_198,m57_200,m57_203u,m57_205,m57_206,m57_208,m57_209u,m57_211,m57_213,m57_214,m57_217,m57_218,m57_221,m57_222u,m57_224,m57_225,m57_228,m57_229,m57_231,m57_234,m57_235,m57_238,m57_239u,m57_241,m57_243,m57_245,m57_248,m57_249,m57_252,m57_253,m57_258,m57_260,m57_261,m57_264,m57_266,m57_269,m57_270,m57_273,m57_274,m57_279,m57_281,m57_283,m57_286,m57_287,m57_292,m57_294,m57_295,m57_298,m57_300,m57_305,m57_307,m57_308,m57_309,m57_312,m57_313,m57_318,m57_320,m57_322,m57_325,m57_327,m57_330,m57_331,m57_334,m57_335,m57_340,m57_342,m57_345,m57_346,m57_349,m57_350u,m57_352,m57_354,m57_357,m57_358,m57_361,m57_362u,m57_364,m57_366,m57_369,m57_371,m57_372,m57_373,m57_376,m57_377u,m57_379,m57_381,m57_384,m57_385,m57_388,m57_390,m57_391,m57_392,m57_395,m57_396u,m57_398,m57_400,m57_403,m57_405,m57_408,m57_409,m57_412,m57_413u,m57_415,m57_417,m57_420,m57_421,m57_424,m57_425,m57_428,m57_429,m57_431,m57_434,m57_435,m57_438,m57_439,m57_440,m57_443,m57_444u,m57_446,m57_448,m57_451,m57_452,m57_455,m57_456u,m57_458,m57_460,m57_461,m57_462,m57_465,m57_467,m57_472,m57_474,m57_475,m57_476,m57_479,m57_484,m57_486,m57_487,m57_488,m57_491,m57_493,m57_498,m57_500,m57_501,m57_502,m57_505,m57_507,m57_512,m57_514,m57_515,m57_516,m57_519,m57_521,m57_526,m57_528,m57_529,m57_531,m57_534,m57_536,m57_541,m57_543,m57_544,m57_545,m57_548,m57_550,m57_555,m57_557,m57_558,m57_560,m57_563,m57_565,m57_568,m57_569,m57_573,nb0,nb1,ou_a,Option.toList_some,Option.toList_none,List.nil_append,List.cons_append,ou_same,ou_comm,setA_same,setA_comm,own_l0,own_l1,own_l2,own_l3,own_l4,own_l5,own_l6,own_l7,own_l8,own_l9,own_l10,own_l11,own_l12,own_l13,getA_set2,setA_len,inB_iff,A0g_0,A0g_1,A0g_2,A0g_3,A0g_4,A0g_5,A0g_6,A0g_7,A0g_8,A0g_9,A0g_10,A0g_11,A0g_12,A0g_13,A0g_14,A0g_15,A0g_16,A0g_17,A0g_18,A0g_19,A0g_20,A0g_21,A0g_22,A0g_23,A0g_24,A0g_25,A0g_26,A0g_27,A0g_28,A0g_29,A0g_30,A0g_31,A0l_0,A0l_1,A0l_2,A0l_3,A0l_4,A0l_5,A0l_6,A0l_7,A0l_8,A0l_9,A0l_10,A0l_11,A0l_12,A0l_13,A0l_14,A0l_15,A0l_16,A0l_17,A0l_18,A0l_19,A0l_20,A0l_21,A0l_22,A0l_23,A0l_24,A0l_25,A0l_26,A0l_27,A0l_28,A0l_29,A0l_30,A0l_31]
      exact hQ _ _ (by (repeat refine len_ou ?_ (by simp only [setA_len])); exact fun _ => rfl)
  · simp [h0,h1,h2,h3,h4,h5,h6,h7,h8,h9,h10,h11,h12,h13,h14,h15,h16,h19,h20,h21,h22,h23,h24,h25,h26,h27,hc,c2,c3,g,q1,q2,k1,k2,k3,m0_0,m0_1,m0_4,m0_5,m0_12,m0_13,m0_20,m0_21,m0_28,m0_29,m0_36,m0_37,m0_44,m0_45,m0_52,m0_53,m0_60,m0_61,m0_67,m0_68,m0_74,m0_75,m0_81,m0_82,m0_88,m0_89,m0_95,m0_96,m0_102,m0_103,m0_111,m0_112,m0_120,m0_121,m0_128,m0_129,m0_136,m0_137,m0_144,m0_145,m0_152,m0_153,m0_159,m0_160,m0_166,m0_167,m0_174,m0_175,m0_182,m0_183,m0_190,m0_191,m0_198,m0_199,m0_206,m0_207,m0_214,m0_215,m0_222,m0_223,m0_230,m0_231,m0_238,m0_239,m0_246,m0_247,m0_253,m0_254u,m0_255,m0_256,m0_257,m0_260,m0_261i,m0_262,m0_263,m0_265,m0_268,m0_270i,m0_271,m0_272,m0_273,m0_276,m0_277u,m0_279,m0_281,m0_284,m0_285i,m0_287,m0_289,m0_290,m0_293,m0_294i,m0_296,m0_297,m0_299,m0_302,m0_303,m0_304,m0_307,m0_308,m0_309,m0_312,m0_313,m0_314,m0_317,m1_0,m1_1,m1_2,m1_3,m1_5,m1_8,m1_11,m1_12,m1_15,m1_16,m1_17,m1_18,m1_19,m2_0,m2_1,m2_2,m2_5,m2_6,m2_7,m2_10,m2_11,m2_14,m2_15,m3_0,m3_1,m3_2,m3_3,m3_5,m3_8,m3_11,m3_12,m3_13,m3_14,m3_17,m3_18,m3_19,m3_20,m3_21,m4_0,m4_1,m4_2,m4_3,m4_4,m4_6,m4_9,m4_14,m4_15,m4_41,m4_42,m4_45,m4_46,m4_47,m4_48,m4_49,m4_52,m4_53,m4_54,m4_55,m4_56,m4_59,m4_60,m4_62,m4_63,m4_64,m5_0,m5_1,m5_2,m5_3,m5_5,m5_8,m5_13,m5_14,m5_15,m5_16,m5_18,m5_21,m5_26,m5_27,m5_32,m5_33,m5_34,m5_35,m5_37,m5_40,m5_45,m5_46,m5_47,m5_49,m5_52,m6_0,m6_1,m6_2,m6_5,m6_6,m6_7,m6_10,m6_11,m6_12,m6_15,m6_16,m6_18,m6_30,m6_31,m6_33,m6_45,m6_46,m7_0,m7_1,m7_4,m7_7,m7_8,m7_11,m7_13,m7_18,m7_19,m7_20,m7_21,m7_23,m7_26,m7_31,m7_32,m7_33,m7_36,m7_37,m7_38,m7_39,m7_41,m7_44,m7_49,m7_50,m7_53,m7_54,m7_57,m7_58,m7_59,m7_60,m7_63,m7_64,m7_65,m7_68,m7_69,m7_72,m7_73,m7_76,m7_77,m7_78,m7_81,m7_82,m7_85,m7_86,m7_89,m7_90,m7_91,m7_92,m7_93,m7_96,m7_97,m7_98,m7_101,m7_102,m8_0,m8_1,m8_2,m8_5u,m8_6,m8_7,m8_8,m8_11,m8_12,m9_0,m9_1,m9_2,m9_3,m9_4,m9_7,m9_12,m9_13,m9_16,m9_21,m9_22,m9_25,m9_26,m9_31,m9_32,m9_35,m9_37,m9_42,m9_43,m9_44,m9_47,m9_48,m10_0,m10_1,m10_4,m10_5,m10_8,m10_13,m10_14u,m10_15,m10_16,m10_18,m10_21,m10_22,m10_23,m10_26,m10_29,m10_30,m10_33,m10_34,m10_35u,m10_35i,m10_35r,m10_36,m10_37,m10_40,m10_41,m10_42u,m10_42i,m10_42r,m10_43,m10_44,m10_47,m10_50,m10_51,m10_52,m10_53,m10_56,m10_59,m10_60,m10_61,m10_64u,m10_64i,m10_64r,m10_66,m10_68,m10_73,m10_76,m10_79,m10_80,m10_83,m11_0,m11_1,m11_2,m11_5,m11_6,m11_7,m11_10,m11_11,m11_12,m11_15,m11_16,m11_17,m11_20,m11_21,m11_22,m11_25,m11_26,m11_27,m11_30,m11_31,m11_32,m11_35,m12_0,m12_1,m12_4,m12_5,m12_6,m12_9,m12_10,m12_11,m12_14,m12_19,m12_20,m12_21,m12_22,m12_25,m12_30,m12_31,m12_32,m12_35,m12_36,m12_37,m12_38,m12_39,m12_42,m12_50,m12_51,m12_52,m12_53,m12_56,m13_0,m13_1,m13_4,m13_7,m13_8,m13_11,m13_13,m13_18,m13_19,m13_22,m13_23,m13_26,m13_27,m13_28,m13_29,m13_30,m13_33,m13_34,m13_35,m13_38,m13_39,m14_0,m14_1,m14_4,m14_7,m14_8,m14_11,m14_13,m14_18,m14_19,m14_22,m14_23,m14_26,m14_27,m14_28,m14_29,m14_32,m14_33,m14_36,m14_37,m14_38,m14_39,m14_40,m14_43,m14_44,m14_45,m14_48,m14_49,m15_0,m15_1,m15_2,m15_10,m15_11,m15_12,m15_15,m15_16,m15_19,m15_20,m15_21,m15_22,m15_25,m15_30,m15_31,m15_32,m15_35,m16_0,m16_1,m16_3,m16_6,m16_7,m16_9,m16_12,m16_13,m16_17,m17_0,m17_1,m17_2,m17_5u,m17_6,m17_7,m17_8,m17_11,m17_16,m17_17,m17_20u,m17_21,m17_22,m17_24,m17_27,m17_28,m17_30,m17_44,m17_45,m17_46,m17_47,m17_50,m17_55,m17_56,m17_57,m17_60,m17_61,m18_0,m18_1,m18_3,m18_6,m18_7,m18_9,m18_12,m18_13,m18_15,m18_18,m18_20,m18_21,m18_22,m18_24,m18_27,m18_28,m18_30,m18_33,m18_34,m18_35,m18_36,m18_38,m18_41,m18_42,m18_44,m18_47,m18_48,m18_49,m18_50,m18_52,m18_55,m18_56,m18_58,m18_63,m18_64,m18_66,m18_71,m18_72,m18_74,m18_79,m18_80,m18_81,m18_84,m18_87,m18_89,m19_0,m19_1u,m19_2,m19_3,m19_5,m19_8,m19_9,m19_12,m19_15,m19_16,m19_19,m19_20,m19_23,m19_24,m19_25,m19_26u,m19_26i,m19_26r,m19_27,m19_28,m19_29,m19_34,m19_35,m19_36,m19_39,m19_40,m19_45,m19_46,m19_47,m19_50,m19_51,m19_52,m19_55,m19_56,m19_57,m19_58,m19_61,m19_62,m19_65,m19_66,m19_69,m19_74,m19_77,m19_80,m19_81,m20_0,m20_1,m20_4,m20_7,m20_8,m20_11,m20_13,m20_18,m20_19,m20_22,m20_23,m20_26,m20_27,m20_28,m20_29,m20_32,m20_33,m20_36,m20_37,m20_38,m20_39,m20_40,m20_43,m20_44,m20_45,m20_48,m20_49,m21_0,m21_1,m21_2,m21_5,m21_10,m21_11,m21_14,m21_19,m21_20,m21_23,m21_28,m21_29,m21_30,m21_33,m21_34,m22_0,m22_1,m22_2,m22_5,m22_8,m22_9,m22_12,m22_13,m22_18,m22_19,m22_20,m22_21,m22_24,m22_25,m22_26,m22_29,m22_34,m22_35,m22_37,m22_40,m22_41,m22_43,m22_80,m22_81,m22_82,m22_83,m22_86,m23_0,m23_1,m23_2,m23_5,m23_6,m23_8,m23_11,m23_12,m23_14,m23_17,m23_18,m23_21,m23_22,m24_0,m24_1,m24_4,m24_5,m24_8,m24_9,m24_12,m24_14,m24_19,m24_20,m24_23,m24_24,m24_27,m24_28,m24_29,m24_30u,m24_31,m24_32,m24_35,m24_36,m24_39,m24_40,m24_41,m24_42u,m24_43,m24_44,m24_45,m24_48,m24_49,m24_50,m24_53,m24_54,m24_55,m24_56u,m24_57,m24_58,m24_61,m24_62,m24_65,m24_66,m24_67,m24_68,m24_69,m24_76,m24_77,m24_78,m24_79,m25_0,m25_1,m25_4,m25_5,m25_10,m25_11,m25_14,m25_15,m25_16u,m25_17,m25_18,m25_19,m25_22,m25_25,m25_26,m25_27,m25_30,m25_31,m25_34,m25_37,m25_38,m25_41,m25_42,m25_45,m25_46,m25_49,m25_50,m25_53,m25_54,m25_57,m25_58,m25_59,m25_62,m25_63,m25_66,m25_67,m25_70,m25_71,m25_72,m25_73,m25_76,m25_77,m25_78,m25_81,m25_82,m25_83,m25_86,m25_89,m25_90,m25_91,m25_94,m25_95,m26_0,m26_1,m26_4,m26_9,m26_10,m26_11,m26_14,m26_19,m26_20,m26_23,m26_28,m26_29,m26_32,m27_0,m27_1,m27_2,m27_3,m27_4,m27_7,m27_11,m27_12,m27_14,m27_15u,m27_16,m27_17u,m27_18,m27_19,m27_21,m27_24,m27_25,m27_26,m27_29,m27_32,m27_33,m27_36,m27_37u,m27_37i,m27_37r,m27_39,m27_40,m27_43,m27_44,m27_45,m27_46,m27_48,m27_51,m27_52,m27_55,m27_56,m27_57,m27_60,m27_61,m27_62,m27_63,m27_66,m27_67,m27_68,m27_69,m27_71,m27_74,m27_75,m27_78,m27_79,m27_80,m27_83,m27_84,m27_85,m27_88,m27_91,m27_92i,m27_93,m27_94,m27_95,m27_98,m27_99,m27_100,m27_103,m27_106,m27_107,m27_111u,m27_111i,m27_111r,m27_113,m27_114,m27_117,m27_118,m27_119,m27_120,m27_121,m27_122,m27_124,m27_127,m27_128,m27_131,m27_132,m27_133,m27_137,m27_138,m27_139,m27_142,m27_143,m27_144,m27_145,m27_146,m27_147,m27_149,m27_152,m27_153,m27_156,m27_157,m27_158,m27_162,m27_163,m27_166,m27_169,m27_170,m27_173,m27_174,m27_175,m27_178,m27_179,m27_180,m27_183,m27_184,m27_185,m27_188,m27_189,m27_190,m27_193,m27_194,m27_195,m27_198,m27_199,m27_202,m27_203,m27_204,m27_205,m27_206,m27_209,m27_210,m27_211,m27_212,m28_0,m28_1,m28_2,m28_3,m28_4,m28_7,m28_12,m28_13,m28_16,m28_17,m28_18,m28_23,m28_24,m28_25,m28_26,m28_28,m28_31,m28_36,m28_37,m28_47,m28_48,m28_49,m28_52u,m28_54,m28_56,m28_67,m28_68,m28_71,m28_72,m28_73,m28_74,m28_75,m28_78,m28_79,m28_80,m28_81,m28_82,m28_85,m28_86,m28_87,m28_88,m28_89,m28_92,m28_93,m28_94,m28_95,m28_96,m29_0,m29_1u,m29_2,m29_3,m29_4,m29_7,m29_8,m29_11,m29_12,m29_13,m29_14,m29_17,m29_18,m29_21,m29_22,m29_23,m29_24,m29_27,m29_28,m29_29,m29_32,m29_35,m29_36,m30_0,m30_1,m30_2,m30_7,m30_8,m30_11,m30_20,m30_21u,m30_22,m30_23,m30_24,m30_27,m30_28,m30_29,m30_32,m30_33u,m30_34,m30_35,m30_38,m30_41,m30_42,m30_43,m30_46i,m30_47,m30_48,m30_49,m30_52,m30_53,m31_0,m31_1u,m31_2,m31_3,m31_4,m31_7,m31_8,m31_11,m31_14,m31_15,m31_18u,m31_18i,m31_18r,m31_19,m31_20,m31_23,m31_24,m31_25,m31_28,m32_0,m32_1,m32_4,m32_6,m32_7u,m32_8,m32_9,m32_12,m32_23,m32_24,m32_25,m32_28u,m32_29,m32_30,m32_33,m32_34,m32_35,m32_36,m32_39u,m32_40,m32_41,m32_44,m32_45,m32_46,m32_47,m32_48,m32_51,m32_52,m32_53,m32_56,m32_57,m32_58,m32_61,m32_62,m32_65,m32_68,m32_69,m32_70,m32_71,m33_0,m33_1,m33_3,m33_4u,m33_5,m33_6,m33_9,m33_10,m33_11u,m33_12,m33_13,m33_16,m33_17,m33_18,m33_20,m33_21u,m33_23,m33_24,m33_27,m33_28,m33_29u,m33_31,m33_32,m33_35,m33_36,m33_37,m33_40,m33_41,m33_42,m33_45,m33_46,m33_47,m33_49,m33_81,m33_82,m33_83,m33_85,m33_87,m33_90,m33_91,m33_92,m33_93,m33_94,m33_96,m33_97,m33_100,m34_0,m34_1,m34_4,m34_5,m34_7,m34_8,m34_9u,m34_11,m34_12,m34_13,m34_26,m34_27,m34_28,m34_49,m34_50,m34_51,m34_72,m34_73,m34_74,m34_77,m34_78,m34_81,m34_82,m34_83,m34_86,m34_87,m34_88,m34_89,m34_90,m34_91,m34_140,m35_0,m35_1,m35_2,m35_3,m35_4,m35_7,m35_12,m35_13,m35_16,m35_17,m35_18,m35_21,m35_22,m35_23,m35_24,m35_25,m35_26,m35_27,m35_28,m35_29,m35_32u,m35_33,m35_34,m35_37,m35_55,m35_56,m35_59,m35_60,m35_61,m35_62,m35_63,m35_64,m35_67,m35_68,m35_71,m35_81,m35_82,m35_85,m35_86,m35_87,m35_90,m35_91,m35_92,m35_95,m35_96,m36_0,m36_1,m36_2,m36_5,m36_6,m36_7,m36_10,m36_11,m36_12,m36_13,m36_14,m36_17,m36_20,m36_21,m36_22,m36_23,m36_24,m36_27,m36_32,m36_33,m36_35,m36_36u,m36_37,m36_38,m36_41,m36_42,m36_43,m36_44,m36_45,m36_46,m36_47u,m36_49,m36_50,m36_53,m36_54,m36_55,m36_56,m36_57,m36_58,m36_59u,m36_61,m36_63,m36_65,m36_72,m36_73u,m36_75,m36_77,m36_79,m36_82,m36_84,m36_87,m36_89,m36_91,m36_94,m36_95,m36_96,m36_99,m36_100,m36_102,m36_103,m36_104,m36_105,m36_108,m36_109,m36_111,m36_112,m36_113,m36_115,m36_118i,m36_120,m36_121,m36_124,m36_127,m36_128,m36_129,m36_132,m36_135,m36_136,m36_139,m37_0,m37_1,m37_13,m37_14,m37_15,m37_18,m37_19,m37_20,m37_23,m37_24,m37_26,m37_27,m37_28,m37_31,m37_32,m37_33,m37_34,m37_35,m37_36,m37_38,m37_41,m37_42,m37_44,m37_55,m37_56,m37_58,m37_85,m37_86,m37_87,m37_90,m37_93,m37_94,m37_95,m37_98,m37_99,m37_100,m37_101,m37_102,m37_103,m37_104,m37_107,m37_108,m37_109,m37_110,m38_0,m38_1,m38_4,m38_7,m38_8,m38_11,m38_13,m38_16,m38_17,m38_20,m38_21,m38_24,m38_25,m38_26,m38_27,m38_28,m38_31,m38_32,m38_33,m38_36,m39_0,m39_1,m39_4u,m39_5,m39_6,m39_9u,m39_10,m39_11,m39_12,m39_13,m39_14,m39_17u,m39_19,m39_20,m39_22,m39_25,m40_0,m40_1,m40_4,m40_7,m40_8,m40_11,m40_13,m40_16,m40_17,m40_18,m40_21,m40_22,m40_23,m40_26,m40_27,m40_30,m40_31,m40_34,m40_35,m41_0,m41_1,m41_3,m41_10,m41_11,m41_13,m41_20,m41_21,m41_23,m41_26,m41_27,m41_28,m41_29,m41_30,m41_31,m41_33,m41_36,m41_37,m41_39,m41_42,m41_43,m41_44,m41_45,m41_46,m41_49,m41_50,m41_51,m41_52,m41_53,m41_54,m41_57,m42_0,m42_1,m42_3,m42_21,m42_22,m42_24,m42_42,m42_43,m42_45,m42_48,m42_49,m42_50,m42_51,m42_54,m42_55,m42_58,m42_59,m42_62,m43_0,m43_1,m43_4,m43_5,m43_8,m43_9,m44_0,m44_1,m44_4,m44_7,m44_8,m44_11,m44_13,m44_16,m44_17,m44_20,m44_21,m44_24,m44_25,m44_26,m44_27,m45_0,m45_1,m45_17,m45_18,m45_19,m45_35,m45_36,m45_37,m45_40,m45_41,m45_44,m45_45,m45_46,m45_47,m45_55,m45_56,m45_57,m45_65,m45_66,m45_67,m45_75,m45_76,m45_77,m45_80,m46_0,m46_1,m46_2,m46_3,m46_5,m46_8,m46_11,m46_12,m46_15,m46_16,m46_17,m46_18,m46_19,m46_21,m46_24,m46_25,m46_28,m47_0,m47_1,m47_2,m47_3,m47_4,m47_7,m47_12,m47_13,m47_16,m47_17,m47_18,m47_19,m47_22,m47_23,m47_27u,m47_28,m47_29,m47_39,m47_40,m47_41,m47_59,m47_60,m47_61,m47_79,m47_80,m47_81,m47_84,m47_85,m47_88,m47_89,m47_90,m48_0,m48_1,m48_3,m48_6,m48_7,m48_10,m49_0,m49_1,m49_4,m49_5,m49_6,m49_9,m49_12,m49_13,m49_14,m49_15,m49_18,m49_19,m49_20,m49_22,m49_23u,m49_24,m49_25,m49_28,m49_29,m49_32,m49_33,m49_34,m49_35,m49_36,m49_37,m49_40,m49_41,m49_44,m49_45,m49_46,m49_47,m49_48,m49_49,m49_52,m49_53,m49_56,m49_57,m49_58,m49_59,m49_60,m49_61,m49_64,m49_65,m49_68,m49_69,m49_70,m49_71,m49_72,m49_74,m49_77,m49_78,m49_81,m49_82,m49_83,m49_84,m49_85,m49_86,m49_87,m49_90,m50_0,m50_1,m50_2,m50_5,m50_6,m50_7,m50_10,m50_11,m50_14,m50_15,m50_16u,m50_17,m50_18,m50_19,m50_22,m50_23,m50_24,m50_27,m50_28,m50_29,m50_32,m50_33,m50_34,m50_35,m50_39,m50_42,m50_43,m50_44,m50_47,m50_48,m50_49,m50_52,m50_55,m50_56u,m50_58,m50_60,m50_61,m50_64,m50_65,m50_68,m50_70,m50_71,m50_72,m50_75,m50_78,m50_79i,m50_81,m50_83,m50_84,m50_87,m50_89,m50_90,m50_93,m50_94,m50_95,m50_97,m50_100u,m50_100i,m50_100r,m50_102,m50_103,m50_106,m50_109,m50_110,m50_111,m50_114,m50_115,m50_117,m50_118,m50_119,m50_120,m50_121,m50_124,m50_127,m50_128,m50_131,m50_133,m50_134,m50_135,m50_137,m50_138,m50_141,m50_144,m51_0,m51_1,m51_4,m51_5,m51_6,m51_9,m51_10,m51_11,m51_12,m51_14,m51_17,m51_18,m51_19,m51_20,m52_0,m52_1,m52_4u,m52_5,m52_6,m52_7,m52_8,m52_11u,m52_12,m52_13,m52_14,m52_17,m53_0,m53_1,m53_2,m53_9,m53_10,m53_12,m53_25,m53_26,m53_27,m53_28,m53_30,m53_33,m53_36,m53_37,m53_40,m53_41,m53_42,m53_43,m53_44,m53_45,m53_48,m53_49,m54_0,m54_1,m54_4,m54_5,m54_8,m54_11,m54_12,m54_13,m54_16,m54_17,m54_20,m54_21,m54_24,m54_25,m54_26,m54_29,m54_30,m54_31,m54_34,m54_35,m55_0,m55_1,m55_3,m55_4u,m55_5,m55_6,m55_9,m55_10,m55_11,m55_14,m55_15,m55_16,m55_19,m55_20,m55_21,m55_24,m55_25,m55_26,m55_29,m55_30,m55_31,m55_34,m55_35,m55_36,m55_39,m55_40,m55_41,m55_44,m55_45,m55_46,m55_49,m55_50,m55_51,m55_54,m55_55,m55_56u,m55_57,m55_58,m55_59,m55_62,m55_63,m55_66,m55_67,m55_68,m55_69,m55_70,m55_71,m55_72,m55_75,m55_76,m55_77,m55_78,m55_81,m55_84,m56_0,m56_1,m56_2,m56_5,m56_6,m56_8,m56_13,m56_14,m56_15,m56_16u,m56_17,m56_18,m56_19,m56_22,m56_23,m56_24,m56_29,m56_30,m56_33,m56_34,m56_35,m56_36,m56_37,m56_38,m56_39,m57_0,m57_3,m57_4,m57_6,m57_8,m57_11u,m57_13,m57_15,m57_16,m57_17,m57_20,m57_21,m57_23,m57_24,m57_25,m57_28,m57_29,m57_31,m57_32,m57_33,m57_36,m57_37,m57_39,m57_40,m57_41,m57_44,m57_45,m57_47,m57_48,m57_49,m57_50,m57_52,m57_55,m57_56,m57_58,m57_59,m57_60,m57_63,m57_64,m57_66,m57_68,m57_69,m57_72,m57_73,m57_75,m57_76,m57_77,m57_80,m57_81,m57_83,m57_84,m57_85,m57_88,m57_89,m57_91,m57_92,m57_93,m57_96,m57_97,m57_99,m57_101,m57_102,m57_105,m57_106,m57_108,m57_109,m57_110,m57_113,m57_114,m57_116,m57_117,m57_118,m57_121,m57_122,m57_124,m57_125,m57_126,m57_129,m57_130,m57_132,m57_134,m57_135,m57_138,m57_139,m57_141,m57_142,m57_143,m57_146,m57_147,m57_149,m57_150,m57_151,m57_154,m57_155,m57_157,m57_159,m57_160,m57_163,m57_164,m57_166,m57_167,m57_168,m57_171,m57_172,m57_174,m57_175,m57_178,m57_183,m57_185,m57_186,m57_187,m57_188,m57_191,m57_196,m57_198,m57_200,m57_203u,m57_205,m57_206,m57_208,m57_209u,m57_211,m57_213,m57_214,m57_217,m57_218,m57_221,m57_222u,m57_224,m57_225,m57_228,m57_229,m57_231,m57_234,m57_235,m57_238,m57_239u,m57_241,m57_243,m57_245,m57_248,m57_249,m57_252,m57_253,m57_258,m57_260,m57_261,m57_264,m57_266,m57_269,m57_270,m57_273,m57_274,m57_279,m57_281,m57_283,m57_286,m57_287,m57_292,m57_294,m57_295,m57_298,m57_300,m57_305,m57_307,m57_308,m57_309,m57_312,m57_313,m57_318,m57_320,m57_322,m57_325,m57_327,m57_330,m57_331,m57_334,m57_335,m57_340,m57_342,m57_345,m57_346,m57_349,m57_350u,m57_352,m57_354,m57_357,m57_358,m57_361,m57_362u,m57_364,m57_366,m57_369,m57_371,m57_372,m57_373,m57_376,m57_377u,m57_379,m57_381,m57_384,m57_385,m57_388,m57_390,m57_391,m57_392,m57_395,m57_396u,m57_398,m57_400,m57_403,m57_405,m57_408,m57_409,m57_412,m57_413u,m57_415,m57_417,m57_420,m57_421,m57_424,m57_425,m57_428,m57_429,m57_431,m57_434,m57_435,m57_438,m57_439,m57_440,m57_443,m57_444u,m57_446,m57_448,m57_451,m57_452,m57_455,m57_456u,m57_458,m57_460,m57_461,m57_462,m57_465,m57_467,m57_472,m57_474,m57_475,m57_476,m57_479,m57_484,m57_486,m57_487,m57_488,m57_491,m57_493,m57_498,m57_500,m57_501,m57_502,m57_505,m57_507,m57_512,m57_514,m57_515,m57_516,m57_519,m57_521,m57_526,m57_528,m57_529,m57_531,m57_534,m57_536,m57_541,m57_543,m57_544,m57_545,m57_548,m57_550,m57_555,m57_557,m57_558,m57_560,m57_563,m57_565,m57_568,m57_569,m57_573,nb0,nb1,ou_a,Option.toList_some,Option.toList_none,List.nil_append,List.cons_append,ou_same,ou_comm,setA_same,setA_comm,own_l0,own_l1,own_l2,own_l3,own_l4,own_l5,own_l6,own_l7,own_l8,own_l9,own_l10,own_l11,own_l12,own_l13,getA_set2,setA_len,inB_iff,A0g_0,A0g_1,A0g_2,A0g_3,A0g_4,A0g_5,A0g_6,A0g_7,A0g_8,A0g_9,A0g_10,A0g_11,A0g_12,A0g_13,A0g_14,A0g_15,A0g_16,A0g_17,A0g_18,A0g_19,A0g_20,A0g_21,A0g_22,A0g_23,A0g_24,A0g_25,A0g_26,A0g_27,A0g_28,A0g_29,A0g_30,A0g_31,A0l_0,A0l_1,A0l_2,A0l_3,A0l_4,A0l_5,A0l_6,A0l_7,A0l_8,A0l_9,A0l_10,A0l_11,A0l_12,A0l_13,A0l_14,A0l_15,A0l_16,A0l_17,A0l_18,A0l_19,A0l_20,A0l_21,A0l_22,A0l_23,A0l_24,A0l_25,A0l_26,A0l_27,A0l_28,A0l_29,A0l_30,A0l_31]
    exact hQ _ _ (by (repeat refine len_ou ?_ (by simp only [setA_len])); exact fun _ => rfl)
theorem own_rest (i0 i1 i2 i3 i4 i5 : Int32) (s : Nat→Int32) (h0 : s 0 = 0) (h1 : s 1 = 0) (h2 : s 2 = 0) (h3 : s 3 = 0) (h4 : s 4 = 0) (h5 : s 5 = 0) (h6 : s 6 = 0) (h7 : s 7 = 0) (h8 : s 8 = 0) (h9 : s 9 = 0) (h10 : s 10 = 0) (h11 : s 11 = 0) (h12 : s 12 = 0) (h13 : s 13 = 0) (h14 : s 14 = 0) (h15 : s 15 = 0) (h16 : s 16 = 0) (h19 : s 19 = 0) (h20 : s 20 = 0) (h21 : s 21 = 0) (h22 : s 22 = 0) (h23 : s 23 = 0) (h24 : s 24 = 0) (h25 : s 25 = 0) (h26 : s 26 = 0) (h27 : s 27 = 0) (hc : 0 < s 17) (Q : Option Value→AHeap→Prop) (hQ : ∀ s' A',(∀ i,(A' i).length = (A0 i).length)→Q (some (.int 1)) (put 0 [] s' A' [])) :
    M57 11 [.val (.int i0),.val (.int i1),.val (.int i2),.val (.int i3),.val (.int i4),.val (.int i5),.unset,.unset,.unset,.unset,.unset,.unset,.unset,.unset,.unset,.unset,.unset,.unset] [.ref 0] (put 0 [] s A0 []) Q:=by
  by_cases q1 : i2 < 0
  · exact own_r0 i0 i1 i2 i3 i4 i5 s h0 h1 h2 h3 h4 h5 h6 h7 h8 h9 h10 h11 h12 h13 h14 h15 h16 h19 h20 h21 h22 h23 h24 h25 h26 h27 hc Q hQ q1
  by_cases q2 : 31 < i2
  · exact own_r1 i0 i1 i2 i3 i4 i5 s h0 h1 h2 h3 h4 h5 h6 h7 h8 h9 h10 h11 h12 h13 h14 h15 h16 h19 h20 h21 h22 h23 h24 h25 h26 h27 hc Q hQ q1 q2
  have g1:=q1
  have g2:=q2
  have e0 : (0 : Int32).toInt = 0:=rfl
  have e31 : (31 : Int32).toInt = 31:=rfl
  rw [lt_i] at g1 g2
  exact own_r2 i0 i1 i2 i3 i4 i5 s h0 h1 h2 h3 h4 h5 h6 h7 h8 h9 h10 h11 h12 h13 h14 h15 h16 h19 h20 h21 h22 h23 h24 h25 h26 h27 hc Q hQ q1 q2 (by rw [toNat_eq]; omega) (by omega) (by omega)
set_option maxRecDepth 1000000 in
set_option maxHeartbeats 20000000 in
theorem own_gen (i0 : Int32) (i1 : Int32) (i2 : Int32) (i3 : Int32) (i4 : Int32) (i5 : Int32) {Q : Option Value→AHeap→Prop} (hQ : ∀ s' A',(∀ i,(A' i).length = (A0 i).length)→Q (some (.int 1)) (put 0 [] s' A' [])) : M57 0 [.val (.int i0),.val (.int i1),.val (.int i2),.val (.int i3),.val (.int i4),.val (.int i5),.unset,.unset,.unset,.unset,.unset,.unset,.unset,.unset,.unset,.unset,.unset,.unset] [] [] Q:=by
  rw [m57_0,m57_3,m57_4,m57_6,m57_8,own_ctor0 rfl]
  by_cases a1 : i5 < 0
  · have a2 : i5 < 2:=by rw [lt_i] at *; have e0 : (0 : Int32).toInt = 0:=rfl; have e2 : (2 : Int32).toInt = 2:=rfl; omega
    simp [a1,a2,m0_0,m0_1,m0_4,m0_5,m0_12,m0_13,m0_20,m0_21,m0_28,m0_29,m0_36,m0_37,m0_44,m0_45,m0_52,m0_53,m0_60,m0_61,m0_67,m0_68,m0_74,m0_75,m0_81,m0_82,m0_88,m0_89,m0_95,m0_96,m0_102,m0_103,m0_111,m0_112,m0_120,m0_121,m0_128,m0_129,m0_136,m0_137,m0_144,m0_145,m0_152,m0_153,m0_159,m0_160,m0_166,m0_167,m0_174,m0_175,m0_182,m0_183,m0_190,m0_191,m0_198,m0_199,m0_206,m0_207,m0_214,m0_215,m0_222,m0_223,m0_230,m0_231,m0_238,m0_239,m0_246,m0_247,m0_253,m0_254u,m0_255,m0_256,m0_257,m0_260,m0_261i,m0_262,m0_263,m0_265,m0_268,m0_270i,m0_271,m0_272,m0_273,m0_276,m0_277u,m0_279,m0_281,m0_284,m0_285i,m0_287,m0_289,m0_290,m0_293,m0_294i,m0_296,m0_297,m0_299,m0_302,m0_303,m0_304,m0_307,m0_308,m0_309,m0_312,m0_313,m0_314,m0_317,nb0,nb1,ou_a,Option.toList_some,Option.toList_none,List.nil_append,List.cons_append]
    exact own_rest _ _ _ _ _ _ _ (by simp [ou_a]) (by simp [ou_a]) (by simp [ou_a]) (by simp [ou_a]) (by simp [ou_a]) (by simp [ou_a]) (by simp [ou_a]) (by simp [ou_a]) (by simp [ou_a]) (by simp [ou_a]) (by simp [ou_a]) (by simp [ou_a]) (by simp [ou_a]) (by simp [ou_a]) (by simp [ou_a]) (by simp [ou_a]) (by simp [ou_a]) (by simp [ou_a]) (by simp [ou_a]) (by simp [ou_a]) (by simp [ou_a]) (by simp [ou_a]) (by simp [ou_a]) (by simp [ou_a]) (by simp [ou_a]) (by simp [ou_a]) (by simp [ou_a]) _ hQ
  by_cases a2 : 1 < i5
  · have a3 : ¬ i5 < 2:=by rw [lt_i] at *; have e0 : (1 : Int32).toInt = 1:=rfl; have e2 : (2 : Int32).toInt = 2:=rfl; omega
    by_cases a4 : 8 < i5
    · simp [a1,a2,a3,a4,m0_0,m0_1,m0_4,m0_5,m0_12,m0_13,m0_20,m0_21,m0_28,m0_29,m0_36,m0_37,m0_44,m0_45,m0_52,m0_53,m0_60,m0_61,m0_67,m0_68,m0_74,m0_75,m0_81,m0_82,m0_88,m0_89,m0_95,m0_96,m0_102,m0_103,m0_111,m0_112,m0_120,m0_121,m0_128,m0_129,m0_136,m0_137,m0_144,m0_145,m0_152,m0_153,m0_159,m0_160,m0_166,m0_167,m0_174,m0_175,m0_182,m0_183,m0_190,m0_191,m0_198,m0_199,m0_206,m0_207,m0_214,m0_215,m0_222,m0_223,m0_230,m0_231,m0_238,m0_239,m0_246,m0_247,m0_253,m0_254u,m0_255,m0_256,m0_257,m0_260,m0_261i,m0_262,m0_263,m0_265,m0_268,m0_270i,m0_271,m0_272,m0_273,m0_276,m0_277u,m0_279,m0_281,m0_284,m0_285i,m0_287,m0_289,m0_290,m0_293,m0_294i,m0_296,m0_297,m0_299,m0_302,m0_303,m0_304,m0_307,m0_308,m0_309,m0_312,m0_313,m0_314,m0_317,nb0,nb1,ou_a,Option.toList_some,Option.toList_none,List.nil_append,List.cons_append]
      exact own_rest _ _ _ _ _ _ _ (by simp [ou_a]) (by simp [ou_a]) (by simp [ou_a]) (by simp [ou_a]) (by simp [ou_a]) (by simp [ou_a]) (by simp [ou_a]) (by simp [ou_a]) (by simp [ou_a]) (by simp [ou_a]) (by simp [ou_a]) (by simp [ou_a]) (by simp [ou_a]) (by simp [ou_a]) (by simp [ou_a]) (by simp [ou_a]) (by simp [ou_a]) (by simp [ou_a]) (by simp [ou_a]) (by simp [ou_a]) (by simp [ou_a]) (by simp [ou_a]) (by simp [ou_a]) (by simp [ou_a]) (by simp [ou_a]) (by simp [ou_a]) (by simp [ou_a]) _ hQ
    · simp [a1,a2,a3,a4,m0_0,m0_1,m0_4,m0_5,m0_12,m0_13,m0_20,m0_21,m0_28,m0_29,m0_36,m0_37,m0_44,m0_45,m0_52,m0_53,m0_60,m0_61,m0_67,m0_68,m0_74,m0_75,m0_81,m0_82,m0_88,m0_89,m0_95,m0_96,m0_102,m0_103,m0_111,m0_112,m0_120,m0_121,m0_128,m0_129,m0_136,m0_137,m0_144,m0_145,m0_152,m0_153,m0_159,m0_160,m0_166,m0_167,m0_174,m0_175,m0_182,m0_183,m0_190,m0_191,m0_198,m0_199,m0_206,m0_207,m0_214,m0_215,m0_222,m0_223,m0_230,m0_231,m0_238,m0_239,m0_246,m0_247,m0_253,m0_254u,m0_255,m0_256,m0_257,m0_260,m0_261i,m0_262,m0_263,m0_265,m0_268,m0_270i,m0_271,m0_272,m0_273,m0_276,m0_277u,m0_279,m0_281,m0_284,m0_285i,m0_287,m0_289,m0_290,m0_293,m0_294i,m0_296,m0_297,m0_299,m0_302,m0_303,m0_304,m0_307,m0_308,m0_309,m0_312,m0_313,m0_314,m0_317,nb0,nb1,ou_a,Option.toList_some,Option.toList_none,List.nil_append,List.cons_append]
      exact own_rest _ _ _ _ _ _ _ (by simp [ou_a]) (by simp [ou_a]) (by simp [ou_a]) (by simp [ou_a]) (by simp [ou_a]) (by simp [ou_a]) (by simp [ou_a]) (by simp [ou_a]) (by simp [ou_a]) (by simp [ou_a]) (by simp [ou_a]) (by simp [ou_a]) (by simp [ou_a]) (by simp [ou_a]) (by simp [ou_a]) (by simp [ou_a]) (by simp [ou_a]) (by simp [ou_a]) (by simp [ou_a]) (by simp [ou_a]) (by simp [ou_a]) (by simp [ou_a]) (by simp [ou_a]) (by simp [ou_a]) (by simp [ou_a]) (by simp [ou_a]) (by simp [ou_a,own_gt a3 (by decide : (0 : Int32) < 2)]) _ hQ
  have a3 : i5 < 2:=by rw [lt_i] at *; have e0 : (1 : Int32).toInt = 1:=rfl; have e2 : (2 : Int32).toInt = 2:=rfl; omega
  simp [a1,a2,a3,m0_0,m0_1,m0_4,m0_5,m0_12,m0_13,m0_20,m0_21,m0_28,m0_29,m0_36,m0_37,m0_44,m0_45,m0_52,m0_53,m0_60,m0_61,m0_67,m0_68,m0_74,m0_75,m0_81,m0_82,m0_88,m0_89,m0_95,m0_96,m0_102,m0_103,m0_111,m0_112,m0_120,m0_121,m0_128,m0_129,m0_136,m0_137,m0_144,m0_145,m0_152,m0_153,m0_159,m0_160,m0_166,m0_167,m0_174,m0_175,m0_182,m0_183,m0_190,m0_191,m0_198,m0_199,m0_206,m0_207,m0_214,m0_215,m0_222,m0_223,m0_230,m0_231,m0_238,m0_239,m0_246,m0_247,m0_253,m0_254u,m0_255,m0_256,m0_257,m0_260,m0_261i,m0_262,m0_263,m0_265,m0_268,m0_270i,m0_271,m0_272,m0_273,m0_276,m0_277u,m0_279,m0_281,m0_284,m0_285i,m0_287,m0_289,m0_290,m0_293,m0_294i,m0_296,m0_297,m0_299,m0_302,m0_303,m0_304,m0_307,m0_308,m0_309,m0_312,m0_313,m0_314,m0_317,nb0,nb1,ou_a,Option.toList_some,Option.toList_none,List.nil_append,List.cons_append]
  exact own_rest _ _ _ _ _ _ _ (by simp [ou_a]) (by simp [ou_a]) (by simp [ou_a]) (by simp [ou_a]) (by simp [ou_a]) (by simp [ou_a]) (by simp [ou_a]) (by simp [ou_a]) (by simp [ou_a]) (by simp [ou_a]) (by simp [ou_a]) (by simp [ou_a]) (by simp [ou_a]) (by simp [ou_a]) (by simp [ou_a]) (by simp [ou_a]) (by simp [ou_a]) (by simp [ou_a]) (by simp [ou_a]) (by simp [ou_a]) (by simp [ou_a]) (by simp [ou_a]) (by simp [ou_a]) (by simp [ou_a]) (by simp [ou_a]) (by simp [ou_a]) (by simp [ou_a]) _ hQ
set_option maxRecDepth 1000000 in
set_option maxHeartbeats 20000000 in
theorem own_law (i0 : Int32) (i1 : Int32) (i2 : Int32) (i3 : Int32) (i4 : Int32) (i5 : Int32) : W tables_1 dn 0 x code ret 0 (entry [.int i0,.int i1,.int i2,.int i3,.int i4,.int i5] maxLocals) [] [] (fun v H1 => v = some (.int 1)∧H1.length - ([] : AHeap).length≤80∧tot tables_1 H1 - tot tables_1 []≤2432):=by
  show M57 0 [.val (.int i0),.val (.int i1),.val (.int i2),.val (.int i3),.val (.int i4),.val (.int i5),.unset,.unset,.unset,.unset,.unset,.unset,.unset,.unset,.unset,.unset,.unset,.unset] [] [] _
  exact own_gen _ _ _ _ _ _ own_fin
theorem own_dn : ∀ f' l',dnOf dn x = some (f',l')→f'≤room_1.frames∧l'≤room_1.locals:=by
  have h : dnOf dn x = some (11,170):=by decide +kernel
  intro f' l' q; rw [h] at q; cases q; decide
theorem own_pn : Jvm.plainName x.cls = true:=by first | (simp [Jvm.plainName,overriddenIn,x]; done) | decide +kernel
theorem own_rm (l : Launch) (Z : State) (a0 : Array Value) (hw : ∀ d ∈ tables_1,d.before a0 Z = true) (i0 : Int32) (i1 : Int32) (i2 : Int32) (i3 : Int32) (i4 : Int32) (i5 : Int32) (h : Heap) :
    MetFree l x (head1 (Jvm.Cond.code x code maxLocals ret::tables_1) room_1) (fun a U => a = #[.int i0,.int i1,.int i2,.int i3,.int i4,.int i5]∧Z.Warmed39 U.vm∧U.heap = h) (fun _ _ _ _ _ => True) (fun _ U o U' => ∃ w L,o = .returned w∧(w = some (.int 1)∧Fr h.size L)∧FrameEnd U o U' L 80 2432) :=
  law_of (as:=[.int i0,.int i1,.int i2,.int i3,.int i4,.int i5]) (mx:=maxLocals) (f:=room_1.frames) (lc:=room_1.locals) hw l tables_1 own_pn (by show 6≤18; omega) (own_law i0 i1 i2 i3 i4 i5) own_dn (Sim.empty Z tables_1 h)
set_option maxRecDepth 65536 in
set_option maxHeartbeats 40000000 in
theorem comes_1 {Post : Tables→Env→Array Value→State→Outcome→State→Prop} (hpost : ∀ tb e args s v u,(limb_1_1.after args s (.returned v) u = true∧limb_1_2.after args s (.returned v) u = true∧True)→FrameEnd s (.returned v) u (Jvm.fieldLocs frame_1_writes args s ++ Jvm.arrayLocs frame_1_arrays args s ++ Jvm.staticLocs frame_1_statics s) 80 2432→Post tb e args s (.returned v) u) :
    ArmFor flags0 classFile x code maxLocals ret World_1 tables_1 room_1 Calls_1 rest_1 Pre_1 Post:=by
  intro l hfl _ _ p e ha hc hk s m args below hf hA hF happ hP
  obtain ⟨hcalls,hrest,hpre⟩:=hP
  obtain ⟨-,-,-,hnamed,-,-,-,hat⟩:=(Spec.applies_iff hf).mp happ
  obtain ⟨hg,hn⟩:=and_e (Cond.before_iff.mp (show (Jvm.Cond.and given_1 narrow_1).before args s = true from hpre))
  obtain ⟨g0,t0⟩:=and_e hg
  obtain ⟨q0,t1⟩:=and_e t0
  obtain ⟨q1,t2⟩:=and_e t1
  obtain ⟨q2,t3⟩:=and_e t2
  obtain ⟨q3,t4⟩:=and_e t3
  obtain ⟨q4,t5⟩:=and_e t4
  have q5:=t5
  obtain ⟨w0,w1,w2,w3,w4,w5,rfl⟩ : ∃ w0 w1 w2 w3 w4 w5 : Value,args = #[w0,w1,w2,w3,w4,w5]:=by
    have hs : args.size = 6:=by simpa [Cond.value,given_1] using g0
    obtain ⟨L⟩:=args
    match L,hs with
    | [w0,w1,w2,w3,w4,w5],_ => exact ⟨w0,w1,w2,w3,w4,w5,rfl⟩
  have hw:=fun d (hd : d ∈ tables_1) => atoms_spec (ws:=Jvm.Cond.code x code maxLocals ret::tables_1) hat d (List.mem_cons_of_mem _ hd)
  obtain ⟨i0,ei0⟩:=is_v q0
  obtain rfl : w0 = (.int i0):=Option.some.inj ei0
  obtain ⟨i1,ei1⟩:=is_v q1
  obtain rfl : w1 = (.int i1):=Option.some.inj ei1
  obtain ⟨i2,ei2⟩:=is_v q2
  obtain rfl : w2 = (.int i2):=Option.some.inj ei2
  obtain ⟨i3,ei3⟩:=is_v q3
  obtain rfl : w3 = (.int i3):=Option.some.inj ei3
  obtain ⟨i4,ei4⟩:=is_v q4
  obtain rfl : w4 = (.int i4):=Option.some.inj ei4
  obtain ⟨i5,ei5⟩:=is_v q5
  obtain rfl : w5 = (.int i5):=Option.some.inj ei5
  obtain ⟨n,o,h1,h2,h3,_,L,rfl,⟨rfl,N⟩,hq⟩:=own_rm l s _ hw i0 i1 i2 i3 i4 i5 s.heap p e ha hc hk s m _ below hf ((Spec.applies_iff_loose hf).mp happ).1 ⟨rfl,State.Warmed39.refl s,rfl⟩ trivial
  exact ⟨n,_,h1,h2,h3,hpost _ _ _ _ _ _ ⟨Cond.after_iff.mpr rfl,Cond.after_iff.mpr (eq_i res_at (Term.int_eval (1)) rfl),trivial⟩ ⟨hq.1,hq.2.1,(hq.2.2.sift fun y hy => Or.inr (N y hy)).mono (by decide) (by decide)⟩⟩
theorem main_1_1 : Claimed_1_1:=comes_1 fun _ _ _ _ _ _ h hF => ⟨h.1,hF⟩
theorem main_1_2 : Claimed_1_2:=comes_1 fun _ _ _ _ _ _ h hF => ⟨h.2.1,hF⟩
end Jvm.Pilot.@@N@@
namespace Jvm.Pilot.@@N@@
open Jvm Jvm.ClassFile Sem Op Lib Jvm.Free Jvm.Stand Jvm.Pilot.@@N@@.Jvm.D
/-! MADE BY PROGRAM (witnessworld.py) out of the Statement's table words and the real class files: 9 classes; the members and pool entries that the words name. The judged class is class 1, her method 1. -/
namespace start1
open Jvm.ClassFile
def u (s : String) : CpInfo:=.utf8 (stringToUtf16 s)
/-- a pool by its gaps: so many unusable entries, then the entry; so many at the end -/
def gap : Nat→List CpInfo→List CpInfo
  | 0,r => r
  | n + 1,r => .unusable::gap n r
def poolList (es : List (Nat × CpInfo)) (last : Nat) : List CpInfo:=es.foldr (fun e r => gap e.1 (e.2::r)) (gap last [])
def pool (es : List (Nat × CpInfo)) (last : Nat) : Array CpInfo:=⟨poolList es last⟩
def fileOf (pool : Array CpInfo) (this : Nat) (attrs : Array Attribute:=#[]) (ms : Array MethodInfo:=#[]) (fl : Nat:=33) (sup : Nat:=0) (ifs : Array Nat:=#[]) (fds : Array FieldInfo:=#[]) : ClassFile where
  minorVersion:=0
  majorVersion:=65
  constantPool:=pool
  accessFlags:=fl
  thisClass:=this
  superClass:=sup
  interfaces:=ifs
  fields:=fds
  methods:=ms
  attributes:=attrs
def plain (name : String) (sup : Option ClassId) : Class where
  name:=name
  kind:=.ordinary
  loader:=none
  accessFlags:=33
  super:=sup
  interfaces:=#[]
  cf:=none
  fields:=#[]
  methods:=#[]
  instanceTypes:=#[]
  staticTypes:=#[]
  resolved:=#[]
  callSites:=[]
  init:=.initialized
  statics:=none
  mirror:=none
def pool0 : Array CpInfo:=pool [(5,u "<init>"),(0,u "()V"),(1,.class_ 10),(1,u "java/lang/Object")] 113
def k0c0 : Code:={ maxStack:=0,maxLocals:=1,code:=object_method_1_code,exceptionTable:=#[],attributes:=#[] }
def k0m0 : Method:={ name := "<init>", desc := "()V", sig:={ parameters:=[],returnType:=none },accessFlags:=1,code:=some k0c0 }
/-- java/lang/Object -/
def k0 : Class:={ plain "java/lang/Object" none with
  accessFlags:=33
  interfaces:=#[]
  cf:=some (fileOf pool0 8 #[] #[{ accessFlags:=1,nameIndex:=5,descriptorIndex:=6,attributes:=#[] }] 33 0 #[] #[])
  fields:=#[]
  methods:=#[k0m0]
  instanceTypes:=#[]
  staticTypes:=#[]
  resolved:=Array.replicate 124 none
  statics:=none }
def pool1 : Array CpInfo:=pool [(2,.class_ 4),(1,u "java/lang/Object"),(0,u "<init>"),(0,u "()V"),(0,.class_ 8),(0,u "AgentExprDbg"),(0,.methodref 7 10),(0,.nameAndType 5 11),(0,u "(II)V"),(0,.methodref 7 13),(0,.nameAndType 14 15),(0,u "setReg"),(0,u "(II)Z"),(0,.methodref 7 17),(0,.nameAndType 18 15),(0,u "setMem"),(0,.methodref 7 20),(0,.nameAndType 21 22),(0,u "setInstr"),(0,u "(IIII)Z"),(0,.methodref 7 24),(0,.nameAndType 25 15),(0,u "addToken"),(0,.methodref 7 27),(0,.nameAndType 28 29),(0,u "compile"),(0,u "(I)I"),(0,.methodref 7 31),(0,.nameAndType 32 33),(0,u "install"),(0,u "(III)Z"),(0,.methodref 7 35),(0,.nameAndType 36 29),(0,u "run"),(0,.methodref 7 38),(0,.nameAndType 39 29),(0,u "status"),(0,.methodref 7 41),(0,.nameAndType 42 29),(0,u "getReg"),(0,.methodref 7 44),(0,.nameAndType 45 46),(0,u "slotInfo"),(0,u "(II)I"),(0,.methodref 7 48),(0,.nameAndType 49 46),(0,u "frame"),(0,.class_ 51),(0,u "AgentExprDbgL3"),(2,u "law"),(0,u "(IIIIII)Z")] 3
def k1m0 : Method:={ name := "<init>", desc := "()V", sig:={ parameters:=[],returnType:=none },accessFlags:=1,code:=none }
def k1c1 : Code:={ maxStack:=5,maxLocals:=18,code:=code,exceptionTable:=#[],attributes:=#[] }
def k1m1 : Method:={ name := "law", desc := "(IIIIII)Z", sig:={ parameters:=[.int,.int,.int,.int,.int,.int],returnType:=some .boolean },accessFlags:=9,code:=some k1c1 }
/-- AgentExprDbgL3 -/
def k1 : Class:={ plain "AgentExprDbgL3" (some 0) with
  accessFlags:=49
  interfaces:=#[]
  cf:=some (fileOf pool1 50 #[] #[{ accessFlags:=1,nameIndex:=5,descriptorIndex:=6,attributes:=#[] },{ accessFlags:=9,nameIndex:=54,descriptorIndex:=55,attributes:=#[] }] 49 2 #[] #[])
  fields:=#[]
  methods:=#[k1m0,k1m1]
  instanceTypes:=#[]
  staticTypes:=#[]
  resolved:=Array.replicate 59 none
  statics:=none }
def pool2 : Array CpInfo:=pool [(1,.methodref 2 3),(0,.class_ 4),(0,.nameAndType 5 6),(0,u "java/lang/Object"),(0,u "<init>"),(0,u "()V"),(0,.fieldref 8 9),(0,.class_ 10),(0,.nameAndType 11 12),(0,u "AgentExprDbg"),(0,u "reg"),(0,u "[I"),(0,.fieldref 8 14),(0,.nameAndType 15 12),(0,u "mem"),(0,.fieldref 8 17),(0,.nameAndType 18 12),(0,u "progOp"),(0,.fieldref 8 20),(0,.nameAndType 21 12),(0,u "progA"),(0,.fieldref 8 23),(0,.nameAndType 24 12),(0,u "progB"),(0,.fieldref 8 26),(0,.nameAndType 27 12),(0,u "tokKind"),(0,.fieldref 8 29),(0,.nameAndType 30 12),(0,u "tokVal"),(0,.fieldref 8 32),(0,.nameAndType 33 12),(0,u "slotState"),(0,.fieldref 8 35),(0,.nameAndType 36 12),(0,u "slotAddr"),(0,.fieldref 8 38),(0,.nameAndType 39 12),(0,u "slotMode"),(0,.fieldref 8 41),(0,.nameAndType 42 12),(0,u "slotHits"),(0,.fieldref 8 44),(0,.nameAndType 45 12),(0,u "slotExprs"),(0,.fieldref 8 47),(0,.nameAndType 48 12),(0,u "slotLen"),(0,.fieldref 8 50),(0,.nameAndType 51 12),(0,u "codeOp"),(0,.fieldref 8 53),(0,.nameAndType 54 12),(0,u "codeArg"),(0,.fieldref 8 56),(0,.nameAndType 57 12),(0,u "exprStart"),(0,.fieldref 8 59),(0,.nameAndType 60 12),(0,u "exprEnd"),(0,.fieldref 8 62),(0,.nameAndType 63 12),(0,u "sOp"),(0,.fieldref 8 65),(0,.nameAndType 66 12),(0,u "sArg"),(0,.fieldref 8 68),(0,.nameAndType 69 12),(0,u "sStart"),(0,.fieldref 8 71),(0,.nameAndType 72 12),(0,u "sEnd"),(0,.fieldref 8 74),(0,.nameAndType 75 12),(0,u "opKind"),(0,.fieldref 8 77),(0,.nameAndType 78 12),(0,u "opAux"),(0,.fieldref 8 80),(0,.nameAndType 81 12),(0,u "needStk"),(0,.fieldref 8 83),(0,.nameAndType 84 12),(0,u "evStk"),(0,.fieldref 8 86),(0,.nameAndType 87 12),(0,u "frAddr"),(0,.fieldref 8 89),(0,.nameAndType 90 12),(0,u "frSlot"),(0,.fieldref 8 92),(0,.nameAndType 93 12),(0,u "frCnt"),(0,.fieldref 8 95),(0,.nameAndType 96 12),(0,u "frMask"),(0,.fieldref 8 98),(0,.nameAndType 99 12),(0,u "frSeq"),(0,.fieldref 8 101),(0,.nameAndType 102 12),(0,u "frVal"),(0,.fieldref 8 104),(0,.nameAndType 105 12),(0,u "pendVal"),(0,.fieldref 8 107),(0,.nameAndType 108 109),(0,u "capacity"),(0,u "I"),(0,.fieldref 8 111),(0,.nameAndType 112 109),(0,u "policy"),(0,.fieldref 8 114),(0,.nameAndType 115 109),(0,u "lastStop"),(0,.fieldref 8 117),(0,.nameAndType 118 109),(0,u "agentErr"),(0,.fieldref 8 120),(0,.nameAndType 121 109),(0,u "hostErr"),(0,.methodref 8 123),(0,.nameAndType 124 125),(0,u "validInstr"),(0,u "(IIII)Z"),(0,.methodref 8 127),(0,.nameAndType 128 129),(0,u "inRange"),(0,u "(III)Z"),(0,.methodref 8 131),(0,.nameAndType 132 133),(0,u "validSecond"),(0,u "(II)Z"),(0,.fieldref 8 135),(0,.nameAndType 136 109),(0,u "pc"),(0,.fieldref 8 138),(0,.nameAndType 139 140),(0,u "halted"),(0,u "Z"),(0,.fieldref 8 142),(0,.nameAndType 143 140),(0,u "skip"),(0,.fieldref 8 145),(0,.nameAndType 146 109),(0,u "tokCount"),(0,.methodref 8 148),(0,.nameAndType 149 150),(0,u "compileChecked"),(0,u "(I)I"),(0,.methodref 8 152),(0,.nameAndType 153 154),(0,u "parseAll"),(0,u "()Z"),(0,.fieldref 8 156),(0,.nameAndType 157 109),(0,u "sExprs"),(0,.fieldref 8 159),(0,.nameAndType 160 109),(0,u "sMaxNeed"),(0,.methodref 8 162),(0,.nameAndType 163 164),(0,u "storeAgent"),(0,u "(I)V"),(0,.methodref 8 166),(0,.nameAndType 167 6),(0,u "resetScratch"),(0,.fieldref 8 169),(0,.nameAndType 170 140),(0,u "sExpectOperand"),(0,.methodref 8 172),(0,.nameAndType 173 133),(0,u "parseOperand"),(0,.methodref 8 175),(0,.nameAndType 176 177),(0,u "parseOperator"),(0,u "(I)Z"),(0,.methodref 8 179),(0,.nameAndType 180 154),(0,u "finishSource"),(0,.fieldref 8 182),(0,.nameAndType 183 109),(0,u "sLen"),(0,.fieldref 8 185),(0,.nameAndType 186 109),(0,u "sCurStart"),(0,.fieldref 8 188),(0,.nameAndType 189 109),(0,u "opTop"),(0,.fieldref 8 191),(0,.nameAndType 192 109),(0,u "needTop"),(0,.methodref 8 194),(0,.nameAndType 195 177),(0,u "pushNeed"),(0,.methodref 8 197),(0,.nameAndType 198 133),(0,u "emit"),(0,.methodref 8 200),(0,.nameAndType 201 177),(0,u "isUnary"),(0,.methodref 8 203),(0,.nameAndType 204 133),(0,u "pushOp"),(3,.methodref 8 209),(0,.nameAndType 210 154),(0,u "endOfExpr"),(0,.methodref 8 212),(0,.nameAndType 213 177),(0,u "isBinary"),(0,.methodref 8 215),(0,.nameAndType 216 177),(0,u "binaryOperator"),(0,.methodref 8 218),(0,.nameAndType 219 150),(0,u "precedence"),(0,.methodref 8 221),(0,.nameAndType 222 177),(0,u "reduceWhile"),(0,.methodref 8 224),(0,.nameAndType 225 133),(0,u "reduceOne"),(0,.methodref 8 227),(0,.nameAndType 228 154),(0,u "combineNeed"),(0,.methodref 8 230),(0,.nameAndType 231 154),(0,u "closeExpr"),(0,.methodref 8 233),(0,.nameAndType 234 150),(0,u "slotAt"),(0,.fieldref 8 236),(0,.nameAndType 237 109),(0,u "stepsDone"),(0,.methodref 8 239),(0,.nameAndType 240 150),(0,u "runLoop"),(0,.methodref 8 242),(0,.nameAndType 243 244),(0,u "oneStep"),(0,u "()I"),(0,.methodref 8 246),(0,.nameAndType 247 248),(0,u "agentHit"),(0,u "(II)I"),(0,.methodref 8 250),(0,.nameAndType 251 164),(0,u "execute"),(0,.methodref 8 253),(0,.nameAndType 254 255),(0,u "executeData"),(0,u "(III)V"),(0,.methodref 8 257),(0,.nameAndType 258 248),(0,u "evalExpr"),(0,.fieldref 8 260),(0,.nameAndType 261 109),(0,u "evErr"),(0,.methodref 8 263),(0,.nameAndType 264 265),(0,u "buildFrame"),(0,u "(II)V"),(0,.methodref 8 267),(0,.nameAndType 268 154),(0,u "storeFrame"),(0,.fieldref 8 270),(0,.nameAndType 271 109),(0,u "frameSeq"),(0,.fieldref 8 273),(0,.nameAndType 274 109),(0,u "pendAddr"),(0,.fieldref 8 276),(0,.nameAndType 277 109),(0,u "pendSlot"),(0,.fieldref 8 279),(0,.nameAndType 280 109),(0,u "pendCount"),(0,.fieldref 8 282),(0,.nameAndType 283 109),(0,u "pendMask"),(0,.fieldref 8 285),(0,.nameAndType 286 109),(0,u "pendSeq"),(0,.fieldref 8 288),(0,.nameAndType 289 109),(0,u "frHeld"),(0,.fieldref 8 291),(0,.nameAndType 292 109),(0,u "frHead"),(0,.methodref 8 294),(0,.nameAndType 295 164),(0,u "writePending"),(0,.fieldref 8 297),(0,.nameAndType 298 109),(0,u "dropped"),(3,.fieldref 8 303),(0,.nameAndType 304 109),(0,u "evSp"),(0,.methodref 8 306),(0,.nameAndType 307 308),(0,u "evalStep"),(0,u "(III)I"),(0,.methodref 8 310),(0,.nameAndType 311 244),(0,u "top"),(0,.methodref 8 313),(0,.nameAndType 314 164),(0,u "push"),(6,.methodref 8 322),(0,.nameAndType 323 164),(0,u "unaryStep"),(0,.methodref 8 325),(0,.nameAndType 326 164),(0,u "binaryStep"),(0,.methodref 8 328),(0,.nameAndType 329 244),(0,u "pop"),(0,.methodref 8 331),(0,.nameAndType 332 248),(0,u "applyUnary"),(0,.methodref 8 334),(0,.nameAndType 335 308),(0,u "applyBinary"),(0,.methodref 8 337),(0,.nameAndType 338 308),(0,u "divide"),(0,.methodref 8 340),(0,.nameAndType 341 308),(0,u "compare"),(0,.methodref 8 343),(0,.nameAndType 344 345),(0,u "boolInt"),(0,u "(Z)I"),(0,.methodref 8 347),(0,.nameAndType 348 150),(0,u "statusMore"),(0,.methodref 8 350),(0,.nameAndType 351 248),(0,u "frameValue"),(0,u "I_HALT"),(2,u "I_SET"),(1,u "I_ADD"),(1,u "I_SUB"),(1,u "I_ADDI"),(1,u "I_LOAD"),(1,u "I_STORE"),(1,u "I_JNZ"),(1,u "T_NUM"),(0,u "T_REG"),(0,u "T_LP"),(0,u "T_RP"),(0,u "T_SEMI"),(0,u "T_NEG"),(0,u "T_NOT"),(0,u "T_AT"),(0,u "T_MUL"),(1,u "T_DIV"),(1,u "T_MOD"),(1,u "T_PLUS"),(1,u "T_MINUS"),(1,u "T_LT"),(1,u "T_LE"),(1,u "T_GT"),(1,u "T_GE"),(1,u "T_EQ"),(1,u "T_NE"),(1,u "T_AND"),(1,u "T_OR"),(1,u "C_OK"),(0,u "C_SYNTAX"),(0,u "C_TOO_MANY"),(0,u "C_TOO_DEEP"),(0,u "C_BAD_SLOT"),(0,u "EVAL_OK"),(0,u "EVAL_DIV0"),(0,u "EVAL_MEM"),(0,u "EVAL_REFUSED"),(0,u "MODE_STOP"),(0,u "MODE_TRACE"),(0,u "POLICY_RING"),(0,u "POLICY_HALT"),(0,u "STOP_REFUSED"),(1,u "STOP_STEPS"),(0,u "STOP_HALT"),(0,u "STOP_BREAK"),(0,u "STOP_FULL"),(0,u "STOP_AGENT_ERROR"),(0,u "REG_PC"),(0,u "INFO_HALTED"),(0,u "INFO_SKIP"),(0,u "INFO_STEPS"),(0,u "INFO_LAST_STOP"),(0,u "INFO_AGENT_ERROR"),(0,u "INFO_HOST_ERROR"),(0,u "INFO_FRAMES"),(0,u "INFO_DROPPED"),(0,u "INFO_TOKENS"),(0,u "INFO_CAPACITY"),(0,u "INFO_POLICY"),(0,u "INFO_SEQ"),(0,u "S_STATE"),(0,u "S_ADDR"),(0,u "S_MODE"),(0,u "S_HITS"),(0,u "S_EXPRS"),(0,u "SLOT_EMPTY"),(0,u "SLOT_COMPILED"),(0,u "SLOT_INSTALLED"),(0,u "F_ADDR"),(0,u "F_SLOT"),(0,u "F_COUNT"),(0,u "F_MASK"),(0,u "F_VAL0"),(0,u "F_VAL1"),(0,u "F_VAL2"),(0,u "F_SEQ"),(0,u "MAX_TOKENS"),(1,u "MAX_EXPRS"),(0,u "MAX_NEED"),(0,u "MAX_STEPS"),(4,u "setInstr"),(0,u "setReg"),(0,u "setMem"),(0,u "getReg"),(1,u "addToken"),(0,u "compile"),(1,u "install"),(1,u "run"),(1,u "status"),(0,u "slotInfo"),(0,u "frame")] 3
def k2c0 : Code:={ maxStack:=2,maxLocals:=5,code:=prog_1_method_1_code,exceptionTable:=#[],attributes:=#[] }
def k2m0 : Method:={ name := "<init>", desc := "(II)V", sig:={ parameters:=[.int,.int],returnType:=none },accessFlags:=1,code:=some k2c0 }
def k2c1 : Code:={ maxStack:=5,maxLocals:=5,code:=prog_1_method_2_code,exceptionTable:=#[],attributes:=#[] }
def k2m1 : Method:={ name := "setInstr", desc := "(IIII)Z", sig:={ parameters:=[.int,.int,.int,.int],returnType:=some .boolean },accessFlags:=1,code:=some k2c1 }
def k2c2 : Code:={ maxStack:=4,maxLocals:=5,code:=prog_1_method_3_code,exceptionTable:=#[],attributes:=#[] }
def k2m2 : Method:={ name := "validInstr", desc := "(IIII)Z", sig:={ parameters:=[.int,.int,.int,.int],returnType:=some .boolean },accessFlags:=2,code:=some k2c2 }
def k2c3 : Code:={ maxStack:=4,maxLocals:=3,code:=prog_1_method_4_code,exceptionTable:=#[],attributes:=#[] }
def k2m3 : Method:={ name := "validSecond", desc := "(II)Z", sig:={ parameters:=[.int,.int],returnType:=some .boolean },accessFlags:=2,code:=some k2c3 }
def k2c4 : Code:={ maxStack:=4,maxLocals:=3,code:=prog_1_method_5_code,exceptionTable:=#[],attributes:=#[] }
def k2m4 : Method:={ name := "setReg", desc := "(II)Z", sig:={ parameters:=[.int,.int],returnType:=some .boolean },accessFlags:=1,code:=some k2c4 }
def k2c5 : Code:={ maxStack:=4,maxLocals:=3,code:=prog_1_method_6_code,exceptionTable:=#[],attributes:=#[] }
def k2m5 : Method:={ name := "setMem", desc := "(II)Z", sig:={ parameters:=[.int,.int],returnType:=some .boolean },accessFlags:=1,code:=some k2c5 }
def k2c6 : Code:={ maxStack:=4,maxLocals:=2,code:=prog_1_method_7_code,exceptionTable:=#[],attributes:=#[] }
def k2m6 : Method:={ name := "getReg", desc := "(I)I", sig:={ parameters:=[.int],returnType:=some .int },accessFlags:=1,code:=some k2c6 }
def k2c7 : Code:={ maxStack:=4,maxLocals:=3,code:=prog_1_method_9_code,exceptionTable:=#[],attributes:=#[] }
def k2m7 : Method:={ name := "addToken", desc := "(II)Z", sig:={ parameters:=[.int,.int],returnType:=some .boolean },accessFlags:=1,code:=some k2c7 }
def k2c8 : Code:={ maxStack:=2,maxLocals:=3,code:=prog_1_method_10_code,exceptionTable:=#[],attributes:=#[] }
def k2m8 : Method:={ name := "compile", desc := "(I)I", sig:={ parameters:=[.int],returnType:=some .int },accessFlags:=1,code:=some k2c8 }
def k2c9 : Code:={ maxStack:=4,maxLocals:=2,code:=prog_1_method_11_code,exceptionTable:=#[],attributes:=#[] }
def k2m9 : Method:={ name := "compileChecked", desc := "(I)I", sig:={ parameters:=[.int],returnType:=some .int },accessFlags:=2,code:=some k2c9 }
def k2c10 : Code:={ maxStack:=3,maxLocals:=5,code:=prog_1_method_12_code,exceptionTable:=#[],attributes:=#[] }
def k2m10 : Method:={ name := "parseAll", desc := "()Z", sig:={ parameters:=[],returnType:=some .boolean },accessFlags:=2,code:=some k2c10 }
def k2c11 : Code:={ maxStack:=2,maxLocals:=1,code:=prog_1_method_13_code,exceptionTable:=#[],attributes:=#[] }
def k2m11 : Method:={ name := "resetScratch", desc := "()V", sig:={ parameters:=[],returnType:=none },accessFlags:=2,code:=some k2c11 }
def k2c12 : Code:={ maxStack:=3,maxLocals:=3,code:=prog_1_method_14_code,exceptionTable:=#[],attributes:=#[] }
def k2m12 : Method:={ name := "parseOperand", desc := "(II)Z", sig:={ parameters:=[.int,.int],returnType:=some .boolean },accessFlags:=2,code:=some k2c12 }
def k2c13 : Code:={ maxStack:=2,maxLocals:=2,code:=prog_1_method_15_code,exceptionTable:=#[],attributes:=#[] }
def k2m13 : Method:={ name := "parseOperator", desc := "(I)Z", sig:={ parameters:=[.int],returnType:=some .boolean },accessFlags:=2,code:=some k2c13 }
def k2c14 : Code:={ maxStack:=3,maxLocals:=4,code:=prog_1_method_16_code,exceptionTable:=#[],attributes:=#[] }
def k2m14 : Method:={ name := "binaryOperator", desc := "(I)Z", sig:={ parameters:=[.int],returnType:=some .boolean },accessFlags:=2,code:=some k2c14 }
def k2c15 : Code:={ maxStack:=4,maxLocals:=4,code:=prog_1_method_17_code,exceptionTable:=#[],attributes:=#[] }
def k2m15 : Method:={ name := "reduceWhile", desc := "(I)Z", sig:={ parameters:=[.int],returnType:=some .boolean },accessFlags:=2,code:=some k2c15 }
def k2c16 : Code:={ maxStack:=3,maxLocals:=3,code:=prog_1_method_18_code,exceptionTable:=#[],attributes:=#[] }
def k2m16 : Method:={ name := "reduceOne", desc := "(II)Z", sig:={ parameters:=[.int,.int],returnType:=some .boolean },accessFlags:=2,code:=some k2c16 }
def k2c17 : Code:={ maxStack:=2,maxLocals:=1,code:=prog_1_method_20_code,exceptionTable:=#[],attributes:=#[] }
def k2m17 : Method:={ name := "endOfExpr", desc := "()Z", sig:={ parameters:=[],returnType:=some .boolean },accessFlags:=2,code:=some k2c17 }
def k2c18 : Code:={ maxStack:=3,maxLocals:=2,code:=prog_1_method_21_code,exceptionTable:=#[],attributes:=#[] }
def k2m18 : Method:={ name := "closeExpr", desc := "()Z", sig:={ parameters:=[],returnType:=some .boolean },accessFlags:=2,code:=some k2c18 }
def k2c19 : Code:={ maxStack:=2,maxLocals:=1,code:=prog_1_method_22_code,exceptionTable:=#[],attributes:=#[] }
def k2m19 : Method:={ name := "finishSource", desc := "()Z", sig:={ parameters:=[],returnType:=some .boolean },accessFlags:=2,code:=some k2c19 }
def k2c20 : Code:={ maxStack:=4,maxLocals:=4,code:=prog_1_method_23_code,exceptionTable:=#[],attributes:=#[] }
def k2m20 : Method:={ name := "combineNeed", desc := "()Z", sig:={ parameters:=[],returnType:=some .boolean },accessFlags:=2,code:=some k2c20 }
def k2c21 : Code:={ maxStack:=3,maxLocals:=2,code:=prog_1_method_24_code,exceptionTable:=#[],attributes:=#[] }
def k2m21 : Method:={ name := "pushNeed", desc := "(I)Z", sig:={ parameters:=[.int],returnType:=some .boolean },accessFlags:=2,code:=some k2c21 }
def k2c22 : Code:={ maxStack:=3,maxLocals:=3,code:=prog_1_method_25_code,exceptionTable:=#[],attributes:=#[] }
def k2m22 : Method:={ name := "pushOp", desc := "(II)Z", sig:={ parameters:=[.int,.int],returnType:=some .boolean },accessFlags:=2,code:=some k2c22 }
def k2c23 : Code:={ maxStack:=3,maxLocals:=3,code:=prog_1_method_26_code,exceptionTable:=#[],attributes:=#[] }
def k2m23 : Method:={ name := "emit", desc := "(II)Z", sig:={ parameters:=[.int,.int],returnType:=some .boolean },accessFlags:=2,code:=some k2c23 }
def k2c24 : Code:={ maxStack:=2,maxLocals:=2,code:=prog_1_method_27_code,exceptionTable:=#[],attributes:=#[] }
def k2m24 : Method:={ name := "precedence", desc := "(I)I", sig:={ parameters:=[.int],returnType:=some .int },accessFlags:=2,code:=some k2c24 }
def k2c25 : Code:={ maxStack:=2,maxLocals:=2,code:=prog_1_method_28_code,exceptionTable:=#[],attributes:=#[] }
def k2m25 : Method:={ name := "isUnary", desc := "(I)Z", sig:={ parameters:=[.int],returnType:=some .boolean },accessFlags:=2,code:=some k2c25 }
def k2c26 : Code:={ maxStack:=2,maxLocals:=2,code:=prog_1_method_29_code,exceptionTable:=#[],attributes:=#[] }
def k2m26 : Method:={ name := "isBinary", desc := "(I)Z", sig:={ parameters:=[.int],returnType:=some .boolean },accessFlags:=2,code:=some k2c26 }
def k2c27 : Code:={ maxStack:=4,maxLocals:=5,code:=prog_1_method_30_code,exceptionTable:=#[],attributes:=#[] }
def k2m27 : Method:={ name := "storeAgent", desc := "(I)V", sig:={ parameters:=[.int],returnType:=none },accessFlags:=2,code:=some k2c27 }
def k2c28 : Code:={ maxStack:=4,maxLocals:=5,code:=prog_1_method_31_code,exceptionTable:=#[],attributes:=#[] }
def k2m28 : Method:={ name := "install", desc := "(III)Z", sig:={ parameters:=[.int,.int,.int],returnType:=some .boolean },accessFlags:=1,code:=some k2c28 }
def k2c29 : Code:={ maxStack:=2,maxLocals:=3,code:=prog_1_method_33_code,exceptionTable:=#[],attributes:=#[] }
def k2m29 : Method:={ name := "slotAt", desc := "(I)I", sig:={ parameters:=[.int],returnType:=some .int },accessFlags:=2,code:=some k2c29 }
def k2c30 : Code:={ maxStack:=2,maxLocals:=4,code:=prog_1_method_34_code,exceptionTable:=#[],attributes:=#[] }
def k2m30 : Method:={ name := "run", desc := "(I)I", sig:={ parameters:=[.int],returnType:=some .int },accessFlags:=1,code:=some k2c30 }
def k2c31 : Code:={ maxStack:=2,maxLocals:=4,code:=prog_1_method_35_code,exceptionTable:=#[],attributes:=#[] }
def k2m31 : Method:={ name := "runLoop", desc := "(I)I", sig:={ parameters:=[.int],returnType:=some .int },accessFlags:=2,code:=some k2c31 }
def k2c32 : Code:={ maxStack:=3,maxLocals:=4,code:=prog_1_method_36_code,exceptionTable:=#[],attributes:=#[] }
def k2m32 : Method:={ name := "oneStep", desc := "()I", sig:={ parameters:=[],returnType:=some .int },accessFlags:=2,code:=some k2c32 }
def k2c33 : Code:={ maxStack:=4,maxLocals:=6,code:=prog_1_method_37_code,exceptionTable:=#[],attributes:=#[] }
def k2m33 : Method:={ name := "execute", desc := "(I)V", sig:={ parameters:=[.int],returnType:=none },accessFlags:=2,code:=some k2c33 }
def k2c34 : Code:={ maxStack:=5,maxLocals:=5,code:=prog_1_method_38_code,exceptionTable:=#[],attributes:=#[] }
def k2m34 : Method:={ name := "executeData", desc := "(III)V", sig:={ parameters:=[.int,.int,.int],returnType:=none },accessFlags:=2,code:=some k2c34 }
def k2c35 : Code:={ maxStack:=4,maxLocals:=4,code:=prog_1_method_39_code,exceptionTable:=#[],attributes:=#[] }
def k2m35 : Method:={ name := "agentHit", desc := "(II)I", sig:={ parameters:=[.int,.int],returnType:=some .int },accessFlags:=2,code:=some k2c35 }
def k2c36 : Code:={ maxStack:=5,maxLocals:=6,code:=prog_1_method_40_code,exceptionTable:=#[],attributes:=#[] }
def k2m36 : Method:={ name := "buildFrame", desc := "(II)V", sig:={ parameters:=[.int,.int],returnType:=none },accessFlags:=2,code:=some k2c36 }
def k2c37 : Code:={ maxStack:=3,maxLocals:=1,code:=prog_1_method_41_code,exceptionTable:=#[],attributes:=#[] }
def k2m37 : Method:={ name := "storeFrame", desc := "()Z", sig:={ parameters:=[],returnType:=some .boolean },accessFlags:=2,code:=some k2c37 }
def k2c38 : Code:={ maxStack:=4,maxLocals:=4,code:=prog_1_method_42_code,exceptionTable:=#[],attributes:=#[] }
def k2m38 : Method:={ name := "writePending", desc := "(I)V", sig:={ parameters:=[.int],returnType:=none },accessFlags:=2,code:=some k2c38 }
def k2c39 : Code:={ maxStack:=5,maxLocals:=7,code:=prog_1_method_45_code,exceptionTable:=#[],attributes:=#[] }
def k2m39 : Method:={ name := "evalExpr", desc := "(II)I", sig:={ parameters:=[.int,.int],returnType:=some .int },accessFlags:=2,code:=some k2c39 }
def k2c40 : Code:={ maxStack:=4,maxLocals:=5,code:=prog_1_method_46_code,exceptionTable:=#[],attributes:=#[] }
def k2m40 : Method:={ name := "evalStep", desc := "(III)I", sig:={ parameters:=[.int,.int,.int],returnType:=some .int },accessFlags:=2,code:=some k2c40 }
def k2c41 : Code:={ maxStack:=3,maxLocals:=4,code:=prog_1_method_48_code,exceptionTable:=#[],attributes:=#[] }
def k2m41 : Method:={ name := "unaryStep", desc := "(I)V", sig:={ parameters:=[.int],returnType:=none },accessFlags:=2,code:=some k2c41 }
def k2c42 : Code:={ maxStack:=4,maxLocals:=5,code:=prog_1_method_49_code,exceptionTable:=#[],attributes:=#[] }
def k2m42 : Method:={ name := "binaryStep", desc := "(I)V", sig:={ parameters:=[.int],returnType:=none },accessFlags:=2,code:=some k2c42 }
def k2c43 : Code:={ maxStack:=4,maxLocals:=3,code:=prog_1_method_50_code,exceptionTable:=#[],attributes:=#[] }
def k2m43 : Method:={ name := "applyUnary", desc := "(II)I", sig:={ parameters:=[.int,.int],returnType:=some .int },accessFlags:=2,code:=some k2c43 }
def k2c44 : Code:={ maxStack:=4,maxLocals:=4,code:=prog_1_method_51_code,exceptionTable:=#[],attributes:=#[] }
def k2m44 : Method:={ name := "applyBinary", desc := "(III)I", sig:={ parameters:=[.int,.int,.int],returnType:=some .int },accessFlags:=2,code:=some k2c44 }
def k2c45 : Code:={ maxStack:=2,maxLocals:=4,code:=prog_1_method_52_code,exceptionTable:=#[],attributes:=#[] }
def k2m45 : Method:={ name := "divide", desc := "(III)I", sig:={ parameters:=[.int,.int,.int],returnType:=some .int },accessFlags:=2,code:=some k2c45 }
def k2c46 : Code:={ maxStack:=3,maxLocals:=4,code:=prog_1_method_53_code,exceptionTable:=#[],attributes:=#[] }
def k2m46 : Method:={ name := "compare", desc := "(III)I", sig:={ parameters:=[.int,.int,.int],returnType:=some .int },accessFlags:=2,code:=some k2c46 }
def k2c47 : Code:={ maxStack:=3,maxLocals:=2,code:=prog_1_method_54_code,exceptionTable:=#[],attributes:=#[] }
def k2m47 : Method:={ name := "push", desc := "(I)V", sig:={ parameters:=[.int],returnType:=none },accessFlags:=2,code:=some k2c47 }
def k2c48 : Code:={ maxStack:=3,maxLocals:=1,code:=prog_1_method_55_code,exceptionTable:=#[],attributes:=#[] }
def k2m48 : Method:={ name := "pop", desc := "()I", sig:={ parameters:=[],returnType:=some .int },accessFlags:=2,code:=some k2c48 }
def k2c49 : Code:={ maxStack:=3,maxLocals:=1,code:=prog_1_method_56_code,exceptionTable:=#[],attributes:=#[] }
def k2m49 : Method:={ name := "top", desc := "()I", sig:={ parameters:=[],returnType:=some .int },accessFlags:=2,code:=some k2c49 }
def k2c50 : Code:={ maxStack:=2,maxLocals:=2,code:=prog_1_method_58_code,exceptionTable:=#[],attributes:=#[] }
def k2m50 : Method:={ name := "status", desc := "(I)I", sig:={ parameters:=[.int],returnType:=some .int },accessFlags:=1,code:=some k2c50 }
def k2c51 : Code:={ maxStack:=2,maxLocals:=2,code:=prog_1_method_59_code,exceptionTable:=#[],attributes:=#[] }
def k2m51 : Method:={ name := "statusMore", desc := "(I)I", sig:={ parameters:=[.int],returnType:=some .int },accessFlags:=2,code:=some k2c51 }
def k2c52 : Code:={ maxStack:=4,maxLocals:=4,code:=prog_1_method_60_code,exceptionTable:=#[],attributes:=#[] }
def k2m52 : Method:={ name := "slotInfo", desc := "(II)I", sig:={ parameters:=[.int,.int],returnType:=some .int },accessFlags:=1,code:=some k2c52 }
def k2c53 : Code:={ maxStack:=3,maxLocals:=4,code:=prog_1_method_61_code,exceptionTable:=#[],attributes:=#[] }
def k2m53 : Method:={ name := "frame", desc := "(II)I", sig:={ parameters:=[.int,.int],returnType:=some .int },accessFlags:=1,code:=some k2c53 }
def k2c54 : Code:={ maxStack:=3,maxLocals:=4,code:=prog_1_method_62_code,exceptionTable:=#[],attributes:=#[] }
def k2m54 : Method:={ name := "frameValue", desc := "(II)I", sig:={ parameters:=[.int,.int],returnType:=some .int },accessFlags:=2,code:=some k2c54 }
def k2c55 : Code:={ maxStack:=2,maxLocals:=4,code:=prog_1_method_64_code,exceptionTable:=#[],attributes:=#[] }
def k2m55 : Method:={ name := "inRange", desc := "(III)Z", sig:={ parameters:=[.int,.int,.int],returnType:=some .boolean },accessFlags:=2,code:=some k2c55 }
def k2c56 : Code:={ maxStack:=1,maxLocals:=2,code:=prog_1_method_65_code,exceptionTable:=#[],attributes:=#[] }
def k2m56 : Method:={ name := "boolInt", desc := "(Z)I", sig:={ parameters:=[.boolean],returnType:=some .int },accessFlags:=2,code:=some k2c56 }
/-- AgentExprDbg -/
def k2 : Class:={ plain "AgentExprDbg" (some 0) with
  accessFlags:=49
  interfaces:=#[]
  cf:=some (fileOf pool2 8 #[] #[{ accessFlags:=1,nameIndex:=5,descriptorIndex:=265,attributes:=#[] },{ accessFlags:=1,nameIndex:=461,descriptorIndex:=125,attributes:=#[] },{ accessFlags:=2,nameIndex:=124,descriptorIndex:=125,attributes:=#[] },{ accessFlags:=2,nameIndex:=132,descriptorIndex:=133,attributes:=#[] },{ accessFlags:=1,nameIndex:=462,descriptorIndex:=133,attributes:=#[] },{ accessFlags:=1,nameIndex:=463,descriptorIndex:=133,attributes:=#[] },{ accessFlags:=1,nameIndex:=464,descriptorIndex:=150,attributes:=#[] },{ accessFlags:=1,nameIndex:=466,descriptorIndex:=133,attributes:=#[] },{ accessFlags:=1,nameIndex:=467,descriptorIndex:=150,attributes:=#[] },{ accessFlags:=2,nameIndex:=149,descriptorIndex:=150,attributes:=#[] },{ accessFlags:=2,nameIndex:=153,descriptorIndex:=154,attributes:=#[] },{ accessFlags:=2,nameIndex:=167,descriptorIndex:=6,attributes:=#[] },{ accessFlags:=2,nameIndex:=173,descriptorIndex:=133,attributes:=#[] },{ accessFlags:=2,nameIndex:=176,descriptorIndex:=177,attributes:=#[] },{ accessFlags:=2,nameIndex:=216,descriptorIndex:=177,attributes:=#[] },{ accessFlags:=2,nameIndex:=222,descriptorIndex:=177,attributes:=#[] },{ accessFlags:=2,nameIndex:=225,descriptorIndex:=133,attributes:=#[] },{ accessFlags:=2,nameIndex:=210,descriptorIndex:=154,attributes:=#[] },{ accessFlags:=2,nameIndex:=231,descriptorIndex:=154,attributes:=#[] },{ accessFlags:=2,nameIndex:=180,descriptorIndex:=154,attributes:=#[] },{ accessFlags:=2,nameIndex:=228,descriptorIndex:=154,attributes:=#[] },{ accessFlags:=2,nameIndex:=195,descriptorIndex:=177,attributes:=#[] },{ accessFlags:=2,nameIndex:=204,descriptorIndex:=133,attributes:=#[] },{ accessFlags:=2,nameIndex:=198,descriptorIndex:=133,attributes:=#[] },{ accessFlags:=2,nameIndex:=219,descriptorIndex:=150,attributes:=#[] },{ accessFlags:=2,nameIndex:=201,descriptorIndex:=177,attributes:=#[] },{ accessFlags:=2,nameIndex:=213,descriptorIndex:=177,attributes:=#[] },{ accessFlags:=2,nameIndex:=163,descriptorIndex:=164,attributes:=#[] },{ accessFlags:=1,nameIndex:=469,descriptorIndex:=129,attributes:=#[] },{ accessFlags:=2,nameIndex:=234,descriptorIndex:=150,attributes:=#[] },{ accessFlags:=1,nameIndex:=471,descriptorIndex:=150,attributes:=#[] },{ accessFlags:=2,nameIndex:=240,descriptorIndex:=150,attributes:=#[] },{ accessFlags:=2,nameIndex:=243,descriptorIndex:=244,attributes:=#[] },{ accessFlags:=2,nameIndex:=251,descriptorIndex:=164,attributes:=#[] },{ accessFlags:=2,nameIndex:=254,descriptorIndex:=255,attributes:=#[] },{ accessFlags:=2,nameIndex:=247,descriptorIndex:=248,attributes:=#[] },{ accessFlags:=2,nameIndex:=264,descriptorIndex:=265,attributes:=#[] },{ accessFlags:=2,nameIndex:=268,descriptorIndex:=154,attributes:=#[] },{ accessFlags:=2,nameIndex:=295,descriptorIndex:=164,attributes:=#[] },{ accessFlags:=2,nameIndex:=258,descriptorIndex:=248,attributes:=#[] },{ accessFlags:=2,nameIndex:=307,descriptorIndex:=308,attributes:=#[] },{ accessFlags:=2,nameIndex:=323,descriptorIndex:=164,attributes:=#[] },{ accessFlags:=2,nameIndex:=326,descriptorIndex:=164,attributes:=#[] },{ accessFlags:=2,nameIndex:=332,descriptorIndex:=248,attributes:=#[] },{ accessFlags:=2,nameIndex:=335,descriptorIndex:=308,attributes:=#[] },{ accessFlags:=2,nameIndex:=338,descriptorIndex:=308,attributes:=#[] },{ accessFlags:=2,nameIndex:=341,descriptorIndex:=308,attributes:=#[] },{ accessFlags:=2,nameIndex:=314,descriptorIndex:=164,attributes:=#[] },{ accessFlags:=2,nameIndex:=329,descriptorIndex:=244,attributes:=#[] },{ accessFlags:=2,nameIndex:=311,descriptorIndex:=244,attributes:=#[] },{ accessFlags:=1,nameIndex:=473,descriptorIndex:=150,attributes:=#[] },{ accessFlags:=2,nameIndex:=348,descriptorIndex:=150,attributes:=#[] },{ accessFlags:=1,nameIndex:=474,descriptorIndex:=248,attributes:=#[] },{ accessFlags:=1,nameIndex:=475,descriptorIndex:=248,attributes:=#[] },{ accessFlags:=2,nameIndex:=351,descriptorIndex:=248,attributes:=#[] },{ accessFlags:=2,nameIndex:=128,descriptorIndex:=129,attributes:=#[] },{ accessFlags:=2,nameIndex:=344,descriptorIndex:=345,attributes:=#[] }] 49 2 #[] #[{ accessFlags:=25,nameIndex:=352,descriptorIndex:=109,attributes:=#[] },{ accessFlags:=25,nameIndex:=355,descriptorIndex:=109,attributes:=#[] },{ accessFlags:=25,nameIndex:=357,descriptorIndex:=109,attributes:=#[] },{ accessFlags:=25,nameIndex:=359,descriptorIndex:=109,attributes:=#[] },{ accessFlags:=25,nameIndex:=361,descriptorIndex:=109,attributes:=#[] },{ accessFlags:=25,nameIndex:=363,descriptorIndex:=109,attributes:=#[] },{ accessFlags:=25,nameIndex:=365,descriptorIndex:=109,attributes:=#[] },{ accessFlags:=25,nameIndex:=367,descriptorIndex:=109,attributes:=#[] },{ accessFlags:=25,nameIndex:=369,descriptorIndex:=109,attributes:=#[] },{ accessFlags:=25,nameIndex:=370,descriptorIndex:=109,attributes:=#[] },{ accessFlags:=25,nameIndex:=371,descriptorIndex:=109,attributes:=#[] },{ accessFlags:=25,nameIndex:=372,descriptorIndex:=109,attributes:=#[] },{ accessFlags:=25,nameIndex:=373,descriptorIndex:=109,attributes:=#[] },{ accessFlags:=25,nameIndex:=374,descriptorIndex:=109,attributes:=#[] },{ accessFlags:=25,nameIndex:=375,descriptorIndex:=109,attributes:=#[] },{ accessFlags:=25,nameIndex:=376,descriptorIndex:=109,attributes:=#[] },{ accessFlags:=25,nameIndex:=377,descriptorIndex:=109,attributes:=#[] },{ accessFlags:=25,nameIndex:=379,descriptorIndex:=109,attributes:=#[] },{ accessFlags:=25,nameIndex:=381,descriptorIndex:=109,attributes:=#[] },{ accessFlags:=25,nameIndex:=383,descriptorIndex:=109,attributes:=#[] },{ accessFlags:=25,nameIndex:=385,descriptorIndex:=109,attributes:=#[] },{ accessFlags:=25,nameIndex:=387,descriptorIndex:=109,attributes:=#[] },{ accessFlags:=25,nameIndex:=389,descriptorIndex:=109,attributes:=#[] },{ accessFlags:=25,nameIndex:=391,descriptorIndex:=109,attributes:=#[] },{ accessFlags:=25,nameIndex:=393,descriptorIndex:=109,attributes:=#[] },{ accessFlags:=25,nameIndex:=395,descriptorIndex:=109,attributes:=#[] },{ accessFlags:=25,nameIndex:=397,descriptorIndex:=109,attributes:=#[] },{ accessFlags:=25,nameIndex:=399,descriptorIndex:=109,attributes:=#[] },{ accessFlags:=25,nameIndex:=401,descriptorIndex:=109,attributes:=#[] },{ accessFlags:=25,nameIndex:=403,descriptorIndex:=109,attributes:=#[] },{ accessFlags:=25,nameIndex:=404,descriptorIndex:=109,attributes:=#[] },{ accessFlags:=25,nameIndex:=405,descriptorIndex:=109,attributes:=#[] },{ accessFlags:=25,nameIndex:=406,descriptorIndex:=109,attributes:=#[] },{ accessFlags:=25,nameIndex:=407,descriptorIndex:=109,attributes:=#[] },{ accessFlags:=25,nameIndex:=408,descriptorIndex:=109,attributes:=#[] },{ accessFlags:=25,nameIndex:=409,descriptorIndex:=109,attributes:=#[] },{ accessFlags:=25,nameIndex:=410,descriptorIndex:=109,attributes:=#[] },{ accessFlags:=25,nameIndex:=411,descriptorIndex:=109,attributes:=#[] },{ accessFlags:=25,nameIndex:=412,descriptorIndex:=109,attributes:=#[] },{ accessFlags:=25,nameIndex:=413,descriptorIndex:=109,attributes:=#[] },{ accessFlags:=25,nameIndex:=414,descriptorIndex:=109,attributes:=#[] },{ accessFlags:=25,nameIndex:=415,descriptorIndex:=109,attributes:=#[] },{ accessFlags:=25,nameIndex:=416,descriptorIndex:=109,attributes:=#[] },{ accessFlags:=25,nameIndex:=418,descriptorIndex:=109,attributes:=#[] },{ accessFlags:=25,nameIndex:=419,descriptorIndex:=109,attributes:=#[] },{ accessFlags:=25,nameIndex:=420,descriptorIndex:=109,attributes:=#[] },{ accessFlags:=25,nameIndex:=421,descriptorIndex:=109,attributes:=#[] },{ accessFlags:=25,nameIndex:=422,descriptorIndex:=109,attributes:=#[] },{ accessFlags:=25,nameIndex:=423,descriptorIndex:=109,attributes:=#[] },{ accessFlags:=25,nameIndex:=424,descriptorIndex:=109,attributes:=#[] },{ accessFlags:=25,nameIndex:=425,descriptorIndex:=109,attributes:=#[] },{ accessFlags:=25,nameIndex:=426,descriptorIndex:=109,attributes:=#[] },{ accessFlags:=25,nameIndex:=427,descriptorIndex:=109,attributes:=#[] },{ accessFlags:=25,nameIndex:=428,descriptorIndex:=109,attributes:=#[] },{ accessFlags:=25,nameIndex:=429,descriptorIndex:=109,attributes:=#[] },{ accessFlags:=25,nameIndex:=430,descriptorIndex:=109,attributes:=#[] },{ accessFlags:=25,nameIndex:=431,descriptorIndex:=109,attributes:=#[] },{ accessFlags:=25,nameIndex:=432,descriptorIndex:=109,attributes:=#[] },{ accessFlags:=25,nameIndex:=433,descriptorIndex:=109,attributes:=#[] },{ accessFlags:=25,nameIndex:=434,descriptorIndex:=109,attributes:=#[] },{ accessFlags:=25,nameIndex:=435,descriptorIndex:=109,attributes:=#[] },{ accessFlags:=25,nameIndex:=436,descriptorIndex:=109,attributes:=#[] },{ accessFlags:=25,nameIndex:=437,descriptorIndex:=109,attributes:=#[] },{ accessFlags:=25,nameIndex:=438,descriptorIndex:=109,attributes:=#[] },{ accessFlags:=25,nameIndex:=439,descriptorIndex:=109,attributes:=#[] },{ accessFlags:=25,nameIndex:=440,descriptorIndex:=109,attributes:=#[] },{ accessFlags:=25,nameIndex:=441,descriptorIndex:=109,attributes:=#[] },{ accessFlags:=25,nameIndex:=442,descriptorIndex:=109,attributes:=#[] },{ accessFlags:=25,nameIndex:=443,descriptorIndex:=109,attributes:=#[] },{ accessFlags:=25,nameIndex:=444,descriptorIndex:=109,attributes:=#[] },{ accessFlags:=25,nameIndex:=445,descriptorIndex:=109,attributes:=#[] },{ accessFlags:=25,nameIndex:=446,descriptorIndex:=109,attributes:=#[] },{ accessFlags:=25,nameIndex:=447,descriptorIndex:=109,attributes:=#[] },{ accessFlags:=25,nameIndex:=448,descriptorIndex:=109,attributes:=#[] },{ accessFlags:=25,nameIndex:=449,descriptorIndex:=109,attributes:=#[] },{ accessFlags:=25,nameIndex:=450,descriptorIndex:=109,attributes:=#[] },{ accessFlags:=25,nameIndex:=451,descriptorIndex:=109,attributes:=#[] },{ accessFlags:=25,nameIndex:=452,descriptorIndex:=109,attributes:=#[] },{ accessFlags:=25,nameIndex:=454,descriptorIndex:=109,attributes:=#[] },{ accessFlags:=25,nameIndex:=455,descriptorIndex:=109,attributes:=#[] },{ accessFlags:=25,nameIndex:=456,descriptorIndex:=109,attributes:=#[] },{ accessFlags:=2,nameIndex:=11,descriptorIndex:=12,attributes:=#[] },{ accessFlags:=2,nameIndex:=15,descriptorIndex:=12,attributes:=#[] },{ accessFlags:=2,nameIndex:=18,descriptorIndex:=12,attributes:=#[] },{ accessFlags:=2,nameIndex:=21,descriptorIndex:=12,attributes:=#[] },{ accessFlags:=2,nameIndex:=24,descriptorIndex:=12,attributes:=#[] },{ accessFlags:=2,nameIndex:=136,descriptorIndex:=109,attributes:=#[] },{ accessFlags:=2,nameIndex:=139,descriptorIndex:=140,attributes:=#[] },{ accessFlags:=2,nameIndex:=143,descriptorIndex:=140,attributes:=#[] },{ accessFlags:=2,nameIndex:=237,descriptorIndex:=109,attributes:=#[] },{ accessFlags:=2,nameIndex:=115,descriptorIndex:=109,attributes:=#[] },{ accessFlags:=2,nameIndex:=118,descriptorIndex:=109,attributes:=#[] },{ accessFlags:=2,nameIndex:=121,descriptorIndex:=109,attributes:=#[] },{ accessFlags:=2,nameIndex:=27,descriptorIndex:=12,attributes:=#[] },{ accessFlags:=2,nameIndex:=30,descriptorIndex:=12,attributes:=#[] },{ accessFlags:=2,nameIndex:=146,descriptorIndex:=109,attributes:=#[] },{ accessFlags:=2,nameIndex:=33,descriptorIndex:=12,attributes:=#[] },{ accessFlags:=2,nameIndex:=36,descriptorIndex:=12,attributes:=#[] },{ accessFlags:=2,nameIndex:=39,descriptorIndex:=12,attributes:=#[] },{ accessFlags:=2,nameIndex:=42,descriptorIndex:=12,attributes:=#[] },{ accessFlags:=2,nameIndex:=45,descriptorIndex:=12,attributes:=#[] },{ accessFlags:=2,nameIndex:=48,descriptorIndex:=12,attributes:=#[] },{ accessFlags:=2,nameIndex:=51,descriptorIndex:=12,attributes:=#[] },{ accessFlags:=2,nameIndex:=54,descriptorIndex:=12,attributes:=#[] },{ accessFlags:=2,nameIndex:=57,descriptorIndex:=12,attributes:=#[] },{ accessFlags:=2,nameIndex:=60,descriptorIndex:=12,attributes:=#[] },{ accessFlags:=2,nameIndex:=63,descriptorIndex:=12,attributes:=#[] },{ accessFlags:=2,nameIndex:=66,descriptorIndex:=12,attributes:=#[] },{ accessFlags:=2,nameIndex:=183,descriptorIndex:=109,attributes:=#[] },{ accessFlags:=2,nameIndex:=69,descriptorIndex:=12,attributes:=#[] },{ accessFlags:=2,nameIndex:=72,descriptorIndex:=12,attributes:=#[] },{ accessFlags:=2,nameIndex:=157,descriptorIndex:=109,attributes:=#[] },{ accessFlags:=2,nameIndex:=186,descriptorIndex:=109,attributes:=#[] },{ accessFlags:=2,nameIndex:=160,descriptorIndex:=109,attributes:=#[] },{ accessFlags:=2,nameIndex:=170,descriptorIndex:=140,attributes:=#[] },{ accessFlags:=2,nameIndex:=75,descriptorIndex:=12,attributes:=#[] },{ accessFlags:=2,nameIndex:=78,descriptorIndex:=12,attributes:=#[] },{ accessFlags:=2,nameIndex:=189,descriptorIndex:=109,attributes:=#[] },{ accessFlags:=2,nameIndex:=81,descriptorIndex:=12,attributes:=#[] },{ accessFlags:=2,nameIndex:=192,descriptorIndex:=109,attributes:=#[] },{ accessFlags:=2,nameIndex:=84,descriptorIndex:=12,attributes:=#[] },{ accessFlags:=2,nameIndex:=304,descriptorIndex:=109,attributes:=#[] },{ accessFlags:=2,nameIndex:=261,descriptorIndex:=109,attributes:=#[] },{ accessFlags:=2,nameIndex:=108,descriptorIndex:=109,attributes:=#[] },{ accessFlags:=2,nameIndex:=112,descriptorIndex:=109,attributes:=#[] },{ accessFlags:=2,nameIndex:=87,descriptorIndex:=12,attributes:=#[] },{ accessFlags:=2,nameIndex:=90,descriptorIndex:=12,attributes:=#[] },{ accessFlags:=2,nameIndex:=93,descriptorIndex:=12,attributes:=#[] },{ accessFlags:=2,nameIndex:=96,descriptorIndex:=12,attributes:=#[] },{ accessFlags:=2,nameIndex:=99,descriptorIndex:=12,attributes:=#[] },{ accessFlags:=2,nameIndex:=102,descriptorIndex:=12,attributes:=#[] },{ accessFlags:=2,nameIndex:=292,descriptorIndex:=109,attributes:=#[] },{ accessFlags:=2,nameIndex:=289,descriptorIndex:=109,attributes:=#[] },{ accessFlags:=2,nameIndex:=298,descriptorIndex:=109,attributes:=#[] },{ accessFlags:=2,nameIndex:=271,descriptorIndex:=109,attributes:=#[] },{ accessFlags:=2,nameIndex:=274,descriptorIndex:=109,attributes:=#[] },{ accessFlags:=2,nameIndex:=277,descriptorIndex:=109,attributes:=#[] },{ accessFlags:=2,nameIndex:=280,descriptorIndex:=109,attributes:=#[] },{ accessFlags:=2,nameIndex:=283,descriptorIndex:=109,attributes:=#[] },{ accessFlags:=2,nameIndex:=286,descriptorIndex:=109,attributes:=#[] },{ accessFlags:=2,nameIndex:=105,descriptorIndex:=12,attributes:=#[] }])
  fields:=#[{ name := "I_HALT", type:=.int,accessFlags:=25,slot:=0,constantValue:=0 },{ name := "I_SET", type:=.int,accessFlags:=25,slot:=1,constantValue:=0 },{ name := "I_ADD", type:=.int,accessFlags:=25,slot:=2,constantValue:=0 },{ name := "I_SUB", type:=.int,accessFlags:=25,slot:=3,constantValue:=0 },{ name := "I_ADDI", type:=.int,accessFlags:=25,slot:=4,constantValue:=0 },{ name := "I_LOAD", type:=.int,accessFlags:=25,slot:=5,constantValue:=0 },{ name := "I_STORE", type:=.int,accessFlags:=25,slot:=6,constantValue:=0 },{ name := "I_JNZ", type:=.int,accessFlags:=25,slot:=7,constantValue:=0 },{ name := "T_NUM", type:=.int,accessFlags:=25,slot:=8,constantValue:=0 },{ name := "T_REG", type:=.int,accessFlags:=25,slot:=9,constantValue:=0 },{ name := "T_LP", type:=.int,accessFlags:=25,slot:=10,constantValue:=0 },{ name := "T_RP", type:=.int,accessFlags:=25,slot:=11,constantValue:=0 },{ name := "T_SEMI", type:=.int,accessFlags:=25,slot:=12,constantValue:=0 },{ name := "T_NEG", type:=.int,accessFlags:=25,slot:=13,constantValue:=0 },{ name := "T_NOT", type:=.int,accessFlags:=25,slot:=14,constantValue:=0 },{ name := "T_AT", type:=.int,accessFlags:=25,slot:=15,constantValue:=0 },{ name := "T_MUL", type:=.int,accessFlags:=25,slot:=16,constantValue:=0 },{ name := "T_DIV", type:=.int,accessFlags:=25,slot:=17,constantValue:=0 },{ name := "T_MOD", type:=.int,accessFlags:=25,slot:=18,constantValue:=0 },{ name := "T_PLUS", type:=.int,accessFlags:=25,slot:=19,constantValue:=0 },{ name := "T_MINUS", type:=.int,accessFlags:=25,slot:=20,constantValue:=0 },{ name := "T_LT", type:=.int,accessFlags:=25,slot:=21,constantValue:=0 },{ name := "T_LE", type:=.int,accessFlags:=25,slot:=22,constantValue:=0 },{ name := "T_GT", type:=.int,accessFlags:=25,slot:=23,constantValue:=0 },{ name := "T_GE", type:=.int,accessFlags:=25,slot:=24,constantValue:=0 },{ name := "T_EQ", type:=.int,accessFlags:=25,slot:=25,constantValue:=0 },{ name := "T_NE", type:=.int,accessFlags:=25,slot:=26,constantValue:=0 },{ name := "T_AND", type:=.int,accessFlags:=25,slot:=27,constantValue:=0 },{ name := "T_OR", type:=.int,accessFlags:=25,slot:=28,constantValue:=0 },{ name := "C_OK", type:=.int,accessFlags:=25,slot:=29,constantValue:=0 },{ name := "C_SYNTAX", type:=.int,accessFlags:=25,slot:=30,constantValue:=0 },{ name := "C_TOO_MANY", type:=.int,accessFlags:=25,slot:=31,constantValue:=0 },{ name := "C_TOO_DEEP", type:=.int,accessFlags:=25,slot:=32,constantValue:=0 },{ name := "C_BAD_SLOT", type:=.int,accessFlags:=25,slot:=33,constantValue:=0 },{ name := "EVAL_OK", type:=.int,accessFlags:=25,slot:=34,constantValue:=0 },{ name := "EVAL_DIV0", type:=.int,accessFlags:=25,slot:=35,constantValue:=0 },{ name := "EVAL_MEM", type:=.int,accessFlags:=25,slot:=36,constantValue:=0 },{ name := "EVAL_REFUSED", type:=.int,accessFlags:=25,slot:=37,constantValue:=0 },{ name := "MODE_STOP", type:=.int,accessFlags:=25,slot:=38,constantValue:=0 },{ name := "MODE_TRACE", type:=.int,accessFlags:=25,slot:=39,constantValue:=0 },{ name := "POLICY_RING", type:=.int,accessFlags:=25,slot:=40,constantValue:=0 },{ name := "POLICY_HALT", type:=.int,accessFlags:=25,slot:=41,constantValue:=0 },{ name := "STOP_REFUSED", type:=.int,accessFlags:=25,slot:=42,constantValue:=0 },{ name := "STOP_STEPS", type:=.int,accessFlags:=25,slot:=43,constantValue:=0 },{ name := "STOP_HALT", type:=.int,accessFlags:=25,slot:=44,constantValue:=0 },{ name := "STOP_BREAK", type:=.int,accessFlags:=25,slot:=45,constantValue:=0 },{ name := "STOP_FULL", type:=.int,accessFlags:=25,slot:=46,constantValue:=0 },{ name := "STOP_AGENT_ERROR", type:=.int,accessFlags:=25,slot:=47,constantValue:=0 },{ name := "REG_PC", type:=.int,accessFlags:=25,slot:=48,constantValue:=0 },{ name := "INFO_HALTED", type:=.int,accessFlags:=25,slot:=49,constantValue:=0 },{ name := "INFO_SKIP", type:=.int,accessFlags:=25,slot:=50,constantValue:=0 },{ name := "INFO_STEPS", type:=.int,accessFlags:=25,slot:=51,constantValue:=0 },{ name := "INFO_LAST_STOP", type:=.int,accessFlags:=25,slot:=52,constantValue:=0 },{ name := "INFO_AGENT_ERROR", type:=.int,accessFlags:=25,slot:=53,constantValue:=0 },{ name := "INFO_HOST_ERROR", type:=.int,accessFlags:=25,slot:=54,constantValue:=0 },{ name := "INFO_FRAMES", type:=.int,accessFlags:=25,slot:=55,constantValue:=0 },{ name := "INFO_DROPPED", type:=.int,accessFlags:=25,slot:=56,constantValue:=0 },{ name := "INFO_TOKENS", type:=.int,accessFlags:=25,slot:=57,constantValue:=0 },{ name := "INFO_CAPACITY", type:=.int,accessFlags:=25,slot:=58,constantValue:=0 },{ name := "INFO_POLICY", type:=.int,accessFlags:=25,slot:=59,constantValue:=0 },{ name := "INFO_SEQ", type:=.int,accessFlags:=25,slot:=60,constantValue:=0 },{ name := "S_STATE", type:=.int,accessFlags:=25,slot:=61,constantValue:=0 },{ name := "S_ADDR", type:=.int,accessFlags:=25,slot:=62,constantValue:=0 },{ name := "S_MODE", type:=.int,accessFlags:=25,slot:=63,constantValue:=0 },{ name := "S_HITS", type:=.int,accessFlags:=25,slot:=64,constantValue:=0 },{ name := "S_EXPRS", type:=.int,accessFlags:=25,slot:=65,constantValue:=0 },{ name := "SLOT_EMPTY", type:=.int,accessFlags:=25,slot:=66,constantValue:=0 },{ name := "SLOT_COMPILED", type:=.int,accessFlags:=25,slot:=67,constantValue:=0 },{ name := "SLOT_INSTALLED", type:=.int,accessFlags:=25,slot:=68,constantValue:=0 },{ name := "F_ADDR", type:=.int,accessFlags:=25,slot:=69,constantValue:=0 },{ name := "F_SLOT", type:=.int,accessFlags:=25,slot:=70,constantValue:=0 },{ name := "F_COUNT", type:=.int,accessFlags:=25,slot:=71,constantValue:=0 },{ name := "F_MASK", type:=.int,accessFlags:=25,slot:=72,constantValue:=0 },{ name := "F_VAL0", type:=.int,accessFlags:=25,slot:=73,constantValue:=0 },{ name := "F_VAL1", type:=.int,accessFlags:=25,slot:=74,constantValue:=0 },{ name := "F_VAL2", type:=.int,accessFlags:=25,slot:=75,constantValue:=0 },{ name := "F_SEQ", type:=.int,accessFlags:=25,slot:=76,constantValue:=0 },{ name := "MAX_TOKENS", type:=.int,accessFlags:=25,slot:=77,constantValue:=0 },{ name := "MAX_EXPRS", type:=.int,accessFlags:=25,slot:=78,constantValue:=0 },{ name := "MAX_NEED", type:=.int,accessFlags:=25,slot:=79,constantValue:=0 },{ name := "MAX_STEPS", type:=.int,accessFlags:=25,slot:=80,constantValue:=0 },{ name := "reg", type:=(.array .int),accessFlags:=2,slot:=0,constantValue:=0 },{ name := "mem", type:=(.array .int),accessFlags:=2,slot:=1,constantValue:=0 },{ name := "progOp", type:=(.array .int),accessFlags:=2,slot:=2,constantValue:=0 },{ name := "progA", type:=(.array .int),accessFlags:=2,slot:=3,constantValue:=0 },{ name := "progB", type:=(.array .int),accessFlags:=2,slot:=4,constantValue:=0 },{ name := "pc", type:=.int,accessFlags:=2,slot:=5,constantValue:=0 },{ name := "halted", type:=.boolean,accessFlags:=2,slot:=6,constantValue:=0 },{ name := "skip", type:=.boolean,accessFlags:=2,slot:=7,constantValue:=0 },{ name := "stepsDone", type:=.int,accessFlags:=2,slot:=8,constantValue:=0 },{ name := "lastStop", type:=.int,accessFlags:=2,slot:=9,constantValue:=0 },{ name := "agentErr", type:=.int,accessFlags:=2,slot:=10,constantValue:=0 },{ name := "hostErr", type:=.int,accessFlags:=2,slot:=11,constantValue:=0 },{ name := "tokKind", type:=(.array .int),accessFlags:=2,slot:=12,constantValue:=0 },{ name := "tokVal", type:=(.array .int),accessFlags:=2,slot:=13,constantValue:=0 },{ name := "tokCount", type:=.int,accessFlags:=2,slot:=14,constantValue:=0 },{ name := "slotState", type:=(.array .int),accessFlags:=2,slot:=15,constantValue:=0 },{ name := "slotAddr", type:=(.array .int),accessFlags:=2,slot:=16,constantValue:=0 },{ name := "slotMode", type:=(.array .int),accessFlags:=2,slot:=17,constantValue:=0 },{ name := "slotHits", type:=(.array .int),accessFlags:=2,slot:=18,constantValue:=0 },{ name := "slotExprs", type:=(.array .int),accessFlags:=2,slot:=19,constantValue:=0 },{ name := "slotLen", type:=(.array .int),accessFlags:=2,slot:=20,constantValue:=0 },{ name := "codeOp", type:=(.array .int),accessFlags:=2,slot:=21,constantValue:=0 },{ name := "codeArg", type:=(.array .int),accessFlags:=2,slot:=22,constantValue:=0 },{ name := "exprStart", type:=(.array .int),accessFlags:=2,slot:=23,constantValue:=0 },{ name := "exprEnd", type:=(.array .int),accessFlags:=2,slot:=24,constantValue:=0 },{ name := "sOp", type:=(.array .int),accessFlags:=2,slot:=25,constantValue:=0 },{ name := "sArg", type:=(.array .int),accessFlags:=2,slot:=26,constantValue:=0 },{ name := "sLen", type:=.int,accessFlags:=2,slot:=27,constantValue:=0 },{ name := "sStart", type:=(.array .int),accessFlags:=2,slot:=28,constantValue:=0 },{ name := "sEnd", type:=(.array .int),accessFlags:=2,slot:=29,constantValue:=0 },{ name := "sExprs", type:=.int,accessFlags:=2,slot:=30,constantValue:=0 },{ name := "sCurStart", type:=.int,accessFlags:=2,slot:=31,constantValue:=0 },{ name := "sMaxNeed", type:=.int,accessFlags:=2,slot:=32,constantValue:=0 },{ name := "sExpectOperand", type:=.boolean,accessFlags:=2,slot:=33,constantValue:=0 },{ name := "opKind", type:=(.array .int),accessFlags:=2,slot:=34,constantValue:=0 },{ name := "opAux", type:=(.array .int),accessFlags:=2,slot:=35,constantValue:=0 },{ name := "opTop", type:=.int,accessFlags:=2,slot:=36,constantValue:=0 },{ name := "needStk", type:=(.array .int),accessFlags:=2,slot:=37,constantValue:=0 },{ name := "needTop", type:=.int,accessFlags:=2,slot:=38,constantValue:=0 },{ name := "evStk", type:=(.array .int),accessFlags:=2,slot:=39,constantValue:=0 },{ name := "evSp", type:=.int,accessFlags:=2,slot:=40,constantValue:=0 },{ name := "evErr", type:=.int,accessFlags:=2,slot:=41,constantValue:=0 },{ name := "capacity", type:=.int,accessFlags:=2,slot:=42,constantValue:=0 },{ name := "policy", type:=.int,accessFlags:=2,slot:=43,constantValue:=0 },{ name := "frAddr", type:=(.array .int),accessFlags:=2,slot:=44,constantValue:=0 },{ name := "frSlot", type:=(.array .int),accessFlags:=2,slot:=45,constantValue:=0 },{ name := "frCnt", type:=(.array .int),accessFlags:=2,slot:=46,constantValue:=0 },{ name := "frMask", type:=(.array .int),accessFlags:=2,slot:=47,constantValue:=0 },{ name := "frSeq", type:=(.array .int),accessFlags:=2,slot:=48,constantValue:=0 },{ name := "frVal", type:=(.array .int),accessFlags:=2,slot:=49,constantValue:=0 },{ name := "frHead", type:=.int,accessFlags:=2,slot:=50,constantValue:=0 },{ name := "frHeld", type:=.int,accessFlags:=2,slot:=51,constantValue:=0 },{ name := "dropped", type:=.int,accessFlags:=2,slot:=52,constantValue:=0 },{ name := "frameSeq", type:=.int,accessFlags:=2,slot:=53,constantValue:=0 },{ name := "pendAddr", type:=.int,accessFlags:=2,slot:=54,constantValue:=0 },{ name := "pendSlot", type:=.int,accessFlags:=2,slot:=55,constantValue:=0 },{ name := "pendCount", type:=.int,accessFlags:=2,slot:=56,constantValue:=0 },{ name := "pendMask", type:=.int,accessFlags:=2,slot:=57,constantValue:=0 },{ name := "pendSeq", type:=.int,accessFlags:=2,slot:=58,constantValue:=0 },{ name := "pendVal", type:=(.array .int),accessFlags:=2,slot:=59,constantValue:=0 }]
  methods:=#[k2m0,k2m1,k2m2,k2m3,k2m4,k2m5,k2m6,k2m7,k2m8,k2m9,k2m10,k2m11,k2m12,k2m13,k2m14,k2m15,k2m16,k2m17,k2m18,k2m19,k2m20,k2m21,k2m22,k2m23,k2m24,k2m25,k2m26,k2m27,k2m28,k2m29,k2m30,k2m31,k2m32,k2m33,k2m34,k2m35,k2m36,k2m37,k2m38,k2m39,k2m40,k2m41,k2m42,k2m43,k2m44,k2m45,k2m46,k2m47,k2m48,k2m49,k2m50,k2m51,k2m52,k2m53,k2m54,k2m55,k2m56]
  instanceTypes:=#[(.array .int),(.array .int),(.array .int),(.array .int),(.array .int),.int,.boolean,.boolean,.int,.int,.int,.int,(.array .int),(.array .int),.int,(.array .int),(.array .int),(.array .int),(.array .int),(.array .int),(.array .int),(.array .int),(.array .int),(.array .int),(.array .int),(.array .int),(.array .int),.int,(.array .int),(.array .int),.int,.int,.int,.boolean,(.array .int),(.array .int),.int,(.array .int),.int,(.array .int),.int,.int,.int,.int,(.array .int),(.array .int),(.array .int),(.array .int),(.array .int),(.array .int),.int,.int,.int,.int,.int,.int,.int,.int,.int,(.array .int)]
  staticTypes:=#[.int,.int,.int,.int,.int,.int,.int,.int,.int,.int,.int,.int,.int,.int,.int,.int,.int,.int,.int,.int,.int,.int,.int,.int,.int,.int,.int,.int,.int,.int,.int,.int,.int,.int,.int,.int,.int,.int,.int,.int,.int,.int,.int,.int,.int,.int,.int,.int,.int,.int,.int,.int,.int,.int,.int,.int,.int,.int,.int,.int,.int,.int,.int,.int,.int,.int,.int,.int,.int,.int,.int,.int,.int,.int,.int,.int,.int,.int,.int,.int,.int]
  resolved:=Array.replicate 479 none
  statics:=none }
def pool3 : Array CpInfo:=pool [(1,u "java/lang/Cloneable"),(0,.class_ 1),(0,u "java/lang/Object"),(0,.class_ 3)] 3
/-- java/lang/Cloneable -/
def k3 : Class:={ plain "java/lang/Cloneable" (some 0) with
  accessFlags:=1537
  interfaces:=#[]
  cf:=some (fileOf pool3 2 #[] #[] 1537 4 #[] #[])
  fields:=#[]
  methods:=#[]
  instanceTypes:=#[]
  staticTypes:=#[]
  resolved:=Array.replicate 8 none
  statics:=none }
def pool4 : Array CpInfo:=pool [(1,u "java/io/Serializable"),(0,.class_ 1),(0,u "java/lang/Object"),(0,.class_ 3)] 3
/-- java/io/Serializable -/
def k4 : Class:={ plain "java/io/Serializable" (some 0) with
  accessFlags:=1537
  interfaces:=#[]
  cf:=some (fileOf pool4 2 #[] #[] 1537 4 #[] #[])
  fields:=#[]
  methods:=#[]
  instanceTypes:=#[]
  staticTypes:=#[]
  resolved:=Array.replicate 8 none
  statics:=none }
/-- the primitive byte -/
def k5 : Class:={ plain "byte" none with kind:=.primitive 'B',accessFlags:=0x411 }
/-- [B -/
def k6 : Class:={ plain "[B" (some 0) with kind:=.array 5 .byte,interfaces:=#[3,4],accessFlags:=1041 }
/-- the primitive int -/
def k7 : Class:={ plain "int" none with kind:=.primitive 'I',accessFlags:=0x411 }
/-- [I -/
def k8 : Class:={ plain "[I" (some 0) with kind:=.array 7 .int,interfaces:=#[3,4],accessFlags:=1041 }
def heap : Heap:=#[]
def classes : Array Class:=#[k0,k1,k2,k3,k4,k5,k6,k7,k8]
def interned : List (Array UInt16 × Addr):=[]
def slotsUsed : Nat:=0
def theMethod : MethodId:=⟨1,1⟩
def args0 : Array Value:=#[.int 7,.int 3,.int 4,.int 9,.int 1,.int 7]
def aboutOver (below : List Frame) : State where
  vm:={ classes:=classes,interned:=interned.toArray }
  heap:=heap
  slotsUsed:=slotsUsed
  threads:=#[{ frames:=.invoking theMethod args0::below }]
def below0 : List Frame:=[.native { method:=⟨0,0⟩,args:=#[] }]
def about1 : State:=aboutOver below0
def p0 : Program:=.bare "" "" ""
def e0 : Env:=launch0.env 0 0 0
theorem w_frames : about1.frames = Frame.invoking theMethod args0::below0:=rfl
set_option maxRecDepth 65536 in
theorem w_args : argsFit about1.vm theMethod args0 = true:=by decide +kernel
set_option maxRecDepth 65536 in
theorem w_heap : heapFits about1 = true:=by decide +kernel
set_option maxRecDepth 65536 in
theorem w_runnable : about1.curStatus? = some .runnable:=by decide +kernel
set_option maxRecDepth 65536 in
theorem w_alone : about1.alone = true:=by decide +kernel
set_option maxRecDepth 65536 in
theorem w_named : about1.methodNamed? x = some theMethod:=by decide +kernel
set_option maxRecDepth 65536 in
theorem w_hears : about1.hears theMethod below0 = true:=by decide +kernel
set_option maxRecDepth 65536 in
theorem w_ripe : about1.ripe theMethod args0 below0 = true:=by decide +kernel
theorem w_running : about1.status = .running:=rfl
set_option maxRecDepth 65536 in
theorem w_room : about1.hasRoom e0.platform room_1 = true :=
  launch0.hasRoom_least _ room_1 (by decide +kernel) (by decide +kernel) (by decide +kernel) (by decide +kernel) (by decide +kernel) (by decide +kernel)
theorem allAtoms_all (ts : List Jvm.Cond) (a : Array Jvm.Value) (st : Jvm.State) : (allAtoms ts).before a st = ts.all (fun c => c.before a st):=by
  induction ts with
  | nil => rfl
  | cons c t ih =>
    show (Jvm.Cond.and c (allAtoms t)).before a st = _
    rw [Jvm.Cond.before_and,ih,List.all_cons]
def words1 : List Jvm.Cond:=Jvm.Cond.code x code maxLocals ret::tables_1
/-- a 'code' word, met by the world's own term for the bytes: nothing is compared byte by byte -/
theorem code_word {y : MethodName} {bytes : ByteArray} {mx : Nat} {rt : Option FieldType} {a : Array Value} {s : State} {m : MethodId} {meth : Method} {c : Code} (h1 : s.methodNamed? y = some m) (h2 : s.vm.method? m = some meth) (h3 : meth.code = some c) (h4 : c.code = bytes)
    (h5 : (c.maxLocals == mx && c.exceptionTable.isEmpty && decide (c.maxStack≤mostOperands) && decide (meth.sig.returnType = rt) && !meth.locks && decide (parseMethodDescriptor y.desc = some meth.sig)) = true) : (Jvm.Cond.code y bytes mx rt).before a s = true:=by
  simp only [Bool.and_eq_true,beq_iff_eq,Bool.not_eq_true',decide_eq_true_eq] at h5
  obtain ⟨⟨⟨⟨⟨g1,g2⟩,g3⟩,g4⟩,g5⟩,g6⟩:=h5
  simp [Cond.before,Cond.holds,Cond.value,h1,h2,h3,h4,g1,g2,g3,g4,g5,g6]
def isCode : Jvm.Cond→Bool
  | .code _ _ _ _ => true
  | _ => false
theorem all_split {L : List Jvm.Cond} {P : Jvm.Cond→Bool} (h1 : L.all (fun c => isCode c || P c) = true) (h2 : ∀ c ∈ L.filter isCode,P c = true) : L.all P = true:=by
  refine List.all_eq_true.mpr fun c hc => ?_
  have h:=List.all_eq_true.mp h1 c hc
  rcases Bool.eq_false_or_eq_true (isCode c) with hi | hi
  · exact h2 c (List.mem_filter.mpr ⟨hc,hi⟩)
  · simpa [hi] using h
set_option maxRecDepth 65536 in
theorem w_c0 : (Jvm.Cond.code x code maxLocals ret).before args0 about1 = true:=code_word (m:=⟨1,1⟩) (meth:=k1m1) (c:=k1c1) (by decide +kernel) rfl rfl rfl (by decide +kernel)
set_option maxRecDepth 65536 in
theorem w_c1 : (Jvm.Cond.code ({ cls := "AgentExprDbg", name := "<init>", desc := "(II)V" } : Jvm.MethodName) prog_1_method_1_code (5 : Nat) (Option.none : Option Jvm.ClassFile.FieldType)).before args0 about1 = true:=code_word (m:=⟨2,0⟩) (meth:=k2m0) (c:=k2c0) (by decide +kernel) rfl rfl rfl (by decide +kernel)
set_option maxRecDepth 65536 in
theorem w_c2 : (Jvm.Cond.code ({ cls := "java/lang/Object", name := "<init>", desc := "()V" } : Jvm.MethodName) object_method_1_code (1 : Nat) (Option.none : Option Jvm.ClassFile.FieldType)).before args0 about1 = true:=code_word (m:=⟨0,0⟩) (meth:=k0m0) (c:=k0c0) (by decide +kernel) rfl rfl rfl (by decide +kernel)
set_option maxRecDepth 65536 in
theorem w_c3 : (Jvm.Cond.code ({ cls := "AgentExprDbg", name := "setReg", desc := "(II)Z" } : Jvm.MethodName) prog_1_method_5_code (3 : Nat) (Option.some Jvm.ClassFile.FieldType.boolean)).before args0 about1 = true:=code_word (m:=⟨2,4⟩) (meth:=k2m4) (c:=k2c4) (by decide +kernel) rfl rfl rfl (by decide +kernel)
set_option maxRecDepth 65536 in
theorem w_c4 : (Jvm.Cond.code ({ cls := "AgentExprDbg", name := "inRange", desc := "(III)Z" } : Jvm.MethodName) prog_1_method_64_code (4 : Nat) (Option.some Jvm.ClassFile.FieldType.boolean)).before args0 about1 = true:=code_word (m:=⟨2,55⟩) (meth:=k2m55) (c:=k2c55) (by decide +kernel) rfl rfl rfl (by decide +kernel)
set_option maxRecDepth 65536 in
theorem w_c5 : (Jvm.Cond.code ({ cls := "AgentExprDbg", name := "setMem", desc := "(II)Z" } : Jvm.MethodName) prog_1_method_6_code (3 : Nat) (Option.some Jvm.ClassFile.FieldType.boolean)).before args0 about1 = true:=code_word (m:=⟨2,5⟩) (meth:=k2m5) (c:=k2c5) (by decide +kernel) rfl rfl rfl (by decide +kernel)
set_option maxRecDepth 65536 in
theorem w_c6 : (Jvm.Cond.code ({ cls := "AgentExprDbg", name := "setInstr", desc := "(IIII)Z" } : Jvm.MethodName) prog_1_method_2_code (5 : Nat) (Option.some Jvm.ClassFile.FieldType.boolean)).before args0 about1 = true:=code_word (m:=⟨2,1⟩) (meth:=k2m1) (c:=k2c1) (by decide +kernel) rfl rfl rfl (by decide +kernel)
set_option maxRecDepth 65536 in
theorem w_c7 : (Jvm.Cond.code ({ cls := "AgentExprDbg", name := "validInstr", desc := "(IIII)Z" } : Jvm.MethodName) prog_1_method_3_code (5 : Nat) (Option.some Jvm.ClassFile.FieldType.boolean)).before args0 about1 = true:=code_word (m:=⟨2,2⟩) (meth:=k2m2) (c:=k2c2) (by decide +kernel) rfl rfl rfl (by decide +kernel)
set_option maxRecDepth 65536 in
theorem w_c8 : (Jvm.Cond.code ({ cls := "AgentExprDbg", name := "validSecond", desc := "(II)Z" } : Jvm.MethodName) prog_1_method_4_code (3 : Nat) (Option.some Jvm.ClassFile.FieldType.boolean)).before args0 about1 = true:=code_word (m:=⟨2,3⟩) (meth:=k2m3) (c:=k2c3) (by decide +kernel) rfl rfl rfl (by decide +kernel)
set_option maxRecDepth 65536 in
theorem w_c9 : (Jvm.Cond.code ({ cls := "AgentExprDbg", name := "addToken", desc := "(II)Z" } : Jvm.MethodName) prog_1_method_9_code (3 : Nat) (Option.some Jvm.ClassFile.FieldType.boolean)).before args0 about1 = true:=code_word (m:=⟨2,7⟩) (meth:=k2m7) (c:=k2c7) (by decide +kernel) rfl rfl rfl (by decide +kernel)
set_option maxRecDepth 65536 in
theorem w_c10 : (Jvm.Cond.code ({ cls := "AgentExprDbg", name := "compile", desc := "(I)I" } : Jvm.MethodName) prog_1_method_10_code (3 : Nat) (Option.some Jvm.ClassFile.FieldType.int)).before args0 about1 = true:=code_word (m:=⟨2,8⟩) (meth:=k2m8) (c:=k2c8) (by decide +kernel) rfl rfl rfl (by decide +kernel)
set_option maxRecDepth 65536 in
theorem w_c11 : (Jvm.Cond.code ({ cls := "AgentExprDbg", name := "compileChecked", desc := "(I)I" } : Jvm.MethodName) prog_1_method_11_code (2 : Nat) (Option.some Jvm.ClassFile.FieldType.int)).before args0 about1 = true:=code_word (m:=⟨2,9⟩) (meth:=k2m9) (c:=k2c9) (by decide +kernel) rfl rfl rfl (by decide +kernel)
set_option maxRecDepth 65536 in
theorem w_c12 : (Jvm.Cond.code ({ cls := "AgentExprDbg", name := "parseAll", desc := "()Z" } : Jvm.MethodName) prog_1_method_12_code (5 : Nat) (Option.some Jvm.ClassFile.FieldType.boolean)).before args0 about1 = true:=code_word (m:=⟨2,10⟩) (meth:=k2m10) (c:=k2c10) (by decide +kernel) rfl rfl rfl (by decide +kernel)
set_option maxRecDepth 65536 in
theorem w_c13 : (Jvm.Cond.code ({ cls := "AgentExprDbg", name := "resetScratch", desc := "()V" } : Jvm.MethodName) prog_1_method_13_code (1 : Nat) (Option.none : Option Jvm.ClassFile.FieldType)).before args0 about1 = true:=code_word (m:=⟨2,11⟩) (meth:=k2m11) (c:=k2c11) (by decide +kernel) rfl rfl rfl (by decide +kernel)
set_option maxRecDepth 65536 in
theorem w_c14 : (Jvm.Cond.code ({ cls := "AgentExprDbg", name := "parseOperand", desc := "(II)Z" } : Jvm.MethodName) prog_1_method_14_code (3 : Nat) (Option.some Jvm.ClassFile.FieldType.boolean)).before args0 about1 = true:=code_word (m:=⟨2,12⟩) (meth:=k2m12) (c:=k2c12) (by decide +kernel) rfl rfl rfl (by decide +kernel)
set_option maxRecDepth 65536 in
theorem w_c15 : (Jvm.Cond.code ({ cls := "AgentExprDbg", name := "pushNeed", desc := "(I)Z" } : Jvm.MethodName) prog_1_method_24_code (2 : Nat) (Option.some Jvm.ClassFile.FieldType.boolean)).before args0 about1 = true:=code_word (m:=⟨2,21⟩) (meth:=k2m21) (c:=k2c21) (by decide +kernel) rfl rfl rfl (by decide +kernel)
set_option maxRecDepth 65536 in
theorem w_c16 : (Jvm.Cond.code ({ cls := "AgentExprDbg", name := "emit", desc := "(II)Z" } : Jvm.MethodName) prog_1_method_26_code (3 : Nat) (Option.some Jvm.ClassFile.FieldType.boolean)).before args0 about1 = true:=code_word (m:=⟨2,23⟩) (meth:=k2m23) (c:=k2c23) (by decide +kernel) rfl rfl rfl (by decide +kernel)
set_option maxRecDepth 65536 in
theorem w_c17 : (Jvm.Cond.code ({ cls := "AgentExprDbg", name := "parseOperator", desc := "(I)Z" } : Jvm.MethodName) prog_1_method_15_code (2 : Nat) (Option.some Jvm.ClassFile.FieldType.boolean)).before args0 about1 = true:=code_word (m:=⟨2,13⟩) (meth:=k2m13) (c:=k2c13) (by decide +kernel) rfl rfl rfl (by decide +kernel)
set_option maxRecDepth 65536 in
theorem w_c18 : (Jvm.Cond.code ({ cls := "AgentExprDbg", name := "isBinary", desc := "(I)Z" } : Jvm.MethodName) prog_1_method_29_code (2 : Nat) (Option.some Jvm.ClassFile.FieldType.boolean)).before args0 about1 = true:=code_word (m:=⟨2,26⟩) (meth:=k2m26) (c:=k2c26) (by decide +kernel) rfl rfl rfl (by decide +kernel)
set_option maxRecDepth 65536 in
theorem w_c19 : (Jvm.Cond.code ({ cls := "AgentExprDbg", name := "binaryOperator", desc := "(I)Z" } : Jvm.MethodName) prog_1_method_16_code (4 : Nat) (Option.some Jvm.ClassFile.FieldType.boolean)).before args0 about1 = true:=code_word (m:=⟨2,14⟩) (meth:=k2m14) (c:=k2c14) (by decide +kernel) rfl rfl rfl (by decide +kernel)
set_option maxRecDepth 65536 in
theorem w_c20 : (Jvm.Cond.code ({ cls := "AgentExprDbg", name := "precedence", desc := "(I)I" } : Jvm.MethodName) prog_1_method_27_code (2 : Nat) (Option.some Jvm.ClassFile.FieldType.int)).before args0 about1 = true:=code_word (m:=⟨2,24⟩) (meth:=k2m24) (c:=k2c24) (by decide +kernel) rfl rfl rfl (by decide +kernel)
set_option maxRecDepth 65536 in
theorem w_c21 : (Jvm.Cond.code ({ cls := "AgentExprDbg", name := "reduceWhile", desc := "(I)Z" } : Jvm.MethodName) prog_1_method_17_code (4 : Nat) (Option.some Jvm.ClassFile.FieldType.boolean)).before args0 about1 = true:=code_word (m:=⟨2,15⟩) (meth:=k2m15) (c:=k2c15) (by decide +kernel) rfl rfl rfl (by decide +kernel)
set_option maxRecDepth 65536 in
theorem w_c22 : (Jvm.Cond.code ({ cls := "AgentExprDbg", name := "pushOp", desc := "(II)Z" } : Jvm.MethodName) prog_1_method_25_code (3 : Nat) (Option.some Jvm.ClassFile.FieldType.boolean)).before args0 about1 = true:=code_word (m:=⟨2,22⟩) (meth:=k2m22) (c:=k2c22) (by decide +kernel) rfl rfl rfl (by decide +kernel)
set_option maxRecDepth 65536 in
theorem w_c23 : (Jvm.Cond.code ({ cls := "AgentExprDbg", name := "endOfExpr", desc := "()Z" } : Jvm.MethodName) prog_1_method_20_code (1 : Nat) (Option.some Jvm.ClassFile.FieldType.boolean)).before args0 about1 = true:=code_word (m:=⟨2,17⟩) (meth:=k2m17) (c:=k2c17) (by decide +kernel) rfl rfl rfl (by decide +kernel)
set_option maxRecDepth 65536 in
theorem w_c24 : (Jvm.Cond.code ({ cls := "AgentExprDbg", name := "reduceOne", desc := "(II)Z" } : Jvm.MethodName) prog_1_method_18_code (3 : Nat) (Option.some Jvm.ClassFile.FieldType.boolean)).before args0 about1 = true:=code_word (m:=⟨2,16⟩) (meth:=k2m16) (c:=k2c16) (by decide +kernel) rfl rfl rfl (by decide +kernel)
set_option maxRecDepth 65536 in
theorem w_c25 : (Jvm.Cond.code ({ cls := "AgentExprDbg", name := "isUnary", desc := "(I)Z" } : Jvm.MethodName) prog_1_method_28_code (2 : Nat) (Option.some Jvm.ClassFile.FieldType.boolean)).before args0 about1 = true:=code_word (m:=⟨2,25⟩) (meth:=k2m25) (c:=k2c25) (by decide +kernel) rfl rfl rfl (by decide +kernel)
set_option maxRecDepth 65536 in
theorem w_c26 : (Jvm.Cond.code ({ cls := "AgentExprDbg", name := "combineNeed", desc := "()Z" } : Jvm.MethodName) prog_1_method_23_code (4 : Nat) (Option.some Jvm.ClassFile.FieldType.boolean)).before args0 about1 = true:=code_word (m:=⟨2,20⟩) (meth:=k2m20) (c:=k2c20) (by decide +kernel) rfl rfl rfl (by decide +kernel)
set_option maxRecDepth 65536 in
theorem w_c27 : (Jvm.Cond.code ({ cls := "AgentExprDbg", name := "closeExpr", desc := "()Z" } : Jvm.MethodName) prog_1_method_21_code (2 : Nat) (Option.some Jvm.ClassFile.FieldType.boolean)).before args0 about1 = true:=code_word (m:=⟨2,18⟩) (meth:=k2m18) (c:=k2c18) (by decide +kernel) rfl rfl rfl (by decide +kernel)
set_option maxRecDepth 65536 in
theorem w_c28 : (Jvm.Cond.code ({ cls := "AgentExprDbg", name := "finishSource", desc := "()Z" } : Jvm.MethodName) prog_1_method_22_code (1 : Nat) (Option.some Jvm.ClassFile.FieldType.boolean)).before args0 about1 = true:=code_word (m:=⟨2,19⟩) (meth:=k2m19) (c:=k2c19) (by decide +kernel) rfl rfl rfl (by decide +kernel)
set_option maxRecDepth 65536 in
theorem w_c29 : (Jvm.Cond.code ({ cls := "AgentExprDbg", name := "storeAgent", desc := "(I)V" } : Jvm.MethodName) prog_1_method_30_code (5 : Nat) (Option.none : Option Jvm.ClassFile.FieldType)).before args0 about1 = true:=code_word (m:=⟨2,27⟩) (meth:=k2m27) (c:=k2c27) (by decide +kernel) rfl rfl rfl (by decide +kernel)
set_option maxRecDepth 65536 in
theorem w_c30 : (Jvm.Cond.code ({ cls := "AgentExprDbg", name := "install", desc := "(III)Z" } : Jvm.MethodName) prog_1_method_31_code (5 : Nat) (Option.some Jvm.ClassFile.FieldType.boolean)).before args0 about1 = true:=code_word (m:=⟨2,28⟩) (meth:=k2m28) (c:=k2c28) (by decide +kernel) rfl rfl rfl (by decide +kernel)
set_option maxRecDepth 65536 in
theorem w_c31 : (Jvm.Cond.code ({ cls := "AgentExprDbg", name := "slotAt", desc := "(I)I" } : Jvm.MethodName) prog_1_method_33_code (3 : Nat) (Option.some Jvm.ClassFile.FieldType.int)).before args0 about1 = true:=code_word (m:=⟨2,29⟩) (meth:=k2m29) (c:=k2c29) (by decide +kernel) rfl rfl rfl (by decide +kernel)
set_option maxRecDepth 65536 in
theorem w_c32 : (Jvm.Cond.code ({ cls := "AgentExprDbg", name := "run", desc := "(I)I" } : Jvm.MethodName) prog_1_method_34_code (4 : Nat) (Option.some Jvm.ClassFile.FieldType.int)).before args0 about1 = true:=code_word (m:=⟨2,30⟩) (meth:=k2m30) (c:=k2c30) (by decide +kernel) rfl rfl rfl (by decide +kernel)
set_option maxRecDepth 65536 in
theorem w_c33 : (Jvm.Cond.code ({ cls := "AgentExprDbg", name := "runLoop", desc := "(I)I" } : Jvm.MethodName) prog_1_method_35_code (4 : Nat) (Option.some Jvm.ClassFile.FieldType.int)).before args0 about1 = true:=code_word (m:=⟨2,31⟩) (meth:=k2m31) (c:=k2c31) (by decide +kernel) rfl rfl rfl (by decide +kernel)
set_option maxRecDepth 65536 in
theorem w_c34 : (Jvm.Cond.code ({ cls := "AgentExprDbg", name := "oneStep", desc := "()I" } : Jvm.MethodName) prog_1_method_36_code (4 : Nat) (Option.some Jvm.ClassFile.FieldType.int)).before args0 about1 = true:=code_word (m:=⟨2,32⟩) (meth:=k2m32) (c:=k2c32) (by decide +kernel) rfl rfl rfl (by decide +kernel)
set_option maxRecDepth 65536 in
theorem w_c35 : (Jvm.Cond.code ({ cls := "AgentExprDbg", name := "execute", desc := "(I)V" } : Jvm.MethodName) prog_1_method_37_code (6 : Nat) (Option.none : Option Jvm.ClassFile.FieldType)).before args0 about1 = true:=code_word (m:=⟨2,33⟩) (meth:=k2m33) (c:=k2c33) (by decide +kernel) rfl rfl rfl (by decide +kernel)
set_option maxRecDepth 65536 in
theorem w_c36 : (Jvm.Cond.code ({ cls := "AgentExprDbg", name := "executeData", desc := "(III)V" } : Jvm.MethodName) prog_1_method_38_code (5 : Nat) (Option.none : Option Jvm.ClassFile.FieldType)).before args0 about1 = true:=code_word (m:=⟨2,34⟩) (meth:=k2m34) (c:=k2c34) (by decide +kernel) rfl rfl rfl (by decide +kernel)
set_option maxRecDepth 65536 in
theorem w_c37 : (Jvm.Cond.code ({ cls := "AgentExprDbg", name := "agentHit", desc := "(II)I" } : Jvm.MethodName) prog_1_method_39_code (4 : Nat) (Option.some Jvm.ClassFile.FieldType.int)).before args0 about1 = true:=code_word (m:=⟨2,35⟩) (meth:=k2m35) (c:=k2c35) (by decide +kernel) rfl rfl rfl (by decide +kernel)
set_option maxRecDepth 65536 in
theorem w_c38 : (Jvm.Cond.code ({ cls := "AgentExprDbg", name := "evalExpr", desc := "(II)I" } : Jvm.MethodName) prog_1_method_45_code (7 : Nat) (Option.some Jvm.ClassFile.FieldType.int)).before args0 about1 = true:=code_word (m:=⟨2,39⟩) (meth:=k2m39) (c:=k2c39) (by decide +kernel) rfl rfl rfl (by decide +kernel)
set_option maxRecDepth 65536 in
theorem w_c39 : (Jvm.Cond.code ({ cls := "AgentExprDbg", name := "evalStep", desc := "(III)I" } : Jvm.MethodName) prog_1_method_46_code (5 : Nat) (Option.some Jvm.ClassFile.FieldType.int)).before args0 about1 = true:=code_word (m:=⟨2,40⟩) (meth:=k2m40) (c:=k2c40) (by decide +kernel) rfl rfl rfl (by decide +kernel)
set_option maxRecDepth 65536 in
theorem w_c40 : (Jvm.Cond.code ({ cls := "AgentExprDbg", name := "push", desc := "(I)V" } : Jvm.MethodName) prog_1_method_54_code (2 : Nat) (Option.none : Option Jvm.ClassFile.FieldType)).before args0 about1 = true:=code_word (m:=⟨2,47⟩) (meth:=k2m47) (c:=k2c47) (by decide +kernel) rfl rfl rfl (by decide +kernel)
set_option maxRecDepth 65536 in
theorem w_c41 : (Jvm.Cond.code ({ cls := "AgentExprDbg", name := "binaryStep", desc := "(I)V" } : Jvm.MethodName) prog_1_method_49_code (5 : Nat) (Option.none : Option Jvm.ClassFile.FieldType)).before args0 about1 = true:=code_word (m:=⟨2,42⟩) (meth:=k2m42) (c:=k2c42) (by decide +kernel) rfl rfl rfl (by decide +kernel)
set_option maxRecDepth 65536 in
theorem w_c42 : (Jvm.Cond.code ({ cls := "AgentExprDbg", name := "pop", desc := "()I" } : Jvm.MethodName) prog_1_method_55_code (1 : Nat) (Option.some Jvm.ClassFile.FieldType.int)).before args0 about1 = true:=code_word (m:=⟨2,48⟩) (meth:=k2m48) (c:=k2c48) (by decide +kernel) rfl rfl rfl (by decide +kernel)
set_option maxRecDepth 65536 in
theorem w_c43 : (Jvm.Cond.code ({ cls := "AgentExprDbg", name := "applyBinary", desc := "(III)I" } : Jvm.MethodName) prog_1_method_51_code (4 : Nat) (Option.some Jvm.ClassFile.FieldType.int)).before args0 about1 = true:=code_word (m:=⟨2,44⟩) (meth:=k2m44) (c:=k2c44) (by decide +kernel) rfl rfl rfl (by decide +kernel)
set_option maxRecDepth 65536 in
theorem w_c44 : (Jvm.Cond.code ({ cls := "AgentExprDbg", name := "compare", desc := "(III)I" } : Jvm.MethodName) prog_1_method_53_code (4 : Nat) (Option.some Jvm.ClassFile.FieldType.int)).before args0 about1 = true:=code_word (m:=⟨2,46⟩) (meth:=k2m46) (c:=k2c46) (by decide +kernel) rfl rfl rfl (by decide +kernel)
set_option maxRecDepth 65536 in
theorem w_c45 : (Jvm.Cond.code ({ cls := "AgentExprDbg", name := "boolInt", desc := "(Z)I" } : Jvm.MethodName) prog_1_method_65_code (2 : Nat) (Option.some Jvm.ClassFile.FieldType.int)).before args0 about1 = true:=code_word (m:=⟨2,56⟩) (meth:=k2m56) (c:=k2c56) (by decide +kernel) rfl rfl rfl (by decide +kernel)
set_option maxRecDepth 65536 in
theorem w_c46 : (Jvm.Cond.code ({ cls := "AgentExprDbg", name := "top", desc := "()I" } : Jvm.MethodName) prog_1_method_56_code (1 : Nat) (Option.some Jvm.ClassFile.FieldType.int)).before args0 about1 = true:=code_word (m:=⟨2,49⟩) (meth:=k2m49) (c:=k2c49) (by decide +kernel) rfl rfl rfl (by decide +kernel)
set_option maxRecDepth 65536 in
theorem w_c47 : (Jvm.Cond.code ({ cls := "AgentExprDbg", name := "status", desc := "(I)I" } : Jvm.MethodName) prog_1_method_58_code (2 : Nat) (Option.some Jvm.ClassFile.FieldType.int)).before args0 about1 = true:=code_word (m:=⟨2,50⟩) (meth:=k2m50) (c:=k2c50) (by decide +kernel) rfl rfl rfl (by decide +kernel)
set_option maxRecDepth 65536 in
theorem w_c48 : (Jvm.Cond.code ({ cls := "AgentExprDbg", name := "getReg", desc := "(I)I" } : Jvm.MethodName) prog_1_method_7_code (2 : Nat) (Option.some Jvm.ClassFile.FieldType.int)).before args0 about1 = true:=code_word (m:=⟨2,6⟩) (meth:=k2m6) (c:=k2c6) (by decide +kernel) rfl rfl rfl (by decide +kernel)
set_option maxRecDepth 65536 in
theorem w_c49 : (Jvm.Cond.code ({ cls := "AgentExprDbg", name := "slotInfo", desc := "(II)I" } : Jvm.MethodName) prog_1_method_60_code (4 : Nat) (Option.some Jvm.ClassFile.FieldType.int)).before args0 about1 = true:=code_word (m:=⟨2,52⟩) (meth:=k2m52) (c:=k2c52) (by decide +kernel) rfl rfl rfl (by decide +kernel)
set_option maxRecDepth 65536 in
theorem w_c50 : (Jvm.Cond.code ({ cls := "AgentExprDbg", name := "statusMore", desc := "(I)I" } : Jvm.MethodName) prog_1_method_59_code (2 : Nat) (Option.some Jvm.ClassFile.FieldType.int)).before args0 about1 = true:=code_word (m:=⟨2,51⟩) (meth:=k2m51) (c:=k2c51) (by decide +kernel) rfl rfl rfl (by decide +kernel)
set_option maxRecDepth 65536 in
theorem w_c51 : (Jvm.Cond.code ({ cls := "AgentExprDbg", name := "frame", desc := "(II)I" } : Jvm.MethodName) prog_1_method_61_code (4 : Nat) (Option.some Jvm.ClassFile.FieldType.int)).before args0 about1 = true:=code_word (m:=⟨2,53⟩) (meth:=k2m53) (c:=k2c53) (by decide +kernel) rfl rfl rfl (by decide +kernel)
set_option maxRecDepth 65536 in
theorem w_c52 : (Jvm.Cond.code ({ cls := "AgentExprDbg", name := "buildFrame", desc := "(II)V" } : Jvm.MethodName) prog_1_method_40_code (6 : Nat) (Option.none : Option Jvm.ClassFile.FieldType)).before args0 about1 = true:=code_word (m:=⟨2,36⟩) (meth:=k2m36) (c:=k2c36) (by decide +kernel) rfl rfl rfl (by decide +kernel)
set_option maxRecDepth 65536 in
theorem w_c53 : (Jvm.Cond.code ({ cls := "AgentExprDbg", name := "divide", desc := "(III)I" } : Jvm.MethodName) prog_1_method_52_code (4 : Nat) (Option.some Jvm.ClassFile.FieldType.int)).before args0 about1 = true:=code_word (m:=⟨2,45⟩) (meth:=k2m45) (c:=k2c45) (by decide +kernel) rfl rfl rfl (by decide +kernel)
set_option maxRecDepth 65536 in
theorem w_c54 : (Jvm.Cond.code ({ cls := "AgentExprDbg", name := "unaryStep", desc := "(I)V" } : Jvm.MethodName) prog_1_method_48_code (4 : Nat) (Option.none : Option Jvm.ClassFile.FieldType)).before args0 about1 = true:=code_word (m:=⟨2,41⟩) (meth:=k2m41) (c:=k2c41) (by decide +kernel) rfl rfl rfl (by decide +kernel)
set_option maxRecDepth 65536 in
theorem w_c55 : (Jvm.Cond.code ({ cls := "AgentExprDbg", name := "applyUnary", desc := "(II)I" } : Jvm.MethodName) prog_1_method_50_code (3 : Nat) (Option.some Jvm.ClassFile.FieldType.int)).before args0 about1 = true:=code_word (m:=⟨2,43⟩) (meth:=k2m43) (c:=k2c43) (by decide +kernel) rfl rfl rfl (by decide +kernel)
set_option maxRecDepth 65536 in
theorem w_c56 : (Jvm.Cond.code ({ cls := "AgentExprDbg", name := "storeFrame", desc := "()Z" } : Jvm.MethodName) prog_1_method_41_code (1 : Nat) (Option.some Jvm.ClassFile.FieldType.boolean)).before args0 about1 = true:=code_word (m:=⟨2,37⟩) (meth:=k2m37) (c:=k2c37) (by decide +kernel) rfl rfl rfl (by decide +kernel)
set_option maxRecDepth 65536 in
theorem w_c57 : (Jvm.Cond.code ({ cls := "AgentExprDbg", name := "writePending", desc := "(I)V" } : Jvm.MethodName) prog_1_method_42_code (4 : Nat) (Option.none : Option Jvm.ClassFile.FieldType)).before args0 about1 = true:=code_word (m:=⟨2,38⟩) (meth:=k2m38) (c:=k2c38) (by decide +kernel) rfl rfl rfl (by decide +kernel)
set_option maxRecDepth 65536 in
theorem w_c58 : (Jvm.Cond.code ({ cls := "AgentExprDbg", name := "frameValue", desc := "(II)I" } : Jvm.MethodName) prog_1_method_62_code (4 : Nat) (Option.some Jvm.ClassFile.FieldType.int)).before args0 about1 = true:=code_word (m:=⟨2,54⟩) (meth:=k2m54) (c:=k2c54) (by decide +kernel) rfl rfl rfl (by decide +kernel)
def codes1 : List Jvm.Cond:=[Jvm.Cond.code x code maxLocals ret,Jvm.Cond.code ({ cls := "AgentExprDbg", name := "<init>", desc := "(II)V" } : Jvm.MethodName) prog_1_method_1_code (5 : Nat) (Option.none : Option Jvm.ClassFile.FieldType),Jvm.Cond.code ({ cls := "java/lang/Object", name := "<init>", desc := "()V" } : Jvm.MethodName) object_method_1_code (1 : Nat) (Option.none : Option Jvm.ClassFile.FieldType),Jvm.Cond.code ({ cls := "AgentExprDbg", name := "setReg", desc := "(II)Z" } : Jvm.MethodName) prog_1_method_5_code (3 : Nat) (Option.some Jvm.ClassFile.FieldType.boolean),Jvm.Cond.code ({ cls := "AgentExprDbg", name := "inRange", desc := "(III)Z" } : Jvm.MethodName) prog_1_method_64_code (4 : Nat) (Option.some Jvm.ClassFile.FieldType.boolean),Jvm.Cond.code ({ cls := "AgentExprDbg", name := "setMem", desc := "(II)Z" } : Jvm.MethodName) prog_1_method_6_code (3 : Nat) (Option.some Jvm.ClassFile.FieldType.boolean),Jvm.Cond.code ({ cls := "AgentExprDbg", name := "setInstr", desc := "(IIII)Z" } : Jvm.MethodName) prog_1_method_2_code (5 : Nat) (Option.some Jvm.ClassFile.FieldType.boolean),Jvm.Cond.code ({ cls := "AgentExprDbg", name := "validInstr", desc := "(IIII)Z" } : Jvm.MethodName) prog_1_method_3_code (5 : Nat) (Option.some Jvm.ClassFile.FieldType.boolean),Jvm.Cond.code ({ cls := "AgentExprDbg", name := "validSecond", desc := "(II)Z" } : Jvm.MethodName) prog_1_method_4_code (3 : Nat) (Option.some Jvm.ClassFile.FieldType.boolean),Jvm.Cond.code ({ cls := "AgentExprDbg", name := "addToken", desc := "(II)Z" } : Jvm.MethodName) prog_1_method_9_code (3 : Nat) (Option.some Jvm.ClassFile.FieldType.boolean),Jvm.Cond.code ({ cls := "AgentExprDbg", name := "compile", desc := "(I)I" } : Jvm.MethodName) prog_1_method_10_code (3 : Nat) (Option.some Jvm.ClassFile.FieldType.int),Jvm.Cond.code ({ cls := "AgentExprDbg", name := "compileChecked", desc := "(I)I" } : Jvm.MethodName) prog_1_method_11_code (2 : Nat) (Option.some Jvm.ClassFile.FieldType.int),Jvm.Cond.code ({ cls := "AgentExprDbg", name := "parseAll", desc := "()Z" } : Jvm.MethodName) prog_1_method_12_code (5 : Nat) (Option.some Jvm.ClassFile.FieldType.boolean),Jvm.Cond.code ({ cls := "AgentExprDbg", name := "resetScratch", desc := "()V" } : Jvm.MethodName) prog_1_method_13_code (1 : Nat) (Option.none : Option Jvm.ClassFile.FieldType),Jvm.Cond.code ({ cls := "AgentExprDbg", name := "parseOperand", desc := "(II)Z" } : Jvm.MethodName) prog_1_method_14_code (3 : Nat) (Option.some Jvm.ClassFile.FieldType.boolean),Jvm.Cond.code ({ cls := "AgentExprDbg", name := "pushNeed", desc := "(I)Z" } : Jvm.MethodName) prog_1_method_24_code (2 : Nat) (Option.some Jvm.ClassFile.FieldType.boolean),Jvm.Cond.code ({ cls := "AgentExprDbg", name := "emit", desc := "(II)Z" } : Jvm.MethodName) prog_1_method_26_code (3 : Nat) (Option.some Jvm.ClassFile.FieldType.boolean),Jvm.Cond.code ({ cls := "AgentExprDbg", name := "parseOperator", desc := "(I)Z" } : Jvm.MethodName) prog_1_method_15_code (2 : Nat) (Option.some Jvm.ClassFile.FieldType.boolean),Jvm.Cond.code ({ cls := "AgentExprDbg", name := "isBinary", desc := "(I)Z" } : Jvm.MethodName) prog_1_method_29_code (2 : Nat) (Option.some Jvm.ClassFile.FieldType.boolean),Jvm.Cond.code ({ cls := "AgentExprDbg", name := "binaryOperator", desc := "(I)Z" } : Jvm.MethodName) prog_1_method_16_code (4 : Nat) (Option.some Jvm.ClassFile.FieldType.boolean),Jvm.Cond.code ({ cls := "AgentExprDbg", name := "precedence", desc := "(I)I" } : Jvm.MethodName) prog_1_method_27_code (2 : Nat) (Option.some Jvm.ClassFile.FieldType.int),Jvm.Cond.code ({ cls := "AgentExprDbg", name := "reduceWhile", desc := "(I)Z" } : Jvm.MethodName) prog_1_method_17_code (4 : Nat) (Option.some Jvm.ClassFile.FieldType.boolean),Jvm.Cond.code ({ cls := "AgentExprDbg", name := "pushOp", desc := "(II)Z" } : Jvm.MethodName) prog_1_method_25_code (3 : Nat) (Option.some Jvm.ClassFile.FieldType.boolean),Jvm.Cond.code ({ cls := "AgentExprDbg", name := "endOfExpr", desc := "()Z" } : Jvm.MethodName) prog_1_method_20_code (1 : Nat) (Option.some Jvm.ClassFile.FieldType.boolean),Jvm.Cond.code ({ cls := "AgentExprDbg", name := "reduceOne", desc := "(II)Z" } : Jvm.MethodName) prog_1_method_18_code (3 : Nat) (Option.some Jvm.ClassFile.FieldType.boolean),Jvm.Cond.code ({ cls := "AgentExprDbg", name := "isUnary", desc := "(I)Z" } : Jvm.MethodName) prog_1_method_28_code (2 : Nat) (Option.some Jvm.ClassFile.FieldType.boolean),Jvm.Cond.code ({ cls := "AgentExprDbg", name := "combineNeed", desc := "()Z" } : Jvm.MethodName) prog_1_method_23_code (4 : Nat) (Option.some Jvm.ClassFile.FieldType.boolean),Jvm.Cond.code ({ cls := "AgentExprDbg", name := "closeExpr", desc := "()Z" } : Jvm.MethodName) prog_1_method_21_code (2 : Nat) (Option.some Jvm.ClassFile.FieldType.boolean),Jvm.Cond.code ({ cls := "AgentExprDbg", name := "finishSource", desc := "()Z" } : Jvm.MethodName) prog_1_method_22_code (1 : Nat) (Option.some Jvm.ClassFile.FieldType.boolean),Jvm.Cond.code ({ cls := "AgentExprDbg", name := "storeAgent", desc := "(I)V" } : Jvm.MethodName) prog_1_method_30_code (5 : Nat) (Option.none : Option Jvm.ClassFile.FieldType),Jvm.Cond.code ({ cls := "AgentExprDbg", name := "install", desc := "(III)Z" } : Jvm.MethodName) prog_1_method_31_code (5 : Nat) (Option.some Jvm.ClassFile.FieldType.boolean),Jvm.Cond.code ({ cls := "AgentExprDbg", name := "slotAt", desc := "(I)I" } : Jvm.MethodName) prog_1_method_33_code (3 : Nat) (Option.some Jvm.ClassFile.FieldType.int),Jvm.Cond.code ({ cls := "AgentExprDbg", name := "run", desc := "(I)I" } : Jvm.MethodName) prog_1_method_34_code (4 : Nat) (Option.some Jvm.ClassFile.FieldType.int),Jvm.Cond.code ({ cls := "AgentExprDbg", name := "runLoop", desc := "(I)I" } : Jvm.MethodName) prog_1_method_35_code (4 : Nat) (Option.some Jvm.ClassFile.FieldType.int),Jvm.Cond.code ({ cls := "AgentExprDbg", name := "oneStep", desc := "()I" } : Jvm.MethodName) prog_1_method_36_code (4 : Nat) (Option.some Jvm.ClassFile.FieldType.int),Jvm.Cond.code ({ cls := "AgentExprDbg", name := "execute", desc := "(I)V" } : Jvm.MethodName) prog_1_method_37_code (6 : Nat) (Option.none : Option Jvm.ClassFile.FieldType),Jvm.Cond.code ({ cls := "AgentExprDbg", name := "executeData", desc := "(III)V" } : Jvm.MethodName) prog_1_method_38_code (5 : Nat) (Option.none : Option Jvm.ClassFile.FieldType),Jvm.Cond.code ({ cls := "AgentExprDbg", name := "agentHit", desc := "(II)I" } : Jvm.MethodName) prog_1_method_39_code (4 : Nat) (Option.some Jvm.ClassFile.FieldType.int),Jvm.Cond.code ({ cls := "AgentExprDbg", name := "evalExpr", desc := "(II)I" } : Jvm.MethodName) prog_1_method_45_code (7 : Nat) (Option.some Jvm.ClassFile.FieldType.int),Jvm.Cond.code ({ cls := "AgentExprDbg", name := "evalStep", desc := "(III)I" } : Jvm.MethodName) prog_1_method_46_code (5 : Nat) (Option.some Jvm.ClassFile.FieldType.int),Jvm.Cond.code ({ cls := "AgentExprDbg", name := "push", desc := "(I)V" } : Jvm.MethodName) prog_1_method_54_code (2 : Nat) (Option.none : Option Jvm.ClassFile.FieldType),Jvm.Cond.code ({ cls := "AgentExprDbg", name := "binaryStep", desc := "(I)V" } : Jvm.MethodName) prog_1_method_49_code (5 : Nat) (Option.none : Option Jvm.ClassFile.FieldType),Jvm.Cond.code ({ cls := "AgentExprDbg", name := "pop", desc := "()I" } : Jvm.MethodName) prog_1_method_55_code (1 : Nat) (Option.some Jvm.ClassFile.FieldType.int),Jvm.Cond.code ({ cls := "AgentExprDbg", name := "applyBinary", desc := "(III)I" } : Jvm.MethodName) prog_1_method_51_code (4 : Nat) (Option.some Jvm.ClassFile.FieldType.int),Jvm.Cond.code ({ cls := "AgentExprDbg", name := "compare", desc := "(III)I" } : Jvm.MethodName) prog_1_method_53_code (4 : Nat) (Option.some Jvm.ClassFile.FieldType.int),Jvm.Cond.code ({ cls := "AgentExprDbg", name := "boolInt", desc := "(Z)I" } : Jvm.MethodName) prog_1_method_65_code (2 : Nat) (Option.some Jvm.ClassFile.FieldType.int),Jvm.Cond.code ({ cls := "AgentExprDbg", name := "top", desc := "()I" } : Jvm.MethodName) prog_1_method_56_code (1 : Nat) (Option.some Jvm.ClassFile.FieldType.int),Jvm.Cond.code ({ cls := "AgentExprDbg", name := "status", desc := "(I)I" } : Jvm.MethodName) prog_1_method_58_code (2 : Nat) (Option.some Jvm.ClassFile.FieldType.int),Jvm.Cond.code ({ cls := "AgentExprDbg", name := "getReg", desc := "(I)I" } : Jvm.MethodName) prog_1_method_7_code (2 : Nat) (Option.some Jvm.ClassFile.FieldType.int),Jvm.Cond.code ({ cls := "AgentExprDbg", name := "slotInfo", desc := "(II)I" } : Jvm.MethodName) prog_1_method_60_code (4 : Nat) (Option.some Jvm.ClassFile.FieldType.int),Jvm.Cond.code ({ cls := "AgentExprDbg", name := "statusMore", desc := "(I)I" } : Jvm.MethodName) prog_1_method_59_code (2 : Nat) (Option.some Jvm.ClassFile.FieldType.int),Jvm.Cond.code ({ cls := "AgentExprDbg", name := "frame", desc := "(II)I" } : Jvm.MethodName) prog_1_method_61_code (4 : Nat) (Option.some Jvm.ClassFile.FieldType.int),Jvm.Cond.code ({ cls := "AgentExprDbg", name := "buildFrame", desc := "(II)V" } : Jvm.MethodName) prog_1_method_40_code (6 : Nat) (Option.none : Option Jvm.ClassFile.FieldType),Jvm.Cond.code ({ cls := "AgentExprDbg", name := "divide", desc := "(III)I" } : Jvm.MethodName) prog_1_method_52_code (4 : Nat) (Option.some Jvm.ClassFile.FieldType.int),Jvm.Cond.code ({ cls := "AgentExprDbg", name := "unaryStep", desc := "(I)V" } : Jvm.MethodName) prog_1_method_48_code (4 : Nat) (Option.none : Option Jvm.ClassFile.FieldType),Jvm.Cond.code ({ cls := "AgentExprDbg", name := "applyUnary", desc := "(II)I" } : Jvm.MethodName) prog_1_method_50_code (3 : Nat) (Option.some Jvm.ClassFile.FieldType.int),Jvm.Cond.code ({ cls := "AgentExprDbg", name := "storeFrame", desc := "()Z" } : Jvm.MethodName) prog_1_method_41_code (1 : Nat) (Option.some Jvm.ClassFile.FieldType.boolean),Jvm.Cond.code ({ cls := "AgentExprDbg", name := "writePending", desc := "(I)V" } : Jvm.MethodName) prog_1_method_42_code (4 : Nat) (Option.none : Option Jvm.ClassFile.FieldType),Jvm.Cond.code ({ cls := "AgentExprDbg", name := "frameValue", desc := "(II)I" } : Jvm.MethodName) prog_1_method_62_code (4 : Nat) (Option.some Jvm.ClassFile.FieldType.int)]
set_option maxRecDepth 65536 in
theorem codes_eq : words1.filter isCode = codes1:=rfl
theorem w_codes : ∀ c ∈ words1.filter isCode,c.before args0 about1 = true:=by
  rw [codes_eq]
  intro c hc
  simp only [codes1,List.mem_cons,List.not_mem_nil,or_false] at hc
  rcases hc with rfl | rfl | rfl | rfl | rfl | rfl | rfl | rfl | rfl | rfl | rfl | rfl | rfl | rfl | rfl | rfl | rfl | rfl | rfl | rfl | rfl | rfl | rfl | rfl | rfl | rfl | rfl | rfl | rfl | rfl | rfl | rfl | rfl | rfl | rfl | rfl | rfl | rfl | rfl | rfl | rfl | rfl | rfl | rfl | rfl | rfl | rfl | rfl | rfl | rfl | rfl | rfl | rfl | rfl | rfl | rfl | rfl | rfl | rfl
  · exact w_c0
  · exact w_c1
  · exact w_c2
  · exact w_c3
  · exact w_c4
  · exact w_c5
  · exact w_c6
  · exact w_c7
  · exact w_c8
  · exact w_c9
  · exact w_c10
  · exact w_c11
  · exact w_c12
  · exact w_c13
  · exact w_c14
  · exact w_c15
  · exact w_c16
  · exact w_c17
  · exact w_c18
  · exact w_c19
  · exact w_c20
  · exact w_c21
  · exact w_c22
  · exact w_c23
  · exact w_c24
  · exact w_c25
  · exact w_c26
  · exact w_c27
  · exact w_c28
  · exact w_c29
  · exact w_c30
  · exact w_c31
  · exact w_c32
  · exact w_c33
  · exact w_c34
  · exact w_c35
  · exact w_c36
  · exact w_c37
  · exact w_c38
  · exact w_c39
  · exact w_c40
  · exact w_c41
  · exact w_c42
  · exact w_c43
  · exact w_c44
  · exact w_c45
  · exact w_c46
  · exact w_c47
  · exact w_c48
  · exact w_c49
  · exact w_c50
  · exact w_c51
  · exact w_c52
  · exact w_c53
  · exact w_c54
  · exact w_c55
  · exact w_c56
  · exact w_c57
  · exact w_c58
set_option maxRecDepth 65536 in
theorem w_t1 : (words1.take 24).all (fun c => isCode c || c.before args0 about1) = true:=by decide +kernel
set_option maxRecDepth 65536 in
theorem w_t2 : ((words1.drop 24).take 24).all (fun c => isCode c || c.before args0 about1) = true:=by decide +kernel
set_option maxRecDepth 65536 in
theorem w_t3 : (((words1.drop 24).drop 24).take 24).all (fun c => isCode c || c.before args0 about1) = true:=by decide +kernel
set_option maxRecDepth 65536 in
theorem w_t4 : ((((words1.drop 24).drop 24).drop 24).take 24).all (fun c => isCode c || c.before args0 about1) = true:=by decide +kernel
set_option maxRecDepth 65536 in
theorem w_t5 : (((((words1.drop 24).drop 24).drop 24).drop 24).take 24).all (fun c => isCode c || c.before args0 about1) = true:=by decide +kernel
set_option maxRecDepth 65536 in
theorem w_t6 : ((((((words1.drop 24).drop 24).drop 24).drop 24).drop 24).take 24).all (fun c => isCode c || c.before args0 about1) = true:=by decide +kernel
set_option maxRecDepth 65536 in
theorem w_t7 : (((((((words1.drop 24).drop 24).drop 24).drop 24).drop 24).drop 24).take 24).all (fun c => isCode c || c.before args0 about1) = true:=by decide +kernel
set_option maxRecDepth 65536 in
theorem w_t8 : ((((((((words1.drop 24).drop 24).drop 24).drop 24).drop 24).drop 24).drop 24).take 24).all (fun c => isCode c || c.before args0 about1) = true:=by decide +kernel
set_option maxRecDepth 65536 in
theorem w_t9 : (((((((((words1.drop 24).drop 24).drop 24).drop 24).drop 24).drop 24).drop 24).drop 24).take 24).all (fun c => isCode c || c.before args0 about1) = true:=by decide +kernel
set_option maxRecDepth 65536 in
theorem w_t10 : ((((((((((words1.drop 24).drop 24).drop 24).drop 24).drop 24).drop 24).drop 24).drop 24).drop 24).take 24).all (fun c => isCode c || c.before args0 about1) = true:=by decide +kernel
set_option maxRecDepth 65536 in
theorem w_t11 : (((((((((((words1.drop 24).drop 24).drop 24).drop 24).drop 24).drop 24).drop 24).drop 24).drop 24).drop 24).take 24).all (fun c => isCode c || c.before args0 about1) = true:=by decide +kernel
set_option maxRecDepth 65536 in
theorem w_t12 : ((((((((((((words1.drop 24).drop 24).drop 24).drop 24).drop 24).drop 24).drop 24).drop 24).drop 24).drop 24).drop 24).take 24).all (fun c => isCode c || c.before args0 about1) = true:=by decide +kernel
set_option maxRecDepth 65536 in
theorem w_t13 : (((((((((((((words1.drop 24).drop 24).drop 24).drop 24).drop 24).drop 24).drop 24).drop 24).drop 24).drop 24).drop 24).drop 24).take 24).all (fun c => isCode c || c.before args0 about1) = true:=by decide +kernel
set_option maxRecDepth 65536 in
theorem w_t14 : ((((((((((((((words1.drop 24).drop 24).drop 24).drop 24).drop 24).drop 24).drop 24).drop 24).drop 24).drop 24).drop 24).drop 24).drop 24).take 24).all (fun c => isCode c || c.before args0 about1) = true:=by decide +kernel
set_option maxRecDepth 65536 in
theorem w_t15 : (((((((((((((((words1.drop 24).drop 24).drop 24).drop 24).drop 24).drop 24).drop 24).drop 24).drop 24).drop 24).drop 24).drop 24).drop 24).drop 24).take 24).all (fun c => isCode c || c.before args0 about1) = true:=by decide +kernel
set_option maxRecDepth 65536 in
theorem w_t16 : (((((((((((((((words1.drop 24).drop 24).drop 24).drop 24).drop 24).drop 24).drop 24).drop 24).drop 24).drop 24).drop 24).drop 24).drop 24).drop 24).drop 24).all (fun c => isCode c || c.before args0 about1) = true:=by decide +kernel
theorem w_tables : (allAtoms (Jvm.Cond.code x code maxLocals ret::tables_1)).before args0 about1 = true:=by
  rw [allAtoms_all]
  show words1.all (fun c => c.before args0 about1) = true
  refine all_split ?_ w_codes
  rw [← List.take_append_drop 24 words1,List.all_append,w_t1,← List.take_append_drop 24 (words1.drop 24),List.all_append,w_t2,← List.take_append_drop 24 ((words1.drop 24).drop 24),List.all_append,w_t3,← List.take_append_drop 24 (((words1.drop 24).drop 24).drop 24),List.all_append,w_t4,← List.take_append_drop 24 ((((words1.drop 24).drop 24).drop 24).drop 24),List.all_append,w_t5,← List.take_append_drop 24 (((((words1.drop 24).drop 24).drop 24).drop 24).drop 24),List.all_append,w_t6,← List.take_append_drop 24 ((((((words1.drop 24).drop 24).drop 24).drop 24).drop 24).drop 24),List.all_append,w_t7,← List.take_append_drop 24 (((((((words1.drop 24).drop 24).drop 24).drop 24).drop 24).drop 24).drop 24),List.all_append,w_t8,← List.take_append_drop 24 ((((((((words1.drop 24).drop 24).drop 24).drop 24).drop 24).drop 24).drop 24).drop 24),List.all_append,w_t9,← List.take_append_drop 24 (((((((((words1.drop 24).drop 24).drop 24).drop 24).drop 24).drop 24).drop 24).drop 24).drop 24),List.all_append,w_t10,← List.take_append_drop 24 ((((((((((words1.drop 24).drop 24).drop 24).drop 24).drop 24).drop 24).drop 24).drop 24).drop 24).drop 24),List.all_append,w_t11,← List.take_append_drop 24 (((((((((((words1.drop 24).drop 24).drop 24).drop 24).drop 24).drop 24).drop 24).drop 24).drop 24).drop 24).drop 24),List.all_append,w_t12,← List.take_append_drop 24 ((((((((((((words1.drop 24).drop 24).drop 24).drop 24).drop 24).drop 24).drop 24).drop 24).drop 24).drop 24).drop 24).drop 24),List.all_append,w_t13,← List.take_append_drop 24 (((((((((((((words1.drop 24).drop 24).drop 24).drop 24).drop 24).drop 24).drop 24).drop 24).drop 24).drop 24).drop 24).drop 24).drop 24),List.all_append,w_t14,← List.take_append_drop 24 ((((((((((((((words1.drop 24).drop 24).drop 24).drop 24).drop 24).drop 24).drop 24).drop 24).drop 24).drop 24).drop 24).drop 24).drop 24).drop 24),List.all_append,w_t15,w_t16]
  rfl
set_option maxRecDepth 65536 in
theorem w_case : (Jvm.Cond.and given_1 narrow_1).before args0 about1 = true:=by decide +kernel
theorem w_applies : (headSpec (Jvm.Cond.code x code maxLocals ret::tables_1) room_1).applies x e0.platform about1 = true :=
  (Spec.applies_iff w_frames).mpr ⟨w_running,w_runnable,w_alone,w_named,w_hears,w_ripe,w_room,w_tables⟩
theorem atStart : AtStart classFile x code maxLocals ret World_1 tables_1 room_1 Calls_1 rest_1 Pre_1 launch0 p0 e0 about1 theMethod args0 below0 :=
  ⟨lists_1,trivial,launch0.admits_env _ _ _,launch0.least_env,fairChoices_fair.cas,fairChoices_fair.clock,w_frames,w_args,w_heap,w_applies,trivial,trivial,w_case⟩
end start1
theorem witness_1 : WitnessClaimed_1:=⟨start1.p0,start1.e0,start1.about1,start1.theMethod,start1.args0,start1.below0,start1.atStart⟩
end Jvm.Pilot.@@N@@
