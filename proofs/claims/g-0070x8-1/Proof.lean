import JvmDerived
import JvmDerived.Pilot.@@N@@Statement
import JvmDerived.Pilot.@@N@@Code
set_option linter.unusedVariables false
set_option linter.unusedSimpArgs false
namespace Jvm.Own
open Sem ClassFile Op Lib Jvm.Stand Jvm.Free Jvm.LawKit Jvm.RoadKit
/-! OWN 1: words of the sheet, resolved -/
abbrev AHeap := List (FieldType × List Value)
abbrev Ws := List Jvm.Cond
def rFld (ws : Ws) (own : String) (i : Nat) : Option (String × String × String) :=
  ws.findSome? fun d => match d with
    | .fieldLink o j C n t => if o = own ∧ j = i then some (C, n, t) else none
    | _ => none
def rCls (ws : Ws) (own : String) (i : Nat) : Option String :=
  ws.findSome? fun d => match d with
    | .classLink o j C => if o = own ∧ j = i then some C else none
    | _ => none
def rMth (ws : Ws) (own : String) (i : Nat) : Option MethodName :=
  ws.findSome? fun d => match d with
    | .methodLink o j y => if o = own ∧ j = i then some y else none
    | _ => none
def rCon (ws : Ws) (own : String) (i : Nat) : Option Int32 :=
  ws.findSome? fun d => match d with
    | .constant o j v => if o = own ∧ j = i then some v else none
    | _ => none
def rConL (ws : Ws) (own : String) (i : Nat) : Option Int64 :=
  ws.findSome? fun d => match d with
    | .constantLong o j v => if o = own ∧ j = i then some v else none
    | _ => none
def rInst (ws : Ws) (C : String) : Option Nat :=
  ws.findSome? fun d => match d with
    | .instantiable c n => if c = C then some n else none
    | _ => none
def rCode (ws : Ws) (y : MethodName) : Option (ByteArray × Nat × Option FieldType) :=
  ws.findSome? fun d => match d with
    | .code z b m r => if z = y then some (b, m, r) else none
    | _ => none
def hasInit (ws : Ws) (C : String) : Bool := ws.any fun d => match d with | .initialized c => c == C | _ => false
def hasArr (ws : Ws) (t : FieldType) : Bool := ws.any fun d => match d with | .arrayClass c => decide (c = t) | _ => false
def hasStat (ws : Ws) (y : MethodName) : Bool := ws.any fun d => match d with | .static z => decide (z = y) | _ => false
def hasIM (ws : Ws) (y : MethodName) : Bool := ws.any fun d => match d with | .instanceMethod z => decide (z = y) | _ => false
def hasPriv (ws : Ws) (y : MethodName) : Bool := ws.any fun d => match d with | .privateMethod z => decide (z = y) | _ => false
def hasDecl (ws : Ws) (y : MethodName) : Bool := ws.any fun d => match d with | .declares z => decide (z = y) | _ => false
def hasSel (ws : Ws) (y : MethodName) : Bool := ws.any fun d => match d with | .selects c z z' => decide (c = y.cls ∧ z = y ∧ z' = y) | _ => false
def hasLays (ws : Ws) (C n t : String) : Bool := ws.any fun d => match d with | .lays c o n' t' => decide (c = C ∧ o = C ∧ n' = n ∧ t' = t) | _ => false
def hasLaysF (ws : Ws) (C n t : String) : Bool := ws.any fun d => match d with | .laysFinal c o n' t' => decide (c = C ∧ o = C ∧ n' = n ∧ t' = t) | _ => false
def layE (C : String) : Jvm.Cond → Option (String × String)
  | .lays c o n t => if c = C ∧ o = C ∧ (parseFieldDescriptor t).isSome = true then some (n, t) else none
  | .laysFinal c o n t => if c = C ∧ o = C ∧ (parseFieldDescriptor t).isSome = true then some (n, t) else none
  | _ => none
def olay (ws : Ws) (C : String) : List (String × String) := ws.filterMap (layE C)
def idx (x : String × String) : List (String × String) → Option Nat
  | [] => none
  | y :: r => if y = x then some 0 else (idx x r).map (· + 1)
def fidx (ws : Ws) (C n t : String) : Option Nat := idx (n, t) (olay ws C)
def gfR (ws : Ws) (own : String) (i : Nat) : Option (String × Nat) :=
  match rFld ws own i with
  | some (C, n, t) => (fidx ws C n t).map fun j => (C, j)
  | none => none
def pfR (ws : Ws) (own mn : String) (i : Nat) : Option (String × Nat × FieldType) :=
  match rFld ws own i with
  | some (C, n, t) =>
    match fidx ws C n t, parseFieldDescriptor t with
    | some j, some ty => if (hasLays ws C n t || (hasLaysF ws C n t && own == C && mn == "<init>")) && (rInst ws C).isSome && (olay ws C).all (fun q => q.1 != n || q.2 == t) then some (C, j, ty) else none
    | _, _ => none
  | none => none
section Res
variable {ws : Ws} {own C n t : String} {i : Nat} {y : MethodName}
theorem rFld_mem (h : rFld ws own i = some (C, n, t)) : Jvm.Cond.fieldLink own i C n t ∈ ws := by
  obtain ⟨d, hd, e⟩ := List.exists_of_findSome?_eq_some h
  split at e
  · split at e
    · rename_i q; obtain ⟨rfl, rfl⟩ := q; cases e; exact hd
    · cases e
  · cases e
theorem rCls_mem (h : rCls ws own i = some C) : Jvm.Cond.classLink own i C ∈ ws := by
  obtain ⟨d, hd, e⟩ := List.exists_of_findSome?_eq_some h
  split at e
  · split at e
    · rename_i q; obtain ⟨rfl, rfl⟩ := q; cases e; exact hd
    · cases e
  · cases e
theorem rMth_mem (h : rMth ws own i = some y) : Jvm.Cond.methodLink own i y ∈ ws := by
  obtain ⟨d, hd, e⟩ := List.exists_of_findSome?_eq_some h
  split at e
  · split at e
    · rename_i q; obtain ⟨rfl, rfl⟩ := q; cases e; exact hd
    · cases e
  · cases e
theorem rCon_mem {v : Int32} (h : rCon ws own i = some v) : Jvm.Cond.constant own i v ∈ ws := by
  obtain ⟨d, hd, e⟩ := List.exists_of_findSome?_eq_some h
  split at e
  · split at e
    · rename_i q; obtain ⟨rfl, rfl⟩ := q; cases e; exact hd
    · cases e
  · cases e
theorem rConL_mem {v : Int64} (h : rConL ws own i = some v) : Jvm.Cond.constantLong own i v ∈ ws := by
  obtain ⟨d, hd, e⟩ := List.exists_of_findSome?_eq_some h
  split at e
  · split at e
    · rename_i q; obtain ⟨rfl, rfl⟩ := q; cases e; exact hd
    · cases e
  · cases e
theorem rInst_mem {k : Nat} (h : rInst ws C = some k) : Jvm.Cond.instantiable C k ∈ ws := by
  obtain ⟨d, hd, e⟩ := List.exists_of_findSome?_eq_some h
  split at e
  · split at e
    · rename_i q; subst q; cases e; exact hd
    · cases e
  · cases e
theorem rCode_mem {b : ByteArray} {k : Nat} {r : Option FieldType} (h : rCode ws y = some (b, k, r)) : Jvm.Cond.code y b k r ∈ ws := by
  obtain ⟨d, hd, e⟩ := List.exists_of_findSome?_eq_some h
  split at e
  · split at e
    · rename_i q; subst q; cases e; exact hd
    · cases e
  · cases e
theorem hasInit_mem (h : hasInit ws C = true) : Jvm.Cond.initialized C ∈ ws := by
  obtain ⟨d, hd, e⟩ := List.any_eq_true.mp h
  split at e
  · rw [beq_iff_eq] at e; subst e; exact hd
  · cases e
theorem hasArr_mem {ty : FieldType} (h : hasArr ws ty = true) : Jvm.Cond.arrayClass ty ∈ ws := by
  obtain ⟨d, hd, e⟩ := List.any_eq_true.mp h
  split at e
  · have e := of_decide_eq_true e; subst e; exact hd
  · cases e
theorem hasStat_mem (h : hasStat ws y = true) : Jvm.Cond.static y ∈ ws := by
  obtain ⟨d, hd, e⟩ := List.any_eq_true.mp h
  split at e
  · have e := of_decide_eq_true e; subst e; exact hd
  · cases e
theorem hasIM_mem (h : hasIM ws y = true) : Jvm.Cond.instanceMethod y ∈ ws := by
  obtain ⟨d, hd, e⟩ := List.any_eq_true.mp h
  split at e
  · have e := of_decide_eq_true e; subst e; exact hd
  · cases e
theorem hasPriv_mem (h : hasPriv ws y = true) : Jvm.Cond.privateMethod y ∈ ws := by
  obtain ⟨d, hd, e⟩ := List.any_eq_true.mp h
  split at e
  · have e := of_decide_eq_true e; subst e; exact hd
  · cases e
theorem hasDecl_mem (h : hasDecl ws y = true) : Jvm.Cond.declares y ∈ ws := by
  obtain ⟨d, hd, e⟩ := List.any_eq_true.mp h
  split at e
  · have e := of_decide_eq_true e; subst e; exact hd
  · cases e
theorem hasSel_mem (h : hasSel ws y = true) : Jvm.Cond.selects y.cls y y ∈ ws := by
  obtain ⟨d, hd, e⟩ := List.any_eq_true.mp h
  split at e
  · obtain ⟨rfl, rfl, rfl⟩ := of_decide_eq_true e; exact hd
  · cases e
theorem hasLays_mem (h : hasLays ws C n t = true) : Jvm.Cond.lays C C n t ∈ ws := by
  obtain ⟨d, hd, e⟩ := List.any_eq_true.mp h
  split at e
  · obtain ⟨rfl, rfl, rfl, rfl⟩ := of_decide_eq_true e; exact hd
  · cases e
theorem hasLaysF_mem (h : hasLaysF ws C n t = true) : Jvm.Cond.laysFinal C C n t ∈ ws := by
  obtain ⟨d, hd, e⟩ := List.any_eq_true.mp h
  split at e
  · obtain ⟨rfl, rfl, rfl, rfl⟩ := of_decide_eq_true e; exact hd
  · cases e
theorem lay_mem (h : (n, t) ∈ olay ws C) : (Jvm.Cond.lays C C n t ∈ ws ∨ Jvm.Cond.laysFinal C C n t ∈ ws) ∧ ∃ ty, parseFieldDescriptor t = some ty := by
  obtain ⟨d, hd, e⟩ := List.mem_filterMap.mp h
  unfold layE at e
  split at e
  · split at e
    · rename_i q; obtain ⟨rfl, rfl, q⟩ := q; cases e; exact ⟨Or.inl hd, Option.isSome_iff_exists.mp q⟩
    · cases e
  · split at e
    · rename_i q; obtain ⟨rfl, rfl, q⟩ := q; cases e; exact ⟨Or.inr hd, Option.isSome_iff_exists.mp q⟩
    · cases e
  · cases e
theorem idx_get {x : String × String} : ∀ {l : List (String × String)} {j : Nat}, idx x l = some j → l[j]? = some x
  | [], _, h => by cases h
  | y :: r, j, h => by
    unfold idx at h
    split at h
    · rename_i q; cases h; simp [q]
    · obtain ⟨j', h', rfl⟩ := Option.map_eq_some_iff.mp h
      simpa using idx_get h'
theorem fidx_mem {j : Nat} (h : fidx ws C n t = some j) : (n, t) ∈ olay ws C := List.mem_of_getElem? (idx_get h)
theorem fidx_inj {n' t' : String} {j : Nat} (h : fidx ws C n t = some j) (h' : fidx ws C n' t' = some j) : n = n' ∧ t = t' := by
  have := (idx_get h).symm.trans (idx_get h')
  simpa using this
theorem gfR_some {j : Nat} (h : gfR ws own i = some (C, j)) : ∃ n t, rFld ws own i = some (C, n, t) ∧ fidx ws C n t = some j := by
  unfold gfR at h
  split at h
  · rename_i C' n' t' q
    obtain ⟨j', h', e⟩ := Option.map_eq_some_iff.mp h
    cases e; exact ⟨_, _, q, h'⟩
  · cases h
theorem pfR_some {mn : String} {j : Nat} {ty : FieldType} (h : pfR ws own mn i = some (C, j, ty)) : ∃ n t, rFld ws own i = some (C, n, t) ∧ fidx ws C n t = some j ∧ parseFieldDescriptor t = some ty ∧
    (Jvm.Cond.lays C C n t ∈ ws ∨ (Jvm.Cond.laysFinal C C n t ∈ ws ∧ own = C ∧ mn = "<init>")) ∧ (∃ k, Jvm.Cond.instantiable C k ∈ ws) ∧ ∀ n' t', (n', t') ∈ olay ws C → n' ≠ n ∨ t' = t := by
  unfold pfR at h
  split at h
  · rename_i C' n' t' q
    split at h
    · rename_i j' ty' q1 q2
      split at h
      · rename_i g
        cases h
        simp only [Bool.and_eq_true, Bool.or_eq_true, beq_iff_eq, List.all_eq_true, bne_iff_ne, ne_eq] at g
        obtain ⟨⟨g1, g2⟩, g3⟩ := g
        obtain ⟨k, hk⟩ := Option.isSome_iff_exists.mp g2
        refine ⟨n', t', q, q1, q2, ?_, ⟨k, rInst_mem hk⟩, fun a b hab => g3 (a, b) hab⟩
        rcases g1 with g1 | ⟨⟨g1, g4⟩, g5⟩
        · exact Or.inl (hasLays_mem g1)
        · exact Or.inr ⟨hasLaysF_mem g1, g4, g5⟩
      · cases h
    · cases h
  · cases h
end Res
end Jvm.Own
namespace Jvm.Own
open Sem ClassFile Op Lib Jvm.Stand Jvm.Free Jvm.LawKit Jvm.RoadKit
/-! OWN 2: the abstract machine -/
abbrev XR := Option (Nat × List Slot × List Value)
def chk {α : Type} (a b : Nat) (x : Option α) : Option α := if a = b then x else none
def isI : Value → Bool | .int _ => true | _ => false
def isL : Value → Bool | .long _ => true | _ => false
def stl (ls : List Slot) (i : Nat) (v : Value) : Option (List Slot) := (storeLocals ls.toArray i v).map Array.toList
def ldV (p : Value → Bool) (nx i : Nat) (ls : List Slot) (st : List Value) : XR :=
  match ls[i]? with
  | some (.val v) => if p v = true then some (nx, ls, v :: st) else none
  | _ => none
def stV (p : Value → Bool) (nx i : Nat) (ls : List Slot) : List Value → XR
  | v :: r => if p v = true then (stl ls i v).map fun l' => (nx, l', r) else none
  | [] => none
def b2 (f : Int32 → Int32 → Int32) (nx : Nat) (ls : List Slot) : List Value → XR
  | .int y :: .int x :: r => some (nx, ls, .int (f x y) :: r)
  | _ => none
def d2 (f : Int32 → Int32 → Int32) (nx : Nat) (ls : List Slot) : List Value → XR
  | .int y :: .int x :: r => if y = 0 then none else some (nx, ls, .int (f x y) :: r)
  | _ => none
def u1 (f : Int32 → Int32) (nx : Nat) (ls : List Slot) : List Value → XR
  | .int x :: r => some (nx, ls, .int (f x) :: r)
  | _ => none
def l2 (f : Int64 → Int64 → Int64) (nx : Nat) (ls : List Slot) : List Value → XR
  | .long y :: .long x :: r => some (nx, ls, .long (f x y) :: r)
  | _ => none
def lsh (f : Int64 → Int32 → Int64) (nx : Nat) (ls : List Slot) : List Value → XR
  | .int y :: .long x :: r => some (nx, ls, .long (f x y) :: r)
  | _ => none
def jmp (pc : Nat) (o : Int) : Option Nat := if 0 ≤ (pc : Int) + o then some ((pc : Int) + o).toNat else none
def br (c : Bool) (pc : Nat) (o : Int) (ls : List Slot) (r : List Value) : XR :=
  if c = true then (jmp pc o).map fun q => (q, ls, r) else some (pc + 3, ls, r)
def sw (pc : Nat) (dflt low high : Int) (offs : Array Int) (ls : List Slot) : List Value → XR
  | .int i :: r => if i.toInt < low ∨ i.toInt > high then (jmp pc dflt).map fun q => (q, ls, r) else
      match offs[(i.toInt - low).toNat]? with
      | some o => (jmp pc o).map fun q => (q, ls, r)
      | none => none
  | _ => none
def xstep (ins : Instr) (len pc : Nat) (ls : List Slot) (st : List Value) : XR :=
  match ins with
  | .aload_n i => chk len 1 (ldV Value.isRef (pc + 1) i.val ls st)
  | .aload i => chk len 2 (ldV Value.isRef (pc + 2) i ls st)
  | .iload_n i => chk len 1 (ldV isI (pc + 1) i.val ls st)
  | .iload i => chk len 2 (ldV isI (pc + 2) i ls st)
  | .lload_n i => chk len 1 (ldV isL (pc + 1) i.val ls st)
  | .lload i => chk len 2 (ldV isL (pc + 2) i ls st)
  | .astore_n i => chk len 1 (stV Value.isRef (pc + 1) i.val ls st)
  | .astore i => chk len 2 (stV Value.isRef (pc + 2) i ls st)
  | .istore_n i => chk len 1 (stV isI (pc + 1) i.val ls st)
  | .istore i => chk len 2 (stV isI (pc + 2) i ls st)
  | .lstore_n i => chk len 1 (stV isL (pc + 1) i.val ls st)
  | .lstore i => chk len 2 (stV isL (pc + 2) i ls st)
  | .iconst i => chk len 1 (some (pc + 1, ls, .int (Int32.ofInt i) :: st))
  | .bipush i => chk len 2 (some (pc + 2, ls, .int (Int8.ofInt i).toInt32 :: st))
  | .sipush i => chk len 3 (some (pc + 3, ls, .int (Int16.ofInt i).toInt32 :: st))
  | .lconst i => chk len 1 (some (pc + 1, ls, .long (Int64.ofNat i) :: st))
  | .iadd => chk len 1 (b2 (fun x y => x + y) (pc + 1) ls st)
  | .isub => chk len 1 (b2 (fun x y => x - y) (pc + 1) ls st)
  | .imul => chk len 1 (b2 (fun x y => x * y) (pc + 1) ls st)
  | .iand => chk len 1 (b2 (fun x y => x &&& y) (pc + 1) ls st)
  | .ior => chk len 1 (b2 (fun x y => x ||| y) (pc + 1) ls st)
  | .ixor => chk len 1 (b2 (fun x y => x ^^^ y) (pc + 1) ls st)
  | .ishl => chk len 1 (b2 (fun x y => x <<< (y &&& 31)) (pc + 1) ls st)
  | .ishr => chk len 1 (b2 (fun x y => x >>> (y &&& 31)) (pc + 1) ls st)
  | .iushr => chk len 1 (b2 XT.ushr (pc + 1) ls st)
  | .idiv => chk len 1 (d2 (fun x y => x / y) (pc + 1) ls st)
  | .irem => chk len 1 (d2 (fun x y => x % y) (pc + 1) ls st)
  | .ineg => chk len 1 (u1 (fun x => -x) (pc + 1) ls st)
  | .i2b => chk len 1 (u1 (fun x => x.toInt8.toInt32) (pc + 1) ls st)
  | .i2c => chk len 1 (u1 (fun x => x.toUInt32.toUInt16.toUInt32.toInt32) (pc + 1) ls st)
  | .ladd => chk len 1 (l2 (fun x y => x + y) (pc + 1) ls st)
  | .lsub => chk len 1 (l2 (fun x y => x - y) (pc + 1) ls st)
  | .lmul => chk len 1 (l2 (fun x y => x * y) (pc + 1) ls st)
  | .land => chk len 1 (l2 (fun x y => x &&& y) (pc + 1) ls st)
  | .lor => chk len 1 (l2 (fun x y => x ||| y) (pc + 1) ls st)
  | .lxor => chk len 1 (l2 (fun x y => x ^^^ y) (pc + 1) ls st)
  | .lshl => chk len 1 (lsh (fun x y => x <<< (y.toInt64 &&& 63)) (pc + 1) ls st)
  | .lshr => chk len 1 (lsh (fun x y => x >>> (y.toInt64 &&& 63)) (pc + 1) ls st)
  | .lushr => chk len 1 (lsh XT.ushrL (pc + 1) ls st)
  | .lneg => chk len 1 (match st with | .long x :: r => some (pc + 1, ls, .long (-x) :: r) | _ => none)
  | .i2l => chk len 1 (match st with | .int x :: r => some (pc + 1, ls, .long x.toInt64 :: r) | _ => none)
  | .l2i => chk len 1 (match st with | .long x :: r => some (pc + 1, ls, .int x.toInt32 :: r) | _ => none)
  | .lcmp => chk len 1 (match st with | .long y :: .long x :: r => some (pc + 1, ls, .int (XT.cmpL x y) :: r) | _ => none)
  | .iinc i cst => chk len 3 (match ls[i]? with | some (.val (.int x)) => (stl ls i (.int (x + Int32.ofInt cst))).map fun l' => (pc + 3, l', st) | _ => none)
  | .dup => chk len 1 (match st with | x :: r => if x.category = 1 then some (pc + 1, ls, x :: x :: r) else none | _ => none)
  | .dup2 => chk len 1 (match st with
      | .long x :: r => some (pc + 1, ls, .long x :: .long x :: r)
      | x :: y :: r => if x.category = 1 ∧ y.category = 1 then some (pc + 1, ls, x :: y :: x :: y :: r) else none
      | _ => none)
  | .pop => chk len 1 (match st with | x :: r => if x.category = 1 then some (pc + 1, ls, r) else none | _ => none)
  | .goto o => chk len 3 ((jmp pc o).map fun q => (q, ls, st))
  | .ifCond cd o => chk len 3 (match st with | .int x :: r => br (ifCond.holds cd x) pc o ls r | _ => none)
  | .if_icmp cd o => chk len 3 (match st with | .int y :: .int x :: r => br (if_icmp.holds cd x y) pc o ls r | _ => none)
  | .tableswitch dflt low high offs => sw pc dflt low high offs ls st
  | _ => none
abbrev HR := Option (Nat × List Value × AHeap)
def putv : FieldType → Value → Option Value
  | .int, .int x => some (.int x)
  | .boolean, .int x => some (.int (nar .boolean x))
  | .byte, .int x => some (.int (nar .byte x))
  | .char, .int x => some (.int (nar .char x))
  | .short, .int x => some (.int (nar .short x))
  | .long, .long x => some (.long x)
  | .array _, .ref a => some (.ref a)
  | _, _ => none
def dflt (q : String × String) : Value := match parseFieldDescriptor q.2 with | some ty => defaultValue ty | none => .null
def hGet (ws : Ws) (own : String) (i pc : Nat) (H : AHeap) : List Value → HR
  | .ref a :: r =>
    match gfR ws own i, H[a]? with
    | some (C, j), some (.object C', vs) => if C = C' then (vs[j]?).map fun v => (pc + 3, v :: r, H) else none
    | _, _ => none
  | _ => none
def hPut (ws : Ws) (k : Nat) (own mn : String) (i pc : Nat) (H : AHeap) : List Value → HR
  | v :: .ref a :: r =>
    match pfR ws own mn i, H[a]? with
    | some (C, j, ty), some (.object C', vs) => if C = C' ∧ k ≤ a ∧ j < vs.length then (putv ty v).map fun v' => (pc + 3, r, H.set a (.object C', vs.set j v')) else none
    | _, _ => none
  | _ => none
def hNew (ws : Ws) (own : String) (i pc : Nat) (H : AHeap) (st : List Value) : HR :=
  match rCls ws own i with
  | some C => if (rInst ws C).isSome = true ∧ hasInit ws C = true then some (pc + 3, .ref H.length :: st, H ++ [(.object C, (olay ws C).map dflt)]) else none
  | none => none
def hNewA (ws : Ws) (aty : ArrayType) (pc : Nat) (H : AHeap) : List Value → HR
  | .int n :: r => if hasArr ws (newarray.typeOf aty) = true ∧ ¬ n < 0 ∧ n.toNatClampNeg * 8 ≤ 536870912 then
      some (pc + 2, .ref H.length :: r, H ++ [(.array (newarray.typeOf aty), List.replicate n.toNatClampNeg (defaultValue (newarray.typeOf aty)))]) else none
  | _ => none
def hLd (ok : FieldType → Bool) (pc : Nat) (H : AHeap) : List Value → HR
  | .int j :: .ref a :: r =>
    match H[a]? with
    | some (.array ty, vs) => if ok ty = true ∧ ¬ j < 0 then (vs[j.toNatClampNeg]?).map fun v => (pc + 1, v :: r, H) else none
    | _ => none
  | _ => none
def hSt (ok : FieldType → Bool) (k pc : Nat) (H : AHeap) : List Value → HR
  | v :: .int j :: .ref a :: r =>
    match H[a]? with
    | some (.array ty, vs) => if ok ty = true ∧ k ≤ a ∧ ¬ j < 0 ∧ j.toNatClampNeg < vs.length then (putv ty v).map fun v' => (pc + 1, r, H.set a (.array ty, vs.set j.toNatClampNeg v')) else none
    | _ => none
  | _ => none
def hLen (pc : Nat) (H : AHeap) : List Value → HR
  | .ref a :: r =>
    match H[a]? with
    | some (.array _, vs) => some (pc + 1, .int vs.length.toInt32 :: r, H)
    | _ => none
  | _ => none
def okT (t u : FieldType) : Bool := decide (u = t)
def okB (u : FieldType) : Bool := decide (u = .byte) || decide (u = .boolean)
def hstep (ws : Ws) (k : Nat) (y : MethodName) (ins : Instr) (len pc : Nat) (st : List Value) (H : AHeap) : HR :=
  match ins with
  | .getfield i => chk len 3 (hGet ws y.cls i pc H st)
  | .putfield i => chk len 3 (hPut ws k y.cls y.name i pc H st)
  | .new i => chk len 3 (hNew ws y.cls i pc H st)
  | .newarray aty => chk len 2 (hNewA ws aty pc H st)
  | .iaload => chk len 1 (hLd (okT .int) pc H st)
  | .caload => chk len 1 (hLd (okT .char) pc H st)
  | .laload => chk len 1 (hLd (okT .long) pc H st)
  | .baload => chk len 1 (hLd okB pc H st)
  | .iastore => chk len 1 (hSt (okT .int) k pc H st)
  | .castore => chk len 1 (hSt (okT .char) k pc H st)
  | .lastore => chk len 1 (hSt (okT .long) k pc H st)
  | .bastore => chk len 1 (hSt okB k pc H st)
  | .arraylength => chk len 1 (hLen pc H st)
  | .ldc i => chk len 2 ((rCon ws y.cls i).map fun v => (pc + 2, .int v :: st, H))
  | .ldc_w i => chk len 3 ((rCon ws y.cls i).map fun v => (pc + 3, .int v :: st, H))
  | .ldc2_w i => chk len 3 ((rConL ws y.cls i).map fun v => (pc + 3, .long v :: st, H))
  | _ => none
def ent : List Value → List Slot
  | [] => []
  | v :: r => if v.category = 2 then .val v :: .second :: ent r else .val v :: ent r
def entry (as : List Value) (mx : Nat) : List Slot := ent as ++ List.replicate (mx - (ent as).length) .unset
def wsum (st : List Value) : Nat := (st.map fun v => v.category).sum
abbrev Dn := List (MethodName × Nat × Nat)
def dnOf (dn : Dn) (y : MethodName) : Option (Nat × Nat) := dn.findSome? fun q => if q.1 = y then some q.2 else none
/-- what a methodref says: callee, its code, max_locals, return, number of parameters, slack for what lies under -/
def cR (ws : Ws) (dn : Dn) (y : MethodName) (i : Nat) : Option (MethodName × ByteArray × Nat × Option FieldType × Nat × Nat) :=
  match rMth ws y.cls i with
  | none => none
  | some y' =>
    match rCode ws y', dnOf dn y', dnOf dn y, parseMethodDescriptor y'.desc with
    | some (b, mx, r), some (f', l'), some (f, l), some sig =>
      if hasInit ws y'.cls = true ∧ Jvm.plainName y'.cls = true ∧ y'.cls ≠ "java/lang/invoke/MethodHandle" ∧ y'.cls ≠ "java/lang/invoke/VarHandle" ∧ f' + 1 ≤ f ∧ mx + 11 + l' ≤ l then
        some (y', b, mx, r, sig.parameters.length, l - (mx + 11 + l')) else none
    | _, _, _, _ => none
def sR (ws : Ws) (dn : Dn) (y : MethodName) (i : Nat) : Option (MethodName × ByteArray × Nat × Option FieldType × Nat × Nat) :=
  match cR ws dn y i with
  | some q => if hasStat ws q.1 = true then some q else none
  | none => none
def nR (ws : Ws) (dn : Dn) (y : MethodName) (i : Nat) : Option (MethodName × ByteArray × Nat × Option FieldType × Nat × Nat) :=
  match cR ws dn y i with
  | some q => if q.1.name = "<init>" ∧ hasIM ws q.1 = true ∧ q.2.2.2.1 = none then some q else none
  | none => none
/-- the first: is it private? -/
def vR (ws : Ws) (dn : Dn) (y : MethodName) (i : Nat) : Option (Bool × MethodName × ByteArray × Nat × Option FieldType × Nat × Nat) :=
  match cR ws dn y i with
  | some q => if hasIM ws q.1 = true then
      (if hasPriv ws q.1 = true ∧ (rInst ws q.1.cls).isSome = true then some (true, q) else if hasDecl ws q.1 = true ∧ hasSel ws q.1 = true then some (false, q) else none) else none
  | none => none
/-- Object.<init>: how many words may lie under it -/
def oR (ws : Ws) (dn : Dn) (y : MethodName) (i : Nat) : Option Nat :=
  match rMth ws y.cls i, rCode ws Lib.objectInit, dnOf dn y with
  | some y', some (b, mx, r), some (f, l) =>
    if y' = Lib.objectInit ∧ hasIM ws Lib.objectInit = true ∧ b.data = #[0xb1] ∧ mx = 1 ∧ r = none ∧ 1 ≤ f ∧ 12 ≤ l then some (l - 12) else none
  | _, _, _ => none
abbrev Call := MethodName × ByteArray × Option FieldType × List Slot × List Value
/-- returns and calls -/
def cstep (ws : Ws) (dn : Dn) (y : MethodName) (ret : Option FieldType) (ins : Instr) (len pc : Nat) (ls : List Slot) (st : List Value) (H : AHeap) : Option (Option Value ⊕ (Nat × List Slot × List Value × AHeap) ⊕ Call) :=
  match ins with
  | .ireturn => chk len 1 (match st, ret with
      | .int z :: _, some t => if t = .int ∨ t = .boolean ∨ t = .byte ∨ t = .char ∨ t = .short then some (.inl (some (.int (nar t z)))) else none
      | _, _ => none)
  | .lreturn => chk len 1 (match st, ret with
      | [.long z], some .long => some (.inl (some (.long z)))
      | _, _ => none)
  | .return_ => chk len 1 (match st, ret with
      | [], none => some (.inl none)
      | _, _ => none)
  | .invokestatic i => chk len 3 (match sR ws dn y i with
      | some (y', b, mx, r, na, sl) =>
        if na ≤ st.length ∧ wsum (st.drop na) ≤ sl ∧ (ent (st.take na).reverse).length ≤ mx then
          some (.inr (.inr (y', b, r, entry (st.take na).reverse mx, st.drop na)))
        else none
      | none => none)
  | .invokespecial i => chk len 3 (match oR ws dn y i with
      | some sl => (match st with
          | .ref _ :: r => if wsum r ≤ sl then some (.inr (.inl (pc + 3, ls, r, H))) else none
          | _ => none)
      | none => match nR ws dn y i with
        | some (y', b, mx, r, na, sl) =>
          (match st.drop na with
          | .ref a :: rest =>
            if wsum rest ≤ sl ∧ (ent (.ref a :: (st.take na).reverse)).length ≤ mx ∧ na ≤ st.length then
              some (.inr (.inr (y', b, r, entry (.ref a :: (st.take na).reverse) mx, rest)))
            else none
          | _ => none)
        | none => none)
  | .invokevirtual i => chk len 3 (match vR ws dn y i with
      | some (pv, y', b, mx, r, na, sl) =>
        (match st.drop na with
        | .ref a :: rest =>
          (match H[a]? with
          | some (.object C, _) =>
            if (pv = true ∨ C = y'.cls) ∧ wsum rest ≤ sl ∧ (ent (.ref a :: (st.take na).reverse)).length ≤ mx ∧ na ≤ st.length then
              some (.inr (.inr (y', b, r, entry (.ref a :: (st.take na).reverse) mx, rest)))
            else none
          | _ => none)
        | _ => none)
      | none => none)
  | _ => none
/-- what the machine does next: it returns, it steps, it calls -/
def act (ws : Ws) (dn : Dn) (k : Nat) (y : MethodName) (bytes : ByteArray) (ret : Option FieldType) (pc : Nat) (ls : List Slot) (st : List Value) (H : AHeap) : Option (Option Value ⊕ (Nat × List Slot × List Value × AHeap) ⊕ Call) :=
  match decode bytes pc with
  | .error _ => none
  | .ok (ins, len) =>
    match xstep ins len pc ls st with
    | some q => some (.inr (.inl (q.1, q.2.1, q.2.2, H)))
    | none => match hstep ws k y ins len pc st H with
      | some q => some (.inr (.inl (q.1, ls, q.2.1, q.2.2)))
      | none => cstep ws dn y ret ins len pc ls st H
def run (ws : Ws) (dn : Dn) (k : Nat) : Nat → MethodName → ByteArray → Option FieldType → Nat → List Slot → List Value → AHeap → Option (Option Value × AHeap)
  | 0, _, _, _, _, _, _, _ => none
  | n + 1, y, bytes, ret, pc, ls, st, H =>
    match act ws dn k y bytes ret pc ls st H with
    | none => none
    | some (.inl v) => some (v, H)
    | some (.inr (.inl (pc', ls', st', H'))) => run ws dn k n y bytes ret pc' ls' st' H'
    | some (.inr (.inr (y', b, r, en, rest))) =>
      match run ws dn k n y' b r 0 en [] H with
      | some (v, H1) => run ws dn k n y bytes ret (pc + 3) ls (v.toList ++ rest) H1
      | none => none
end Jvm.Own
namespace Jvm.Own
open Sem ClassFile Op Lib Jvm.Stand Jvm.Free Jvm.LawKit Jvm.RoadKit
/-! OWN 3: the abstract machine's plain steps are the machine's -/
def ren (f : Nat → Nat) : Value → Value
  | .ref a => .ref (f a)
  | v => v
def renS (f : Nat → Nat) : Slot → Slot
  | .val v => .val (ren f v)
  | s => s
abbrev fr (f : Nat → Nat) (m : MethodId) (pc : Nat) (ls : List Slot) (st : List Value) : JFrame := mkF m pc (ls.map (renS f)).toArray (st.map (ren f))
theorem ren_cat (f : Nat → Nat) (v : Value) : (ren f v).category = v.category := by cases v <;> rfl
theorem ren_isRef (f : Nat → Nat) (v : Value) : (ren f v).isRef = v.isRef := by cases v <;> rfl
theorem isI_int {v : Value} (h : isI v = true) : ∃ x, v = .int x := by cases v <;> first | exact ⟨_, rfl⟩ | cases h
theorem isL_long {v : Value} (h : isL v = true) : ∃ x, v = .long x := by cases v <;> first | exact ⟨_, rfl⟩ | cases h
theorem chk_some {α : Type} {a b : Nat} {x : Option α} {r : α} (h : chk a b x = some r) : a = b ∧ x = some r := by
  unfold chk at h
  split at h
  · exact ⟨by assumption, h⟩
  · cases h
theorem loc_get {f : Nat → Nat} {ls : List Slot} {i : Nat} {s : Slot} (h : ls[i]? = some s) : ((ls.map (renS f)).toArray)[i]? = some (renS f s) := by
  rw [List.getElem?_toArray, List.getElem?_map, h]; rfl
theorem setAt_ren (f : Nat → Nat) (l : Array Slot) (i : Nat) (x : Slot) : setAt (l.map (renS f)) i (renS f x) = (setAt l i x).map fun a => a.map (renS f) := by
  unfold setAt
  rw [Array.size_map]
  split
  · rw [Option.map_some, Array.map_setIfInBounds]
  · rfl
theorem storeSelf_ren (f : Nat → Nat) (l : Array Slot) (i : Nat) (v : Value) : storeSelf (l.map (renS f)) i (ren f v) = (storeSelf l i v).map fun a => a.map (renS f) := by
  have h0 : setAt (l.map (renS f)) i (.val (ren f v)) = _ := setAt_ren f l i (.val v)
  simp only [storeSelf, h0, ren_cat]
  cases setAt l i (.val v) with
  | none => rfl
  | some l1 =>
    simp only [Option.map_some, Option.bind_eq_bind, Option.bind_some, bind_pure_comp]
    split
    · rw [Array.getElem?_map]
      cases l1[i + 1]? with
      | none => rfl
      | some s =>
        simp only [Option.map_some, Option.bind_some]
        cases s with
        | unset => exact setAt_ren f l1 (i + 1) .second
        | second => exact setAt_ren f l1 (i + 1) .second
        | val w =>
          simp only [renS, ren_cat]
          split
          · have h1 : setAt (l1.map (renS f)) (i + 2) .unset = _ := setAt_ren f l1 (i + 2) .unset
            rw [h1]
            cases setAt l1 (i + 2) .unset with
            | none => rfl
            | some l2 => exact setAt_ren f l2 (i + 1) .second
          · exact setAt_ren f l1 (i + 1) .second
    · rfl
theorem storeLocals_ren (f : Nat → Nat) (l : Array Slot) (i : Nat) (v : Value) : storeLocals (l.map (renS f)) i (ren f v) = (storeLocals l i v).map fun a => a.map (renS f) := by
  simp only [storeLocals, Array.getElem?_map]
  cases l[i]? with
  | none => rfl
  | some s =>
    simp only [Option.map_some, Option.bind_eq_bind, Option.bind_some]
    cases s with
    | unset => exact storeSelf_ren f l i v
    | second =>
      have h1 : setAt (l.map (renS f)) (i - 1) .unset = _ := setAt_ren f l (i - 1) .unset
      simp only [renS, h1]
      cases setAt l (i - 1) .unset with
      | none => rfl
      | some l2 => exact storeSelf_ren f l2 i v
    | val w =>
      simp only [renS, ren_cat]
      split
      · have h1 : setAt (l.map (renS f)) (i + 1) .unset = _ := setAt_ren f l (i + 1) .unset
        rw [h1]
        cases setAt l (i + 1) .unset with
        | none => rfl
        | some l2 => exact storeSelf_ren f l2 i v
      · exact storeSelf_ren f l i v
theorem stl_ren {f : Nat → Nat} {ls l' : List Slot} {i : Nat} {v : Value} (h : stl ls i v = some l') : storeLocals (ls.map (renS f)).toArray i (ren f v) = some (l'.map (renS f)).toArray := by
  unfold stl at h
  obtain ⟨a, ha, rfl⟩ := Option.map_eq_some_iff.mp h
  have := storeLocals_ren f ls.toArray i v
  rw [ha] at this
  rw [← List.map_toArray, this]
  simp [← Array.toList_inj]
theorem setAt_size {l l' : Array Slot} {i : Nat} {x : Slot} (h : setAt l i x = some l') : l'.size = l.size := by
  unfold setAt at h
  split at h
  · cases h; simp
  · cases h
theorem storeSelf_size {l l' : Array Slot} {i : Nat} {v : Value} (h : storeSelf l i v = some l') : l'.size = l.size := by
  simp only [storeSelf, Option.bind_eq_bind, Option.bind_eq_some_iff] at h
  obtain ⟨l1, h1, h⟩ := h
  have e1 := setAt_size h1
  split at h
  · obtain ⟨s, -, h⟩ := Option.bind_eq_some_iff.mp h
    split at h
    · split at h
      · obtain ⟨l2, h2, h⟩ := Option.bind_eq_some_iff.mp h
        rw [setAt_size h, setAt_size h2, e1]
      · rw [setAt_size h, e1]
    · rw [setAt_size h, e1]
  · cases h; exact e1
theorem storeLocals_size {l l' : Array Slot} {i : Nat} {v : Value} (h : storeLocals l i v = some l') : l'.size = l.size := by
  simp only [storeLocals, Option.bind_eq_bind, Option.bind_eq_some_iff] at h
  obtain ⟨s, -, h⟩ := h
  split at h
  · obtain ⟨l2, h2, h⟩ := Option.bind_eq_some_iff.mp h
    rw [storeSelf_size h, setAt_size h2]
  · split at h
    · obtain ⟨l2, h2, h⟩ := Option.bind_eq_some_iff.mp h
      rw [storeSelf_size h, setAt_size h2]
    · exact storeSelf_size h
  · exact storeSelf_size h
theorem stl_size {ls l' : List Slot} {i : Nat} {v : Value} (h : stl ls i v = some l') : l'.length = ls.length := by
  unfold stl at h
  obtain ⟨a, ha, rfl⟩ := Option.map_eq_some_iff.mp h
  have := storeLocals_size ha
  simpa using this
theorem ldV_some {p : Value → Bool} {nx i : Nat} {ls : List Slot} {st : List Value} {q : Nat × List Slot × List Value} (h : ldV p nx i ls st = some q) : ∃ v, ls[i]? = some (.val v) ∧ p v = true ∧ q = (nx, ls, v :: st) := by
  unfold ldV at h
  split at h
  · rename_i v hv
    split at h
    · cases h; exact ⟨v, hv, by assumption, rfl⟩
    · cases h
  · cases h
theorem stV_some {p : Value → Bool} {nx i : Nat} {ls : List Slot} {st : List Value} {q : Nat × List Slot × List Value} (h : stV p nx i ls st = some q) : ∃ v r l', st = v :: r ∧ p v = true ∧ stl ls i v = some l' ∧ q = (nx, l', r) := by
  unfold stV at h
  split at h
  · split at h
    · obtain ⟨l', h1, h2⟩ := Option.map_eq_some_iff.mp h
      exact ⟨_, _, l', rfl, by assumption, h1, h2.symm⟩
    · cases h
  · cases h
theorem b2_some {f : Int32 → Int32 → Int32} {nx : Nat} {ls : List Slot} {st : List Value} {q : Nat × List Slot × List Value} (h : b2 f nx ls st = some q) : ∃ x y r, st = .int y :: .int x :: r ∧ q = (nx, ls, .int (f x y) :: r) := by
  unfold b2 at h
  split at h
  · cases h; exact ⟨_, _, _, rfl, rfl⟩
  · cases h
theorem d2_some {f : Int32 → Int32 → Int32} {nx : Nat} {ls : List Slot} {st : List Value} {q : Nat × List Slot × List Value} (h : d2 f nx ls st = some q) : ∃ x y r, st = .int y :: .int x :: r ∧ y ≠ 0 ∧ q = (nx, ls, .int (f x y) :: r) := by
  unfold d2 at h
  split at h
  · split at h
    · cases h
    · cases h; exact ⟨_, _, _, rfl, by assumption, rfl⟩
  · cases h
theorem u1_some {f : Int32 → Int32} {nx : Nat} {ls : List Slot} {st : List Value} {q : Nat × List Slot × List Value} (h : u1 f nx ls st = some q) : ∃ x r, st = .int x :: r ∧ q = (nx, ls, .int (f x) :: r) := by
  unfold u1 at h
  split at h
  · cases h; exact ⟨_, _, rfl, rfl⟩
  · cases h
theorem l2_some {f : Int64 → Int64 → Int64} {nx : Nat} {ls : List Slot} {st : List Value} {q : Nat × List Slot × List Value} (h : l2 f nx ls st = some q) : ∃ x y r, st = .long y :: .long x :: r ∧ q = (nx, ls, .long (f x y) :: r) := by
  unfold l2 at h
  split at h
  · cases h; exact ⟨_, _, _, rfl, rfl⟩
  · cases h
theorem lsh_some {f : Int64 → Int32 → Int64} {nx : Nat} {ls : List Slot} {st : List Value} {q : Nat × List Slot × List Value} (h : lsh f nx ls st = some q) : ∃ x y r, st = .int y :: .long x :: r ∧ q = (nx, ls, .long (f x y) :: r) := by
  unfold lsh at h
  split at h
  · cases h; exact ⟨_, _, _, rfl, rfl⟩
  · cases h
theorem jmp_some {pc q : Nat} {o : Int} (h : jmp pc o = some q) : 0 ≤ (pc : Int) + o ∧ ((pc : Int) + o).toNat = q := by
  unfold jmp at h
  split at h
  · cases h; exact ⟨by assumption, rfl⟩
  · cases h
theorem br_some {c : Bool} {pc : Nat} {o : Int} {ls : List Slot} {r : List Value} {q : Nat × List Slot × List Value} (h : br c pc o ls r = some q) : (c = true ∧ ∃ t, 0 ≤ (pc : Int) + o ∧ ((pc : Int) + o).toNat = t ∧ q = (t, ls, r)) ∨ (c = false ∧ q = (pc + 3, ls, r)) := by
  unfold br at h
  split at h
  · obtain ⟨t, h1, h2⟩ := Option.map_eq_some_iff.mp h
    obtain ⟨h3, h4⟩ := jmp_some h1
    exact Or.inl ⟨by assumption, t, h3, h4, h2.symm⟩
  · rename_i hc; cases h; exact Or.inr ⟨by simpa using hc, rfl⟩
section X
variable {tb : Tables} [Ours tb] {e : Env} {below : List Frame} {T target : State} {m : MethodId} {c : Code}
set_option maxHeartbeats 4000000 in
theorem xstep_sound (h : At T m c below) (hx : tb.exec = Jvm.exec) (f : Nat → Nat) {ins : Instr} {len pc : Nat} {ls : List Slot} {st : List Value} {q : Nat × List Slot × List Value}
    (hd : decode c.code pc = .ok (ins, len)) (hs : xstep ins len pc ls st = some q) (hr : Steps tb e below (T.setTop (fr f m q.1 q.2.1 q.2.2)) target) : Steps tb e below (T.setTop (fr f m pc ls st)) target := by
  unfold xstep at hs
  split at hs
  · obtain ⟨rfl, hs⟩ := chk_some hs; obtain ⟨v, h1, h2, rfl⟩ := ldV_some hs
    exact XS.aloadN h hx rfl hd (loc_get h1) (by rw [ren_isRef]; exact h2) hr
  · obtain ⟨rfl, hs⟩ := chk_some hs; obtain ⟨v, h1, h2, rfl⟩ := ldV_some hs
    exact XS.aload h hx rfl hd (loc_get h1) (by rw [ren_isRef]; exact h2) hr
  · obtain ⟨rfl, hs⟩ := chk_some hs; obtain ⟨v, h1, h2, rfl⟩ := ldV_some hs; obtain ⟨x, rfl⟩ := isI_int h2
    exact XS.iloadN h hx rfl hd (loc_get (f := f) h1) hr
  · obtain ⟨rfl, hs⟩ := chk_some hs; obtain ⟨v, h1, h2, rfl⟩ := ldV_some hs; obtain ⟨x, rfl⟩ := isI_int h2
    exact XS.iload h hx rfl hd (loc_get (f := f) h1) hr
  · obtain ⟨rfl, hs⟩ := chk_some hs; obtain ⟨v, h1, h2, rfl⟩ := ldV_some hs; obtain ⟨x, rfl⟩ := isL_long h2
    exact XT.lloadN h hx rfl hd (loc_get (f := f) h1) hr
  · obtain ⟨rfl, hs⟩ := chk_some hs; obtain ⟨v, h1, h2, rfl⟩ := ldV_some hs; obtain ⟨x, rfl⟩ := isL_long h2
    exact XT.lload h hx rfl hd (loc_get (f := f) h1) hr
  · obtain ⟨rfl, hs⟩ := chk_some hs; obtain ⟨v, r, l', rfl, h2, h3, rfl⟩ := stV_some hs
    exact XS.astoreN h hx rfl hd rfl (by rw [ren_isRef]; exact h2) (stl_ren h3) hr
  · obtain ⟨rfl, hs⟩ := chk_some hs; obtain ⟨v, r, l', rfl, h2, h3, rfl⟩ := stV_some hs
    exact XS.astore h hx rfl hd rfl (by rw [ren_isRef]; exact h2) (stl_ren h3) hr
  · obtain ⟨rfl, hs⟩ := chk_some hs; obtain ⟨v, r, l', rfl, h2, h3, rfl⟩ := stV_some hs; obtain ⟨x, rfl⟩ := isI_int h2
    exact XS.istoreN h hx rfl hd rfl (stl_ren (f := f) h3) hr
  · obtain ⟨rfl, hs⟩ := chk_some hs; obtain ⟨v, r, l', rfl, h2, h3, rfl⟩ := stV_some hs; obtain ⟨x, rfl⟩ := isI_int h2
    exact XS.istore h hx rfl hd rfl (stl_ren (f := f) h3) hr
  · obtain ⟨rfl, hs⟩ := chk_some hs; obtain ⟨v, r, l', rfl, h2, h3, rfl⟩ := stV_some hs; obtain ⟨x, rfl⟩ := isL_long h2
    exact XT.lstoreN h hx rfl hd rfl (stl_ren (f := f) h3) hr
  · obtain ⟨rfl, hs⟩ := chk_some hs; obtain ⟨v, r, l', rfl, h2, h3, rfl⟩ := stV_some hs; obtain ⟨x, rfl⟩ := isL_long h2
    exact XT.lstore h hx rfl hd rfl (stl_ren (f := f) h3) hr
  · obtain ⟨rfl, hs⟩ := chk_some hs; cases hs
    exact XS.iconst h hx rfl hd hr
  · obtain ⟨rfl, hs⟩ := chk_some hs; cases hs
    exact XS.bipush h hx rfl hd hr
  · obtain ⟨rfl, hs⟩ := chk_some hs; cases hs
    exact XS.sipush h hx rfl hd hr
  · obtain ⟨rfl, hs⟩ := chk_some hs; cases hs
    exact XT.lconst h hx rfl hd hr
  · obtain ⟨rfl, hs⟩ := chk_some hs; obtain ⟨x, y, r, rfl, rfl⟩ := b2_some hs
    exact XS.iadd h hx rfl hd rfl hr
  · obtain ⟨rfl, hs⟩ := chk_some hs; obtain ⟨x, y, r, rfl, rfl⟩ := b2_some hs
    exact XS.isub h hx rfl hd rfl hr
  · obtain ⟨rfl, hs⟩ := chk_some hs; obtain ⟨x, y, r, rfl, rfl⟩ := b2_some hs
    exact XS.imul h hx rfl hd rfl hr
  · obtain ⟨rfl, hs⟩ := chk_some hs; obtain ⟨x, y, r, rfl, rfl⟩ := b2_some hs
    exact XS.iand h hx rfl hd rfl hr
  · obtain ⟨rfl, hs⟩ := chk_some hs; obtain ⟨x, y, r, rfl, rfl⟩ := b2_some hs
    exact XT.ior h hx rfl hd rfl hr
  · obtain ⟨rfl, hs⟩ := chk_some hs; obtain ⟨x, y, r, rfl, rfl⟩ := b2_some hs
    exact XT.ixor h hx rfl hd rfl hr
  · obtain ⟨rfl, hs⟩ := chk_some hs; obtain ⟨x, y, r, rfl, rfl⟩ := b2_some hs
    exact XT.ishl h hx rfl hd rfl hr
  · obtain ⟨rfl, hs⟩ := chk_some hs; obtain ⟨x, y, r, rfl, rfl⟩ := b2_some hs
    exact XT.ishr h hx rfl hd rfl hr
  · obtain ⟨rfl, hs⟩ := chk_some hs; obtain ⟨x, y, r, rfl, rfl⟩ := b2_some hs
    exact XT.iushr h hx rfl hd rfl hr
  · obtain ⟨rfl, hs⟩ := chk_some hs; obtain ⟨x, y, r, rfl, h2, rfl⟩ := d2_some hs
    exact XS.idiv h hx rfl hd rfl h2 hr
  · obtain ⟨rfl, hs⟩ := chk_some hs; obtain ⟨x, y, r, rfl, h2, rfl⟩ := d2_some hs
    refine XS.irem h hx rfl hd rfl h2 ?_
    have q : x - x / y * y = x % y := irem_eq_mod x y
    rw [q]; exact hr
  · obtain ⟨rfl, hs⟩ := chk_some hs; obtain ⟨x, r, rfl, rfl⟩ := u1_some hs
    exact XS.ineg h hx rfl hd rfl hr
  · obtain ⟨rfl, hs⟩ := chk_some hs; obtain ⟨x, r, rfl, rfl⟩ := u1_some hs
    exact XT.i2b h hx rfl hd rfl hr
  · obtain ⟨rfl, hs⟩ := chk_some hs; obtain ⟨x, r, rfl, rfl⟩ := u1_some hs
    exact XT.i2c h hx rfl hd rfl hr
  · obtain ⟨rfl, hs⟩ := chk_some hs; obtain ⟨x, y, r, rfl, rfl⟩ := l2_some hs
    exact XT.ladd h hx rfl hd rfl hr
  · obtain ⟨rfl, hs⟩ := chk_some hs; obtain ⟨x, y, r, rfl, rfl⟩ := l2_some hs
    exact XT.lsub h hx rfl hd rfl hr
  · obtain ⟨rfl, hs⟩ := chk_some hs; obtain ⟨x, y, r, rfl, rfl⟩ := l2_some hs
    exact XT.lmul h hx rfl hd rfl hr
  · obtain ⟨rfl, hs⟩ := chk_some hs; obtain ⟨x, y, r, rfl, rfl⟩ := l2_some hs
    exact XT.land h hx rfl hd rfl hr
  · obtain ⟨rfl, hs⟩ := chk_some hs; obtain ⟨x, y, r, rfl, rfl⟩ := l2_some hs
    exact XT.lor h hx rfl hd rfl hr
  · obtain ⟨rfl, hs⟩ := chk_some hs; obtain ⟨x, y, r, rfl, rfl⟩ := l2_some hs
    exact XT.lxor h hx rfl hd rfl hr
  · obtain ⟨rfl, hs⟩ := chk_some hs; obtain ⟨x, y, r, rfl, rfl⟩ := lsh_some hs
    exact XT.lshl h hx rfl hd rfl hr
  · obtain ⟨rfl, hs⟩ := chk_some hs; obtain ⟨x, y, r, rfl, rfl⟩ := lsh_some hs
    exact XT.lshr h hx rfl hd rfl hr
  · obtain ⟨rfl, hs⟩ := chk_some hs; obtain ⟨x, y, r, rfl, rfl⟩ := lsh_some hs
    exact XT.lushr h hx rfl hd rfl hr
  · obtain ⟨rfl, hs⟩ := chk_some hs
    split at hs
    · cases hs; exact XT.lneg h hx rfl hd rfl hr
    · cases hs
  · obtain ⟨rfl, hs⟩ := chk_some hs
    split at hs
    · cases hs; exact XT.i2l h hx rfl hd rfl hr
    · cases hs
  · obtain ⟨rfl, hs⟩ := chk_some hs
    split at hs
    · cases hs; exact XT.l2i h hx rfl hd rfl hr
    · cases hs
  · obtain ⟨rfl, hs⟩ := chk_some hs
    split at hs
    · cases hs; exact XT.lcmp h hx rfl hd rfl hr
    · cases hs
  · obtain ⟨rfl, hs⟩ := chk_some hs
    split at hs
    · rename_i x h1
      obtain ⟨l', h2, rfl⟩ := Option.map_eq_some_iff.mp hs
      exact XS.iinc h hx rfl hd (loc_get (f := f) h1) (stl_ren (f := f) h2) hr
    · cases hs
  · obtain ⟨rfl, hs⟩ := chk_some hs
    split at hs
    · split at hs
      · rename_i hc; cases hs; exact XS.dup h hx rfl hd rfl (by rw [ren_cat]; exact hc) hr
      · cases hs
    · cases hs
  · obtain ⟨rfl, hs⟩ := chk_some hs
    split at hs
    · cases hs; exact XT.dup2L h hx rfl hd rfl hr
    · split at hs
      · rename_i hc; cases hs; exact XT.dup2 h hx rfl hd rfl (by rw [ren_cat]; exact hc.1) (by rw [ren_cat]; exact hc.2) hr
      · cases hs
    · cases hs
  · obtain ⟨rfl, hs⟩ := chk_some hs
    split at hs
    · split at hs
      · rename_i hc; cases hs; exact XT.pop h hx rfl hd rfl (by rw [ren_cat]; exact hc) hr
      · cases hs
    · cases hs
  · obtain ⟨rfl, hs⟩ := chk_some hs
    obtain ⟨t, h1, rfl⟩ := Option.map_eq_some_iff.mp hs
    obtain ⟨h2, h3⟩ := jmp_some h1
    exact XS.goto h hx rfl rfl hd h2 h3 hr
  · obtain ⟨rfl, hs⟩ := chk_some hs
    split at hs
    · rcases br_some hs with ⟨hc, t, h1, h2, rfl⟩ | ⟨hc, rfl⟩
      · exact XS.ifYes h hx rfl rfl hd rfl hc h1 h2 hr
      · exact XS.ifNo h hx rfl hd rfl hc hr
    · cases hs
  · obtain ⟨rfl, hs⟩ := chk_some hs
    split at hs
    · rcases br_some hs with ⟨hc, t, h1, h2, rfl⟩ | ⟨hc, rfl⟩
      · exact XS.icmpYes h hx rfl rfl hd rfl hc h1 h2 hr
      · exact XS.icmpNo h hx rfl hd rfl hc hr
    · cases hs
  · unfold sw at hs
    split at hs
    · split at hs
      · rename_i hc
        obtain ⟨t, h1, rfl⟩ := Option.map_eq_some_iff.mp hs
        obtain ⟨h2, h3⟩ := jmp_some h1
        exact XS.tswOut h hx rfl rfl hd rfl hc h2 h3 hr
      · rename_i hc
        split at hs
        · rename_i o ho
          obtain ⟨t, h1, rfl⟩ := Option.map_eq_some_iff.mp hs
          obtain ⟨h2, h3⟩ := jmp_some h1
          exact XS.tswIn h hx rfl rfl hd rfl hc ho h2 h3 hr
        · cases hs
    · cases hs
  · cases hs
end X
theorem xstep_size {ins : Instr} {len pc : Nat} {ls : List Slot} {st : List Value} {q : Nat × List Slot × List Value} (hs : xstep ins len pc ls st = some q) : q.2.1.length = ls.length := by
  unfold xstep at hs
  split at hs
  all_goals first
    | (obtain ⟨rfl, hs⟩ := chk_some hs; obtain ⟨v, h1, h2, rfl⟩ := ldV_some hs; rfl)
    | (obtain ⟨rfl, hs⟩ := chk_some hs; obtain ⟨v, r, l', rfl, h2, h3, rfl⟩ := stV_some hs; exact stl_size h3)
    | (obtain ⟨rfl, hs⟩ := chk_some hs; cases hs; rfl)
    | (obtain ⟨rfl, hs⟩ := chk_some hs; obtain ⟨x, y, r, rfl, rfl⟩ := b2_some hs; rfl)
    | (obtain ⟨rfl, hs⟩ := chk_some hs; obtain ⟨x, y, r, rfl, h2, rfl⟩ := d2_some hs; rfl)
    | (obtain ⟨rfl, hs⟩ := chk_some hs; obtain ⟨x, r, rfl, rfl⟩ := u1_some hs; rfl)
    | (obtain ⟨rfl, hs⟩ := chk_some hs; obtain ⟨x, y, r, rfl, rfl⟩ := l2_some hs; rfl)
    | (obtain ⟨rfl, hs⟩ := chk_some hs; obtain ⟨x, y, r, rfl, rfl⟩ := lsh_some hs; rfl)
    | (obtain ⟨rfl, hs⟩ := chk_some hs; split at hs <;> first | (cases hs; rfl) | (cases hs; done))
    | (obtain ⟨rfl, hs⟩ := chk_some hs; split at hs <;> first | (obtain ⟨l', h2, rfl⟩ := Option.map_eq_some_iff.mp hs; exact stl_size h2) | (cases hs; done))
    | (obtain ⟨rfl, hs⟩ := chk_some hs; split at hs <;> first | (split at hs <;> first | (cases hs; rfl) | (cases hs; done)) | (cases hs; rfl) | (cases hs; done))
    | (obtain ⟨rfl, hs⟩ := chk_some hs; obtain ⟨t, h1, rfl⟩ := Option.map_eq_some_iff.mp hs; rfl)
    | (obtain ⟨rfl, hs⟩ := chk_some hs; split at hs <;> first | (rcases br_some hs with ⟨hc, t, h1, h2, rfl⟩ | ⟨hc, rfl⟩ <;> rfl) | (cases hs; done))
    | (unfold sw at hs; split at hs <;> first | (cases hs; done) | (split at hs <;> first | (obtain ⟨t, h1, rfl⟩ := Option.map_eq_some_iff.mp hs; rfl) | (split at hs <;> first | (obtain ⟨t, h1, rfl⟩ := Option.map_eq_some_iff.mp hs; rfl) | (cases hs; done))))
    | (cases hs; done)
end Jvm.Own
namespace Jvm.Own
open Sem ClassFile Op Lib Jvm.Stand Jvm.Free Jvm.LawKit Jvm.RoadKit
/-! OWN 4: the heap's steps -/
def adr (k sa n0 i : Nat) : Nat := if i < k then sa else n0 + (i - k)
def SimO (Z : State) (ws : Ws) (f : Nat → Nat) (h : Heap) (a : Addr) : FieldType × List Value → Prop
  | (.object C, vs) => Exa Z h a C ∧ ∀ n t j, fidx ws C n t = some j → ∃ v, vs[j]? = some v ∧ Fld Z h a C n t (ren f v)
  | (.array ty, vs) => ∃ c : Cell, Arr Z h a c ty ∧ c.slots = (vs.map (ren f)).toArray
  | _ => False
def Sim (Z : State) (ws : Ws) (k sa n0 : Nat) (H : AHeap) (h : Heap) : Prop :=
  h.size = n0 + (H.length - k) ∧ k ≤ H.length ∧ k ≤ 1 ∧ (1 ≤ k → sa < n0) ∧ ∀ i o, H[i]? = some o → SimO Z ws (adr k sa n0) h (adr k sa n0 i) o
def cost (ws : Ws) : FieldType × List Value → Nat
  | (.object C, _) => (rInst ws C).getD 0
  | (_, vs) => vs.length
def tot (ws : Ws) (H : AHeap) : Nat := (H.map (cost ws)).sum
theorem adr_inj {k sa n0 i j : Nat} (hk : k ≤ 1) (hs : 1 ≤ k → sa < n0) (e : adr k sa n0 i = adr k sa n0 j) : i = j := by
  unfold adr at e; split at e <;> split at e <;> omega
theorem adr_ge {k sa n0 a : Nat} (h : k ≤ a) : n0 ≤ adr k sa n0 a := by
  unfold adr; rw [if_neg (by omega)]; omega
theorem tot_app (ws : Ws) (H : AHeap) (o : FieldType × List Value) : tot ws (H ++ [o]) = tot ws H + cost ws o := by simp [tot]
theorem tot_set {ws : Ws} : ∀ {H : AHeap} {a : Nat} {o o' : FieldType × List Value}, H[a]? = some o → cost ws o' = cost ws o → tot ws (H.set a o') = tot ws H
  | [], _, _, _, h, _ => by cases h
  | x :: r, 0, o, o', h, e => by
    simp only [List.getElem?_cons_zero, Option.some.injEq] at h; subst h
    simp [tot, e]
  | x :: r, a + 1, o, o', h, e => by
    have := tot_set (ws := ws) (H := r) (a := a) (o := o) (o' := o') (by simpa using h) e
    simp only [tot, List.set_cons_succ, List.map_cons, List.sum_cons] at this ⊢
    rw [this]
theorem ren_dflt (f : Nat → Nat) (ty : FieldType) : ren f (defaultValue ty) = defaultValue ty := by cases ty <;> rfl
section Facts
variable {Z : State} {ws : Ws} {f : Nat → Nat} {h h' : Heap} {a b : Addr} {o : FieldType × List Value} {sl : Nat} {v : Value}
theorem SimO.ext (E : Ext h h') (S : SimO Z ws f h a o) : SimO Z ws f h' a o := by
  unfold SimO at S ⊢
  split at S
  · exact ⟨S.1.ext E, fun n t j q => by obtain ⟨v, h1, h2⟩ := S.2 n t j q; exact ⟨v, h1, h2.ext E⟩⟩
  · obtain ⟨c, h1, h2⟩ := S; exact ⟨c, h1.ext E, h2⟩
  · exact S.elim
theorem SimO.other (W : Wr h h' b sl v) (ne : a ≠ b) (S : SimO Z ws f h a o) : SimO Z ws f h' a o := by
  unfold SimO at S ⊢
  split at S
  · exact ⟨S.1.wr W, fun n t j q => by obtain ⟨v, h1, h2⟩ := S.2 n t j q; exact ⟨v, h1, h2.other W (Or.inl ne)⟩⟩
  · obtain ⟨c, h1, h2⟩ := S; exact ⟨c, h1.other W ne, h2⟩
  · exact S.elim
theorem Sim.push {k sa n0 : Nat} {H : AHeap} (S : Sim Z ws k sa n0 H h) (E : Ext h h') (hz : h'.size = h.size + 1) (O : SimO Z ws (adr k sa n0) h' h.size o) : Sim Z ws k sa n0 (H ++ [o]) h' := by
  obtain ⟨h1, h2, h3, h4, h5⟩ := S
  refine ⟨by rw [hz, h1, List.length_append, List.length_singleton]; omega, by rw [List.length_append]; omega, h3, h4, fun i o' q => ?_⟩
  rcases Nat.lt_trichotomy i H.length with g | g | g
  · rw [List.getElem?_append_left g] at q; exact (h5 i o' q).ext E
  · subst g
    rw [List.getElem?_append_right (Nat.le_refl _), Nat.sub_self] at q
    cases q
    have e : adr k sa n0 H.length = h.size := by unfold adr; rw [if_neg (by omega), h1]
    rw [e]; exact O
  · rw [List.getElem?_eq_none (by simp; omega)] at q; cases q
theorem Sim.next {k sa n0 : Nat} {H : AHeap} (S : Sim Z ws k sa n0 H h) : h.size = adr k sa n0 H.length := by
  obtain ⟨h1, h2, -⟩ := S
  unfold adr; rw [if_neg (by omega), h1]
theorem Wr.upd {k sa n0 i : Nat} {H : AHeap} {o' : FieldType × List Value} (S : Sim Z ws k sa n0 H h) (W : Wr h h' (adr k sa n0 i) sl v) (O : SimO Z ws (adr k sa n0) h' (adr k sa n0 i) o') : Sim Z ws k sa n0 (H.set i o') h' := by
  obtain ⟨h1, h2, h3, h4, h5⟩ := S
  refine ⟨by rw [W.size, h1, List.length_set], by rw [List.length_set]; exact h2, h3, h4, fun j q hq => ?_⟩
  by_cases e : i = j
  · subst e
    rw [List.getElem?_set_self' ] at hq
    cases hi : H[i]? with
    | none => rw [hi] at hq; cases hq
    | some x => rw [hi] at hq; cases hq; exact O
  · rw [List.getElem?_set_ne e] at hq
    exact (h5 j q hq).other W fun g => e (adr_inj h3 h4 g).symm
end Facts
theorem putv_ok {ty : FieldType} {v v' : Value} (f : Nat → Nat) (h : putv ty v = some v') : narrow ty (ren f v) = ren f v' ∧ fits ty (ren f v') = true := by
  unfold putv at h
  split at h
  · cases h; exact ⟨rfl, rfl⟩
  · cases h; exact ⟨rfl, fits_nar_bool _⟩
  · cases h; exact ⟨rfl, fits_nar_byte _⟩
  · cases h; exact ⟨rfl, fits_nar_char _⟩
  · cases h; exact ⟨rfl, fits_nar_short _⟩
  · cases h; exact ⟨rfl, rfl⟩
  · cases h; exact ⟨rfl, rfl⟩
  · cases h
theorem size_set (c : Cell) (j : Nat) (v : Value) (f : Nat → Nat) {vs : List Value} {v' : Value} (e : c.slots = (vs.map (ren f)).toArray) (q : v = ren f v') : (c.setSlot j v).slots = ((vs.set j v').map (ren f)).toArray := by
  subst q
  show c.slots.setIfInBounds j (ren f v') = _
  rw [e, List.setIfInBounds_toArray, List.map_set]
section H
variable {p : Program} {l : Launch} {e : Env} {R : Room} {s : State} {m : MethodId} {args : Array Value} {below : List Frame} {meth : Method} {c : Code} {T : State} {locs : List Loc} {cells slots : Nat}
  {Z : State} {a0 : Array Value} {ws : Ws} {k sa n0 : Nat} {y : MethodName} {pc : Nat} {ls : List Slot} {st : List Value} {H : AHeap}
/-- the point behind one step -/
def Beh (p : Program) (l : Launch) (e : Env) (R : Room) (s : State) (m : MethodId) (args : Array Value) (below : List Frame) (meth : Method) (c : Code) (T : State) (Z : State) (ws : Ws) (k sa n0 cells slots : Nat) (H : AHeap) (g : JFrame) (pc' : Nat) (ls' : List Slot) (st' : List Value) (H' : AHeap) : Prop :=
  ∃ T' locs', Stand p l e R s m args below meth c T' locs' (cells + (H'.length - H.length)) (slots + (tot ws H' - tot ws H)) ∧ Sim Z ws k sa n0 H' T'.heap ∧ Fr n0 locs' ∧
    ∀ target, Steps p.tables e below (T'.setTop (fr (adr k sa n0) m pc' ls' st')) target → Steps p.tables e below (T.setTop g) target
theorem Beh.stay {g : JFrame} {pc' : Nat} {st' : List Value} {T' : State} (X : Stand p l e R s m args below meth c T' locs cells slots) (S : Sim Z ws k sa n0 H T'.heap) (N : Fr n0 locs)
    (h : ∀ target, Steps p.tables e below (T'.setTop (fr (adr k sa n0) m pc' ls st')) target → Steps p.tables e below (T.setTop g) target) : Beh p l e R s m args below meth c T Z ws k sa n0 cells slots H g pc' ls st' H :=
  ⟨T', locs, by rw [Nat.sub_self, Nat.sub_self]; exact X, S, N, h⟩
theorem hGet_sound (hw : ∀ d ∈ ws, d.before a0 Z = true) (X : Stand p l e R s m args below meth c T locs cells slots) (hx : p.tables.exec = Jvm.exec) (hZ : Z.Warmed39 s.vm) (hown : s.vm.findClass y.cls = some m.cls)
    {i : Nat} (hd : decode c.code pc = .ok (.getfield i, 3)) {q : Nat × List Value × AHeap} (hs : hGet ws y.cls i pc H st = some q) (S : Sim Z ws k sa n0 H T.heap) (N : Fr n0 locs) :
    Beh p l e R s m args below meth c T Z ws k sa n0 cells slots H (fr (adr k sa n0) m pc ls st) q.1 ls q.2.1 q.2.2 := by
  unfold hGet at hs
  split at hs
  · rename_i a r
    split at hs
    · rename_i C j C' vs q1 q2
      split at hs
      · rename_i hC; subst hC
        obtain ⟨v, hv, rfl⟩ := Option.map_eq_some_iff.mp hs
        obtain ⟨n, t, r1, r2⟩ := gfR_some q1
        obtain ⟨v', hv', F⟩ := (S.2.2.2.2 a _ q2).2 n t j r2
        cases hv.symm.trans hv'
        obtain ⟨T', X', e', st'⟩ := getF X hx hZ hown (host := "") (Or.inl (hw _ (rFld_mem r1))) Via.refl rfl F (g := fr (adr k sa n0) m pc ls (.ref a :: r)) rfl rfl hd
        exact Beh.stay X' (by rw [e']; exact S) N st'
      · cases hs
    · cases hs
  · cases hs
theorem hPut_sound (hw : ∀ d ∈ ws, d.before a0 Z = true) (X : Stand p l e R s m args below meth c T locs cells slots) (hx : p.tables.exec = Jvm.exec) (hZ : Z.Warmed39 s.vm) (hown : s.vm.findClass y.cls = some m.cls) (hnm : meth.name = y.name)
    {i : Nat} (hd : decode c.code pc = .ok (.putfield i, 3)) {q : Nat × List Value × AHeap} (hs : hPut ws k y.cls y.name i pc H st = some q) (S : Sim Z ws k sa n0 H T.heap) (N : Fr n0 locs) :
    Beh p l e R s m args below meth c T Z ws k sa n0 cells slots H (fr (adr k sa n0) m pc ls st) q.1 ls q.2.1 q.2.2 := by
  unfold hPut at hs
  split at hs
  · rename_i v a r
    split at hs
    · rename_i C j ty C' vs q1 q2
      split at hs
      · rename_i hC; obtain ⟨rfl, hk, hj⟩ := hC
        obtain ⟨v', hv, rfl⟩ := Option.map_eq_some_iff.mp hs
        obtain ⟨n, t, r1, r2, r3, r4, ⟨ki, r5⟩, r6⟩ := pfR_some q1
        have SO := S.2.2.2.2 a _ q2
        obtain ⟨w, hw', F⟩ := SO.2 n t j r2
        obtain ⟨g1, g2⟩ := putv_ok (adr k sa n0) hv
        obtain ⟨T', h', X', e', W, st'⟩ := putFN X hx hZ hown (hw _ (rFld_mem r1)) Via.refl rfl F SO.1 (r4.imp (fun q => hw _ q) fun q => ⟨hw _ q.1, q.2.1, hnm.trans q.2.2⟩) (hw _ r5) r3 g1 g2 (g := fr (adr k sa n0) m pc ls (v :: .ref a :: r)) rfl rfl hd
        have LL : ∀ {n' t' : String}, (n', t') ∈ olay ws C → Laid Z a0 C C n' t' := fun q => (lay_mem q).1.imp (fun q => hw _ q) (fun q => hw _ q)
        have O' : SimO Z ws (adr k sa n0) h' (adr k sa n0 a) (.object C, vs.set j v') := by
          refine ⟨SO.1.wr W, fun n' t' j' q' => ?_⟩
          obtain ⟨u, hu, F'⟩ := SO.2 n' t' j' q'
          by_cases ej : j = j'
          · subst ej
            obtain ⟨rfl, rfl⟩ := fidx_inj r2 q'
            exact ⟨v', by rw [List.getElem?_set_self hj], F.same W⟩
          · refine ⟨u, by rw [List.getElem?_set_ne ej]; exact hu, F'.other W (Or.inr ?_)⟩
            obtain ⟨-, ty', p'⟩ := lay_mem (fidx_mem q')
            refine slot_ne (LL (fidx_mem q')) (LL (fidx_mem r2)) (fun en => ?_) p' r3
            rcases r6 n' t' (fidx_mem q') with g | g
            · exact g en
            · subst en g; rw [r2] at q'; exact ej (Option.some.inj q')
        refine ⟨T', _, ?_, by rw [e']; exact Wr.upd S W O', Fr.snoc X' N (adr_ge hk), st'⟩
        show Stand p l e R s m args below meth c T' _ (cells + ((H.set a (.object C, vs.set j v')).length - H.length)) (slots + (tot ws (H.set a (.object C, vs.set j v')) - tot ws H))
        rw [List.length_set, tot_set (o := (.object C, vs)) (o' := (.object C, vs.set j v')) q2 rfl, Nat.sub_self, Nat.sub_self]
        exact X'
      · cases hs
    · cases hs
  · cases hs
theorem hNew_sound (hw : ∀ d ∈ ws, d.before a0 Z = true) (X : Stand p l e R s m args below meth c T locs cells slots) (hx : p.tables.exec = Jvm.exec) (hZ : Z.Warmed39 s.vm) (hown : s.vm.findClass y.cls = some m.cls)
    {i : Nat} (hd : decode c.code pc = .ok (.new i, 3)) {q : Nat × List Value × AHeap} (hs : hNew ws y.cls i pc H st = some q) (S : Sim Z ws k sa n0 H T.heap) (N : Fr n0 locs)
    (hc : cells + (q.2.2.length - H.length) ≤ R.cells) (hl : slots + (tot ws q.2.2 - tot ws H) ≤ R.slots) (hz0 : T.heap.size = s.heap.size + cells) :
    Beh p l e R s m args below meth c T Z ws k sa n0 cells slots H (fr (adr k sa n0) m pc ls st) q.1 ls q.2.1 q.2.2 := by
  unfold hNew at hs
  split at hs
  · rename_i C q1
    split at hs
    · rename_i g; cases hs
      obtain ⟨ki, hki⟩ := Option.isSome_iff_exists.mp g.1
      have ec : (H ++ [(FieldType.object C, (olay ws C).map dflt)]).length - H.length = 1 := by simp
      have es : tot ws (H ++ [(FieldType.object C, (olay ws C).map dflt)]) - tot ws H = ki := by
        rw [tot_app]; simp [cost, hki]
      dsimp only at hc hl ⊢
      rw [ec] at hc; rw [es] at hl
      have hz := S.next
      obtain ⟨T', h', X', e', E, A, D, -, st'⟩ := newO X hx hZ hown (hw _ (rCls_mem q1)) (hw _ (rInst_mem hki)) (hw _ (hasInit_mem g.2)) rfl (g := fr (adr k sa n0) m pc ls st) rfl hd hc hl
      have hz' : h'.size = T.heap.size + 1 := by
        have u1 := X'.heapSize
        have a1 : (T.heap.size : Nat) < h'.size := A.lt
        rw [e'] at u1
        omega
      refine ⟨T', locs, by rw [ec, es]; exact X', ?_, N, ?_⟩
      · rw [e']
        refine S.push E hz' ⟨A, fun n t j q => ?_⟩
        have hm := fidx_mem q
        obtain ⟨q2, ty, q3⟩ := lay_mem hm
        refine ⟨dflt (n, t), by rw [List.getElem?_map, idx_get q]; rfl, ?_⟩
        have F := D (O := C) (nm := n) (d := t) (q2.imp (fun q => hw _ q) (fun q => hw _ q)) q3
        have e3 : ren (adr k sa n0) (dflt (n, t)) = defaultValue ty := by simp only [dflt, q3, ren_dflt]
        rw [e3]; exact F
      · intro target ht
        rw [hz] at st'
        exact st' target ht
    · cases hs
  · cases hs
theorem hNewA_sound (hw : ∀ d ∈ ws, d.before a0 Z = true) (X : Stand p l e R s m args below meth c T locs cells slots) (hx : p.tables.exec = Jvm.exec) (hZ : Z.Warmed39 s.vm)
    {aty : ArrayType} (hd : decode c.code pc = .ok (.newarray aty, 2)) {q : Nat × List Value × AHeap} (hs : hNewA ws aty pc H st = some q) (S : Sim Z ws k sa n0 H T.heap) (N : Fr n0 locs)
    (hc : cells + (q.2.2.length - H.length) ≤ R.cells) (hl : slots + (tot ws q.2.2 - tot ws H) ≤ R.slots) (hz0 : T.heap.size = s.heap.size + cells) :
    Beh p l e R s m args below meth c T Z ws k sa n0 cells slots H (fr (adr k sa n0) m pc ls st) q.1 ls q.2.1 q.2.2 := by
  unfold hNewA at hs
  split at hs
  · rename_i n r
    split at hs
    · rename_i g; cases hs
      obtain ⟨g1, g2, g3⟩ := g
      have ec : (H ++ [(FieldType.array (newarray.typeOf aty), List.replicate n.toNatClampNeg (defaultValue (newarray.typeOf aty)))]).length - H.length = 1 := by simp
      have es : tot ws (H ++ [(FieldType.array (newarray.typeOf aty), List.replicate n.toNatClampNeg (defaultValue (newarray.typeOf aty)))]) - tot ws H = n.toNatClampNeg := by
        rw [tot_app]; simp [cost]
      dsimp only at hc hl ⊢
      rw [ec] at hc; rw [es] at hl
      have hz := S.next
      obtain ⟨T', h', cA, X', e', E, A, st'⟩ := newP X hx hZ (hw _ (hasArr_mem g1)) rfl (g := fr (adr k sa n0) m pc ls (.int n :: r)) rfl hd rfl g2 (cap := n.toNatClampNeg) (Nat.le_refl _) g3 hc hl
      have hz' : h'.size = T.heap.size + 1 := by
        have u1 := X'.heapSize
        have a1 : (T.heap.size : Nat) < h'.size := A.lt
        rw [e'] at u1
        omega
      refine ⟨T', locs, by rw [ec, es]; exact X', ?_, N, ?_⟩
      · rw [e']
        refine S.push E hz' ⟨_, A, ?_⟩
        simp [newA, ren_dflt]
      · intro target ht
        rw [hz] at st'
        exact st' target ht
    · cases hs
  · cases hs
theorem hLd_some {ok : FieldType → Bool} {q : Nat × List Value × AHeap} (hs : hLd ok pc H st = some q) : ∃ j a r ty vs v, st = .int j :: .ref a :: r ∧ H[a]? = some (.array ty, vs) ∧ ok ty = true ∧ ¬ j < 0 ∧ vs[j.toNatClampNeg]? = some v ∧ q = (pc + 1, v :: r, H) := by
  unfold hLd at hs
  split at hs
  · split at hs
    · split at hs
      · rename_i g
        obtain ⟨v, h1, h2⟩ := Option.map_eq_some_iff.mp hs
        exact ⟨_, _, _, _, _, v, rfl, by assumption, g.1, g.2, h1, h2.symm⟩
      · cases hs
    · cases hs
  · cases hs
theorem hSt_some {ok : FieldType → Bool} {q : Nat × List Value × AHeap} (hs : hSt ok k pc H st = some q) : ∃ v j a r ty vs v', st = v :: .int j :: .ref a :: r ∧ H[a]? = some (.array ty, vs) ∧ ok ty = true ∧ k ≤ a ∧ ¬ j < 0 ∧ j.toNatClampNeg < vs.length ∧ putv ty v = some v' ∧ q = (pc + 1, r, H.set a (.array ty, vs.set j.toNatClampNeg v')) := by
  unfold hSt at hs
  split at hs
  · split at hs
    · split at hs
      · rename_i g
        obtain ⟨v, h1, h2⟩ := Option.map_eq_some_iff.mp hs
        exact ⟨_, _, _, _, _, _, v, rfl, by assumption, g.1, g.2.1, g.2.2.1, g.2.2.2, h1, h2.symm⟩
      · cases hs
    · cases hs
  · cases hs
theorem hLen_some {q : Nat × List Value × AHeap} (hs : hLen pc H st = some q) : ∃ a r ty vs, st = .ref a :: r ∧ H[a]? = some (.array ty, vs) ∧ q = (pc + 1, .int vs.length.toInt32 :: r, H) := by
  unfold hLen at hs
  split at hs
  · split at hs
    · cases hs; exact ⟨_, _, _, _, rfl, by assumption, rfl⟩
    · cases hs
  · cases hs
/-- behind a store into an array -/
theorem st_beh {T' : State} {h' : Heap} {a j : Nat} {ty : FieldType} {vs : List Value} {v' : Value} {r : List Value} {g : JFrame} (X' : Stand p l e R s m args below meth c T' (locs ++ [⟨adr k sa n0 a, j⟩]) cells slots) (e' : T'.heap = h') (W : Wr T.heap h' (adr k sa n0 a) j (ren (adr k sa n0) v'))
    (S : Sim Z ws k sa n0 H T.heap) (N : Fr n0 locs) (q2 : H[a]? = some (.array ty, vs)) (hk : k ≤ a)
    (st' : ∀ target, Steps p.tables e below (T'.setTop (fr (adr k sa n0) m (pc + 1) ls r)) target → Steps p.tables e below (T.setTop g) target) :
    Beh p l e R s m args below meth c T Z ws k sa n0 cells slots H g (pc + 1) ls r (H.set a (.array ty, vs.set j v')) := by
  obtain ⟨cl, A, es⟩ := S.2.2.2.2 a _ q2
  refine ⟨T', _, ?_, by rw [e']; exact Wr.upd S W ⟨_, A.same W, size_set cl j _ _ es rfl⟩, Fr.snoc X' N (adr_ge hk), st'⟩
  rw [List.length_set, tot_set (o := (.array ty, vs)) (o' := (.array ty, vs.set j v')) q2 (by simp [cost]), Nat.sub_self, Nat.sub_self]
  exact X'
set_option maxHeartbeats 1000000 in
theorem hstep_sound (hw : ∀ d ∈ ws, d.before a0 Z = true) (X : Stand p l e R s m args below meth c T locs cells slots) (hx : p.tables.exec = Jvm.exec) (hZ : Z.Warmed39 s.vm) (hown : s.vm.findClass y.cls = some m.cls) (hnm : meth.name = y.name)
    {ins : Instr} {len : Nat} (hd : decode c.code pc = .ok (ins, len)) {q : Nat × List Value × AHeap} (hs : hstep ws k y ins len pc st H = some q) (S : Sim Z ws k sa n0 H T.heap) (N : Fr n0 locs)
    (hc : cells + (q.2.2.length - H.length) ≤ R.cells) (hl : slots + (tot ws q.2.2 - tot ws H) ≤ R.slots) (hz0 : T.heap.size = s.heap.size + cells) :
    Beh p l e R s m args below meth c T Z ws k sa n0 cells slots H (fr (adr k sa n0) m pc ls st) q.1 ls q.2.1 q.2.2 := by
  unfold hstep at hs
  split at hs
  · obtain ⟨rfl, hs⟩ := chk_some hs
    exact hGet_sound hw X hx hZ hown hd hs S N
  · obtain ⟨rfl, hs⟩ := chk_some hs
    exact hPut_sound hw X hx hZ hown hnm hd hs S N
  · obtain ⟨rfl, hs⟩ := chk_some hs
    exact hNew_sound hw X hx hZ hown hd hs S N hc hl hz0
  · obtain ⟨rfl, hs⟩ := chk_some hs
    exact hNewA_sound hw X hx hZ hd hs S N hc hl hz0
  · obtain ⟨rfl, hs⟩ := chk_some hs
    obtain ⟨j, a, r, ty, vs, v, rfl, q2, ho, hj, hv, rfl⟩ := hLd_some hs
    obtain rfl : ty = _ := of_decide_eq_true ho
    obtain ⟨cl, A, es⟩ := S.2.2.2.2 a _ q2
    have hlt := (List.getElem?_eq_some_iff.mp hv).1
    exact Beh.stay X S N fun target ht => X.iaload hx (j := j) (v := ren (adr k sa n0) v) A.1 (State.isArrayOf_alike hZ.alike A.2.1) A.2.2 (fun g => g.elim hj fun g => by rw [es] at g; simp at g; omega) (by rw [es, List.getElem?_toArray, List.getElem?_map, hv]; rfl) (g := fr (adr k sa n0) m pc ls (.int j :: .ref a :: r)) rfl rfl hd target ht
  · obtain ⟨rfl, hs⟩ := chk_some hs
    obtain ⟨j, a, r, ty, vs, v, rfl, q2, ho, hj, hv, rfl⟩ := hLd_some hs
    obtain rfl : ty = _ := of_decide_eq_true ho
    obtain ⟨cl, A, es⟩ := S.2.2.2.2 a _ q2
    have hlt := (List.getElem?_eq_some_iff.mp hv).1
    exact Beh.stay X S N fun target ht => X.caload hx (j := j) (v := ren (adr k sa n0) v) A.1 (State.isArrayOf_alike hZ.alike A.2.1) A.2.2 (fun g => g.elim hj fun g => by rw [es] at g; simp at g; omega) (by rw [es, List.getElem?_toArray, List.getElem?_map, hv]; rfl) (g := fr (adr k sa n0) m pc ls (.int j :: .ref a :: r)) rfl rfl hd target ht
  · obtain ⟨rfl, hs⟩ := chk_some hs
    obtain ⟨j, a, r, ty, vs, v, rfl, q2, ho, hj, hv, rfl⟩ := hLd_some hs
    obtain rfl : ty = _ := of_decide_eq_true ho
    obtain ⟨cl, A, es⟩ := S.2.2.2.2 a _ q2
    have hlt := (List.getElem?_eq_some_iff.mp hv).1
    exact Beh.stay X S N fun target ht => X.laload hx (j := j) (v := ren (adr k sa n0) v) A.1 (State.isArrayOf_alike hZ.alike A.2.1) A.2.2 (fun g => g.elim hj fun g => by rw [es] at g; simp at g; omega) (by rw [es, List.getElem?_toArray, List.getElem?_map, hv]; rfl) (g := fr (adr k sa n0) m pc ls (.int j :: .ref a :: r)) rfl rfl hd target ht
  · obtain ⟨rfl, hs⟩ := chk_some hs
    obtain ⟨j, a, r, ty, vs, v, rfl, q2, ho, hj, hv, rfl⟩ := hLd_some hs
    obtain ⟨cl, A, es⟩ := S.2.2.2.2 a _ q2
    have hlt := (List.getElem?_eq_some_iff.mp hv).1
    simp only [okB, Bool.or_eq_true, decide_eq_true_eq] at ho
    rcases ho with rfl | rfl
    · exact Beh.stay X S N fun target ht => X.baloadBytes hx (j := j) (v := ren (adr k sa n0) v) A.1 (State.isArrayOf_alike hZ.alike A.2.1) A.2.2 (fun g => g.elim hj fun g => by rw [es] at g; simp at g; omega) (by rw [es, List.getElem?_toArray, List.getElem?_map, hv]; rfl) (g := fr (adr k sa n0) m pc ls (.int j :: .ref a :: r)) rfl rfl hd target ht
    · exact Beh.stay X S N fun target ht => X.baloadBooleans hx (j := j) (v := ren (adr k sa n0) v) A.1 (State.isArrayOf_alike hZ.alike A.2.1) A.2.2 (fun g => g.elim hj fun g => by rw [es] at g; simp at g; omega) (by rw [es, List.getElem?_toArray, List.getElem?_map, hv]; rfl) (g := fr (adr k sa n0) m pc ls (.int j :: .ref a :: r)) rfl rfl hd target ht
  · obtain ⟨rfl, hs⟩ := chk_some hs
    obtain ⟨v, j, a, r, ty, vs, v', rfl, q2, ho, hk, hj, hlt, hv, rfl⟩ := hSt_some hs
    obtain rfl : ty = _ := of_decide_eq_true ho
    obtain ⟨cl, A, es⟩ := S.2.2.2.2 a _ q2
    cases v <;> simp only [putv, Option.some.injEq, reduceCtorEq] at hv
    subst hv
    obtain ⟨T', h', X', e', W, st'⟩ := stI X hx hZ rfl A (j := j) (fun g => g.elim hj fun g => by rw [es] at g; simp at g; omega) (g := fr (adr k sa n0) m pc ls (.int _ :: .int j :: .ref a :: r)) rfl rfl hd
    exact st_beh X' e' W S N q2 hk st'
  · obtain ⟨rfl, hs⟩ := chk_some hs
    obtain ⟨v, j, a, r, ty, vs, v', rfl, q2, ho, hk, hj, hlt, hv, rfl⟩ := hSt_some hs
    obtain rfl : ty = _ := of_decide_eq_true ho
    obtain ⟨cl, A, es⟩ := S.2.2.2.2 a _ q2
    cases v <;> simp only [putv, Option.some.injEq, reduceCtorEq] at hv
    subst hv
    obtain ⟨T', h', X', e', W, st'⟩ := stC X hx hZ rfl A (j := j) (fun g => g.elim hj fun g => by rw [es] at g; simp at g; omega) (g := fr (adr k sa n0) m pc ls (.int _ :: .int j :: .ref a :: r)) rfl rfl hd
    exact st_beh X' e' W S N q2 hk st'
  · obtain ⟨rfl, hs⟩ := chk_some hs
    obtain ⟨v, j, a, r, ty, vs, v', rfl, q2, ho, hk, hj, hlt, hv, rfl⟩ := hSt_some hs
    obtain rfl : ty = _ := of_decide_eq_true ho
    obtain ⟨cl, A, es⟩ := S.2.2.2.2 a _ q2
    cases v <;> simp only [putv, Option.some.injEq, reduceCtorEq] at hv
    subst hv
    obtain ⟨T', h', X', e', W, st'⟩ := stJ X hx hZ rfl A (j := j) (fun g => g.elim hj fun g => by rw [es] at g; simp at g; omega) (g := fr (adr k sa n0) m pc ls (.long _ :: .int j :: .ref a :: r)) rfl rfl hd
    exact st_beh X' e' W S N q2 hk st'
  · obtain ⟨rfl, hs⟩ := chk_some hs
    obtain ⟨v, j, a, r, ty, vs, v', rfl, q2, ho, hk, hj, hlt, hv, rfl⟩ := hSt_some hs
    obtain ⟨cl, A, es⟩ := S.2.2.2.2 a _ q2
    simp only [okB, Bool.or_eq_true, decide_eq_true_eq] at ho
    rcases ho with rfl | rfl
    · cases v <;> simp only [putv, Option.some.injEq, reduceCtorEq] at hv
      subst hv
      obtain ⟨T', h', X', e', W, st'⟩ := stB X hx hZ rfl A (j := j) (fun g => g.elim hj fun g => by rw [es] at g; simp at g; omega) (g := fr (adr k sa n0) m pc ls (.int _ :: .int j :: .ref a :: r)) rfl rfl hd
      exact st_beh X' e' W S N q2 hk st'
    · cases v <;> simp only [putv, Option.some.injEq, reduceCtorEq] at hv
      subst hv
      obtain ⟨T', h', X', e', W, st'⟩ := stZ X hx hZ rfl A (j := j) (fun g => g.elim hj fun g => by rw [es] at g; simp at g; omega) (g := fr (adr k sa n0) m pc ls (.int _ :: .int j :: .ref a :: r)) rfl rfl hd
      exact st_beh X' e' W S N q2 hk st'
  · obtain ⟨rfl, hs⟩ := chk_some hs
    obtain ⟨a, r, ty, vs, rfl, q2, rfl⟩ := hLen_some hs
    obtain ⟨cl, A, es⟩ := S.2.2.2.2 a _ q2
    have ez : cl.slots.size = vs.length := by rw [es]; simp
    refine Beh.stay X S N fun target ht => X.arraylength hx (cell := cl) A.1 (State.isArrayOf_alike hZ.alike A.2.1) (g := fr (adr k sa n0) m pc ls (.ref a :: r)) rfl rfl hd target ?_
    rw [ez]; exact ht
  · obtain ⟨rfl, hs⟩ := chk_some hs
    obtain ⟨v, hv, rfl⟩ := Option.map_eq_some_iff.mp hs
    exact Beh.stay X S N (X.ldcInt hx hown (mvT hZ (hw _ (rCon_mem hv))) (g := fr (adr k sa n0) m pc ls st) rfl hd)
  · obtain ⟨rfl, hs⟩ := chk_some hs
    obtain ⟨v, hv, rfl⟩ := Option.map_eq_some_iff.mp hs
    exact Beh.stay X S N (X.ldcwInt hx hown (mvT hZ (hw _ (rCon_mem hv))) (g := fr (adr k sa n0) m pc ls st) rfl hd)
  · obtain ⟨rfl, hs⟩ := chk_some hs
    obtain ⟨v, hv, rfl⟩ := Option.map_eq_some_iff.mp hs
    exact Beh.stay X S N (X.ldc2Long hx hown (mvT hZ (hw _ (rConL_mem hv))) (g := fr (adr k sa n0) m pc ls st) rfl hd)
  · cases hs
end H
theorem hstep_size {ws : Ws} {k : Nat} {y : MethodName} {ins : Instr} {len pc : Nat} {st : List Value} {H : AHeap} {q : Nat × List Value × AHeap} (hs : hstep ws k y ins len pc st H = some q) : H.length ≤ q.2.2.length ∧ tot ws H ≤ tot ws q.2.2 := by
  unfold hstep at hs
  split at hs
  · obtain ⟨rfl, hs⟩ := chk_some hs
    unfold hGet at hs
    split at hs
    · split at hs
      · split at hs
        · obtain ⟨v, -, rfl⟩ := Option.map_eq_some_iff.mp hs; exact ⟨Nat.le_refl _, Nat.le_refl _⟩
        · cases hs
      · cases hs
    · cases hs
  · obtain ⟨rfl, hs⟩ := chk_some hs
    unfold hPut at hs
    split at hs
    · split at hs
      · rename_i C j ty C' vs q1 q2
        split at hs
        · obtain ⟨v, -, rfl⟩ := Option.map_eq_some_iff.mp hs
          exact ⟨Nat.le_of_eq (by rw [List.length_set]), Nat.le_of_eq (tot_set (o := (.object C', vs)) (o' := (.object C', vs.set j v)) q2 rfl).symm⟩
        · cases hs
      · cases hs
    · cases hs
  · obtain ⟨rfl, hs⟩ := chk_some hs
    unfold hNew at hs
    split at hs
    · split at hs
      · cases hs; exact ⟨by simp, by rw [tot_app]; omega⟩
      · cases hs
    · cases hs
  · obtain ⟨rfl, hs⟩ := chk_some hs
    unfold hNewA at hs
    split at hs
    · split at hs
      · cases hs; exact ⟨by simp, by rw [tot_app]; omega⟩
      · cases hs
    · cases hs
  all_goals first
    | (obtain ⟨rfl, hs⟩ := chk_some hs; obtain ⟨j, a, r, ty, vs, v, rfl, q2, ho, hj, hv, rfl⟩ := hLd_some hs; exact ⟨Nat.le_refl _, Nat.le_refl _⟩)
    | (obtain ⟨rfl, hs⟩ := chk_some hs; obtain ⟨v, j, a, r, ty, vs, v', rfl, q2, ho, hk, hj, hlt, hv, rfl⟩ := hSt_some hs; exact ⟨Nat.le_of_eq (by rw [List.length_set]), Nat.le_of_eq (tot_set (o := (.array ty, vs)) (o' := (.array ty, vs.set _ v')) q2 (by simp [cost])).symm⟩)
    | (obtain ⟨rfl, hs⟩ := chk_some hs; obtain ⟨a, r, ty, vs, rfl, q2, rfl⟩ := hLen_some hs; exact ⟨Nat.le_refl _, Nat.le_refl _⟩)
    | (obtain ⟨rfl, hs⟩ := chk_some hs; obtain ⟨v, hv, rfl⟩ := Option.map_eq_some_iff.mp hs; exact ⟨Nat.le_refl _, Nat.le_refl _⟩)
    | (cases hs; done)
end Jvm.Own
namespace Jvm.Own
open Sem ClassFile Op Lib Jvm.Stand Jvm.Free Jvm.LawKit Jvm.RoadKit
/-! OWN 5: the run is the machine's -/
theorem ent_ren (f : Nat → Nat) : ∀ as : List Value, ent (as.map (ren f)) = (ent as).map (renS f)
  | [] => rfl
  | v :: r => by
    simp only [List.map_cons, ent, ren_cat, ent_ren f r]
    split <;> rfl
theorem fill_eq : ∀ (as : List Value) (acc : Array Slot), as.foldl (fun acc v => if v.category = 2 then (acc.push (.val v)).push .second else acc.push (.val v)) acc = acc ++ (ent as).toArray
  | [], acc => by simp [ent]
  | v :: r, acc => by
    simp only [List.foldl_cons, ent]
    split
    · rw [fill_eq r]; simp [← Array.toList_inj]
    · rw [fill_eq r]; simp [← Array.toList_inj]
theorem entry_eq (f : Nat → Nat) (m : MethodId) (as : List Value) (mx : Nat) : entryFrame m (as.map (ren f)).toArray mx = fr f m 0 (entry as mx) [] := by
  have h : argsToLocals (as.map (ren f)).toArray mx = ((entry as mx).map (renS f)).toArray := by
    unfold argsToLocals entry
    simp only [List.foldl_toArray']
    rw [fill_eq, ent_ren]
    simp [← Array.toList_inj, renS]
  unfold entryFrame
  rw [h]; rfl
theorem entry_len {as : List Value} {mx : Nat} (h : (ent as).length ≤ mx) : (entry as mx).length = mx := by simp [entry]; omega
theorem wsum_ren (f : Nat → Nat) (st : List Value) : ((st.map (ren f)).map fun v => v.category).sum = wsum st := by
  unfold wsum
  rw [List.map_map]
  congr 1
  apply List.map_congr_left
  intro v _
  exact ren_cat f v
section Inv
variable {ws : Ws} {dn : Dn} {k : Nat} {y : MethodName} {bytes : ByteArray} {ret : Option FieldType} {pc : Nat} {ls : List Slot} {st : List Value} {H : AHeap}
theorem cR_some {i : Nat} {y' : MethodName} {b : ByteArray} {mx na sl : Nat} {r : Option FieldType} (h : cR ws dn y i = some (y', b, mx, r, na, sl)) :
    Jvm.Cond.methodLink y.cls i y' ∈ ws ∧ Jvm.Cond.code y' b mx r ∈ ws ∧ Jvm.Cond.initialized y'.cls ∈ ws ∧ Jvm.plainName y'.cls = true ∧ (y'.cls ≠ "java/lang/invoke/MethodHandle" ∧ y'.cls ≠ "java/lang/invoke/VarHandle") ∧ rCode ws y' = some (b, mx, r) ∧
    ∃ f' l' f l sig, dnOf dn y' = some (f', l') ∧ dnOf dn y = some (f, l) ∧ parseMethodDescriptor y'.desc = some sig ∧ na = sig.parameters.length ∧ f' + 1 ≤ f ∧ sl + (mx + 11) + l' ≤ l := by
  unfold cR at h
  split at h
  · cases h
  · rename_i z q1
    split at h
    · rename_i b' mx' r' f' l' f l sig q2 q3 q4 q5
      split at h
      · rename_i g
        cases h
        obtain ⟨g1, g2, g3, g4, g5, g6⟩ := g
        exact ⟨rMth_mem q1, rCode_mem q2, hasInit_mem g1, g2, ⟨g3, g4⟩, q2, f', l', f, l, sig, q3, q4, q5, rfl, g5, by omega⟩
      · cases h
    · cases h
theorem act_ret {v : Option Value} (h : act ws dn k y bytes ret pc ls st H = some (.inl v)) : (∃ z r t, decode bytes pc = .ok (.ireturn, 1) ∧ st = .int z :: r ∧ ret = some t ∧ (t = .int ∨ t = .boolean ∨ t = .byte ∨ t = .char ∨ t = .short) ∧ v = some (.int (nar t z))) ∨
    (∃ z, decode bytes pc = .ok (.lreturn, 1) ∧ st = [.long z] ∧ ret = some .long ∧ v = some (.long z)) ∨ (decode bytes pc = .ok (.return_, 1) ∧ st = [] ∧ ret = none ∧ v = none) := by
  unfold act at h
  split at h
  · cases h
  rename_i ins len hd
  split at h
  · cases h
  split at h
  · cases h
  unfold cstep at h
  split at h
  · obtain ⟨rfl, h⟩ := chk_some h
    split at h
    · split at h
      · rename_i g; cases h; exact Or.inl ⟨_, _, _, hd, rfl, rfl, g, rfl⟩
      · cases h
    · cases h
  · obtain ⟨rfl, h⟩ := chk_some h
    split at h
    · cases h; exact Or.inr (Or.inl ⟨_, hd, rfl, rfl, rfl⟩)
    · cases h
  · obtain ⟨rfl, h⟩ := chk_some h
    split at h
    · cases h; exact Or.inr (Or.inr ⟨hd, rfl, rfl, rfl⟩)
    · cases h
  · obtain ⟨rfl, h⟩ := chk_some h
    split at h
    · split at h <;> cases h
    · cases h
  · obtain ⟨rfl, h⟩ := chk_some h
    split at h
    · split at h
      · split at h <;> cases h
      · cases h
    · split at h
      · split at h
        · split at h <;> cases h
        · cases h
      · cases h
  · obtain ⟨rfl, h⟩ := chk_some h
    split at h
    · split at h
      · split at h
        · split at h <;> cases h
        · cases h
      · cases h
    · cases h
  · cases h
theorem act_step {pc' : Nat} {ls' : List Slot} {st' : List Value} {H' : AHeap} (h : act ws dn k y bytes ret pc ls st H = some (.inr (.inl (pc', ls', st', H')))) : ∃ ins len, decode bytes pc = .ok (ins, len) ∧
    ((xstep ins len pc ls st = some (pc', ls', st') ∧ H' = H) ∨ (ls' = ls ∧ hstep ws k y ins len pc st H = some (pc', st', H')) ∨
     (∃ i sl a r, ins = .invokespecial i ∧ len = 3 ∧ oR ws dn y i = some sl ∧ st = .ref a :: r ∧ wsum r ≤ sl ∧ pc' = pc + 3 ∧ ls' = ls ∧ st' = r ∧ H' = H)) := by
  unfold act at h
  split at h
  · cases h
  rename_i ins len hd
  refine ⟨ins, len, hd, ?_⟩
  split at h
  · rename_i g; cases h; exact Or.inl ⟨g, rfl⟩
  split at h
  · rename_i g; cases h; exact Or.inr (Or.inl ⟨rfl, g⟩)
  unfold cstep at h
  split at h
  · obtain ⟨rfl, h⟩ := chk_some h
    split at h
    · split at h <;> cases h
    · cases h
  · obtain ⟨rfl, h⟩ := chk_some h
    split at h <;> cases h
  · obtain ⟨rfl, h⟩ := chk_some h
    split at h <;> cases h
  · obtain ⟨rfl, h⟩ := chk_some h
    split at h
    · split at h <;> cases h
    · cases h
  · obtain ⟨rfl, h⟩ := chk_some h
    split at h
    · rename_i sl ho
      split at h
      · split at h
        · rename_i g; cases h; exact Or.inr (Or.inr ⟨_, sl, _, _, rfl, rfl, ho, rfl, g, rfl, rfl, rfl, rfl⟩)
        · cases h
      · cases h
    · split at h
      · split at h
        · split at h <;> cases h
        · cases h
      · cases h
  · obtain ⟨rfl, h⟩ := chk_some h
    split at h
    · split at h
      · split at h
        · split at h <;> cases h
        · cases h
      · cases h
    · cases h
  · cases h
/-- the three kinds of call -/
theorem act_call {y' : MethodName} {b : ByteArray} {r : Option FieldType} {en : List Slot} {rest : List Value} (h : act ws dn k y bytes ret pc ls st H = some (.inr (.inr (y', b, r, en, rest)))) : ∃ i mx na sl as, cR ws dn y i = some (y', b, mx, r, na, sl) ∧ en = entry as mx ∧ (ent as).length ≤ mx ∧ wsum rest ≤ sl ∧
    ((decode bytes pc = .ok (.invokestatic i, 3) ∧ Jvm.Cond.static y' ∈ ws ∧ as.length = na ∧ st = as.reverse ++ rest) ∨
     (∃ a as', as = .ref a :: as' ∧ as'.length = na ∧ st = as'.reverse ++ .ref a :: rest ∧ Jvm.Cond.instanceMethod y' ∈ ws ∧
      ((decode bytes pc = .ok (.invokespecial i, 3) ∧ y'.name = "<init>" ∧ r = none) ∨
       (decode bytes pc = .ok (.invokevirtual i, 3) ∧ ∃ C vs, H[a]? = some (.object C, vs) ∧ ((Jvm.Cond.privateMethod y' ∈ ws ∧ ∃ ki, Jvm.Cond.instantiable y'.cls ki ∈ ws) ∨ (Jvm.Cond.declares y' ∈ ws ∧ Jvm.Cond.selects y'.cls y' y' ∈ ws ∧ C = y'.cls)))))) := by
  unfold act at h
  split at h
  · cases h
  rename_i ins len hd
  split at h
  · cases h
  split at h
  · cases h
  unfold cstep at h
  split at h
  · obtain ⟨rfl, h⟩ := chk_some h
    split at h
    · split at h <;> cases h
    · cases h
  · obtain ⟨rfl, h⟩ := chk_some h
    split at h <;> cases h
  · obtain ⟨rfl, h⟩ := chk_some h
    split at h <;> cases h
  · rename_i i _ _
    obtain ⟨rfl, h⟩ := chk_some h
    split at h
    · rename_i y1 b1 mx r1 na sl hq
      split at h
      · rename_i g
        cases h
        unfold sR at hq
        split at hq
        · rename_i q hc
          split at hq
          · rename_i hs
            cases hq
            refine ⟨i, mx, na, sl, _, hc, rfl, g.2.2, g.2.1, Or.inl ⟨hd, hasStat_mem hs, by simp; omega, by simp⟩⟩
          · cases hq
        · cases hq
      · cases h
    · cases h
  · rename_i i _ _
    obtain ⟨rfl, h⟩ := chk_some h
    split at h
    · split at h
      · split at h <;> cases h
      · cases h
    · split at h
      · rename_i y1 b1 mx r1 na sl hq
        split at h
        · rename_i a rest' hdrop
          split at h
          · rename_i g
            cases h
            unfold nR at hq
            split at hq
            · rename_i q hc
              split at hq
              · rename_i hs
                cases hq
                refine ⟨i, mx, na, sl, _, hc, rfl, g.2.1, g.1, Or.inr ⟨a, _, rfl, by simp; omega, ?_, hasIM_mem hs.2.1, Or.inl ⟨hd, hs.1, hs.2.2⟩⟩⟩
                rw [List.reverse_reverse, ← hdrop, List.take_append_drop]
              · cases hq
            · cases hq
          · cases h
        · cases h
      · cases h
  · rename_i i _ _
    obtain ⟨rfl, h⟩ := chk_some h
    split at h
    · rename_i pv y1 b1 mx r1 na sl hq
      split at h
      · rename_i a rest' hdrop
        split at h
        · rename_i C vs hH
          split at h
          · rename_i g
            cases h
            unfold vR at hq
            split at hq
            · rename_i q hc
              split at hq
              · rename_i hs
                split at hq
                · rename_i hp; cases hq
                  obtain ⟨ki, hki⟩ := Option.isSome_iff_exists.mp hp.2
                  exact ⟨i, mx, na, sl, _, hc, rfl, g.2.2.1, g.2.1, Or.inr ⟨a, _, rfl, by simp; omega, by rw [List.reverse_reverse, ← hdrop, List.take_append_drop], hasIM_mem hs, Or.inr ⟨hd, C, vs, hH, Or.inl ⟨hasPriv_mem hp.1, ki, rInst_mem hki⟩⟩⟩⟩
                · split at hq
                  · rename_i hp; cases hq
                    exact ⟨i, mx, na, sl, _, hc, rfl, g.2.2.1, g.2.1, Or.inr ⟨a, _, rfl, by simp; omega, by rw [List.reverse_reverse, ← hdrop, List.take_append_drop], hasIM_mem hs, Or.inr ⟨hd, C, vs, hH, Or.inr ⟨hasDecl_mem hp.1, hasSel_mem hp.2, g.1.resolve_left (by simp)⟩⟩⟩⟩
                  · cases hq
              · cases hq
            · cases hq
          · cases h
        · cases h
      · cases h
    · cases h
  · cases h
theorem act_size {pc' : Nat} {ls' : List Slot} {st' : List Value} {H' : AHeap} (h : act ws dn k y bytes ret pc ls st H = some (.inr (.inl (pc', ls', st', H')))) : H.length ≤ H'.length ∧ tot ws H ≤ tot ws H' ∧ ls'.length = ls.length := by
  obtain ⟨ins, len, hd, ⟨g, rfl⟩ | ⟨rfl, g⟩ | ⟨i, sl, a, r, -, -, -, -, -, -, rfl, -, rfl⟩⟩ := act_step h
  · exact ⟨Nat.le_refl _, Nat.le_refl _, xstep_size g⟩
  · have := hstep_size g; exact ⟨this.1, this.2, rfl⟩
  · exact ⟨Nat.le_refl _, Nat.le_refl _, rfl⟩
end Inv
theorem run_size {ws : Ws} {dn : Dn} {k : Nat} : ∀ {n : Nat} {y : MethodName} {bytes : ByteArray} {ret : Option FieldType} {pc : Nat} {ls : List Slot} {st : List Value} {H : AHeap} {v : Option Value} {H' : AHeap}, run ws dn k n y bytes ret pc ls st H = some (v, H') → H.length ≤ H'.length ∧ tot ws H ≤ tot ws H'
  | 0, _, _, _, _, _, _, _, _, _, h => by cases h
  | n + 1, y, bytes, ret, pc, ls, st, H, v, H', h => by
    rw [run] at h
    split at h
    · cases h
    · cases h; exact ⟨Nat.le_refl _, Nat.le_refl _⟩
    · rename_i g
      have h1 := run_size h
      have h2 := act_size g
      exact ⟨Nat.le_trans h2.1 h1.1, Nat.le_trans h2.2.1 h1.2⟩
    · split at h
      · rename_i g
        have h1 := run_size h
        have h2 := run_size g
        exact ⟨Nat.le_trans h2.1 h1.1, Nat.le_trans h2.2 h1.2⟩
      · cases h
section Snd
/-- from here on the machine comes to a return of v with the heap H' -/
def Goes (p : Program) (l : Launch) (e : Env) (R : Room) (s : State) (m : MethodId) (args : Array Value) (below : List Frame) (meth : Method) (c : Code) (T : State) (Z : State) (ws : Ws) (k sa n0 cells slots : Nat) (H : AHeap) (g : JFrame) (ret : Option FieldType) (v : Option Value) (H' : AHeap) : Prop :=
  ∃ T' locs', Stand p l e R s m args below meth c T' locs' (cells + (H'.length - H.length)) (slots + (tot ws H' - tot ws H)) ∧ Sim Z ws k sa n0 H' T'.heap ∧ Fr n0 locs' ∧ (ret = none → v = none) ∧
    ∀ fs, (∀ (fj : JFrame) (acts : List Action), fj.method = m → fj.locked = none → fj.entered = [] → (doReturn e (T'.setTop fj) acts (v.map (ren (adr k sa n0)))).1 = T'.setFrames fs) → Steps p.tables e below (T.setTop g) (T'.setFrames fs)
variable {p : Program} {l : Launch} {e : Env} {R : Room} {s : State} {m : MethodId} {args : Array Value} {below : List Frame} {meth : Method} {c : Code} {T : State} {locs : List Loc} {cells slots : Nat}
  {Z : State} {a0 : Array Value} {ws : Ws} {dn : Dn} {k sa n0 : Nat}
theorem Goes.of {T1 : State} {H H1 H' : AHeap} {g g1 : JFrame} {ret : Option FieldType} {v : Option Value} (hst : ∀ target, Steps p.tables e below (T1.setTop g1) target → Steps p.tables e below (T.setTop g) target)
    (G : Goes p l e R s m args below meth c T1 Z ws k sa n0 (cells + (H1.length - H.length)) (slots + (tot ws H1 - tot ws H)) H1 g1 ret v H') (m1 : H.length ≤ H1.length ∧ tot ws H ≤ tot ws H1) (m2 : H1.length ≤ H'.length ∧ tot ws H1 ≤ tot ws H') :
    Goes p l e R s m args below meth c T Z ws k sa n0 cells slots H g ret v H' := by
  obtain ⟨T', locs', X', S', N', hv, go⟩ := G
  have e1 : cells + (H1.length - H.length) + (H'.length - H1.length) = cells + (H'.length - H.length) := by omega
  have e2 : slots + (tot ws H1 - tot ws H) + (tot ws H' - tot ws H1) = slots + (tot ws H' - tot ws H) := by omega
  rw [e1, e2] at X'
  exact ⟨T', locs', X', S', N', hv, fun fs hf => hst _ (go fs hf)⟩
def Snd (Z : State) (ws : Ws) (dn : Dn) (k sa n0 n : Nat) : Prop :=
  ∀ (y : MethodName) (bytes : ByteArray) (ret : Option FieldType) (pc : Nat) (ls : List Slot) (st : List Value) (H : AHeap) (v : Option Value) (H' : AHeap), run ws dn k n y bytes ret pc ls st H = some (v, H') →
  ∀ (p : Program) (l : Launch) (e : Env) (R : Room) (s : State) (m : MethodId) (args : Array Value) (below : List Frame) (meth : Method) (c : Code) (T : State) (locs : List Loc) (cells slots : Nat),
    Stand p l e R s m args below meth c T locs cells slots → p.tables.exec = Jvm.exec → Z.Warmed39 s.vm → s.vm.findClass y.cls = some m.cls → meth.name = y.name → meth.sig.returnType = ret → c.code = bytes → ls.length = c.maxLocals →
    (∀ f lc, dnOf dn y = some (f, lc) → f ≤ R.frames ∧ lc ≤ R.locals) → Sim Z ws k sa n0 H T.heap → Fr n0 locs → cells + (H'.length - H.length) ≤ R.cells → slots + (tot ws H' - tot ws H) ≤ R.slots → T.heap.size = s.heap.size + cells →
    Goes p l e R s m args below meth c T Z ws k sa n0 cells slots H (fr (adr k sa n0) m pc ls st) ret v H'
theorem met_of {n : Nat} (ih : Snd Z ws dn k sa n0 n) (l : Launch) {y : MethodName} {b : ByteArray} {mx f lc : Nat} {r : Option FieldType} (wsx : List Jvm.Cond) (hp : Jvm.plainName y.cls = true) {as : List Value} (he : (ent as).length ≤ mx) {H H1 : AHeap} {v : Option Value}
    (hrun : run ws dn k n y b r 0 (entry as mx) [] H = some (v, H1)) (hdn : ∀ f' l', dnOf dn y = some (f', l') → f' ≤ f ∧ l' ≤ lc) {h : Heap} (S : Sim Z ws k sa n0 H h) {rc rs : Nat} (hc : H1.length - H.length ≤ rc) (hs : tot ws H1 - tot ws H ≤ rs) :
    MetFree l y (head1 (Jvm.Cond.code y b mx r :: wsx) ({ frames := f, cells := rc, slots := rs, locals := lc } : Room)) (fun a U => a = (as.map (ren (adr k sa n0))).toArray ∧ Z.Warmed39 U.vm ∧ U.heap = h) (fun _ _ _ _ _ => True)
      (fun _ U o U' => ∃ w L, o = .returned w ∧ (w = v.map (ren (adr k sa n0)) ∧ Sim Z ws k sa n0 H1 U'.heap ∧ Fr n0 L) ∧ FrameEnd U o U' L (H1.length - H.length) (tot ws H1 - tot ws H)) := by
  refine MetFree.of_bodySF (plainFor_of_name hp) hisR ?_
  intro p e s m args below meth c s₁ Bd hml0 hP hK
  obtain ⟨rfl, hZ, hh⟩ := hP
  have hown : s.vm.findClass y.cls = some m.cls := findClass_of_methodNamed Bd.named
  have hnm := (name_of_methodNamed Bd.named Bd.method).1
  have X0 : Stand p l e ({ frames := f, cells := rc, slots := rs, locals := lc } : Room) s m (as.map (ren (adr k sa n0))).toArray below meth c s₁ [] 0 0 := Stand.of_body Bd
  have e0 : s₁.heap = h := by rw [← hh, Bd.state]; rfl
  obtain ⟨T', locs', X', S', N', hv, go⟩ := ih y b r 0 (entry as mx) [] H v H1 hrun p l e _ s m _ below meth c s₁ [] 0 0 X0 Bd.exec hZ hown hnm Bd.returns Bd.bytes (by rw [entry_len he]; exact hml0.symm) hdn (by rw [e0]; exact S) (Fr.nil n0) (by rw [Nat.zero_add]; exact hc) (by rw [Nat.zero_add]; exact hs) (by rw [e0, ← hh, Nat.add_zero])
  obtain ⟨fs, hr, hrun', hended, hW, hsame⟩ := X'.leave (v := v.map (ren (adr k sa n0))) (fun hn => by rw [Bd.returns] at hn; rw [hv hn]; rfl)
  refine ⟨_, _, castTop (entry_eq _ m as mx) (go fs hr), hrun', hended, _, locs', rfl, ⟨rfl, S', N'⟩, ⟨_, rfl⟩, hW, hsame.mono (Nat.le_of_eq (Nat.zero_add _)) (Nat.le_of_eq (Nat.zero_add _))⟩
set_option maxHeartbeats 2000000 in
theorem snd (hw : ∀ d ∈ ws, d.before a0 Z = true) : ∀ n, Snd Z ws dn k sa n0 n
  | 0 => fun y bytes ret pc ls st H v H' h => by cases h
  | n + 1 => fun y bytes ret pc ls st H v H' h p l e R s m args below meth c T locs cells slots X hx hZ hown hnm hret hby hls hF S N hc hl hz0 => by
    have ih := snd hw n
    rw [run] at h
    split at h
    · cases h
    · rename_i v' ha
      cases h
      have stay : ∀ {v : Option Value}, (ret = none → v = none) → (∀ fs, (∀ (fj : JFrame) (acts : List Action), fj.method = m → fj.locked = none → fj.entered = [] → (doReturn e (T.setTop fj) acts (v.map (ren (adr k sa n0)))).1 = T.setFrames fs) → Steps p.tables e below (T.setTop (fr (adr k sa n0) m pc ls st)) (T.setFrames fs)) →
          Goes p l e R s m args below meth c T Z ws k sa n0 cells slots H (fr (adr k sa n0) m pc ls st) ret v H := fun hv hg => ⟨T, locs, by rw [Nat.sub_self, Nat.sub_self]; exact X, S, N, hv, hg⟩
      rcases act_ret ha with ⟨z, r, t, hd, rfl, rfl, ht, rfl⟩ | ⟨z, hd, rfl, rfl, rfl⟩ | ⟨hd, rfl, rfl, rfl⟩
      · refine stay (fun h => by cases h) fun fs hf => ?_
        rcases ht with rfl | ht
        · exact retOut X hx hret (w := .int z) (rest := r.map (ren (adr k sa n0))) rfl (Or.inl ⟨rfl, Or.inl rfl, z, rfl⟩) (hb hby hd) hf
        · exact retN X hx hret ht (hb hby hd) hf
      · exact stay (fun h => by cases h) fun fs hf => retOut X hx hret (w := .long z) (rest := []) rfl (Or.inr (Or.inl ⟨rfl, rfl, z, rfl⟩)) (hb hby hd) hf
      · exact stay (fun _ => rfl) fun fs hf => X.returnOut hx hret (hb hby hd) hf
    · rename_i pc' ls' st' H1 ha
      have m1 := act_size ha
      have m2 := run_size h
      obtain ⟨ins, len, hd, ⟨g, rfl⟩ | ⟨rfl, g⟩ | ⟨i, sl, a, r, rfl, rfl, ho, rfl, hW, rfl, rfl, rfl, rfl⟩⟩ := act_step ha
      · obtain ⟨T', locs', X', S', N', hv, go⟩ := ih y bytes ret pc' ls' st' H1 v H' h p l e R s m args below meth c T locs cells slots X hx hZ hown hnm hret hby (m1.2.2.trans hls) hF S N hc hl hz0
        exact ⟨T', locs', X', S', N', hv, fun fs hf => xstep_sound X.here hx (adr k sa n0) (hb hby hd) g (go fs hf)⟩
      · obtain ⟨T1, locs1, X1, S1, N1, st1⟩ := hstep_sound (ls := ls') hw X hx hZ hown hnm (hb hby hd) g S N (by dsimp only; omega) (by dsimp only; omega) hz0
        dsimp only at X1 S1 st1
        have z1 := S.1
        have z2 := S1.1
        have z3 := S.2.1
        have G := ih y bytes ret pc' ls' st' H1 v H' h p l e R s m args below meth c T1 locs1 _ _ X1 hx hZ hown hnm hret hby hls hF S1 N1 (by omega) (by omega) (by omega)
        exact Goes.of st1 G ⟨m1.1, m1.2.1⟩ m2
      · unfold oR at ho
        split at ho
        · rename_i y1 b1 mx1 r1 f1 l1 q1 q2 q3
          split at ho
          · rename_i g
            cases ho
            obtain ⟨rfl, g2, g3, rfl, rfl, g4, g5⟩ := g
            obtain ⟨u1, u2⟩ := hF _ _ q3
            have eb : b1 = ⟨#[0xb1]⟩ := by cases b1; cases g3; rfl
            subst eb
            obtain ⟨T1, X1, e1, st1⟩ := initO X hx hZ hown (hw _ (rMth_mem q1)) (hw _ (hasIM_mem g2)) (hw _ (rCode_mem q2)) rfl (g := fr (adr k sa n0) m pc ls' (.ref a :: st')) rfl (by simp [hls]) rfl (hb hby hd) (by omega) (W := l1 - 12) (by show 2 * 0 + _ ≤ _; rw [wsum_ren]; omega) (by omega)
            have G := ih y bytes ret (pc + 3) ls' st' H1 v H' h p l e R s m args below meth c T1 locs cells slots X1 hx hZ hown hnm hret hby hls hF (by rw [e1]; exact S) N hc hl (by rw [e1]; exact hz0)
            obtain ⟨T', locs', X', S', N', hv, go⟩ := G
            exact ⟨T', locs', X', S', N', hv, fun fs hf => st1 _ (go fs hf)⟩
          · cases ho
        · cases ho
    · rename_i y' b r en rest ha
      split at h
      · rename_i v1 H1 h1
        have m1 := run_size h1
        have m2 := run_size h
        obtain ⟨i, mx, na, sl, as, hq, rfl, hen, hW, hk⟩ := act_call ha
        obtain ⟨w1, w2, w3, w4, w5, -, f', l', f, lc, sig, d1, d2, d3, d4, d5, d6⟩ := cR_some hq
        obtain ⟨u1, u2⟩ := hF _ _ d2
        have hM := met_of ih l [] w4 hen h1 (f := f') (lc := l') (fun f2 l2 q => by rw [d1] at q; cases q; exact ⟨Nat.le_refl _, Nat.le_refl _⟩) S (Nat.le_refl _) (Nat.le_refl _)
        have hB := backOf (R := R) (p := p) (e := e) (below := below) (s := s) (args := args) (len := 3) (W := sl) (rm := ({ frames := f', cells := H1.length - H.length, slots := tot ws H1 - tot ws H, locals := l' } : Room)) (Q := fun w h L => w = v1.map (ren (adr k sa n0)) ∧ Sim Z ws k sa n0 H1 h ∧ Fr n0 L) hM hZ (hw _ w2) (hw _ w3) (by show f' + 1 ≤ _; omega) (by show sl + (mx + 11) + l' ≤ _; omega)
        have hsz : (fr (adr k sa n0) m pc ls st).locals.size = c.maxLocals := by simp [hls]
        have hWW : ∀ st' : List Value, wsum st' ≤ sl → 2 * (fr (adr k sa n0) m pc ls st).monitorRoom + ((st'.map (ren (adr k sa n0))).map fun v => v.category).sum ≤ sl := fun st' q => by show 2 * 0 + _ ≤ _; rw [wsum_ren]; omega
        have hback : ∀ (v' : Option Value) (vm₁ : Vm) (B : Pt), Stand p l e R s m args below meth c B.U B.locs B.cells B.slots →
            (∃ L, (v' = v1.map (ren (adr k sa n0)) ∧ Sim Z ws k sa n0 H1 B.U.heap ∧ Fr n0 L) ∧ B.locs = locs ++ L ∧ B.cells = cells + (H1.length - H.length) ∧ B.slots = slots + (tot ws H1 - tot ws H)) →
            (∀ target, Steps p.tables e below (B.U.setTop { fr (adr k sa n0) m pc ls st with pc := pc + 3, stack := v'.toList ++ rest.map (ren (adr k sa n0)) }) target → Steps p.tables e below (T.setTop (fr (adr k sa n0) m pc ls st)) target) →
            Goes p l e R s m args below meth c T Z ws k sa n0 cells slots H (fr (adr k sa n0) m pc ls st) ret v H' := by
          rintro v' vm₁ ⟨T1, L1, k1, n1⟩ X1 ⟨Lc, ⟨rfl, S1, N1⟩, l1, y1, z1⟩ st1
          dsimp only [Pt.U, Pt.locs, Pt.cells, Pt.slots] at X1 l1 y1 z1 st1 S1
          subst l1 y1 z1
          have z1 := S.1
          have z2 := S1.1
          have z3 := S.2.1
          have G := ih y bytes ret (pc + 3) ls (v1.toList ++ rest) H1 v H' h p l e R s m args below meth c T1 _ _ _ X1 hx hZ hown hnm hret hby hls hF S1 (Fr.app N N1) (by omega) (by omega) (by omega)
          refine Goes.of (fun target ht => st1 target ?_) G m1 m2
          have e1 : (v1.toList ++ rest).map (ren (adr k sa n0)) = (v1.map (ren (adr k sa n0))).toList ++ rest.map (ren (adr k sa n0)) := by cases v1 <;> simp
          rw [← e1]; exact ht
        rcases hk with ⟨hd, ws1, hna, rfl⟩ | ⟨a, as', rfl, hna, rfl, wi, ⟨hd, hn, rfl⟩ | ⟨hd, C, vs, hH, hpd⟩⟩
        · obtain ⟨v', vm₁, B, -, X1, P1, st1⟩ := Jvm.LawKit.callS X hx (y := y') hown (mvT hZ (hw _ w1)) (mvT hZ (hw _ ws1)) (mvT hZ (hw _ w3)) (mvT hZ (hw _ w2)) w5 hB (g := fr (adr k sa n0) m pc ls (as.reverse ++ rest)) rfl hsz (argsL := as.map (ren (adr k sa n0))) (rest := rest.map (ren (adr k sa n0)))
            (fun sg hsg => by rw [d3] at hsg; cases hsg; simp [hna, d4]) (by simp) (hWW rest hW) (hb hby hd) (fun _ _ => ⟨rfl, rfl, by show cells + (H1.length - H.length) ≤ _; omega, by show slots + (tot ws H1 - tot ws H) ≤ _; omega⟩)
          exact hback v' vm₁ B X1 P1 st1
        · obtain ⟨v', vm₁, B, -, X1, P1, st1⟩ := X.specialBack hx (y := y') hn hown (mvT hZ (hw _ w1)) (mvT hZ (hw _ wi)) (mvT hZ (hw _ w2)) w5 hB (g := fr (adr k sa n0) m pc ls (as'.reverse ++ .ref a :: rest)) rfl hsz (Steps.refl _) (a := adr k sa n0 a) (argsL := as'.map (ren (adr k sa n0))) (rest := rest.map (ren (adr k sa n0)))
            (fun sg hsg => by rw [d3] at hsg; cases hsg; simp [hna, d4]) (by simp [ren]) (hWW rest hW) (hb hby hd) (fun _ _ => ⟨rfl, rfl, by show cells + (H1.length - H.length) ≤ _; omega, by show slots + (tot ws H1 - tot ws H) ≤ _; omega⟩)
          exact hback v' vm₁ B X1 P1 fun target ht => st1.trans ht
        · have E := (S.2.2.2.2 a _ hH).1
          rcases hpd with ⟨wp, ki, wki⟩ | ⟨wd, wsel, rfl⟩
          · obtain ⟨cq, hq1, hq2⟩ := E.cell
            have hpa : s.PrivateAt y' := Cond.privateMethod_at (mvP hZ (hw _ wp) (args := #[]))
            have hsel : (Jvm.Cond.selects y'.cls y' y').before args s = true := by
              have wz : (Jvm.Cond.instantiable y'.cls ki).before args s = true := mvT hZ (hw _ wki)
              obtain ⟨c2, k2, i1, i2, -, i4, -⟩ := Cond.instantiable_spec wz
              exact selects_self_of_private i1 i2 (Bool.or_eq_false_iff.mp i4).1 hpa (mvT hZ (hw _ wi)) w5
            obtain ⟨v', vm₁, B, -, X1, P1, st1⟩ := X.privateBack hx (y := y') hown (mvT hZ (hw _ w1)) (mvT hZ (hw _ wi)) hsel hpa (mvT hZ (hw _ w2)) w5 hB (g := fr (adr k sa n0) m pc ls (as'.reverse ++ .ref a :: rest)) rfl hsz (Steps.refl _) (a := adr k sa n0 a) hq1 hq2 (argsL := as'.map (ren (adr k sa n0))) (rest := rest.map (ren (adr k sa n0)))
              (fun sg hsg => by rw [d3] at hsg; cases hsg; simp [hna, d4]) (by simp [ren]) (hWW rest hW) (hb hby hd) (fun _ _ => ⟨rfl, rfl, by show cells + (H1.length - H.length) ≤ _; omega, by show slots + (tot ws H1 - tot ws H) ≤ _; omega⟩)
            exact hback v' vm₁ B X1 P1 fun target ht => st1.trans ht
          · obtain ⟨cq, kq, qa, qb, qc⟩ := isOf hZ rfl E
            obtain ⟨v', vm₁, B, -, X1, P1, st1⟩ := X.virtualBack hx (y := y') (z := y') hown (mvT hZ (hw _ w1)) (mvT hZ (hw _ wd)) (notFace_of_selects (args := #[]) (mvT hZ (hw _ wsel))) (mvT hZ (hw _ wsel)) (mvT hZ (hw _ wi)) w5 hB qa qc (g := fr (adr k sa n0) m pc ls (as'.reverse ++ .ref a :: rest)) rfl hsz (Steps.refl _) (argsL := as'.map (ren (adr k sa n0))) (rest := rest.map (ren (adr k sa n0)))
              (fun sg hsg => by rw [d3] at hsg; cases hsg; simp [hna, d4]) (by simp [ren]) (hWW rest hW) (hb hby hd) (fun _ _ => ⟨rfl, rfl, by show cells + (H1.length - H.length) ≤ _; omega, by show slots + (tot ws H1 - tot ws H) ≤ _; omega⟩)
            exact hback v' vm₁ B X1 P1 fun target ht => st1.trans ht
      · cases h
end Snd
end Jvm.Own
namespace Jvm.Own
open Sem ClassFile Op Lib Jvm.Stand Jvm.Free Jvm.LawKit Jvm.RoadKit
/-! OWN 6: from here on no machine is in sight -/
theorem run_succ {ws : Ws} {dn : Dn} {k : Nat} : ∀ {n : Nat} {y : MethodName} {bytes : ByteArray} {ret : Option FieldType} {pc : Nat} {ls : List Slot} {st : List Value} {H : AHeap} {r : Option Value × AHeap}, run ws dn k n y bytes ret pc ls st H = some r → run ws dn k (n + 1) y bytes ret pc ls st H = some r
  | 0, _, _, _, _, _, _, _, _, h => by cases h
  | n + 1, y, bytes, ret, pc, ls, st, H, r, h => by
    rw [run] at h
    rw [run]
    split at h
    · cases h
    · exact h
    · exact run_succ h
    · split at h
      · rename_i v H1 g
        rw [run_succ g]
        exact run_succ h
      · cases h
theorem run_mono {ws : Ws} {dn : Dn} {k n n' : Nat} {y : MethodName} {bytes : ByteArray} {ret : Option FieldType} {pc : Nat} {ls : List Slot} {st : List Value} {H : AHeap} {r : Option Value × AHeap} (hn : n ≤ n') (h : run ws dn k n y bytes ret pc ls st H = some r) : run ws dn k n' y bytes ret pc ls st H = some r := by
  induction hn with
  | refl => exact h
  | step _ ih => exact run_succ ih
/-- from here on a run comes to a return at which Q holds -/
def W (ws : Ws) (dn : Dn) (k : Nat) (y : MethodName) (bytes : ByteArray) (ret : Option FieldType) (pc : Nat) (ls : List Slot) (st : List Value) (H : AHeap) (Q : Option Value → AHeap → Prop) : Prop :=
  ∃ n v H', run ws dn k n y bytes ret pc ls st H = some (v, H') ∧ Q v H'
section
variable {ws : Ws} {dn : Dn} {k : Nat} {y : MethodName} {bytes : ByteArray} {ret : Option FieldType} {pc : Nat} {ls : List Slot} {st : List Value} {H : AHeap} {Q : Option Value → AHeap → Prop}
theorem W_step {pc' : Nat} {ls' : List Slot} {st' : List Value} {H' : AHeap} (h : act ws dn k y bytes ret pc ls st H = some (.inr (.inl (pc', ls', st', H')))) : W ws dn k y bytes ret pc ls st H Q = W ws dn k y bytes ret pc' ls' st' H' Q := by
  refine propext ⟨fun ⟨n, v, H1, h1, h2⟩ => ?_, fun ⟨n, v, H1, h1, h2⟩ => ⟨n + 1, v, H1, by rw [run, h]; exact h1, h2⟩⟩
  cases n with
  | zero => cases h1
  | succ n => rw [run, h] at h1; exact ⟨n, v, H1, h1, h2⟩
theorem W_ret {v : Option Value} (h : act ws dn k y bytes ret pc ls st H = some (.inl v)) : W ws dn k y bytes ret pc ls st H Q = Q v H := by
  refine propext ⟨fun ⟨n, v, H1, h1, h2⟩ => ?_, fun h2 => ⟨1, v, H, by rw [run, h], h2⟩⟩
  cases n with
  | zero => cases h1
  | succ n => rw [run, h] at h1; cases h1; exact h2
theorem W_call {y' : MethodName} {b : ByteArray} {r : Option FieldType} {en : List Slot} {rest : List Value} (h : act ws dn k y bytes ret pc ls st H = some (.inr (.inr (y', b, r, en, rest)))) :
    W ws dn k y bytes ret pc ls st H Q = W ws dn k y' b r 0 en [] H (fun v H1 => W ws dn k y bytes ret (pc + 3) ls (v.toList ++ rest) H1 Q) := by
  refine propext ⟨fun ⟨n, v, H1, h1, h2⟩ => ?_, fun ⟨n, v, H1, h1, n', v', H', h2, h3⟩ => ⟨max n n' + 1, v', H', ?_, h3⟩⟩
  · cases n with
    | zero => cases h1
    | succ n =>
      rw [run, h] at h1
      dsimp only at h1
      split at h1
      · rename_i v' H' g; exact ⟨n, v', H', g, n, v, H1, h1, h2⟩
      · cases h1
  · rw [run, h]
    dsimp only
    rw [run_mono (Nat.le_max_left _ _) h1]
    exact run_mono (Nat.le_max_right _ _) h2
theorem W.mono {Q' : Option Value → AHeap → Prop} (h : W ws dn k y bytes ret pc ls st H Q) (hq : ∀ v H', Q v H' → Q' v H') : W ws dn k y bytes ret pc ls st H Q' := by
  obtain ⟨n, v, H', h1, h2⟩ := h; exact ⟨n, v, H', h1, hq _ _ h2⟩
theorem act_x {ins : Instr} {len pc' : Nat} {ls' : List Slot} {st' : List Value} (hd : decode bytes pc = .ok (ins, len)) (hx : xstep ins len pc ls st = some (pc', ls', st')) : act ws dn k y bytes ret pc ls st H = some (.inr (.inl (pc', ls', st', H))) := by
  unfold act; rw [hd]; dsimp only; rw [hx]
theorem act_h {ins : Instr} {len pc' : Nat} {st' : List Value} {H' : AHeap} (hd : decode bytes pc = .ok (ins, len)) (hx : xstep ins len pc ls st = none) (hh : hstep ws k y ins len pc st H = some (pc', st', H')) : act ws dn k y bytes ret pc ls st H = some (.inr (.inl (pc', ls, st', H'))) := by
  unfold act; rw [hd]; dsimp only; rw [hx]; dsimp only; rw [hh]
theorem act_c {ins : Instr} {len : Nat} (hd : decode bytes pc = .ok (ins, len)) (hx : xstep ins len pc ls st = none) (hh : hstep ws k y ins len pc st H = none) : act ws dn k y bytes ret pc ls st H = cstep ws dn y ret ins len pc ls st H := by
  unfold act; rw [hd]; dsimp only; rw [hx]; dsimp only; rw [hh]
/-- a plain step -/
theorem w_x {ins : Instr} {len pc' : Nat} {ls' : List Slot} {st' : List Value} (hd : decode bytes pc = .ok (ins, len)) (hx : xstep ins len pc ls st = some (pc', ls', st')) : W ws dn k y bytes ret pc ls st H Q = W ws dn k y bytes ret pc' ls' st' H Q := W_step (act_x hd hx)
/-- a conditional branch -/
theorem w_if {cd : ClassFile.Cond} {o : Int} {x : Int32} {t : Nat} {P : Prop} [Decidable P] (hd : decode bytes pc = .ok (.ifCond cd o, 3)) (hp : ifCond.holds cd x = decide P) (hj : jmp pc o = some t) :
    W ws dn k y bytes ret pc ls (.int x :: st) H Q = if P then W ws dn k y bytes ret t ls st H Q else W ws dn k y bytes ret (pc + 3) ls st H Q := by
  split
  · exact w_x hd (by simp only [xstep, chk, br, hp, hj, if_true]; simp [*])
  · exact w_x hd (by simp only [xstep, chk, br, hp, hj, if_true]; simp [*])
theorem w_icmp {cd : ClassFile.Cond} {o : Int} {x1 x2 : Int32} {t : Nat} {P : Prop} [Decidable P] (hd : decode bytes pc = .ok (.if_icmp cd o, 3)) (hp : if_icmp.holds cd x1 x2 = decide P) (hj : jmp pc o = some t) :
    W ws dn k y bytes ret pc ls (.int x2 :: .int x1 :: st) H Q = if P then W ws dn k y bytes ret t ls st H Q else W ws dn k y bytes ret (pc + 3) ls st H Q := by
  split
  · exact w_x hd (by simp only [xstep, chk, br, hp, hj, if_true]; simp [*])
  · exact w_x hd (by simp only [xstep, chk, br, hp, hj, if_true]; simp [*])
theorem w_get {i j : Nat} {a : Nat} {C : String} {vs : List Value} {v : Value} (hd : decode bytes pc = .ok (.getfield i, 3)) (hr : gfR ws y.cls i = some (C, j)) (ho : H[a]? = some (.object C, vs)) (hv : vs[j]? = some v) :
    W ws dn k y bytes ret pc ls (.ref a :: st) H Q = W ws dn k y bytes ret (pc + 3) ls (v :: st) H Q :=
  W_step (act_h hd rfl (by simp only [hstep, chk, hGet, hr, ho, hv, if_true, Option.map_some]))
theorem w_put {i j : Nat} {a : Nat} {C : String} {ty : FieldType} {vs : List Value} {v v' : Value} {H' : AHeap} (hd : decode bytes pc = .ok (.putfield i, 3)) (hr : pfR ws y.cls y.name i = some (C, j, ty)) (ho : H[a]? = some (.object C, vs)) (hk : k ≤ a) (hj : j < vs.length) (hv : putv ty v = some v') (hH : H.set a (.object C, vs.set j v') = H') :
    W ws dn k y bytes ret pc ls (v :: .ref a :: st) H Q = W ws dn k y bytes ret (pc + 3) ls st H' Q :=
  W_step (act_h hd rfl (by simp only [hstep, chk, hPut, hr, ho, hv, if_true, true_and, hk, hj, Option.map_some, hH, and_self]))
theorem w_new {i : Nat} {C : String} (hd : decode bytes pc = .ok (.new i, 3)) (hr : hNew ws y.cls i pc H st = some (pc + 3, .ref H.length :: st, H ++ [(.object C, (olay ws C).map dflt)])) :
    W ws dn k y bytes ret pc ls st H Q = W ws dn k y bytes ret (pc + 3) ls (.ref H.length :: st) (H ++ [(.object C, (olay ws C).map dflt)]) Q :=
  W_step (act_h hd rfl (by simp only [hstep, chk, if_true]; exact hr))
theorem w_newA {aty : ArrayType} {n : Int32} {ty : FieldType} (hd : decode bytes pc = .ok (.newarray aty, 2)) (ht : newarray.typeOf aty = ty) (hr : hasArr ws ty = true) (hn : ¬ n < 0) (hb : n.toNatClampNeg * 8 ≤ 536870912) :
    W ws dn k y bytes ret pc ls (.int n :: st) H Q = W ws dn k y bytes ret (pc + 2) ls (.ref H.length :: st) (H ++ [(.array ty, List.replicate n.toNatClampNeg (defaultValue ty))]) Q := by
  subst ht
  exact W_step (act_h hd rfl (by simp only [hstep, chk, hNewA, hr, hn, hb, if_true, not_false_eq_true, and_self]))
/-- may the instruction read an array of that kind? -/
def ldOk : Instr → FieldType → Bool
  | .iaload, .int | .caload, .char | .laload, .long | .baload, .byte | .baload, .boolean => true
  | _, _ => false
def stOk : Instr → FieldType → Bool
  | .iastore, .int | .castore, .char | .lastore, .long | .bastore, .byte | .bastore, .boolean => true
  | _, _ => false
theorem w_ald {ins : Instr} {a : Nat} {j : Int32} {ty : FieldType} {vs : List Value} {v : Value} (hd : decode bytes pc = .ok (ins, 1)) (hi : ldOk ins ty = true) (ho : H[a]? = some (.array ty, vs)) (hj : ¬ j < 0) (hv : vs[j.toNatClampNeg]? = some v) :
    W ws dn k y bytes ret pc ls (.int j :: .ref a :: st) H Q = W ws dn k y bytes ret (pc + 1) ls (v :: st) H Q := by
  unfold ldOk at hi
  split at hi
  all_goals first
    | exact W_step (act_h hd rfl (by simp only [hstep, chk, hLd, okT, okB, ho, hv, hj, if_true, Option.map_some, decide_true, not_false_eq_true, and_self, Bool.or_true, Bool.true_or]))
    | cases hi
theorem w_ast {ins : Instr} {a : Nat} {j : Int32} {ty : FieldType} {vs : List Value} {v v' : Value} {H' : AHeap} (hd : decode bytes pc = .ok (ins, 1)) (hi : stOk ins ty = true) (ho : H[a]? = some (.array ty, vs)) (hk : k ≤ a) (hj : ¬ j < 0) (hl : j.toNatClampNeg < vs.length) (hv : putv ty v = some v') (hH : H.set a (.array ty, vs.set j.toNatClampNeg v') = H') :
    W ws dn k y bytes ret pc ls (v :: .int j :: .ref a :: st) H Q = W ws dn k y bytes ret (pc + 1) ls st H' Q := by
  unfold stOk at hi
  split at hi
  all_goals first
    | exact W_step (act_h hd rfl (by simp only [hstep, chk, hSt, okT, okB, ho, hv, hj, hk, hl, hH, if_true, Option.map_some, decide_true, not_false_eq_true, and_self, Bool.or_true, Bool.true_or]))
    | cases hi
theorem w_len {a : Nat} {ty : FieldType} {vs : List Value} (hd : decode bytes pc = .ok (.arraylength, 1)) (ho : H[a]? = some (.array ty, vs)) :
    W ws dn k y bytes ret pc ls (.ref a :: st) H Q = W ws dn k y bytes ret (pc + 1) ls (.int vs.length.toInt32 :: st) H Q :=
  W_step (act_h hd rfl (by simp only [hstep, chk, hLen, ho, if_true]))
theorem w_ldc {i : Nat} {v : Int32} (hd : decode bytes pc = .ok (.ldc i, 2)) (hr : rCon ws y.cls i = some v) : W ws dn k y bytes ret pc ls st H Q = W ws dn k y bytes ret (pc + 2) ls (.int v :: st) H Q :=
  W_step (act_h hd rfl (by simp only [hstep, chk, hr, if_true, Option.map_some]))
theorem w_ldcw {i : Nat} {v : Int32} (hd : decode bytes pc = .ok (.ldc_w i, 3)) (hr : rCon ws y.cls i = some v) : W ws dn k y bytes ret pc ls st H Q = W ws dn k y bytes ret (pc + 3) ls (.int v :: st) H Q :=
  W_step (act_h hd rfl (by simp only [hstep, chk, hr, if_true, Option.map_some]))
theorem w_ldc2 {i : Nat} {v : Int64} (hd : decode bytes pc = .ok (.ldc2_w i, 3)) (hr : rConL ws y.cls i = some v) : W ws dn k y bytes ret pc ls st H Q = W ws dn k y bytes ret (pc + 3) ls (.long v :: st) H Q :=
  W_step (act_h hd rfl (by simp only [hstep, chk, hr, if_true, Option.map_some]))
theorem w_iret {z : Int32} (hd : decode bytes pc = .ok (.ireturn, 1)) (hr : ret = some .int) : W ws dn k y bytes ret pc ls (.int z :: st) H Q = Q (some (.int z)) H := by
  subst hr; exact W_ret (by rw [act_c hd rfl rfl]; rfl)
theorem w_iretN {z : Int32} {t : FieldType} (hd : decode bytes pc = .ok (.ireturn, 1)) (hr : ret = some t) (ht : t = .int ∨ t = .boolean ∨ t = .byte ∨ t = .char ∨ t = .short) : W ws dn k y bytes ret pc ls (.int z :: st) H Q = Q (some (.int (nar t z))) H := by
  subst hr; exact W_ret (by rw [act_c hd rfl rfl]; simp only [cstep, chk, if_true, ht])
theorem w_lret {z : Int64} (hd : decode bytes pc = .ok (.lreturn, 1)) (hr : ret = some .long) : W ws dn k y bytes ret pc ls [.long z] H Q = Q (some (.long z)) H := by
  subst hr; exact W_ret (by rw [act_c hd rfl rfl]; rfl)
theorem w_vret (hd : decode bytes pc = .ok (.return_, 1)) (hr : ret = none) : W ws dn k y bytes ret pc ls [] H Q = Q none H := by
  subst hr; exact W_ret (by rw [act_c hd rfl rfl]; rfl)
theorem w_obj {i sl : Nat} {a : Nat} (hd : decode bytes pc = .ok (.invokespecial i, 3)) (hr : oR ws dn y i = some sl) (hw : wsum st ≤ sl) : W ws dn k y bytes ret pc ls (.ref a :: st) H Q = W ws dn k y bytes ret (pc + 3) ls st H Q :=
  W_step (by rw [act_c hd rfl rfl]; simp only [cstep, chk, if_true, hr, hw])
theorem w_stat {i mx na sl : Nat} {y' : MethodName} {b : ByteArray} {r : Option FieldType} {as rest : List Value} {en : List Slot} (hd : decode bytes pc = .ok (.invokestatic i, 3)) (hr : sR ws dn y i = some (y', b, mx, r, na, sl)) (hn : as.length = na) (hw : wsum rest ≤ sl) (he : (ent as.reverse).length ≤ mx) (hen : entry as.reverse mx = en) :
    W ws dn k y bytes ret pc ls (as ++ rest) H Q = W ws dn k y' b r 0 en [] H (fun v H1 => W ws dn k y bytes ret (pc + 3) ls (v.toList ++ rest) H1 Q) := by
  subst hn hen
  have e1 : (as ++ rest).take as.length = as := by simp
  have e2 : (as ++ rest).drop as.length = rest := by simp
  exact W_call (by rw [act_c hd rfl rfl]; simp only [cstep, chk, if_true, hr, e1, e2, hw, he, List.length_append, Nat.le_add_right, and_self])
theorem w_spec {i mx na sl a : Nat} {y' : MethodName} {b : ByteArray} {r : Option FieldType} {as rest : List Value} {en : List Slot} (hd : decode bytes pc = .ok (.invokespecial i, 3)) (h0 : oR ws dn y i = none) (hr : nR ws dn y i = some (y', b, mx, r, na, sl)) (hn : as.length = na) (hw : wsum rest ≤ sl) (he : (ent (.ref a :: as.reverse)).length ≤ mx) (hen : entry (.ref a :: as.reverse) mx = en) :
    W ws dn k y bytes ret pc ls (as ++ .ref a :: rest) H Q = W ws dn k y' b r 0 en [] H (fun v H1 => W ws dn k y bytes ret (pc + 3) ls (v.toList ++ rest) H1 Q) := by
  subst hn hen
  have e1 : (as ++ .ref a :: rest).take as.length = as := by simp
  have e2 : (as ++ .ref a :: rest).drop as.length = .ref a :: rest := by simp
  exact W_call (by rw [act_c hd rfl rfl]; simp only [cstep, chk, if_true, h0, hr, e1, e2, hw, he, List.length_append, Nat.le_add_right, and_self])
theorem w_virt {i mx na sl a : Nat} {pv : Bool} {y' : MethodName} {b : ByteArray} {r : Option FieldType} {as rest : List Value} {en : List Slot} {C : String} {vs : List Value} (hd : decode bytes pc = .ok (.invokevirtual i, 3)) (hr : vR ws dn y i = some (pv, y', b, mx, r, na, sl)) (ho : H[a]? = some (.object C, vs)) (hC : C = y'.cls) (hn : as.length = na) (hw : wsum rest ≤ sl) (he : (ent (.ref a :: as.reverse)).length ≤ mx) (hen : entry (.ref a :: as.reverse) mx = en) :
    W ws dn k y bytes ret pc ls (as ++ .ref a :: rest) H Q = W ws dn k y' b r 0 en [] H (fun v H1 => W ws dn k y bytes ret (pc + 3) ls (v.toList ++ rest) H1 Q) := by
  subst hn hen hC
  have e1 : (as ++ .ref a :: rest).take as.length = as := by simp
  have e2 : (as ++ .ref a :: rest).drop as.length = .ref a :: rest := by simp
  exact W_call (by rw [act_c hd rfl rfl]; simp only [cstep, chk, if_true, hr, e1, e2, ho, hw, he, List.length_append, Nat.le_add_right, and_self, or_true])
end
theorem law_of {Z : State} {a0 : Array Value} {ws : Ws} {dn : Dn} {k sa n0 : Nat} (hw : ∀ d ∈ ws, d.before a0 Z = true) (l : Launch) {y : MethodName} {b : ByteArray} {mx f lc rc rs : Nat} {r : Option FieldType} (wsx : List Jvm.Cond) (hp : Jvm.plainName y.cls = true) {as : List Value} (he : (ent as).length ≤ mx) {H : AHeap}
    (hW : W ws dn k y b r 0 (entry as mx) [] H (fun v H1 => v = some (.int 1) ∧ H1.length - H.length ≤ rc ∧ tot ws H1 - tot ws H ≤ rs)) (hdn : ∀ f' l', dnOf dn y = some (f', l') → f' ≤ f ∧ l' ≤ lc) {h : Heap} (S : Sim Z ws k sa n0 H h) :
    MetFree l y (head1 (Jvm.Cond.code y b mx r :: wsx) ({ frames := f, cells := rc, slots := rs, locals := lc } : Room)) (fun a U => a = (as.map (ren (adr k sa n0))).toArray ∧ Z.Warmed39 U.vm ∧ U.heap = h) (fun _ _ _ _ _ => True)
      (fun _ U o U' => ∃ w L, o = .returned w ∧ (w = some (.int 1) ∧ Fr n0 L) ∧ FrameEnd U o U' L rc rs) := by
  obtain ⟨n, v, H1, h1, rfl, h3, h4⟩ := hW
  have M := met_of (snd hw n) l wsx hp he h1 hdn S h3 h4
  intro p e ha hc hk s m args below hf happ hP hK
  obtain ⟨n', o, g1, g2, g3, w, L, rfl, ⟨rfl, -, N⟩, F⟩ := M p e ha hc hk s m args below hf happ hP hK
  exact ⟨n', _, g1, g2, g3, _, L, rfl, ⟨rfl, N⟩, F.1, F.2.1, F.2.2.mono h3 h4⟩
/-- the start of a law whose arguments hold no reference -/
theorem Sim.empty (Z : State) (ws : Ws) (h : Heap) : Sim Z ws 0 0 h.size [] h :=
  ⟨by simp, Nat.le_refl _, Nat.zero_le _, (fun q => absurd q (by decide)), (fun i o q => by simp at q)⟩
/-- the start of a law over one array of ints -/
theorem Sim.script {Z : State} (ws : Ws) {h : Heap} {a : Addr} {c : Cell} {vs : List Int32} (A : Arr Z h a c .int) (e : c.slots = (vs.map Value.int).toArray) : Sim Z ws 1 a h.size [(.array .int, vs.map Value.int)] h := by
  refine ⟨by simp, Nat.le_refl _, Nat.le_refl _, fun _ => A.lt, fun i o q => ?_⟩
  cases i with
  | zero =>
    cases q
    refine ⟨c, A, e.trans ?_⟩
    rw [List.map_map]; rfl
  | succ i => cases q
end Jvm.Own
namespace Jvm.Own
open Sem ClassFile Op Lib Jvm.Stand Jvm.Free Jvm.LawKit Jvm.RoadKit
/-! OWN 7: states of an object as plain functions -/
def ou {α : Type} (s : Nat → α) (i : Nat) (v : α) : Nat → α := fun j => if j = i then v else s j
theorem ou_a {α : Type} (s : Nat → α) (i : Nat) (v : α) (j : Nat) : ou s i v j = if j = i then v else s j := rfl
def pad (b : Nat) (pre : AHeap) : AHeap := (pre ++ List.replicate b (FieldType.int, [])).take b
theorem pad_len (b : Nat) (pre : AHeap) : (pad b pre).length = b := by simp [pad]
theorem pad_eq {b : Nat} {pre : AHeap} (h : pre.length = b) : pad b pre = pre := by subst h; simp [pad]
theorem pad_0 (pre : AHeap) : pad 0 pre = [] := by simp [pad]
theorem tot_cons (ws : Ws) (o : FieldType × List Value) (r : AHeap) : tot ws (o :: r) = cost ws o + tot ws r := by simp [tot]
theorem tot_append (ws : Ws) (a r : AHeap) : tot ws (a ++ r) = tot ws a + tot ws r := by simp [tot]
theorem tot_nil (ws : Ws) : tot ws [] = 0 := rfl
theorem pad_get (b : Nat) (pre r : AHeap) (i : Nat) : (pad b pre ++ r)[b + i]? = r[i]? := by
  rw [List.getElem?_append_right (by rw [pad_len]; omega), pad_len]; congr 1; omega
theorem pad_get0 (b : Nat) (pre r : AHeap) : (pad b pre ++ r)[b]? = r[0]? := pad_get b pre r 0
theorem pad_set (b : Nat) (pre r : AHeap) (i : Nat) (o : FieldType × List Value) : (pad b pre ++ r).set (b + i) o = pad b pre ++ r.set i o := by
  rw [List.set_append_right _ _ (by rw [pad_len]; omega), pad_len]; congr 2; omega
theorem pad_set0 (b : Nat) (pre r : AHeap) (o : FieldType × List Value) : (pad b pre ++ r).set b o = pad b pre ++ r.set 0 o := pad_set b pre r 0 o
theorem rCode_of {ws : Ws} {y : MethodName} {b : ByteArray} {m i : Nat} {r : Option FieldType} (h : ws[i]? = some (.code y b m r)) (h2 : (ws.take i).all (fun d => match d with | .code z _ _ _ => !decide (z = y) | _ => true) = true) : rCode ws y = some (b, m, r) := by
  have e : ws = ws.take i ++ (.code y b m r :: ws.drop (i + 1)) := by
    obtain ⟨hi, hg⟩ := List.getElem?_eq_some_iff.mp h
    rw [← hg, ← List.drop_eq_getElem_cons hi, List.take_append_drop]
  unfold rCode
  rw [e, List.findSome?_append]
  have e1 : (ws.take i).findSome? (fun d => match d with | .code z b m r => if z = y then some (b, m, r) else none | _ => none) = none := by
    rw [List.findSome?_eq_none_iff]
    intro d hd
    have q := List.all_eq_true.mp h2 d hd
    split
    · rename_i z b' m' r'
      simp at q
      simp [q]
    · rfl
  rw [e1]
  simp
theorem cR_of {ws : Ws} {dn : Dn} {y y' : MethodName} {b : ByteArray} {mx i f' l' f l na sl : Nat} {r : Option FieldType} {sig : MethodDescriptor} (h1 : rMth ws y.cls i = some y') (h2 : rCode ws y' = some (b, mx, r)) (h3 : dnOf dn y' = some (f', l')) (h4 : dnOf dn y = some (f, l)) (h5 : parseMethodDescriptor y'.desc = some sig)
    (h6 : decide (hasInit ws y'.cls = true ∧ Jvm.plainName y'.cls = true ∧ y'.cls ≠ "java/lang/invoke/MethodHandle" ∧ y'.cls ≠ "java/lang/invoke/VarHandle" ∧ f' + 1 ≤ f ∧ mx + 11 + l' ≤ l) = true) (h7 : sig.parameters.length = na) (h8 : l - (mx + 11 + l') = sl) : cR ws dn y i = some (y', b, mx, r, na, sl) := by
  subst h7 h8
  unfold cR
  rw [h1]; dsimp only
  rw [h2, h3, h4, h5]; dsimp only
  rw [if_pos (of_decide_eq_true h6)]
theorem sR_of {ws : Ws} {dn : Dn} {y : MethodName} {i : Nat} {q : MethodName × ByteArray × Nat × Option FieldType × Nat × Nat} (h : cR ws dn y i = some q) (hs : hasStat ws q.1 = true) : sR ws dn y i = some q := by
  unfold sR; rw [h]; dsimp only; rw [if_pos hs]
theorem nR_of {ws : Ws} {dn : Dn} {y : MethodName} {i : Nat} {q : MethodName × ByteArray × Nat × Option FieldType × Nat × Nat} (h : cR ws dn y i = some q) (h1 : q.1.name = "<init>") (h2 : hasIM ws q.1 = true) (h3 : q.2.2.2.1 = none) : nR ws dn y i = some q := by
  unfold nR; rw [h]; dsimp only; rw [if_pos ⟨h1, h2, h3⟩]
theorem vR_of {ws : Ws} {dn : Dn} {y : MethodName} {i : Nat} {q : MethodName × ByteArray × Nat × Option FieldType × Nat × Nat} (h : cR ws dn y i = some q) (h1 : hasIM ws q.1 = true) (h2 : decide (hasPriv ws q.1 = true ∧ (rInst ws q.1.cls).isSome = true) = false) (h3 : decide (hasDecl ws q.1 = true ∧ hasSel ws q.1 = true) = true) : vR ws dn y i = some (false, q) := by
  unfold vR; rw [h]; dsimp only; rw [if_pos h1, if_neg (of_decide_eq_false h2), if_pos (of_decide_eq_true h3)]
theorem pR_of {ws : Ws} {dn : Dn} {y : MethodName} {i : Nat} {q : MethodName × ByteArray × Nat × Option FieldType × Nat × Nat} (h : cR ws dn y i = some q) (h1 : hasIM ws q.1 = true) (h2 : decide (hasPriv ws q.1 = true ∧ (rInst ws q.1.cls).isSome = true) = true) : vR ws dn y i = some (true, q) := by
  unfold vR; rw [h]; dsimp only; rw [if_pos h1, if_pos (of_decide_eq_true h2)]
def inB {α : Type} (j : Int32) (l : List α) : Prop := ¬ j < 0 ∧ j.toNatClampNeg < l.length
def getA (l : List Int32) (j : Int32) : Int32 := l.getD j.toNatClampNeg 0
def getL (l : List Int64) (j : Int32) : Int64 := l.getD j.toNatClampNeg 0
def setA {α : Type} (l : List α) (j : Int32) (v : α) : List α := l.set j.toNatClampNeg v
def c1 : Slot → Bool
  | .unset => true
  | .second => false
  | .val v => v.category == 1
theorem c1_u : c1 .unset = true := rfl
theorem c1_i (x : Int32) : c1 (.val (.int x)) = true := rfl
theorem c1_r (a : Nat) : c1 (.val (.ref a)) = true := rfl
theorem c1_n : c1 (.val .null) = true := rfl
theorem i_eq (x y : Int32) : if_icmp.holds .eq x y = decide (x = y) := by simp only [if_icmp.holds]; by_cases h : x = y <;> simp [h]
theorem i_ne (x y : Int32) : if_icmp.holds .ne x y = !decide (x = y) := by simp only [if_icmp.holds]; by_cases h : x = y <;> simp [h]
theorem i_lt (x y : Int32) : if_icmp.holds .lt x y = decide (x < y) := rfl
theorem i_gt (x y : Int32) : if_icmp.holds .gt x y = decide (y < x) := rfl
theorem i_ge (x y : Int32) : if_icmp.holds .ge x y = !decide (x < y) := by
  show decide (y ≤ x) = _
  have e1 : (y ≤ x) ↔ ¬ (x < y) := by rw [Int32.le_iff_toInt_le, Int32.lt_iff_toInt_lt]; omega
  by_cases h : x < y
  · have : ¬ y ≤ x := fun g => e1.mp g h
    simp [h, this]
  · have := e1.mpr h
    simp [h, this]
theorem i_le (x y : Int32) : if_icmp.holds .le x y = !decide (y < x) := i_ge y x
theorem z_eq (x : Int32) : ifCond.holds .eq x = decide (x = 0) := i_eq x 0
theorem z_ne (x : Int32) : ifCond.holds .ne x = !decide (x = 0) := i_ne x 0
theorem z_lt (x : Int32) : ifCond.holds .lt x = decide (x < 0) := rfl
theorem z_gt (x : Int32) : ifCond.holds .gt x = decide (0 < x) := rfl
theorem z_ge (x : Int32) : ifCond.holds .ge x = !decide (x < 0) := i_ge x 0
theorem z_le (x : Int32) : ifCond.holds .le x = !decide (0 < x) := i_le x 0
theorem nb0 : nar .boolean 0 = 0 := by decide
theorem nb1 : nar .boolean 1 = 1 := by decide
section
variable {ws : Ws} {dn : Dn} {k : Nat} {y : MethodName} {bytes : ByteArray} {ret : Option FieldType} {pc : Nat} {ls : List Slot} {st : List Value} {H : AHeap} {Q : Option Value → AHeap → Prop}
theorem W_stuck (h : act ws dn k y bytes ret pc ls st H = none) : W ws dn k y bytes ret pc ls st H Q = False := by
  refine propext ⟨fun ⟨n, v, H1, h1, h2⟩ => ?_, False.elim⟩
  cases n with
  | zero => cases h1
  | succ n => rw [run, h] at h1; cases h1
theorem stl_c1 {i : Nat} {o : Slot} {v : Value} (ho : ls[i]? = some o) (hc : c1 o = true) (hv : v.category = 1) : stl ls i v = some (ls.set i (.val v)) := by
  have h := XS.store1 (l := ls.toArray) (i := i) (v := v) (o := o) (by simpa using ho) (by
    cases o with
    | unset => exact Or.inl rfl
    | second => cases hc
    | val w => exact Or.inr ⟨w, rfl, by simpa [c1] using hc⟩) hv
  unfold stl
  rw [h]; simp
/-- a store of one word -/
theorem w_st {ins : Instr} {len i : Nat} {o : Slot} {v : Value} {p : Value → Bool} {nx : Nat} {ls' : List Slot} (hd : decode bytes pc = .ok (ins, len)) (hx : xstep ins len pc ls (v :: st) = stV p nx i ls (v :: st)) (hp : p v = true) (hv : v.category = 1) (ho : ls[i]? = some o) (hs : ls.set i (.val v) = ls') (hc : c1 o = true) :
    W ws dn k y bytes ret pc ls (v :: st) H Q = W ws dn k y bytes ret nx ls' st H Q := by
  subst hs
  exact w_x hd (by rw [hx]; simp only [stV, hp, if_true, stl_c1 ho hc hv, Option.map_some])
theorem w_iinc {i : Nat} {c : Int} {x z : Int32} {ls' : List Slot} (hd : decode bytes pc = .ok (.iinc i c, 3)) (ho : ls[i]? = some (.val (.int x))) (hz : Int32.ofInt c = z) (hs : ls.set i (.val (.int (x + z))) = ls') :
    W ws dn k y bytes ret pc ls st H Q = W ws dn k y bytes ret (pc + 3) ls' st H Q := by
  subst hs hz
  exact w_x hd (by simp only [xstep, chk, if_true, ho, stl_c1 (v := .int (x + Int32.ofInt c)) ho rfl rfl, Option.map_some])
theorem w_con {ins : Instr} {len nx : Nat} {v v' : Value} (hd : decode bytes pc = .ok (ins, len)) (hx : xstep ins len pc ls st = some (nx, ls, v :: st)) (hv : v = v') : W ws dn k y bytes ret pc ls st H Q = W ws dn k y bytes ret nx ls (v' :: st) H Q := by
  subst hv; exact w_x hd hx
theorem w_ifN {cd : ClassFile.Cond} {o : Int} {x : Int32} {t : Nat} {P : Prop} [Decidable P] (hd : decode bytes pc = .ok (.ifCond cd o, 3)) (hp : ifCond.holds cd x = !decide P) (hj : jmp pc o = some t) :
    W ws dn k y bytes ret pc ls (.int x :: st) H Q = if P then W ws dn k y bytes ret (pc + 3) ls st H Q else W ws dn k y bytes ret t ls st H Q := by
  split
  · exact w_x hd (by simp only [xstep, chk, br, hp, hj, if_true]; simp [*])
  · exact w_x hd (by simp only [xstep, chk, br, hp, hj, if_true]; simp [*])
theorem w_icmpN {cd : ClassFile.Cond} {o : Int} {x1 x2 : Int32} {t : Nat} {P : Prop} [Decidable P] (hd : decode bytes pc = .ok (.if_icmp cd o, 3)) (hp : if_icmp.holds cd x1 x2 = !decide P) (hj : jmp pc o = some t) :
    W ws dn k y bytes ret pc ls (.int x2 :: .int x1 :: st) H Q = if P then W ws dn k y bytes ret (pc + 3) ls st H Q else W ws dn k y bytes ret t ls st H Q := by
  split
  · exact w_x hd (by simp only [xstep, chk, br, hp, hj, if_true]; simp [*])
  · exact w_x hd (by simp only [xstep, chk, br, hp, hj, if_true]; simp [*])
theorem ld_stuck {ins : Instr} {a : Nat} {j : Int32} {ty : FieldType} {vs : List Value} (hd : decode bytes pc = .ok (ins, 1)) (hi : ldOk ins ty = true) (ho : H[a]? = some (.array ty, vs)) (hj : ¬ (¬ j < 0 ∧ j.toNatClampNeg < vs.length)) : act ws dn k y bytes ret pc ls (.int j :: .ref a :: st) H = none := by
  have hv : j < 0 ∨ vs[j.toNatClampNeg]? = none := by
    by_cases q : j < 0
    · exact Or.inl q
    · exact Or.inr (List.getElem?_eq_none (Nat.le_of_not_lt fun g => hj ⟨q, g⟩))
  unfold ldOk at hi
  split at hi
  all_goals first
    | (rw [act_c hd rfl (by rcases hv with q | q <;> simp [hstep, chk, hLd, okT, okB, ho, q])]; rfl)
    | cases hi
theorem st_stuck {ins : Instr} {a : Nat} {j : Int32} {ty : FieldType} {vs : List Value} {v : Value} (hd : decode bytes pc = .ok (ins, 1)) (hi : stOk ins ty = true) (ho : H[a]? = some (.array ty, vs)) (hj : ¬ (¬ j < 0 ∧ j.toNatClampNeg < vs.length)) : act ws dn k y bytes ret pc ls (v :: .int j :: .ref a :: st) H = none := by
  have hv : ¬ (¬ j < 0 ∧ j.toNatClampNeg < vs.length) := hj
  unfold stOk at hi
  split at hi
  all_goals first
    | (rw [act_c hd rfl (by simp only [hstep, chk, hSt, okT, okB, ho, if_true]; rw [if_neg (fun q => hv q.2.2)])]; rfl)
    | cases hi
theorem w_ild {ins : Instr} {a : Nat} {j : Int32} {ty : FieldType} {l : List Int32} (hd : decode bytes pc = .ok (ins, 1)) (hi : ldOk ins ty = true) (ho : H[a]? = some (.array ty, l.map Value.int)) :
    W ws dn k y bytes ret pc ls (.int j :: .ref a :: st) H Q = (inB j l ∧ W ws dn k y bytes ret (pc + 1) ls (.int (getA l j) :: st) H Q) := by
  by_cases h : inB j l
  · rw [w_ald hd hi ho h.1 (v := .int (getA l j)) (by simp [getA, h.2])]
    simp [h]
  · rw [W_stuck (ld_stuck hd hi ho (by simpa [inB] using h))]
    simp [h]
theorem w_lld {a : Nat} {j : Int32} {l : List Int64} (hd : decode bytes pc = .ok (.laload, 1)) (ho : H[a]? = some (.array .long, l.map Value.long)) :
    W ws dn k y bytes ret pc ls (.int j :: .ref a :: st) H Q = (inB j l ∧ W ws dn k y bytes ret (pc + 1) ls (.long (getL l j) :: st) H Q) := by
  by_cases h : inB j l
  · rw [w_ald hd rfl ho h.1 (v := .long (getL l j)) (by simp [getL, h.2])]
    simp [h]
  · rw [W_stuck (ld_stuck hd rfl ho (by simpa [inB] using h))]
    simp [h]
theorem w_ist {ins : Instr} {a : Nat} {j v v' : Int32} {ty : FieldType} {l : List Int32} {H' : AHeap} (hd : decode bytes pc = .ok (ins, 1)) (hi : stOk ins ty = true) (ho : H[a]? = some (.array ty, l.map Value.int)) (hk : k ≤ a) (hv : putv ty (.int v) = some (.int v')) (hH : H.set a (.array ty, (setA l j v').map Value.int) = H') :
    W ws dn k y bytes ret pc ls (.int v :: .int j :: .ref a :: st) H Q = (inB j l ∧ W ws dn k y bytes ret (pc + 1) ls st H' Q) := by
  by_cases h : inB j l
  · rw [w_ast (H' := H') hd hi ho hk h.1 (by simpa using h.2) hv (by rw [← hH, setA, List.map_set])]
    simp [h]
  · rw [W_stuck (st_stuck hd hi ho (by simpa [inB] using h))]
    simp [h]
theorem w_lst {a : Nat} {j : Int32} {v : Int64} {l : List Int64} {H' : AHeap} (hd : decode bytes pc = .ok (.lastore, 1)) (ho : H[a]? = some (.array .long, l.map Value.long)) (hk : k ≤ a) (hH : H.set a (.array .long, (setA l j v).map Value.long) = H') :
    W ws dn k y bytes ret pc ls (.long v :: .int j :: .ref a :: st) H Q = (inB j l ∧ W ws dn k y bytes ret (pc + 1) ls st H' Q) := by
  by_cases h : inB j l
  · rw [w_ast (H' := H') hd rfl ho hk h.1 (by simpa using h.2) rfl (by rw [← hH, setA, List.map_set])]
    simp [h]
  · rw [W_stuck (st_stuck hd rfl ho (by simpa [inB] using h))]
    simp [h]
theorem w_div {ins : Instr} {f : Int32 → Int32 → Int32} {x z : Int32} (hd : decode bytes pc = .ok (ins, 1)) (hx : ∀ st, xstep ins 1 pc ls st = d2 f (pc + 1) ls st) (hh : hstep ws k y ins 1 pc (.int z :: .int x :: st) H = none) (hc : cstep ws dn y ret ins 1 pc ls (.int z :: .int x :: st) H = none) :
    W ws dn k y bytes ret pc ls (.int z :: .int x :: st) H Q = (z ≠ 0 ∧ W ws dn k y bytes ret (pc + 1) ls (.int (f x z) :: st) H Q) := by
  by_cases h : z = 0
  · rw [W_stuck (by rw [act_c hd (by rw [hx]; simp [d2, h]) hh, hc])]; simp [h]
  · rw [w_x (pc' := pc + 1) (ls' := ls) (st' := .int (f x z) :: st) hd (by rw [hx]; simp only [d2, h, if_false])]; simp [h]
/-- a field's array made in a constructor -/
theorem w_iarr {i j p1 p2 p3 : Nat} {C : String} {vs : List Value} {r : AHeap} {n : Int32} {v : Value} {aty : ArrayType} {ty at' : FieldType} {l0 : Slot} {lr : List Slot} {ins : Instr} {len : Nat} {b : Nat} (hl : l0 = .val (.ref b)) (hH : H.length = b) (hk : k ≤ b)
    (d0 : decode bytes pc = .ok (.aload_n 0, 1)) (e0 : pc + 1 = p1) (dn1 : decode bytes p1 = .ok (ins, len)) (hx : ∀ st, xstep ins len p1 (l0 :: lr) st = some (p2, l0 :: lr, v :: st)) (hv : v = .int n) (d2' : decode bytes p2 = .ok (.newarray aty, 2)) (ht : newarray.typeOf aty = ty) (hr : hasArr ws ty = true) (hn : ¬ n < 0) (hb : n.toNatClampNeg * 8 ≤ 536870912) (e3 : p2 + 2 = p3)
    (d3 : decode bytes p3 = .ok (.putfield i, 3)) (hp : pfR ws y.cls y.name i = some (C, j, .array at')) (hj : j < vs.length) :
    W ws dn k y bytes ret pc (l0 :: lr) [] (H ++ (.object C, vs) :: r) Q = W ws dn k y bytes ret (p3 + 3) (l0 :: lr) [] (H ++ (.object C, vs.set j (.ref (b + (r.length + 1)))) :: (r ++ [(.array ty, List.replicate n.toNatClampNeg (defaultValue ty))])) Q := by
  subst hl e0 e3 hv hH
  rw [w_x d0 (ls' := .val (.ref H.length) :: lr) (st' := [.ref H.length]) (pc' := pc + 1) rfl, w_x dn1 (hx _), w_newA d2' ht hr hn hb]
  have e1 : (H ++ (FieldType.object C, vs) :: r).length = H.length + (r.length + 1) := by simp
  rw [e1, w_put d3 hp (vs := vs) (H' := H ++ (.object C, vs.set j (.ref (H.length + (r.length + 1)))) :: (r ++ [(.array ty, List.replicate n.toNatClampNeg (defaultValue ty))])) (by simp) hk hj rfl (by simp)]
/-- a field's plain value put at a constructor's head -/
theorem w_iint {i j p1 p2 : Nat} {C : String} {vs : List Value} {r : AHeap} {v v0 v' : Value} {ty : FieldType} {l0 : Slot} {lr : List Slot} {ins : Instr} {len : Nat} {b : Nat} (hl : l0 = .val (.ref b)) (hH : H.length = b) (hk : k ≤ b)
    (d0 : decode bytes pc = .ok (.aload_n 0, 1)) (e0 : pc + 1 = p1) (dn1 : decode bytes p1 = .ok (ins, len)) (hx : ∀ st, xstep ins len p1 (l0 :: lr) st = some (p2, l0 :: lr, v0 :: st)) (hv : v0 = v)
    (d3 : decode bytes p2 = .ok (.putfield i, 3)) (hp : pfR ws y.cls y.name i = some (C, j, ty)) (hv' : putv ty v = some v') (hj : j < vs.length) :
    W ws dn k y bytes ret pc (l0 :: lr) [] (H ++ (.object C, vs) :: r) Q = W ws dn k y bytes ret (p2 + 3) (l0 :: lr) [] (H ++ (.object C, vs.set j v') :: r) Q := by
  subst hl e0 hv hH
  rw [w_x d0 (ls' := .val (.ref H.length) :: lr) (st' := [.ref H.length]) (pc' := pc + 1) rfl, w_x dn1 (hx _)]
  rw [w_put d3 hp (vs := vs) (H' := H ++ (.object C, vs.set j v') :: r) (by simp) hk hj hv' (by simp)]
end
end Jvm.Own
namespace Jvm.Own
open Sem ClassFile Op Lib Jvm.Stand Jvm.Free Jvm.LawKit Jvm.RoadKit
theorem getA_rep (n : Nat) (j : Int32) : getA (List.replicate n 0) j = 0 := by
  simp only [getA, List.getD_eq_getElem?_getD, List.getElem?_replicate]
  split <;> rfl
/-- the array's words as plain ints -/
theorem script_of {s : State} {a : Addr} {c : Cell} (hf : Fit s) (A : Arr s s.heap a c .int) (hl : c.slots.size < 2 ^ 31) : ∃ vs : List Int32, c.slots = (vs.map Value.int).toArray := by
  have h : ∀ v ∈ c.slots.toList, ∃ x : Int32, v = .int x := fun v hv => by
    obtain ⟨i, hi, e⟩ := List.getElem_of_mem hv
    have hi' : i < c.slots.size := by simpa using hi
    have e1 : (Nat.toInt32 i).toNatClampNeg = i := by simp only [Int32.toNatClampNeg, len_toInt (Nat.lt_trans hi' hl)]; rfl
    obtain ⟨w, h1, h2⟩ := elem_fit hf A (idx_in hi' hl)
    rw [e1] at h1
    have : w = v := by rw [Array.getElem?_eq_getElem hi'] at h1; rw [← e]; simpa using (Option.some.inj h1).symm
    subst this
    exact fit_I h2 (by simp)
  have g : ∀ l : List Value, (∀ v ∈ l, ∃ x : Int32, v = .int x) → ∃ vs : List Int32, l = vs.map Value.int := fun l => by
    induction l with
    | nil => exact fun _ => ⟨[], rfl⟩
    | cons v r ih =>
      intro q
      obtain ⟨x, rfl⟩ := q _ (List.mem_cons_self ..)
      obtain ⟨vs, e⟩ := ih fun w hw => q w (List.mem_cons_of_mem _ hw)
      exact ⟨x :: vs, by rw [e]; rfl⟩
  obtain ⟨vs, e⟩ := g _ h
  exact ⟨vs, by rw [← e]⟩
end Jvm.Own
namespace Jvm.Own
open Sem ClassFile Op Lib Jvm.Stand Jvm.Free Jvm.LawKit Jvm.RoadKit
/-! OWN 8: small facts on arrays and ints -/
theorem toNat_eq (j : Int32) : j.toNatClampNeg = j.toInt.toNat := rfl
theorem lt_i {x y : Int32} : x < y ↔ x.toInt < y.toInt := Int32.lt_iff_toInt_lt
theorem inB_iff {α : Type} {j : Int32} {l : List α} : inB j l ↔ 0 ≤ j.toInt ∧ j.toInt < (l.length : Int) := by
  have e0 : (0 : Int32).toInt = 0 := rfl
  unfold inB
  rw [lt_i, toNat_eq, e0]
  omega
theorem inB_lt {α : Type} {j n : Int32} {l : List α} (hl : (l.length : Int) = n.toInt) (h0 : ¬ j < 0) (h1 : j < n) : inB j l := by
  have e0 : (0 : Int32).toInt = 0 := rfl
  rw [inB_iff]
  rw [lt_i] at h0 h1
  rw [e0] at h0
  omega
theorem setA_len {α : Type} (l : List α) (j : Int32) (v : α) : (setA l j v).length = l.length := List.length_set
theorem getA_set {l : List Int32} {i j v : Int32} (h : inB i l) : getA (setA l i v) j = if j.toNatClampNeg = i.toNatClampNeg then v else getA l j := by
  simp only [getA, setA, List.getD_eq_getElem?_getD, List.getElem?_set]
  by_cases e : j.toNatClampNeg = i.toNatClampNeg
  · rw [e]; simp [h.2]
  · simp [e, Ne.symm e]
theorem getA_set2 (l : List Int32) (i j v : Int32) : getA (setA l i v) j = if j.toNatClampNeg = i.toNatClampNeg ∧ i.toNatClampNeg < l.length then v else getA l j := by
  simp only [getA, setA, List.getD_eq_getElem?_getD, List.getElem?_set]
  by_cases e : j.toNatClampNeg = i.toNatClampNeg
  · rw [e]
    by_cases q : i.toNatClampNeg < l.length <;> simp [q]
  · simp [e, Ne.symm e]
theorem len_ou {B A : Nat → List Int32} {j : Nat} {l : List Int32} (h : ∀ i, (A i).length = (B i).length) (hl : l.length = (B j).length) : ∀ i, (ou A j l i).length = (B i).length := fun i => by
  rw [ou_a]
  split
  · rename_i e; rw [e]; exact hl
  · exact h i
end Jvm.Own
namespace Jvm.Own
open Sem ClassFile Op Lib Jvm.Stand Jvm.Free Jvm.LawKit Jvm.RoadKit
/-! OWN 9: a normal form of states; masks and ranges -/
theorem ou_same {α : Type} (s : Nat → α) (i : Nat) (v w : α) : ou (ou s i v) i w = ou s i w := by
  funext j
  simp only [ou_a]
  by_cases h : j = i <;> simp [h]
theorem ou_comm {α : Type} {s : Nat → α} {i j : Nat} {v w : α} (h : j < i) : ou (ou s i v) j w = ou (ou s j w) (i + 0) v := by
  show ou (ou s i v) j w = ou (ou s j w) i v
  funext k
  simp only [ou_a]
  by_cases h1 : k = j
  · have h2 : ¬ k = i := by omega
    simp [h1]
    intro h3; omega
  · simp [h1]
theorem setA_same {α : Type} (l : List α) (i : Int32) (v w : α) : setA (setA l i v) i w = setA l i w := by
  simp only [setA, List.set_set]
theorem clamp_ne {i j : Int32} (h0 : ¬ j < 0) (h : j < i) : j.toNatClampNeg ≠ i.toNatClampNeg := by
  have e0 : (0 : Int32).toInt = 0 := rfl
  rw [lt_i] at *
  rw [toNat_eq, toNat_eq]
  omega
theorem setA_comm {α : Type} {l : List α} {i j : Int32} {v w : α} (h0 : ¬ j < 0) (h : j < i) : setA (setA l i v) j w = setA (setA l j w) (i + 0) v := by
  rw [Int32.add_zero]
  simp only [setA]
  exact List.set_comm _ _ (Ne.symm (clamp_ne h0 h))
theorem lt_irr (x : Int32) : (x < x) = False := by
  apply propext
  rw [lt_i]
  constructor
  · intro h; omega
  · exact False.elim
theorem bit1 (x : Int32) : x &&& 1 = 0 ∨ x &&& 1 = 1 := by
  have h : (x &&& 1).toBitVec.toNat = x.toBitVec.toNat % 2 := by
    rw [Int32.toBitVec_and, BitVec.toNat_and]
    exact Nat.and_one_is_mod _
  rcases Nat.mod_two_eq_zero_or_one x.toBitVec.toNat with e | e
  · exact Or.inl (Int32.toBitVec_inj.mp (BitVec.eq_of_toNat_eq (by rw [h, e]; rfl)))
  · exact Or.inr (Int32.toBitVec_inj.mp (BitVec.eq_of_toNat_eq (by rw [h, e]; rfl)))
theorem and_bd (x m : Int32) (hm : m.toBitVec.toNat < 2147483648) : 0 ≤ (x &&& m).toInt ∧ (x &&& m).toInt ≤ (m.toBitVec.toNat : Int) := by
  have h : (x &&& m).toBitVec.toNat ≤ m.toBitVec.toNat := by
    rw [Int32.toBitVec_and, BitVec.toNat_and]
    exact Nat.and_le_right
  have e : (x &&& m).toInt = ((x &&& m).toBitVec.toNat : Int) := BitVec.toInt_eq_toNat_of_lt (by omega)
  rw [e]
  omega
theorem rng {x : Int32} {n : Nat} (h0 : 0 ≤ x.toInt) (h1 : x.toInt < n) : ∃ k, k < n ∧ x = Int32.ofNat k := by
  have e : (x.toInt.toNat : Int) = x.toInt := Int.toNat_of_nonneg h0
  refine ⟨x.toInt.toNat, by omega, ?_⟩
  have e2 : Int32.ofNat x.toInt.toNat = Int32.ofInt (x.toInt.toNat : Int) := rfl
  rw [e2, e, Int32.ofInt_toInt]
theorem getL_rep (n : Nat) (j : Int32) : getL (List.replicate n 0) j = 0 := by
  simp only [getL, List.getD_eq_getElem?_getD, List.getElem?_replicate]
  split <;> rfl
theorem getL_set2 (l : List Int64) (i j : Int32) (v : Int64) : getL (setA l i v) j = if j.toNatClampNeg = i.toNatClampNeg ∧ i.toNatClampNeg < l.length then v else getL l j := by
  simp only [getL, setA, List.getD_eq_getElem?_getD, List.getElem?_set]
  by_cases e : j.toNatClampNeg = i.toNatClampNeg
  · rw [e]
    by_cases q : i.toNatClampNeg < l.length <;> simp [q]
  · simp [e, Ne.symm e]
theorem add_i {a b : Int32} (h : -2147483648 ≤ a.toInt + b.toInt) (h' : a.toInt + b.toInt < 2147483648) : (a + b).toInt = a.toInt + b.toInt := by
  rw [Int32.toInt_add]
  have e : ((2 ^ 32 : Nat) : Int) = 4294967296 := rfl
  exact Int.bmod_eq_of_le (by rw [e]; omega) (by rw [e]; omega)
theorem sub_i {a b : Int32} (h : -2147483648 ≤ a.toInt - b.toInt) (h' : a.toInt - b.toInt < 2147483648) : (a - b).toInt = a.toInt - b.toInt := by
  rw [Int32.toInt_sub]
  have e : ((2 ^ 32 : Nat) : Int) = 4294967296 := rfl
  exact Int.bmod_eq_of_le (by rw [e]; omega) (by rw [e]; omega)
theorem mul_i {a b : Int32} (h : -2147483648 ≤ a.toInt * b.toInt) (h' : a.toInt * b.toInt < 2147483648) : (a * b).toInt = a.toInt * b.toInt := by
  rw [Int32.toInt_mul]
  have e : ((2 ^ 32 : Nat) : Int) = 4294967296 := rfl
  exact Int.bmod_eq_of_le (by rw [e]; omega) (by rw [e]; omega)
theorem i_0 : (0 : Int32).toInt = 0 := rfl
theorem i_1 : (1 : Int32).toInt = 1 := rfl
theorem add1_i {a : Int32} (h : a.toInt < 2147483647) : (a + 1).toInt = a.toInt + 1 := by
  have := Int32.le_toInt a
  exact add_i (by rw [i_1]; omega) (by rw [i_1]; omega)
theorem nn_i {a : Int32} : ¬ a < 0 ↔ 0 ≤ a.toInt := by rw [lt_i, i_0]; omega
theorem succ_nn {a : Int32} (h0 : ¬ a < 0) (h : a.toInt < 2147483647) : ¬ a + 1 < 0 := by
  rw [nn_i] at *
  rw [add1_i h]
  omega
theorem inB_set {α : Type} {l : List α} {i j : Int32} {v : α} : inB j (setA l i v) = inB j l := by
  simp only [inB, setA_len]
theorem pad_1 (c : FieldType × List Value) : pad 1 [c] = [c] := rfl
def okS (l : Slot) : Prop := l = .unset ∨ ∃ z : Int32, l = .val (.int z)
theorem okS_u : okS .unset := Or.inl rfl
theorem okS_i (z : Int32) : okS (.val (.int z)) := Or.inr ⟨z, rfl⟩
end Jvm.Own
namespace Jvm.Pilot.@@N@@
open Jvm Jvm.ClassFile Sem Op Lib Jvm.Free Jvm.Stand Jvm.LawKit Jvm.RoadKit Bundle Jvm.Own Jvm.Pilot.@@N@@.Jvm.D
/-- frames and words that each method asks -/
def dn : Dn := [(⟨"StreamSigScanner", "<init>", "(I)V"⟩, 1, 12), (⟨"StreamSigScanner", "endSig", "()I"⟩, 0, 0), (⟨"StreamSigScanner", "stat", "(I)I"⟩, 1, 13), (⟨"StreamSigScanner", "flag", "(Z)I"⟩, 0, 0), (⟨"StreamSigScanner", "addSigByte", "(I)I"⟩, 1, 13), (⟨"StreamSigScanner", "isByte", "(I)Z"⟩, 0, 0), (⟨"StreamSigScanner", "compile", "()I"⟩, 2, 32), (⟨"StreamSigScanner", "sigLength", "(I)I"⟩, 1, 13), (⟨"StreamSigScanner", "validSig", "(I)Z"⟩, 0, 0), (⟨"StreamSigScanner", "buildTrie", "()V"⟩, 1, 19), (⟨"StreamSigScanner", "clearAutomaton", "()V"⟩, 0, 0), (⟨"StreamSigScanner", "insertSig", "(I)V"⟩, 0, 0), (⟨"StreamSigScanner", "buildAutomaton", "()V"⟩, 0, 0), (⟨"StreamSigScanner", "openSegment", "(I)I"⟩, 1, 13), (⟨"StreamSigScanner", "segByte", "(I)I"⟩, 1, 13), (⟨"StreamSigScanner", "closeSegment", "()I"⟩, 3, 47), (⟨"StreamSigScanner", "isOffset", "(I)Z"⟩, 0, 0), (⟨"StreamSigScanner", "advanceDelivered", "()V"⟩, 2, 32), (⟨"StreamSigScanner", "absorbByte", "(III)V"⟩, 1, 13), (⟨"StreamSigScanner", "feed", "(II)V"⟩, 1, 14), (⟨"StreamSigScanner", "recordMatch", "(II)V"⟩, 0, 0), (⟨"StreamSigScannerL6", "law", "([I)Z"⟩, 4, 61)]
/- scalars: 0=window 1=compiled 2=sigCount 3=endedBytes 4=pendLen 5=nodeCount 6=scanState 7=delivered 8=held 9=conflicts 10=duplicates 11=dropped 12=lastConflict 13=segOpen 14=segStart 15=segLen 16=matchTotal; arrays: 0=sigBytes@1 1=sigStart@2 2=sigLen@3 3=delta@4 4=fail@5 5=outMask@6 6=queue@7 7=present@8 8=stream@9 9=segBuf@10 10=matchSigs@11 11=matchEnds@12; longs: []; long arrays: [] -/
def objv (b : Nat) (s : Nat → Int32) : List Value := [.ref (b + 1), .ref (b + 2), .ref (b + 3), .ref (b + 4), .ref (b + 5), .ref (b + 6), .ref (b + 7), .ref (b + 8), .ref (b + 9), .ref (b + 10), .ref (b + 11), .ref (b + 12), .int (s 0), .int (s 1), .int (s 2), .int (s 3), .int (s 4), .int (s 5), .int (s 6), .int (s 7), .int (s 8), .int (s 9), .int (s 10), .int (s 11), .int (s 12), .int (s 13), .int (s 14), .int (s 15), .int (s 16)]
def put (b : Nat) (pre : AHeap) (s : Nat → Int32) (A : Nat → List Int32) (post : AHeap) : AHeap := pad b pre ++ ((.object "StreamSigScanner", objv b s) :: (.array .int, (A 0).map Value.int) :: (.array .int, (A 1).map Value.int) :: (.array .int, (A 2).map Value.int) :: (.array .int, (A 3).map Value.int) :: (.array .int, (A 4).map Value.int) :: (.array .int, (A 5).map Value.int) :: (.array .int, (A 6).map Value.int) :: (.array .boolean, (A 7).map Value.int) :: (.array .int, (A 8).map Value.int) :: (.array .int, (A 9).map Value.int) :: (.array .int, (A 10).map Value.int) :: (.array .int, (A 11).map Value.int) :: post)
theorem put_o {b : Nat} {pre : AHeap} {s : Nat → Int32} {A : Nat → List Int32} {post : AHeap} : (put b pre s A post)[b]? = some (.object "StreamSigScanner", objv b s) := pad_get0 _ _ _
theorem put_a0 {b : Nat} {pre : AHeap} {s : Nat → Int32} {A : Nat → List Int32} {post : AHeap} : (put b pre s A post)[b + 1]? = some (.array .int, (A 0).map Value.int) := pad_get _ _ _ 1
theorem put_w0 {b : Nat} {pre : AHeap} {s : Nat → Int32} {A : Nat → List Int32} {post : AHeap} {l : List Int32} : (put b pre s A post).set (b + 1) (.array .int, l.map Value.int) = put b pre s (ou A 0 l) post := pad_set _ _ _ 1 _
theorem put_a1 {b : Nat} {pre : AHeap} {s : Nat → Int32} {A : Nat → List Int32} {post : AHeap} : (put b pre s A post)[b + 2]? = some (.array .int, (A 1).map Value.int) := pad_get _ _ _ 2
theorem put_w1 {b : Nat} {pre : AHeap} {s : Nat → Int32} {A : Nat → List Int32} {post : AHeap} {l : List Int32} : (put b pre s A post).set (b + 2) (.array .int, l.map Value.int) = put b pre s (ou A 1 l) post := pad_set _ _ _ 2 _
theorem put_a2 {b : Nat} {pre : AHeap} {s : Nat → Int32} {A : Nat → List Int32} {post : AHeap} : (put b pre s A post)[b + 3]? = some (.array .int, (A 2).map Value.int) := pad_get _ _ _ 3
theorem put_w2 {b : Nat} {pre : AHeap} {s : Nat → Int32} {A : Nat → List Int32} {post : AHeap} {l : List Int32} : (put b pre s A post).set (b + 3) (.array .int, l.map Value.int) = put b pre s (ou A 2 l) post := pad_set _ _ _ 3 _
theorem put_a3 {b : Nat} {pre : AHeap} {s : Nat → Int32} {A : Nat → List Int32} {post : AHeap} : (put b pre s A post)[b + 4]? = some (.array .int, (A 3).map Value.int) := pad_get _ _ _ 4
theorem put_w3 {b : Nat} {pre : AHeap} {s : Nat → Int32} {A : Nat → List Int32} {post : AHeap} {l : List Int32} : (put b pre s A post).set (b + 4) (.array .int, l.map Value.int) = put b pre s (ou A 3 l) post := pad_set _ _ _ 4 _
theorem put_a4 {b : Nat} {pre : AHeap} {s : Nat → Int32} {A : Nat → List Int32} {post : AHeap} : (put b pre s A post)[b + 5]? = some (.array .int, (A 4).map Value.int) := pad_get _ _ _ 5
theorem put_w4 {b : Nat} {pre : AHeap} {s : Nat → Int32} {A : Nat → List Int32} {post : AHeap} {l : List Int32} : (put b pre s A post).set (b + 5) (.array .int, l.map Value.int) = put b pre s (ou A 4 l) post := pad_set _ _ _ 5 _
theorem put_a5 {b : Nat} {pre : AHeap} {s : Nat → Int32} {A : Nat → List Int32} {post : AHeap} : (put b pre s A post)[b + 6]? = some (.array .int, (A 5).map Value.int) := pad_get _ _ _ 6
theorem put_w5 {b : Nat} {pre : AHeap} {s : Nat → Int32} {A : Nat → List Int32} {post : AHeap} {l : List Int32} : (put b pre s A post).set (b + 6) (.array .int, l.map Value.int) = put b pre s (ou A 5 l) post := pad_set _ _ _ 6 _
theorem put_a6 {b : Nat} {pre : AHeap} {s : Nat → Int32} {A : Nat → List Int32} {post : AHeap} : (put b pre s A post)[b + 7]? = some (.array .int, (A 6).map Value.int) := pad_get _ _ _ 7
theorem put_w6 {b : Nat} {pre : AHeap} {s : Nat → Int32} {A : Nat → List Int32} {post : AHeap} {l : List Int32} : (put b pre s A post).set (b + 7) (.array .int, l.map Value.int) = put b pre s (ou A 6 l) post := pad_set _ _ _ 7 _
theorem put_a7 {b : Nat} {pre : AHeap} {s : Nat → Int32} {A : Nat → List Int32} {post : AHeap} : (put b pre s A post)[b + 8]? = some (.array .boolean, (A 7).map Value.int) := pad_get _ _ _ 8
theorem put_w7 {b : Nat} {pre : AHeap} {s : Nat → Int32} {A : Nat → List Int32} {post : AHeap} {l : List Int32} : (put b pre s A post).set (b + 8) (.array .boolean, l.map Value.int) = put b pre s (ou A 7 l) post := pad_set _ _ _ 8 _
theorem put_a8 {b : Nat} {pre : AHeap} {s : Nat → Int32} {A : Nat → List Int32} {post : AHeap} : (put b pre s A post)[b + 9]? = some (.array .int, (A 8).map Value.int) := pad_get _ _ _ 9
theorem put_w8 {b : Nat} {pre : AHeap} {s : Nat → Int32} {A : Nat → List Int32} {post : AHeap} {l : List Int32} : (put b pre s A post).set (b + 9) (.array .int, l.map Value.int) = put b pre s (ou A 8 l) post := pad_set _ _ _ 9 _
theorem put_a9 {b : Nat} {pre : AHeap} {s : Nat → Int32} {A : Nat → List Int32} {post : AHeap} : (put b pre s A post)[b + 10]? = some (.array .int, (A 9).map Value.int) := pad_get _ _ _ 10
theorem put_w9 {b : Nat} {pre : AHeap} {s : Nat → Int32} {A : Nat → List Int32} {post : AHeap} {l : List Int32} : (put b pre s A post).set (b + 10) (.array .int, l.map Value.int) = put b pre s (ou A 9 l) post := pad_set _ _ _ 10 _
theorem put_a10 {b : Nat} {pre : AHeap} {s : Nat → Int32} {A : Nat → List Int32} {post : AHeap} : (put b pre s A post)[b + 11]? = some (.array .int, (A 10).map Value.int) := pad_get _ _ _ 11
theorem put_w10 {b : Nat} {pre : AHeap} {s : Nat → Int32} {A : Nat → List Int32} {post : AHeap} {l : List Int32} : (put b pre s A post).set (b + 11) (.array .int, l.map Value.int) = put b pre s (ou A 10 l) post := pad_set _ _ _ 11 _
theorem put_a11 {b : Nat} {pre : AHeap} {s : Nat → Int32} {A : Nat → List Int32} {post : AHeap} : (put b pre s A post)[b + 12]? = some (.array .int, (A 11).map Value.int) := pad_get _ _ _ 12
theorem put_w11 {b : Nat} {pre : AHeap} {s : Nat → Int32} {A : Nat → List Int32} {post : AHeap} {l : List Int32} : (put b pre s A post).set (b + 12) (.array .int, l.map Value.int) = put b pre s (ou A 11 l) post := pad_set _ _ _ 12 _
theorem put_s0 {b : Nat} {pre : AHeap} {s : Nat → Int32} {A : Nat → List Int32} {post : AHeap} {v : Int32} : (put b pre s A post).set b (.object "StreamSigScanner", (objv b s).set 12 (.int v)) = put b pre (ou s 0 v) A post := pad_set0 _ _ _ _
theorem put_s1 {b : Nat} {pre : AHeap} {s : Nat → Int32} {A : Nat → List Int32} {post : AHeap} {v : Int32} : (put b pre s A post).set b (.object "StreamSigScanner", (objv b s).set 13 (.int v)) = put b pre (ou s 1 v) A post := pad_set0 _ _ _ _
theorem put_s2 {b : Nat} {pre : AHeap} {s : Nat → Int32} {A : Nat → List Int32} {post : AHeap} {v : Int32} : (put b pre s A post).set b (.object "StreamSigScanner", (objv b s).set 14 (.int v)) = put b pre (ou s 2 v) A post := pad_set0 _ _ _ _
theorem put_s3 {b : Nat} {pre : AHeap} {s : Nat → Int32} {A : Nat → List Int32} {post : AHeap} {v : Int32} : (put b pre s A post).set b (.object "StreamSigScanner", (objv b s).set 15 (.int v)) = put b pre (ou s 3 v) A post := pad_set0 _ _ _ _
theorem put_s4 {b : Nat} {pre : AHeap} {s : Nat → Int32} {A : Nat → List Int32} {post : AHeap} {v : Int32} : (put b pre s A post).set b (.object "StreamSigScanner", (objv b s).set 16 (.int v)) = put b pre (ou s 4 v) A post := pad_set0 _ _ _ _
theorem put_s5 {b : Nat} {pre : AHeap} {s : Nat → Int32} {A : Nat → List Int32} {post : AHeap} {v : Int32} : (put b pre s A post).set b (.object "StreamSigScanner", (objv b s).set 17 (.int v)) = put b pre (ou s 5 v) A post := pad_set0 _ _ _ _
theorem put_s6 {b : Nat} {pre : AHeap} {s : Nat → Int32} {A : Nat → List Int32} {post : AHeap} {v : Int32} : (put b pre s A post).set b (.object "StreamSigScanner", (objv b s).set 18 (.int v)) = put b pre (ou s 6 v) A post := pad_set0 _ _ _ _
theorem put_s7 {b : Nat} {pre : AHeap} {s : Nat → Int32} {A : Nat → List Int32} {post : AHeap} {v : Int32} : (put b pre s A post).set b (.object "StreamSigScanner", (objv b s).set 19 (.int v)) = put b pre (ou s 7 v) A post := pad_set0 _ _ _ _
theorem put_s8 {b : Nat} {pre : AHeap} {s : Nat → Int32} {A : Nat → List Int32} {post : AHeap} {v : Int32} : (put b pre s A post).set b (.object "StreamSigScanner", (objv b s).set 20 (.int v)) = put b pre (ou s 8 v) A post := pad_set0 _ _ _ _
theorem put_s9 {b : Nat} {pre : AHeap} {s : Nat → Int32} {A : Nat → List Int32} {post : AHeap} {v : Int32} : (put b pre s A post).set b (.object "StreamSigScanner", (objv b s).set 21 (.int v)) = put b pre (ou s 9 v) A post := pad_set0 _ _ _ _
theorem put_s10 {b : Nat} {pre : AHeap} {s : Nat → Int32} {A : Nat → List Int32} {post : AHeap} {v : Int32} : (put b pre s A post).set b (.object "StreamSigScanner", (objv b s).set 22 (.int v)) = put b pre (ou s 10 v) A post := pad_set0 _ _ _ _
theorem put_s11 {b : Nat} {pre : AHeap} {s : Nat → Int32} {A : Nat → List Int32} {post : AHeap} {v : Int32} : (put b pre s A post).set b (.object "StreamSigScanner", (objv b s).set 23 (.int v)) = put b pre (ou s 11 v) A post := pad_set0 _ _ _ _
theorem put_s12 {b : Nat} {pre : AHeap} {s : Nat → Int32} {A : Nat → List Int32} {post : AHeap} {v : Int32} : (put b pre s A post).set b (.object "StreamSigScanner", (objv b s).set 24 (.int v)) = put b pre (ou s 12 v) A post := pad_set0 _ _ _ _
theorem put_s13 {b : Nat} {pre : AHeap} {s : Nat → Int32} {A : Nat → List Int32} {post : AHeap} {v : Int32} : (put b pre s A post).set b (.object "StreamSigScanner", (objv b s).set 25 (.int v)) = put b pre (ou s 13 v) A post := pad_set0 _ _ _ _
theorem put_s14 {b : Nat} {pre : AHeap} {s : Nat → Int32} {A : Nat → List Int32} {post : AHeap} {v : Int32} : (put b pre s A post).set b (.object "StreamSigScanner", (objv b s).set 26 (.int v)) = put b pre (ou s 14 v) A post := pad_set0 _ _ _ _
theorem put_s15 {b : Nat} {pre : AHeap} {s : Nat → Int32} {A : Nat → List Int32} {post : AHeap} {v : Int32} : (put b pre s A post).set b (.object "StreamSigScanner", (objv b s).set 27 (.int v)) = put b pre (ou s 15 v) A post := pad_set0 _ _ _ _
theorem put_s16 {b : Nat} {pre : AHeap} {s : Nat → Int32} {A : Nat → List Int32} {post : AHeap} {v : Int32} : (put b pre s A post).set b (.object "StreamSigScanner", (objv b s).set 28 (.int v)) = put b pre (ou s 16 v) A post := pad_set0 _ _ _ _
theorem put_len {b : Nat} {pre : AHeap} {s : Nat → Int32} {A : Nat → List Int32} {post : AHeap} : (put b pre s A post).length = b + 13 + post.length := by rw [put, List.length_append, pad_len]; simp only [List.length_cons]; omega
theorem inst0 : rInst tables_1 "StreamSigScanner" = some 29 := by decide +kernel
theorem put_tot {b : Nat} {pre : AHeap} {s : Nat → Int32} {A : Nat → List Int32} {post : AHeap} : tot tables_1 (put b pre s A post) = tot tables_1 (pad b pre) + (29 + ((A 0).length + ((A 1).length + ((A 2).length + ((A 3).length + ((A 4).length + ((A 5).length + ((A 6).length + ((A 7).length + ((A 8).length + ((A 9).length + ((A 10).length + ((A 11).length + tot tables_1 post))))))))))))) := by rw [put, tot_append]; simp only [tot_cons, cost, List.length_map, inst0, Option.getD_some]
def D0 : List Value := [.null, .null, .null, .null, .null, .null, .null, .null, .null, .null, .null, .null, .int 0, .int 0, .int 0, .int 0, .int 0, .int 0, .int 0, .int 0, .int 0, .int 0, .int 0, .int 0, .int 0, .int 0, .int 0, .int 0, .int 0]
theorem lay0 : (olay tables_1 "StreamSigScanner").map dflt = D0 := by decide +kernel
abbrev y0 : MethodName := ⟨"StreamSigScanner", "<init>", "(I)V"⟩
abbrev kb0 : ByteArray := prog_1_method_1_code
def M0 (pc : Nat) (ls : List Slot) (st : List Value) (H : AHeap) (Q : Option Value → AHeap → Prop) : Prop := W tables_1 dn 1 y0 prog_1_method_1_code none pc ls st H Q
abbrev y1 : MethodName := ⟨"StreamSigScanner", "endSig", "()I"⟩
abbrev kb1 : ByteArray := prog_1_method_3_code
def M1 (pc : Nat) (ls : List Slot) (st : List Value) (H : AHeap) (Q : Option Value → AHeap → Prop) : Prop := W tables_1 dn 1 y1 prog_1_method_3_code (some .int) pc ls st H Q
abbrev y2 : MethodName := ⟨"StreamSigScanner", "stat", "(I)I"⟩
abbrev kb2 : ByteArray := prog_1_method_16_code
def M2 (pc : Nat) (ls : List Slot) (st : List Value) (H : AHeap) (Q : Option Value → AHeap → Prop) : Prop := W tables_1 dn 1 y2 prog_1_method_16_code (some .int) pc ls st H Q
abbrev y3 : MethodName := ⟨"StreamSigScanner", "flag", "(Z)I"⟩
abbrev kb3 : ByteArray := prog_1_method_26_code
def M3 (pc : Nat) (ls : List Slot) (st : List Value) (H : AHeap) (Q : Option Value → AHeap → Prop) : Prop := W tables_1 dn 1 y3 prog_1_method_26_code (some .int) pc ls st H Q
abbrev y4 : MethodName := ⟨"StreamSigScanner", "addSigByte", "(I)I"⟩
abbrev kb4 : ByteArray := prog_1_method_2_code
def M4 (pc : Nat) (ls : List Slot) (st : List Value) (H : AHeap) (Q : Option Value → AHeap → Prop) : Prop := W tables_1 dn 1 y4 prog_1_method_2_code (some .int) pc ls st H Q
abbrev y5 : MethodName := ⟨"StreamSigScanner", "isByte", "(I)Z"⟩
abbrev kb5 : ByteArray := prog_1_method_22_code
def M5 (pc : Nat) (ls : List Slot) (st : List Value) (H : AHeap) (Q : Option Value → AHeap → Prop) : Prop := W tables_1 dn 1 y5 prog_1_method_22_code (some .boolean) pc ls st H Q
abbrev y6 : MethodName := ⟨"StreamSigScanner", "compile", "()I"⟩
abbrev kb6 : ByteArray := prog_1_method_4_code
def M6 (pc : Nat) (ls : List Slot) (st : List Value) (H : AHeap) (Q : Option Value → AHeap → Prop) : Prop := W tables_1 dn 1 y6 prog_1_method_4_code (some .int) pc ls st H Q
abbrev y7 : MethodName := ⟨"StreamSigScanner", "sigLength", "(I)I"⟩
abbrev kb7 : ByteArray := prog_1_method_18_code
def M7 (pc : Nat) (ls : List Slot) (st : List Value) (H : AHeap) (Q : Option Value → AHeap → Prop) : Prop := W tables_1 dn 1 y7 prog_1_method_18_code (some .int) pc ls st H Q
abbrev y8 : MethodName := ⟨"StreamSigScanner", "validSig", "(I)Z"⟩
abbrev kb8 : ByteArray := prog_1_method_24_code
def M8 (pc : Nat) (ls : List Slot) (st : List Value) (H : AHeap) (Q : Option Value → AHeap → Prop) : Prop := W tables_1 dn 1 y8 prog_1_method_24_code (some .boolean) pc ls st H Q
abbrev y9 : MethodName := ⟨"StreamSigScanner", "buildTrie", "()V"⟩
abbrev kb9 : ByteArray := prog_1_method_5_code
def M9 (pc : Nat) (ls : List Slot) (st : List Value) (H : AHeap) (Q : Option Value → AHeap → Prop) : Prop := W tables_1 dn 1 y9 prog_1_method_5_code none pc ls st H Q
abbrev y10 : MethodName := ⟨"StreamSigScanner", "clearAutomaton", "()V"⟩
abbrev kb10 : ByteArray := prog_1_method_6_code
def M10 (pc : Nat) (ls : List Slot) (st : List Value) (H : AHeap) (Q : Option Value → AHeap → Prop) : Prop := W tables_1 dn 1 y10 prog_1_method_6_code none pc ls st H Q
abbrev y11 : MethodName := ⟨"StreamSigScanner", "insertSig", "(I)V"⟩
abbrev kb11 : ByteArray := prog_1_method_7_code
def M11 (pc : Nat) (ls : List Slot) (st : List Value) (H : AHeap) (Q : Option Value → AHeap → Prop) : Prop := W tables_1 dn 1 y11 prog_1_method_7_code none pc ls st H Q
abbrev y12 : MethodName := ⟨"StreamSigScanner", "buildAutomaton", "()V"⟩
abbrev kb12 : ByteArray := prog_1_method_8_code
def M12 (pc : Nat) (ls : List Slot) (st : List Value) (H : AHeap) (Q : Option Value → AHeap → Prop) : Prop := W tables_1 dn 1 y12 prog_1_method_8_code none pc ls st H Q
abbrev y13 : MethodName := ⟨"StreamSigScanner", "openSegment", "(I)I"⟩
abbrev kb13 : ByteArray := prog_1_method_9_code
def M13 (pc : Nat) (ls : List Slot) (st : List Value) (H : AHeap) (Q : Option Value → AHeap → Prop) : Prop := W tables_1 dn 1 y13 prog_1_method_9_code (some .int) pc ls st H Q
abbrev y14 : MethodName := ⟨"StreamSigScanner", "segByte", "(I)I"⟩
abbrev kb14 : ByteArray := prog_1_method_10_code
def M14 (pc : Nat) (ls : List Slot) (st : List Value) (H : AHeap) (Q : Option Value → AHeap → Prop) : Prop := W tables_1 dn 1 y14 prog_1_method_10_code (some .int) pc ls st H Q
abbrev y15 : MethodName := ⟨"StreamSigScanner", "closeSegment", "()I"⟩
abbrev kb15 : ByteArray := prog_1_method_11_code
def M15 (pc : Nat) (ls : List Slot) (st : List Value) (H : AHeap) (Q : Option Value → AHeap → Prop) : Prop := W tables_1 dn 1 y15 prog_1_method_11_code (some .int) pc ls st H Q
abbrev y16 : MethodName := ⟨"StreamSigScanner", "isOffset", "(I)Z"⟩
abbrev kb16 : ByteArray := prog_1_method_23_code
def M16 (pc : Nat) (ls : List Slot) (st : List Value) (H : AHeap) (Q : Option Value → AHeap → Prop) : Prop := W tables_1 dn 1 y16 prog_1_method_23_code (some .boolean) pc ls st H Q
abbrev y17 : MethodName := ⟨"StreamSigScanner", "advanceDelivered", "()V"⟩
abbrev kb17 : ByteArray := prog_1_method_13_code
def M17 (pc : Nat) (ls : List Slot) (st : List Value) (H : AHeap) (Q : Option Value → AHeap → Prop) : Prop := W tables_1 dn 1 y17 prog_1_method_13_code none pc ls st H Q
abbrev y18 : MethodName := ⟨"StreamSigScanner", "absorbByte", "(III)V"⟩
abbrev kb18 : ByteArray := prog_1_method_12_code
def M18 (pc : Nat) (ls : List Slot) (st : List Value) (H : AHeap) (Q : Option Value → AHeap → Prop) : Prop := W tables_1 dn 1 y18 prog_1_method_12_code none pc ls st H Q
abbrev y19 : MethodName := ⟨"StreamSigScanner", "feed", "(II)V"⟩
abbrev kb19 : ByteArray := prog_1_method_14_code
def M19 (pc : Nat) (ls : List Slot) (st : List Value) (H : AHeap) (Q : Option Value → AHeap → Prop) : Prop := W tables_1 dn 1 y19 prog_1_method_14_code none pc ls st H Q
abbrev y20 : MethodName := ⟨"StreamSigScanner", "recordMatch", "(II)V"⟩
abbrev kb20 : ByteArray := prog_1_method_15_code
def M20 (pc : Nat) (ls : List Slot) (st : List Value) (H : AHeap) (Q : Option Value → AHeap → Prop) : Prop := W tables_1 dn 1 y20 prog_1_method_15_code none pc ls st H Q
abbrev y21 : MethodName := ⟨"StreamSigScannerL6", "law", "([I)Z"⟩
abbrev kb21 : ByteArray := code
def M21 (pc : Nat) (ls : List Slot) (st : List Value) (H : AHeap) (Q : Option Value → AHeap → Prop) : Prop := W tables_1 dn 1 y21 code (some .boolean) pc ls st H Q
theorem dn_0 : dnOf dn y0 = some (1, 12) := by decide +kernel
theorem rc_0 : rCode tables_1 y0 = some (prog_1_method_1_code, 3, none) := rCode_of (i := 5) rfl (by decide +kernel)
theorem dn_1 : dnOf dn y1 = some (0, 0) := by decide +kernel
theorem rc_1 : rCode tables_1 y1 = some (prog_1_method_3_code, 2, some .int) := rCode_of (i := 73) rfl (by decide +kernel)
theorem dn_2 : dnOf dn y2 = some (1, 13) := by decide +kernel
theorem rc_2 : rCode tables_1 y2 = some (prog_1_method_16_code, 2, some .int) := rCode_of (i := 78) rfl (by decide +kernel)
theorem dn_3 : dnOf dn y3 = some (0, 0) := by decide +kernel
theorem rc_3 : rCode tables_1 y3 = some (prog_1_method_26_code, 2, some .int) := rCode_of (i := 82) rfl (by decide +kernel)
theorem dn_4 : dnOf dn y4 = some (1, 13) := by decide +kernel
theorem rc_4 : rCode tables_1 y4 = some (prog_1_method_2_code, 3, some .int) := rCode_of (i := 87) rfl (by decide +kernel)
theorem dn_5 : dnOf dn y5 = some (0, 0) := by decide +kernel
theorem rc_5 : rCode tables_1 y5 = some (prog_1_method_22_code, 2, some .boolean) := rCode_of (i := 91) rfl (by decide +kernel)
theorem dn_6 : dnOf dn y6 = some (2, 32) := by decide +kernel
theorem rc_6 : rCode tables_1 y6 = some (prog_1_method_4_code, 1, some .int) := rCode_of (i := 96) rfl (by decide +kernel)
theorem dn_7 : dnOf dn y7 = some (1, 13) := by decide +kernel
theorem rc_7 : rCode tables_1 y7 = some (prog_1_method_18_code, 2, some .int) := rCode_of (i := 101) rfl (by decide +kernel)
theorem dn_8 : dnOf dn y8 = some (0, 0) := by decide +kernel
theorem rc_8 : rCode tables_1 y8 = some (prog_1_method_24_code, 2, some .boolean) := rCode_of (i := 105) rfl (by decide +kernel)
theorem dn_9 : dnOf dn y9 = some (1, 19) := by decide +kernel
theorem rc_9 : rCode tables_1 y9 = some (prog_1_method_5_code, 2, none) := rCode_of (i := 109) rfl (by decide +kernel)
theorem dn_10 : dnOf dn y10 = some (0, 0) := by decide +kernel
theorem rc_10 : rCode tables_1 y10 = some (prog_1_method_6_code, 2, none) := rCode_of (i := 113) rfl (by decide +kernel)
theorem dn_11 : dnOf dn y11 = some (0, 0) := by decide +kernel
theorem rc_11 : rCode tables_1 y11 = some (prog_1_method_7_code, 8, none) := rCode_of (i := 117) rfl (by decide +kernel)
theorem dn_12 : dnOf dn y12 = some (0, 0) := by decide +kernel
theorem rc_12 : rCode tables_1 y12 = some (prog_1_method_8_code, 9, none) := rCode_of (i := 121) rfl (by decide +kernel)
theorem dn_13 : dnOf dn y13 = some (1, 13) := by decide +kernel
theorem rc_13 : rCode tables_1 y13 = some (prog_1_method_9_code, 2, some .int) := rCode_of (i := 126) rfl (by decide +kernel)
theorem dn_14 : dnOf dn y14 = some (1, 13) := by decide +kernel
theorem rc_14 : rCode tables_1 y14 = some (prog_1_method_10_code, 2, some .int) := rCode_of (i := 131) rfl (by decide +kernel)
theorem dn_15 : dnOf dn y15 = some (3, 47) := by decide +kernel
theorem rc_15 : rCode tables_1 y15 = some (prog_1_method_11_code, 3, some .int) := rCode_of (i := 136) rfl (by decide +kernel)
theorem dn_16 : dnOf dn y16 = some (0, 0) := by decide +kernel
theorem rc_16 : rCode tables_1 y16 = some (prog_1_method_23_code, 2, some .boolean) := rCode_of (i := 140) rfl (by decide +kernel)
theorem dn_17 : dnOf dn y17 = some (2, 32) := by decide +kernel
theorem rc_17 : rCode tables_1 y17 = some (prog_1_method_13_code, 4, none) := rCode_of (i := 144) rfl (by decide +kernel)
theorem dn_18 : dnOf dn y18 = some (1, 13) := by decide +kernel
theorem rc_18 : rCode tables_1 y18 = some (prog_1_method_12_code, 4, none) := rCode_of (i := 148) rfl (by decide +kernel)
theorem dn_19 : dnOf dn y19 = some (1, 14) := by decide +kernel
theorem rc_19 : rCode tables_1 y19 = some (prog_1_method_14_code, 7, none) := rCode_of (i := 152) rfl (by decide +kernel)
theorem dn_20 : dnOf dn y20 = some (0, 0) := by decide +kernel
theorem rc_20 : rCode tables_1 y20 = some (prog_1_method_15_code, 3, none) := rCode_of (i := 156) rfl (by decide +kernel)
theorem dn_21 : dnOf dn y21 = some (4, 61) := by decide +kernel
theorem gf_7 : gfR tables_1 "StreamSigScanner" 7 = some ("StreamSigScanner", 0) := by decide +kernel
theorem gf_13 : gfR tables_1 "StreamSigScanner" 13 = some ("StreamSigScanner", 1) := by decide +kernel
theorem gf_16 : gfR tables_1 "StreamSigScanner" 16 = some ("StreamSigScanner", 2) := by decide +kernel
theorem gf_19 : gfR tables_1 "StreamSigScanner" 19 = some ("StreamSigScanner", 3) := by decide +kernel
theorem gf_22 : gfR tables_1 "StreamSigScanner" 22 = some ("StreamSigScanner", 4) := by decide +kernel
theorem gf_25 : gfR tables_1 "StreamSigScanner" 25 = some ("StreamSigScanner", 5) := by decide +kernel
theorem gf_28 : gfR tables_1 "StreamSigScanner" 28 = some ("StreamSigScanner", 6) := by decide +kernel
theorem gf_31 : gfR tables_1 "StreamSigScanner" 31 = some ("StreamSigScanner", 7) := by decide +kernel
theorem gf_35 : gfR tables_1 "StreamSigScanner" 35 = some ("StreamSigScanner", 8) := by decide +kernel
theorem gf_38 : gfR tables_1 "StreamSigScanner" 38 = some ("StreamSigScanner", 9) := by decide +kernel
theorem gf_41 : gfR tables_1 "StreamSigScanner" 41 = some ("StreamSigScanner", 10) := by decide +kernel
theorem gf_44 : gfR tables_1 "StreamSigScanner" 44 = some ("StreamSigScanner", 11) := by decide +kernel
theorem gf_47 : gfR tables_1 "StreamSigScanner" 47 = some ("StreamSigScanner", 12) := by decide +kernel
theorem gf_51 : gfR tables_1 "StreamSigScanner" 51 = some ("StreamSigScanner", 13) := by decide +kernel
theorem gf_55 : gfR tables_1 "StreamSigScanner" 55 = some ("StreamSigScanner", 14) := by decide +kernel
theorem gf_58 : gfR tables_1 "StreamSigScanner" 58 = some ("StreamSigScanner", 15) := by decide +kernel
theorem gf_61 : gfR tables_1 "StreamSigScanner" 61 = some ("StreamSigScanner", 16) := by decide +kernel
theorem gf_64 : gfR tables_1 "StreamSigScanner" 64 = some ("StreamSigScanner", 17) := by decide +kernel
theorem gf_67 : gfR tables_1 "StreamSigScanner" 67 = some ("StreamSigScanner", 18) := by decide +kernel
theorem gf_70 : gfR tables_1 "StreamSigScanner" 70 = some ("StreamSigScanner", 19) := by decide +kernel
theorem gf_73 : gfR tables_1 "StreamSigScanner" 73 = some ("StreamSigScanner", 20) := by decide +kernel
theorem gf_76 : gfR tables_1 "StreamSigScanner" 76 = some ("StreamSigScanner", 21) := by decide +kernel
theorem gf_79 : gfR tables_1 "StreamSigScanner" 79 = some ("StreamSigScanner", 22) := by decide +kernel
theorem gf_82 : gfR tables_1 "StreamSigScanner" 82 = some ("StreamSigScanner", 23) := by decide +kernel
theorem gf_85 : gfR tables_1 "StreamSigScanner" 85 = some ("StreamSigScanner", 24) := by decide +kernel
theorem gf_88 : gfR tables_1 "StreamSigScanner" 88 = some ("StreamSigScanner", 25) := by decide +kernel
theorem gf_91 : gfR tables_1 "StreamSigScanner" 91 = some ("StreamSigScanner", 26) := by decide +kernel
theorem gf_94 : gfR tables_1 "StreamSigScanner" 94 = some ("StreamSigScanner", 27) := by decide +kernel
theorem gf_97 : gfR tables_1 "StreamSigScanner" 97 = some ("StreamSigScanner", 28) := by decide +kernel
section Rules
variable {b r q : Nat} {pre : AHeap} {s : Nat → Int32} {A : Nat → List Int32} {post : AHeap} {ls : List Slot} {st : List Value} {H R : AHeap} {Q : Option Value → AHeap → Prop} {x y v z j : Int32} {J1 J2 : Int64} {sc : List Int32} {l0 l1 l2 l3 l4 l5 l6 l7 l8 l9 l10 l11 l12 l13 l14 l15 l16 l17 l18 l19 l20 l21 l22 l23 l24 l25 l26 l27 l28 l29 l30 l31 l32 : Slot}
theorem m0_0 : M0 0 [.val (.ref r), l1, l2] st H Q = M0 1 [.val (.ref r), l1, l2] (.ref r :: st) H Q := w_x (show decode kb0 0 = .ok (.aload_n 0, 1) from by decide +kernel) rfl
theorem m0_1 : M0 1 ls [.ref r] H Q = M0 4 ls [] H Q := w_obj (show decode kb0 1 = .ok (.invokespecial 1, 3) from by decide +kernel) (sl := 0) (by decide +kernel) (by decide)
theorem m0_4 : M0 4 [.val (.ref r), l1, l2] st H Q = M0 5 [.val (.ref r), l1, l2] (.ref r :: st) H Q := w_x (show decode kb0 4 = .ok (.aload_n 0, 1) from by decide +kernel) rfl
theorem m0_5 : M0 5 ls st H Q = M0 7 ls (.int 64 :: st) H Q := w_con (show decode kb0 5 = .ok (.bipush 64, 2) from by decide +kernel) rfl (by decide)
theorem m0_12 : M0 12 [.val (.ref r), l1, l2] st H Q = M0 13 [.val (.ref r), l1, l2] (.ref r :: st) H Q := w_x (show decode kb0 12 = .ok (.aload_n 0, 1) from by decide +kernel) rfl
theorem m0_13 : M0 13 ls st H Q = M0 15 ls (.int 16 :: st) H Q := w_con (show decode kb0 13 = .ok (.bipush 16, 2) from by decide +kernel) rfl (by decide)
theorem m0_20 : M0 20 [.val (.ref r), l1, l2] st H Q = M0 21 [.val (.ref r), l1, l2] (.ref r :: st) H Q := w_x (show decode kb0 20 = .ok (.aload_n 0, 1) from by decide +kernel) rfl
theorem m0_21 : M0 21 ls st H Q = M0 23 ls (.int 16 :: st) H Q := w_con (show decode kb0 21 = .ok (.bipush 16, 2) from by decide +kernel) rfl (by decide)
theorem m0_28 : M0 28 [.val (.ref r), l1, l2] st H Q = M0 29 [.val (.ref r), l1, l2] (.ref r :: st) H Q := w_x (show decode kb0 28 = .ok (.aload_n 0, 1) from by decide +kernel) rfl
theorem m0_29 : M0 29 ls st H Q = M0 32 ls (.int 16640 :: st) H Q := w_con (show decode kb0 29 = .ok (.sipush 16640, 3) from by decide +kernel) rfl (by decide)
theorem m0_37 : M0 37 [.val (.ref r), l1, l2] st H Q = M0 38 [.val (.ref r), l1, l2] (.ref r :: st) H Q := w_x (show decode kb0 37 = .ok (.aload_n 0, 1) from by decide +kernel) rfl
theorem m0_38 : M0 38 ls st H Q = M0 40 ls (.int 65 :: st) H Q := w_con (show decode kb0 38 = .ok (.bipush 65, 2) from by decide +kernel) rfl (by decide)
theorem m0_45 : M0 45 [.val (.ref r), l1, l2] st H Q = M0 46 [.val (.ref r), l1, l2] (.ref r :: st) H Q := w_x (show decode kb0 45 = .ok (.aload_n 0, 1) from by decide +kernel) rfl
theorem m0_46 : M0 46 ls st H Q = M0 48 ls (.int 65 :: st) H Q := w_con (show decode kb0 46 = .ok (.bipush 65, 2) from by decide +kernel) rfl (by decide)
theorem m0_53 : M0 53 [.val (.ref r), l1, l2] st H Q = M0 54 [.val (.ref r), l1, l2] (.ref r :: st) H Q := w_x (show decode kb0 53 = .ok (.aload_n 0, 1) from by decide +kernel) rfl
theorem m0_54 : M0 54 ls st H Q = M0 56 ls (.int 65 :: st) H Q := w_con (show decode kb0 54 = .ok (.bipush 65, 2) from by decide +kernel) rfl (by decide)
theorem m0_61 : M0 61 [.val (.ref r), l1, l2] st H Q = M0 62 [.val (.ref r), l1, l2] (.ref r :: st) H Q := w_x (show decode kb0 61 = .ok (.aload_n 0, 1) from by decide +kernel) rfl
theorem m0_62 : M0 62 ls st H Q = M0 65 ls (.int 256 :: st) H Q := w_con (show decode kb0 62 = .ok (.sipush 256, 3) from by decide +kernel) rfl (by decide)
theorem m0_70 : M0 70 [.val (.ref r), l1, l2] st H Q = M0 71 [.val (.ref r), l1, l2] (.ref r :: st) H Q := w_x (show decode kb0 70 = .ok (.aload_n 0, 1) from by decide +kernel) rfl
theorem m0_71 : M0 71 ls st H Q = M0 74 ls (.int 256 :: st) H Q := w_con (show decode kb0 71 = .ok (.sipush 256, 3) from by decide +kernel) rfl (by decide)
theorem m0_79 : M0 79 [.val (.ref r), l1, l2] st H Q = M0 80 [.val (.ref r), l1, l2] (.ref r :: st) H Q := w_x (show decode kb0 79 = .ok (.aload_n 0, 1) from by decide +kernel) rfl
theorem m0_80 : M0 80 ls st H Q = M0 82 ls (.int 16 :: st) H Q := w_con (show decode kb0 80 = .ok (.bipush 16, 2) from by decide +kernel) rfl (by decide)
theorem m0_87 : M0 87 [.val (.ref r), l1, l2] st H Q = M0 88 [.val (.ref r), l1, l2] (.ref r :: st) H Q := w_x (show decode kb0 87 = .ok (.aload_n 0, 1) from by decide +kernel) rfl
theorem m0_88 : M0 88 ls st H Q = M0 90 ls (.int 64 :: st) H Q := w_con (show decode kb0 88 = .ok (.bipush 64, 2) from by decide +kernel) rfl (by decide)
theorem m0_95 : M0 95 [.val (.ref r), l1, l2] st H Q = M0 96 [.val (.ref r), l1, l2] (.ref r :: st) H Q := w_x (show decode kb0 95 = .ok (.aload_n 0, 1) from by decide +kernel) rfl
theorem m0_96 : M0 96 ls st H Q = M0 98 ls (.int 64 :: st) H Q := w_con (show decode kb0 96 = .ok (.bipush 64, 2) from by decide +kernel) rfl (by decide)
theorem m0_103 : M0 103 [l0, .val (.int v), l2] st H Q = M0 104 [l0, .val (.int v), l2] (.int v :: st) H Q := w_x (show decode kb0 103 = .ok (.iload_n 1, 1) from by decide +kernel) rfl
theorem m0_104u : M0 104 [l0, l1, .unset] ((.int v) :: st) H Q = M0 105 [l0, l1, .val (.int v)] st H Q := w_st (i := 2) (p := isI) (show decode kb0 104 = .ok (.istore_n 2, 1) from by decide +kernel) rfl rfl rfl rfl rfl rfl
theorem m0_105 : M0 105 [l0, l1, .val (.int v)] st H Q = M0 106 [l0, l1, .val (.int v)] (.int v :: st) H Q := w_x (show decode kb0 105 = .ok (.iload_n 2, 1) from by decide +kernel) rfl
theorem m0_106 : M0 106 ls st H Q = M0 108 ls (.int 8 :: st) H Q := w_con (show decode kb0 106 = .ok (.bipush 8, 2) from by decide +kernel) rfl (by decide)
theorem m0_108 : M0 108 ls (.int y :: .int x :: st) H Q = if x < y then M0 111 ls st H Q else M0 114 ls st H Q := w_icmpN (show decode kb0 108 = .ok (.if_icmp .ge 6, 3) from by decide +kernel) (i_ge x y) rfl
theorem m0_111 : M0 111 ls st H Q = M0 113 ls (.int 8 :: st) H Q := w_con (show decode kb0 111 = .ok (.bipush 8, 2) from by decide +kernel) rfl (by decide)
theorem m0_113i : M0 113 [l0, l1, .val (.int z)] ((.int v) :: st) H Q = M0 114 [l0, l1, .val (.int v)] st H Q := w_st (i := 2) (p := isI) (show decode kb0 113 = .ok (.istore_n 2, 1) from by decide +kernel) rfl rfl rfl rfl rfl rfl
theorem m0_114 : M0 114 [l0, l1, .val (.int v)] st H Q = M0 115 [l0, l1, .val (.int v)] (.int v :: st) H Q := w_x (show decode kb0 114 = .ok (.iload_n 2, 1) from by decide +kernel) rfl
theorem m0_115 : M0 115 ls st H Q = M0 117 ls (.int 64 :: st) H Q := w_con (show decode kb0 115 = .ok (.bipush 64, 2) from by decide +kernel) rfl (by decide)
theorem m0_117 : M0 117 ls (.int y :: .int x :: st) H Q = if y < x then M0 120 ls st H Q else M0 123 ls st H Q := w_icmpN (show decode kb0 117 = .ok (.if_icmp .le 6, 3) from by decide +kernel) (i_le x y) rfl
theorem m0_120 : M0 120 ls st H Q = M0 122 ls (.int 64 :: st) H Q := w_con (show decode kb0 120 = .ok (.bipush 64, 2) from by decide +kernel) rfl (by decide)
theorem m0_122i : M0 122 [l0, l1, .val (.int z)] ((.int v) :: st) H Q = M0 123 [l0, l1, .val (.int v)] st H Q := w_st (i := 2) (p := isI) (show decode kb0 122 = .ok (.istore_n 2, 1) from by decide +kernel) rfl rfl rfl rfl rfl rfl
theorem m0_123 : M0 123 [.val (.ref r), l1, l2] st H Q = M0 124 [.val (.ref r), l1, l2] (.ref r :: st) H Q := w_x (show decode kb0 123 = .ok (.aload_n 0, 1) from by decide +kernel) rfl
theorem m0_124 : M0 124 [l0, l1, .val (.int v)] st H Q = M0 125 [l0, l1, .val (.int v)] (.int v :: st) H Q := w_x (show decode kb0 124 = .ok (.iload_n 2, 1) from by decide +kernel) rfl
theorem pf0_47 : pfR tables_1 y0.cls y0.name 47 = some ("StreamSigScanner", 12, .int) := by decide +kernel
theorem m0_125 : M0 125 ls (.int v :: .ref (b + 1) :: st) (put (b + 1) pre s A post) Q = M0 128 ls st (put (b + 1) pre (ou s 0 v) A post) Q := w_put (show decode kb0 125 = .ok (.putfield 47, 3) from by decide +kernel) pf0_47 put_o (Nat.succ_le_succ (Nat.zero_le _)) (by show 12 < 29; omega) rfl put_s0
theorem m0_128 : M0 128 [.val (.ref r), l1, l2] st H Q = M0 129 [.val (.ref r), l1, l2] (.ref r :: st) H Q := w_x (show decode kb0 128 = .ok (.aload_n 0, 1) from by decide +kernel) rfl
theorem m0_129 : M0 129 ls st H Q = M0 130 ls (.int 0 :: st) H Q := w_con (show decode kb0 129 = .ok (.iconst 0, 1) from by decide +kernel) rfl (by decide)
theorem pf0_51 : pfR tables_1 y0.cls y0.name 51 = some ("StreamSigScanner", 13, .boolean) := by decide +kernel
theorem m0_130 : M0 130 ls (.int v :: .ref (b + 1) :: st) (put (b + 1) pre s A post) Q = M0 133 ls st (put (b + 1) pre (ou s 1 (nar .boolean v)) A post) Q := w_put (show decode kb0 130 = .ok (.putfield 51, 3) from by decide +kernel) pf0_51 put_o (Nat.succ_le_succ (Nat.zero_le _)) (by show 13 < 29; omega) rfl put_s1
theorem m0_133 : M0 133 [.val (.ref r), l1, l2] st H Q = M0 134 [.val (.ref r), l1, l2] (.ref r :: st) H Q := w_x (show decode kb0 133 = .ok (.aload_n 0, 1) from by decide +kernel) rfl
theorem m0_134 : M0 134 ls st H Q = M0 135 ls (.int 0 :: st) H Q := w_con (show decode kb0 134 = .ok (.iconst 0, 1) from by decide +kernel) rfl (by decide)
theorem pf0_55 : pfR tables_1 y0.cls y0.name 55 = some ("StreamSigScanner", 14, .int) := by decide +kernel
theorem m0_135 : M0 135 ls (.int v :: .ref (b + 1) :: st) (put (b + 1) pre s A post) Q = M0 138 ls st (put (b + 1) pre (ou s 2 v) A post) Q := w_put (show decode kb0 135 = .ok (.putfield 55, 3) from by decide +kernel) pf0_55 put_o (Nat.succ_le_succ (Nat.zero_le _)) (by show 14 < 29; omega) rfl put_s2
theorem m0_138 : M0 138 [.val (.ref r), l1, l2] st H Q = M0 139 [.val (.ref r), l1, l2] (.ref r :: st) H Q := w_x (show decode kb0 138 = .ok (.aload_n 0, 1) from by decide +kernel) rfl
theorem m0_139 : M0 139 ls st H Q = M0 140 ls (.int 0 :: st) H Q := w_con (show decode kb0 139 = .ok (.iconst 0, 1) from by decide +kernel) rfl (by decide)
theorem pf0_58 : pfR tables_1 y0.cls y0.name 58 = some ("StreamSigScanner", 15, .int) := by decide +kernel
theorem m0_140 : M0 140 ls (.int v :: .ref (b + 1) :: st) (put (b + 1) pre s A post) Q = M0 143 ls st (put (b + 1) pre (ou s 3 v) A post) Q := w_put (show decode kb0 140 = .ok (.putfield 58, 3) from by decide +kernel) pf0_58 put_o (Nat.succ_le_succ (Nat.zero_le _)) (by show 15 < 29; omega) rfl put_s3
theorem m0_143 : M0 143 [.val (.ref r), l1, l2] st H Q = M0 144 [.val (.ref r), l1, l2] (.ref r :: st) H Q := w_x (show decode kb0 143 = .ok (.aload_n 0, 1) from by decide +kernel) rfl
theorem m0_144 : M0 144 ls st H Q = M0 145 ls (.int 0 :: st) H Q := w_con (show decode kb0 144 = .ok (.iconst 0, 1) from by decide +kernel) rfl (by decide)
theorem pf0_61 : pfR tables_1 y0.cls y0.name 61 = some ("StreamSigScanner", 16, .int) := by decide +kernel
theorem m0_145 : M0 145 ls (.int v :: .ref (b + 1) :: st) (put (b + 1) pre s A post) Q = M0 148 ls st (put (b + 1) pre (ou s 4 v) A post) Q := w_put (show decode kb0 145 = .ok (.putfield 61, 3) from by decide +kernel) pf0_61 put_o (Nat.succ_le_succ (Nat.zero_le _)) (by show 16 < 29; omega) rfl put_s4
theorem m0_148 : M0 148 [.val (.ref r), l1, l2] st H Q = M0 149 [.val (.ref r), l1, l2] (.ref r :: st) H Q := w_x (show decode kb0 148 = .ok (.aload_n 0, 1) from by decide +kernel) rfl
theorem m0_149 : M0 149 ls st H Q = M0 150 ls (.int 1 :: st) H Q := w_con (show decode kb0 149 = .ok (.iconst 1, 1) from by decide +kernel) rfl (by decide)
theorem pf0_64 : pfR tables_1 y0.cls y0.name 64 = some ("StreamSigScanner", 17, .int) := by decide +kernel
theorem m0_150 : M0 150 ls (.int v :: .ref (b + 1) :: st) (put (b + 1) pre s A post) Q = M0 153 ls st (put (b + 1) pre (ou s 5 v) A post) Q := w_put (show decode kb0 150 = .ok (.putfield 64, 3) from by decide +kernel) pf0_64 put_o (Nat.succ_le_succ (Nat.zero_le _)) (by show 17 < 29; omega) rfl put_s5
theorem m0_153 : M0 153 [.val (.ref r), l1, l2] st H Q = M0 154 [.val (.ref r), l1, l2] (.ref r :: st) H Q := w_x (show decode kb0 153 = .ok (.aload_n 0, 1) from by decide +kernel) rfl
theorem m0_154 : M0 154 ls st H Q = M0 155 ls (.int 0 :: st) H Q := w_con (show decode kb0 154 = .ok (.iconst 0, 1) from by decide +kernel) rfl (by decide)
theorem pf0_67 : pfR tables_1 y0.cls y0.name 67 = some ("StreamSigScanner", 18, .int) := by decide +kernel
theorem m0_155 : M0 155 ls (.int v :: .ref (b + 1) :: st) (put (b + 1) pre s A post) Q = M0 158 ls st (put (b + 1) pre (ou s 6 v) A post) Q := w_put (show decode kb0 155 = .ok (.putfield 67, 3) from by decide +kernel) pf0_67 put_o (Nat.succ_le_succ (Nat.zero_le _)) (by show 18 < 29; omega) rfl put_s6
theorem m0_158 : M0 158 [.val (.ref r), l1, l2] st H Q = M0 159 [.val (.ref r), l1, l2] (.ref r :: st) H Q := w_x (show decode kb0 158 = .ok (.aload_n 0, 1) from by decide +kernel) rfl
theorem m0_159 : M0 159 ls st H Q = M0 160 ls (.int 0 :: st) H Q := w_con (show decode kb0 159 = .ok (.iconst 0, 1) from by decide +kernel) rfl (by decide)
theorem pf0_70 : pfR tables_1 y0.cls y0.name 70 = some ("StreamSigScanner", 19, .int) := by decide +kernel
theorem m0_160 : M0 160 ls (.int v :: .ref (b + 1) :: st) (put (b + 1) pre s A post) Q = M0 163 ls st (put (b + 1) pre (ou s 7 v) A post) Q := w_put (show decode kb0 160 = .ok (.putfield 70, 3) from by decide +kernel) pf0_70 put_o (Nat.succ_le_succ (Nat.zero_le _)) (by show 19 < 29; omega) rfl put_s7
theorem m0_163 : M0 163 [.val (.ref r), l1, l2] st H Q = M0 164 [.val (.ref r), l1, l2] (.ref r :: st) H Q := w_x (show decode kb0 163 = .ok (.aload_n 0, 1) from by decide +kernel) rfl
theorem m0_164 : M0 164 ls st H Q = M0 165 ls (.int 0 :: st) H Q := w_con (show decode kb0 164 = .ok (.iconst 0, 1) from by decide +kernel) rfl (by decide)
theorem pf0_73 : pfR tables_1 y0.cls y0.name 73 = some ("StreamSigScanner", 20, .int) := by decide +kernel
theorem m0_165 : M0 165 ls (.int v :: .ref (b + 1) :: st) (put (b + 1) pre s A post) Q = M0 168 ls st (put (b + 1) pre (ou s 8 v) A post) Q := w_put (show decode kb0 165 = .ok (.putfield 73, 3) from by decide +kernel) pf0_73 put_o (Nat.succ_le_succ (Nat.zero_le _)) (by show 20 < 29; omega) rfl put_s8
theorem m0_168 : M0 168 [.val (.ref r), l1, l2] st H Q = M0 169 [.val (.ref r), l1, l2] (.ref r :: st) H Q := w_x (show decode kb0 168 = .ok (.aload_n 0, 1) from by decide +kernel) rfl
theorem m0_169 : M0 169 ls st H Q = M0 170 ls (.int 0 :: st) H Q := w_con (show decode kb0 169 = .ok (.iconst 0, 1) from by decide +kernel) rfl (by decide)
theorem pf0_76 : pfR tables_1 y0.cls y0.name 76 = some ("StreamSigScanner", 21, .int) := by decide +kernel
theorem m0_170 : M0 170 ls (.int v :: .ref (b + 1) :: st) (put (b + 1) pre s A post) Q = M0 173 ls st (put (b + 1) pre (ou s 9 v) A post) Q := w_put (show decode kb0 170 = .ok (.putfield 76, 3) from by decide +kernel) pf0_76 put_o (Nat.succ_le_succ (Nat.zero_le _)) (by show 21 < 29; omega) rfl put_s9
theorem m0_173 : M0 173 [.val (.ref r), l1, l2] st H Q = M0 174 [.val (.ref r), l1, l2] (.ref r :: st) H Q := w_x (show decode kb0 173 = .ok (.aload_n 0, 1) from by decide +kernel) rfl
theorem m0_174 : M0 174 ls st H Q = M0 175 ls (.int 0 :: st) H Q := w_con (show decode kb0 174 = .ok (.iconst 0, 1) from by decide +kernel) rfl (by decide)
theorem pf0_79 : pfR tables_1 y0.cls y0.name 79 = some ("StreamSigScanner", 22, .int) := by decide +kernel
theorem m0_175 : M0 175 ls (.int v :: .ref (b + 1) :: st) (put (b + 1) pre s A post) Q = M0 178 ls st (put (b + 1) pre (ou s 10 v) A post) Q := w_put (show decode kb0 175 = .ok (.putfield 79, 3) from by decide +kernel) pf0_79 put_o (Nat.succ_le_succ (Nat.zero_le _)) (by show 22 < 29; omega) rfl put_s10
theorem m0_178 : M0 178 [.val (.ref r), l1, l2] st H Q = M0 179 [.val (.ref r), l1, l2] (.ref r :: st) H Q := w_x (show decode kb0 178 = .ok (.aload_n 0, 1) from by decide +kernel) rfl
theorem m0_179 : M0 179 ls st H Q = M0 180 ls (.int 0 :: st) H Q := w_con (show decode kb0 179 = .ok (.iconst 0, 1) from by decide +kernel) rfl (by decide)
theorem pf0_82 : pfR tables_1 y0.cls y0.name 82 = some ("StreamSigScanner", 23, .int) := by decide +kernel
theorem m0_180 : M0 180 ls (.int v :: .ref (b + 1) :: st) (put (b + 1) pre s A post) Q = M0 183 ls st (put (b + 1) pre (ou s 11 v) A post) Q := w_put (show decode kb0 180 = .ok (.putfield 82, 3) from by decide +kernel) pf0_82 put_o (Nat.succ_le_succ (Nat.zero_le _)) (by show 23 < 29; omega) rfl put_s11
theorem m0_183 : M0 183 [.val (.ref r), l1, l2] st H Q = M0 184 [.val (.ref r), l1, l2] (.ref r :: st) H Q := w_x (show decode kb0 183 = .ok (.aload_n 0, 1) from by decide +kernel) rfl
theorem m0_184 : M0 184 ls st H Q = M0 185 ls (.int (-1) :: st) H Q := w_con (show decode kb0 184 = .ok (.iconst (-1), 1) from by decide +kernel) rfl (by decide)
theorem pf0_85 : pfR tables_1 y0.cls y0.name 85 = some ("StreamSigScanner", 24, .int) := by decide +kernel
theorem m0_185 : M0 185 ls (.int v :: .ref (b + 1) :: st) (put (b + 1) pre s A post) Q = M0 188 ls st (put (b + 1) pre (ou s 12 v) A post) Q := w_put (show decode kb0 185 = .ok (.putfield 85, 3) from by decide +kernel) pf0_85 put_o (Nat.succ_le_succ (Nat.zero_le _)) (by show 24 < 29; omega) rfl put_s12
theorem m0_188 : M0 188 [.val (.ref r), l1, l2] st H Q = M0 189 [.val (.ref r), l1, l2] (.ref r :: st) H Q := w_x (show decode kb0 188 = .ok (.aload_n 0, 1) from by decide +kernel) rfl
theorem m0_189 : M0 189 ls st H Q = M0 190 ls (.int 0 :: st) H Q := w_con (show decode kb0 189 = .ok (.iconst 0, 1) from by decide +kernel) rfl (by decide)
theorem pf0_88 : pfR tables_1 y0.cls y0.name 88 = some ("StreamSigScanner", 25, .boolean) := by decide +kernel
theorem m0_190 : M0 190 ls (.int v :: .ref (b + 1) :: st) (put (b + 1) pre s A post) Q = M0 193 ls st (put (b + 1) pre (ou s 13 (nar .boolean v)) A post) Q := w_put (show decode kb0 190 = .ok (.putfield 88, 3) from by decide +kernel) pf0_88 put_o (Nat.succ_le_succ (Nat.zero_le _)) (by show 25 < 29; omega) rfl put_s13
theorem m0_193 : M0 193 [.val (.ref r), l1, l2] st H Q = M0 194 [.val (.ref r), l1, l2] (.ref r :: st) H Q := w_x (show decode kb0 193 = .ok (.aload_n 0, 1) from by decide +kernel) rfl
theorem m0_194 : M0 194 ls st H Q = M0 195 ls (.int (-1) :: st) H Q := w_con (show decode kb0 194 = .ok (.iconst (-1), 1) from by decide +kernel) rfl (by decide)
theorem pf0_91 : pfR tables_1 y0.cls y0.name 91 = some ("StreamSigScanner", 26, .int) := by decide +kernel
theorem m0_195 : M0 195 ls (.int v :: .ref (b + 1) :: st) (put (b + 1) pre s A post) Q = M0 198 ls st (put (b + 1) pre (ou s 14 v) A post) Q := w_put (show decode kb0 195 = .ok (.putfield 91, 3) from by decide +kernel) pf0_91 put_o (Nat.succ_le_succ (Nat.zero_le _)) (by show 26 < 29; omega) rfl put_s14
theorem m0_198 : M0 198 [.val (.ref r), l1, l2] st H Q = M0 199 [.val (.ref r), l1, l2] (.ref r :: st) H Q := w_x (show decode kb0 198 = .ok (.aload_n 0, 1) from by decide +kernel) rfl
theorem m0_199 : M0 199 ls st H Q = M0 200 ls (.int 0 :: st) H Q := w_con (show decode kb0 199 = .ok (.iconst 0, 1) from by decide +kernel) rfl (by decide)
theorem pf0_94 : pfR tables_1 y0.cls y0.name 94 = some ("StreamSigScanner", 27, .int) := by decide +kernel
theorem m0_200 : M0 200 ls (.int v :: .ref (b + 1) :: st) (put (b + 1) pre s A post) Q = M0 203 ls st (put (b + 1) pre (ou s 15 v) A post) Q := w_put (show decode kb0 200 = .ok (.putfield 94, 3) from by decide +kernel) pf0_94 put_o (Nat.succ_le_succ (Nat.zero_le _)) (by show 27 < 29; omega) rfl put_s15
theorem m0_203 : M0 203 [.val (.ref r), l1, l2] st H Q = M0 204 [.val (.ref r), l1, l2] (.ref r :: st) H Q := w_x (show decode kb0 203 = .ok (.aload_n 0, 1) from by decide +kernel) rfl
theorem m0_204 : M0 204 ls st H Q = M0 205 ls (.int 0 :: st) H Q := w_con (show decode kb0 204 = .ok (.iconst 0, 1) from by decide +kernel) rfl (by decide)
theorem pf0_97 : pfR tables_1 y0.cls y0.name 97 = some ("StreamSigScanner", 28, .int) := by decide +kernel
theorem m0_205 : M0 205 ls (.int v :: .ref (b + 1) :: st) (put (b + 1) pre s A post) Q = M0 208 ls st (put (b + 1) pre (ou s 16 v) A post) Q := w_put (show decode kb0 205 = .ok (.putfield 97, 3) from by decide +kernel) pf0_97 put_o (Nat.succ_le_succ (Nat.zero_le _)) (by show 28 < 29; omega) rfl put_s16
theorem m0_208 : M0 208 ls [] H Q = Q none H := w_vret (show decode kb0 208 = .ok (.return_, 1) from by decide +kernel) rfl
theorem m1_0 : M1 0 [.val (.ref r), l1] st H Q = M1 1 [.val (.ref r), l1] (.ref r :: st) H Q := w_x (show decode kb1 0 = .ok (.aload_n 0, 1) from by decide +kernel) rfl
theorem m1_1 : M1 1 ls (.ref (b + 1) :: st) (put (b + 1) pre s A post) Q = M1 4 ls (.int (s 1) :: st) (put (b + 1) pre s A post) Q := w_get (show decode kb1 1 = .ok (.getfield 51, 3) from by decide +kernel) gf_51 put_o rfl
theorem m1_4 : M1 4 ls (.int x :: st) H Q = if x = 0 then M1 9 ls st H Q else M1 7 ls st H Q := w_if (show decode kb1 4 = .ok (.ifCond .eq 5, 3) from by decide +kernel) (z_eq x) rfl
theorem m1_7 : M1 7 ls st H Q = M1 8 ls (.int (-1) :: st) H Q := w_con (show decode kb1 7 = .ok (.iconst (-1), 1) from by decide +kernel) rfl (by decide)
theorem m1_8 : M1 8 ls (.int z :: st) H Q = Q (some (.int z)) H := w_iret (show decode kb1 8 = .ok (.ireturn, 1) from by decide +kernel) rfl
theorem m1_9 : M1 9 [.val (.ref r), l1] st H Q = M1 10 [.val (.ref r), l1] (.ref r :: st) H Q := w_x (show decode kb1 9 = .ok (.aload_n 0, 1) from by decide +kernel) rfl
theorem m1_10 : M1 10 ls (.ref (b + 1) :: st) (put (b + 1) pre s A post) Q = M1 13 ls (.int (s 4) :: st) (put (b + 1) pre s A post) Q := w_get (show decode kb1 10 = .ok (.getfield 61, 3) from by decide +kernel) gf_61 put_o rfl
theorem m1_13 : M1 13 ls (.int x :: st) H Q = if x = 0 then M1 16 ls st H Q else M1 19 ls st H Q := w_ifN (show decode kb1 13 = .ok (.ifCond .ne 6, 3) from by decide +kernel) (z_ne x) rfl
theorem m1_16 : M1 16 ls st H Q = M1 18 ls (.int (-4) :: st) H Q := w_con (show decode kb1 16 = .ok (.bipush (-4), 2) from by decide +kernel) rfl (by decide)
theorem m1_18 : M1 18 ls (.int z :: st) H Q = Q (some (.int z)) H := w_iret (show decode kb1 18 = .ok (.ireturn, 1) from by decide +kernel) rfl
theorem m1_19 : M1 19 [.val (.ref r), l1] st H Q = M1 20 [.val (.ref r), l1] (.ref r :: st) H Q := w_x (show decode kb1 19 = .ok (.aload_n 0, 1) from by decide +kernel) rfl
theorem m1_20 : M1 20 ls (.ref (b + 1) :: st) (put (b + 1) pre s A post) Q = M1 23 ls (.int (s 2) :: st) (put (b + 1) pre s A post) Q := w_get (show decode kb1 20 = .ok (.getfield 55, 3) from by decide +kernel) gf_55 put_o rfl
theorem m1_23u : M1 23 [l0, .unset] ((.int v) :: st) H Q = M1 24 [l0, .val (.int v)] st H Q := w_st (i := 1) (p := isI) (show decode kb1 23 = .ok (.istore_n 1, 1) from by decide +kernel) rfl rfl rfl rfl rfl rfl
theorem m1_24 : M1 24 [l0, .val (.int v)] st H Q = M1 25 [l0, .val (.int v)] (.int v :: st) H Q := w_x (show decode kb1 24 = .ok (.iload_n 1, 1) from by decide +kernel) rfl
theorem m1_25 : M1 25 ls (.int x :: st) H Q = if x < 0 then M1 34 ls st H Q else M1 28 ls st H Q := w_if (show decode kb1 25 = .ok (.ifCond .lt 9, 3) from by decide +kernel) (z_lt x) rfl
theorem m1_28 : M1 28 [l0, .val (.int v)] st H Q = M1 29 [l0, .val (.int v)] (.int v :: st) H Q := w_x (show decode kb1 28 = .ok (.iload_n 1, 1) from by decide +kernel) rfl
theorem m1_29 : M1 29 ls st H Q = M1 31 ls (.int 16 :: st) H Q := w_con (show decode kb1 29 = .ok (.bipush 16, 2) from by decide +kernel) rfl (by decide)
theorem m1_31 : M1 31 ls (.int y :: .int x :: st) H Q = if x < y then M1 37 ls st H Q else M1 34 ls st H Q := w_icmp (show decode kb1 31 = .ok (.if_icmp .lt 6, 3) from by decide +kernel) (i_lt x y) rfl
theorem m1_34 : M1 34 ls st H Q = M1 36 ls (.int (-3) :: st) H Q := w_con (show decode kb1 34 = .ok (.bipush (-3), 2) from by decide +kernel) rfl (by decide)
theorem m1_36 : M1 36 ls (.int z :: st) H Q = Q (some (.int z)) H := w_iret (show decode kb1 36 = .ok (.ireturn, 1) from by decide +kernel) rfl
theorem m1_37 : M1 37 [.val (.ref r), l1] st H Q = M1 38 [.val (.ref r), l1] (.ref r :: st) H Q := w_x (show decode kb1 37 = .ok (.aload_n 0, 1) from by decide +kernel) rfl
theorem m1_38 : M1 38 ls (.ref (b + 1) :: st) (put (b + 1) pre s A post) Q = M1 41 ls (.ref ((b + 1) + 2) :: st) (put (b + 1) pre s A post) Q := w_get (show decode kb1 38 = .ok (.getfield 13, 3) from by decide +kernel) gf_13 put_o rfl
theorem m1_41 : M1 41 [l0, .val (.int v)] st H Q = M1 42 [l0, .val (.int v)] (.int v :: st) H Q := w_x (show decode kb1 41 = .ok (.iload_n 1, 1) from by decide +kernel) rfl
theorem m1_42 : M1 42 [.val (.ref r), l1] st H Q = M1 43 [.val (.ref r), l1] (.ref r :: st) H Q := w_x (show decode kb1 42 = .ok (.aload_n 0, 1) from by decide +kernel) rfl
theorem m1_43 : M1 43 ls (.ref (b + 1) :: st) (put (b + 1) pre s A post) Q = M1 46 ls (.int (s 3) :: st) (put (b + 1) pre s A post) Q := w_get (show decode kb1 43 = .ok (.getfield 58, 3) from by decide +kernel) gf_58 put_o rfl
theorem m1_46  : M1 46 ls (.int v :: .int j :: .ref ((b + 1) + 2) :: st) (put (b + 1) pre s A post) Q = (inB j (A 1) ∧ M1 47 ls st (put (b + 1) pre s (ou A 1 (setA (A 1) j v)) post) Q) := w_ist (show decode kb1 46 = .ok (.iastore, 1) from by decide +kernel) rfl put_a1 (by omega) rfl put_w1
theorem m1_47 : M1 47 [.val (.ref r), l1] st H Q = M1 48 [.val (.ref r), l1] (.ref r :: st) H Q := w_x (show decode kb1 47 = .ok (.aload_n 0, 1) from by decide +kernel) rfl
theorem m1_48 : M1 48 ls (.ref (b + 1) :: st) (put (b + 1) pre s A post) Q = M1 51 ls (.ref ((b + 1) + 3) :: st) (put (b + 1) pre s A post) Q := w_get (show decode kb1 48 = .ok (.getfield 16, 3) from by decide +kernel) gf_16 put_o rfl
theorem m1_51 : M1 51 [l0, .val (.int v)] st H Q = M1 52 [l0, .val (.int v)] (.int v :: st) H Q := w_x (show decode kb1 51 = .ok (.iload_n 1, 1) from by decide +kernel) rfl
theorem m1_52 : M1 52 [.val (.ref r), l1] st H Q = M1 53 [.val (.ref r), l1] (.ref r :: st) H Q := w_x (show decode kb1 52 = .ok (.aload_n 0, 1) from by decide +kernel) rfl
theorem m1_53 : M1 53 ls (.ref (b + 1) :: st) (put (b + 1) pre s A post) Q = M1 56 ls (.int (s 4) :: st) (put (b + 1) pre s A post) Q := w_get (show decode kb1 53 = .ok (.getfield 61, 3) from by decide +kernel) gf_61 put_o rfl
theorem m1_56  : M1 56 ls (.int v :: .int j :: .ref ((b + 1) + 3) :: st) (put (b + 1) pre s A post) Q = (inB j (A 2) ∧ M1 57 ls st (put (b + 1) pre s (ou A 2 (setA (A 2) j v)) post) Q) := w_ist (show decode kb1 56 = .ok (.iastore, 1) from by decide +kernel) rfl put_a2 (by omega) rfl put_w2
theorem m1_57 : M1 57 [.val (.ref r), l1] st H Q = M1 58 [.val (.ref r), l1] (.ref r :: st) H Q := w_x (show decode kb1 57 = .ok (.aload_n 0, 1) from by decide +kernel) rfl
theorem m1_58 : M1 58 ls ((.ref r) :: st) H Q = M1 59 ls ((.ref r) :: (.ref r) :: st) H Q := w_x (show decode kb1 58 = .ok (.dup, 1) from by decide +kernel) rfl
theorem m1_59 : M1 59 ls (.ref (b + 1) :: st) (put (b + 1) pre s A post) Q = M1 62 ls (.int (s 3) :: st) (put (b + 1) pre s A post) Q := w_get (show decode kb1 59 = .ok (.getfield 58, 3) from by decide +kernel) gf_58 put_o rfl
theorem m1_62 : M1 62 [.val (.ref r), l1] st H Q = M1 63 [.val (.ref r), l1] (.ref r :: st) H Q := w_x (show decode kb1 62 = .ok (.aload_n 0, 1) from by decide +kernel) rfl
theorem m1_63 : M1 63 ls (.ref (b + 1) :: st) (put (b + 1) pre s A post) Q = M1 66 ls (.int (s 4) :: st) (put (b + 1) pre s A post) Q := w_get (show decode kb1 63 = .ok (.getfield 61, 3) from by decide +kernel) gf_61 put_o rfl
theorem m1_66 : M1 66 ls (.int y :: .int x :: st) H Q = M1 67 ls (.int (x + y) :: st) H Q := w_x (show decode kb1 66 = .ok (.iadd, 1) from by decide +kernel) rfl
theorem pf1_58 : pfR tables_1 y1.cls y1.name 58 = some ("StreamSigScanner", 15, .int) := by decide +kernel
theorem m1_67 : M1 67 ls (.int v :: .ref (b + 1) :: st) (put (b + 1) pre s A post) Q = M1 70 ls st (put (b + 1) pre (ou s 3 v) A post) Q := w_put (show decode kb1 67 = .ok (.putfield 58, 3) from by decide +kernel) pf1_58 put_o (Nat.succ_le_succ (Nat.zero_le _)) (by show 15 < 29; omega) rfl put_s3
theorem m1_70 : M1 70 [.val (.ref r), l1] st H Q = M1 71 [.val (.ref r), l1] (.ref r :: st) H Q := w_x (show decode kb1 70 = .ok (.aload_n 0, 1) from by decide +kernel) rfl
theorem m1_71 : M1 71 ls st H Q = M1 72 ls (.int 0 :: st) H Q := w_con (show decode kb1 71 = .ok (.iconst 0, 1) from by decide +kernel) rfl (by decide)
theorem pf1_61 : pfR tables_1 y1.cls y1.name 61 = some ("StreamSigScanner", 16, .int) := by decide +kernel
theorem m1_72 : M1 72 ls (.int v :: .ref (b + 1) :: st) (put (b + 1) pre s A post) Q = M1 75 ls st (put (b + 1) pre (ou s 4 v) A post) Q := w_put (show decode kb1 72 = .ok (.putfield 61, 3) from by decide +kernel) pf1_61 put_o (Nat.succ_le_succ (Nat.zero_le _)) (by show 16 < 29; omega) rfl put_s4
theorem m1_75 : M1 75 [.val (.ref r), l1] st H Q = M1 76 [.val (.ref r), l1] (.ref r :: st) H Q := w_x (show decode kb1 75 = .ok (.aload_n 0, 1) from by decide +kernel) rfl
theorem m1_76 : M1 76 [l0, .val (.int v)] st H Q = M1 77 [l0, .val (.int v)] (.int v :: st) H Q := w_x (show decode kb1 76 = .ok (.iload_n 1, 1) from by decide +kernel) rfl
theorem m1_77 : M1 77 ls st H Q = M1 78 ls (.int 1 :: st) H Q := w_con (show decode kb1 77 = .ok (.iconst 1, 1) from by decide +kernel) rfl (by decide)
theorem m1_78 : M1 78 ls (.int y :: .int x :: st) H Q = M1 79 ls (.int (x + y) :: st) H Q := w_x (show decode kb1 78 = .ok (.iadd, 1) from by decide +kernel) rfl
theorem pf1_55 : pfR tables_1 y1.cls y1.name 55 = some ("StreamSigScanner", 14, .int) := by decide +kernel
theorem m1_79 : M1 79 ls (.int v :: .ref (b + 1) :: st) (put (b + 1) pre s A post) Q = M1 82 ls st (put (b + 1) pre (ou s 2 v) A post) Q := w_put (show decode kb1 79 = .ok (.putfield 55, 3) from by decide +kernel) pf1_55 put_o (Nat.succ_le_succ (Nat.zero_le _)) (by show 14 < 29; omega) rfl put_s2
theorem m1_82 : M1 82 [l0, .val (.int v)] st H Q = M1 83 [l0, .val (.int v)] (.int v :: st) H Q := w_x (show decode kb1 82 = .ok (.iload_n 1, 1) from by decide +kernel) rfl
theorem m1_83 : M1 83 ls (.int z :: st) H Q = Q (some (.int z)) H := w_iret (show decode kb1 83 = .ok (.ireturn, 1) from by decide +kernel) rfl
theorem m2_0 : M2 0 [l0, .val (.int v)] st H Q = M2 1 [l0, .val (.int v)] (.int v :: st) H Q := w_x (show decode kb2 0 = .ok (.iload_n 1, 1) from by decide +kernel) rfl
theorem m2_1_0 : M2 1 ls (.int 0 :: st) H Q = M2 76 ls st H Q := w_x (show decode kb2 1 = .ok (.tableswitch 180 0 14 #[75, 80, 85, 90, 95, 100, 105, 110, 115, 120, 129, 138, 154, 170, 175], 75) from by decide +kernel) rfl
theorem m2_1_1 : M2 1 ls (.int 1 :: st) H Q = M2 81 ls st H Q := w_x (show decode kb2 1 = .ok (.tableswitch 180 0 14 #[75, 80, 85, 90, 95, 100, 105, 110, 115, 120, 129, 138, 154, 170, 175], 75) from by decide +kernel) rfl
theorem m2_1_2 : M2 1 ls (.int 2 :: st) H Q = M2 86 ls st H Q := w_x (show decode kb2 1 = .ok (.tableswitch 180 0 14 #[75, 80, 85, 90, 95, 100, 105, 110, 115, 120, 129, 138, 154, 170, 175], 75) from by decide +kernel) rfl
theorem m2_1_3 : M2 1 ls (.int 3 :: st) H Q = M2 91 ls st H Q := w_x (show decode kb2 1 = .ok (.tableswitch 180 0 14 #[75, 80, 85, 90, 95, 100, 105, 110, 115, 120, 129, 138, 154, 170, 175], 75) from by decide +kernel) rfl
theorem m2_1_4 : M2 1 ls (.int 4 :: st) H Q = M2 96 ls st H Q := w_x (show decode kb2 1 = .ok (.tableswitch 180 0 14 #[75, 80, 85, 90, 95, 100, 105, 110, 115, 120, 129, 138, 154, 170, 175], 75) from by decide +kernel) rfl
theorem m2_1_5 : M2 1 ls (.int 5 :: st) H Q = M2 101 ls st H Q := w_x (show decode kb2 1 = .ok (.tableswitch 180 0 14 #[75, 80, 85, 90, 95, 100, 105, 110, 115, 120, 129, 138, 154, 170, 175], 75) from by decide +kernel) rfl
theorem m2_1_6 : M2 1 ls (.int 6 :: st) H Q = M2 106 ls st H Q := w_x (show decode kb2 1 = .ok (.tableswitch 180 0 14 #[75, 80, 85, 90, 95, 100, 105, 110, 115, 120, 129, 138, 154, 170, 175], 75) from by decide +kernel) rfl
theorem m2_1_7 : M2 1 ls (.int 7 :: st) H Q = M2 111 ls st H Q := w_x (show decode kb2 1 = .ok (.tableswitch 180 0 14 #[75, 80, 85, 90, 95, 100, 105, 110, 115, 120, 129, 138, 154, 170, 175], 75) from by decide +kernel) rfl
theorem m2_1_8 : M2 1 ls (.int 8 :: st) H Q = M2 116 ls st H Q := w_x (show decode kb2 1 = .ok (.tableswitch 180 0 14 #[75, 80, 85, 90, 95, 100, 105, 110, 115, 120, 129, 138, 154, 170, 175], 75) from by decide +kernel) rfl
theorem m2_1_9 : M2 1 ls (.int 9 :: st) H Q = M2 121 ls st H Q := w_x (show decode kb2 1 = .ok (.tableswitch 180 0 14 #[75, 80, 85, 90, 95, 100, 105, 110, 115, 120, 129, 138, 154, 170, 175], 75) from by decide +kernel) rfl
theorem m2_1_10 : M2 1 ls (.int 10 :: st) H Q = M2 130 ls st H Q := w_x (show decode kb2 1 = .ok (.tableswitch 180 0 14 #[75, 80, 85, 90, 95, 100, 105, 110, 115, 120, 129, 138, 154, 170, 175], 75) from by decide +kernel) rfl
theorem m2_1_11 : M2 1 ls (.int 11 :: st) H Q = M2 139 ls st H Q := w_x (show decode kb2 1 = .ok (.tableswitch 180 0 14 #[75, 80, 85, 90, 95, 100, 105, 110, 115, 120, 129, 138, 154, 170, 175], 75) from by decide +kernel) rfl
theorem m2_1_12 : M2 1 ls (.int 12 :: st) H Q = M2 155 ls st H Q := w_x (show decode kb2 1 = .ok (.tableswitch 180 0 14 #[75, 80, 85, 90, 95, 100, 105, 110, 115, 120, 129, 138, 154, 170, 175], 75) from by decide +kernel) rfl
theorem m2_1_13 : M2 1 ls (.int 13 :: st) H Q = M2 171 ls st H Q := w_x (show decode kb2 1 = .ok (.tableswitch 180 0 14 #[75, 80, 85, 90, 95, 100, 105, 110, 115, 120, 129, 138, 154, 170, 175], 75) from by decide +kernel) rfl
theorem m2_1_14 : M2 1 ls (.int 14 :: st) H Q = M2 176 ls st H Q := w_x (show decode kb2 1 = .ok (.tableswitch 180 0 14 #[75, 80, 85, 90, 95, 100, 105, 110, 115, 120, 129, 138, 154, 170, 175], 75) from by decide +kernel) rfl
theorem m2_1_d (hx : x.toInt < 0 ∨ x.toInt > 14) : M2 1 ls (.int x :: st) H Q = M2 181 ls st H Q := w_x (show decode kb2 1 = .ok (.tableswitch 180 0 14 #[75, 80, 85, 90, 95, 100, 105, 110, 115, 120, 129, 138, 154, 170, 175], 75) from by decide +kernel) (by simp only [xstep, sw, hx, if_true]; rfl)
theorem m2_76 : M2 76 [.val (.ref r), l1] st H Q = M2 77 [.val (.ref r), l1] (.ref r :: st) H Q := w_x (show decode kb2 76 = .ok (.aload_n 0, 1) from by decide +kernel) rfl
theorem m2_77 : M2 77 ls (.ref (b + 1) :: st) (put (b + 1) pre s A post) Q = M2 80 ls (.int (s 7) :: st) (put (b + 1) pre s A post) Q := w_get (show decode kb2 77 = .ok (.getfield 70, 3) from by decide +kernel) gf_70 put_o rfl
theorem m2_80 : M2 80 ls (.int z :: st) H Q = Q (some (.int z)) H := w_iret (show decode kb2 80 = .ok (.ireturn, 1) from by decide +kernel) rfl
theorem m2_81 : M2 81 [.val (.ref r), l1] st H Q = M2 82 [.val (.ref r), l1] (.ref r :: st) H Q := w_x (show decode kb2 81 = .ok (.aload_n 0, 1) from by decide +kernel) rfl
theorem m2_82 : M2 82 ls (.ref (b + 1) :: st) (put (b + 1) pre s A post) Q = M2 85 ls (.int (s 8) :: st) (put (b + 1) pre s A post) Q := w_get (show decode kb2 82 = .ok (.getfield 73, 3) from by decide +kernel) gf_73 put_o rfl
theorem m2_85 : M2 85 ls (.int z :: st) H Q = Q (some (.int z)) H := w_iret (show decode kb2 85 = .ok (.ireturn, 1) from by decide +kernel) rfl
theorem m2_86 : M2 86 [.val (.ref r), l1] st H Q = M2 87 [.val (.ref r), l1] (.ref r :: st) H Q := w_x (show decode kb2 86 = .ok (.aload_n 0, 1) from by decide +kernel) rfl
theorem m2_87 : M2 87 ls (.ref (b + 1) :: st) (put (b + 1) pre s A post) Q = M2 90 ls (.int (s 9) :: st) (put (b + 1) pre s A post) Q := w_get (show decode kb2 87 = .ok (.getfield 76, 3) from by decide +kernel) gf_76 put_o rfl
theorem m2_90 : M2 90 ls (.int z :: st) H Q = Q (some (.int z)) H := w_iret (show decode kb2 90 = .ok (.ireturn, 1) from by decide +kernel) rfl
theorem m2_91 : M2 91 [.val (.ref r), l1] st H Q = M2 92 [.val (.ref r), l1] (.ref r :: st) H Q := w_x (show decode kb2 91 = .ok (.aload_n 0, 1) from by decide +kernel) rfl
theorem m2_92 : M2 92 ls (.ref (b + 1) :: st) (put (b + 1) pre s A post) Q = M2 95 ls (.int (s 10) :: st) (put (b + 1) pre s A post) Q := w_get (show decode kb2 92 = .ok (.getfield 79, 3) from by decide +kernel) gf_79 put_o rfl
theorem m2_95 : M2 95 ls (.int z :: st) H Q = Q (some (.int z)) H := w_iret (show decode kb2 95 = .ok (.ireturn, 1) from by decide +kernel) rfl
theorem m2_96 : M2 96 [.val (.ref r), l1] st H Q = M2 97 [.val (.ref r), l1] (.ref r :: st) H Q := w_x (show decode kb2 96 = .ok (.aload_n 0, 1) from by decide +kernel) rfl
theorem m2_97 : M2 97 ls (.ref (b + 1) :: st) (put (b + 1) pre s A post) Q = M2 100 ls (.int (s 11) :: st) (put (b + 1) pre s A post) Q := w_get (show decode kb2 97 = .ok (.getfield 82, 3) from by decide +kernel) gf_82 put_o rfl
theorem m2_100 : M2 100 ls (.int z :: st) H Q = Q (some (.int z)) H := w_iret (show decode kb2 100 = .ok (.ireturn, 1) from by decide +kernel) rfl
theorem m2_101 : M2 101 [.val (.ref r), l1] st H Q = M2 102 [.val (.ref r), l1] (.ref r :: st) H Q := w_x (show decode kb2 101 = .ok (.aload_n 0, 1) from by decide +kernel) rfl
theorem m2_102 : M2 102 ls (.ref (b + 1) :: st) (put (b + 1) pre s A post) Q = M2 105 ls (.int (s 16) :: st) (put (b + 1) pre s A post) Q := w_get (show decode kb2 102 = .ok (.getfield 97, 3) from by decide +kernel) gf_97 put_o rfl
theorem m2_105 : M2 105 ls (.int z :: st) H Q = Q (some (.int z)) H := w_iret (show decode kb2 105 = .ok (.ireturn, 1) from by decide +kernel) rfl
theorem m2_106 : M2 106 [.val (.ref r), l1] st H Q = M2 107 [.val (.ref r), l1] (.ref r :: st) H Q := w_x (show decode kb2 106 = .ok (.aload_n 0, 1) from by decide +kernel) rfl
theorem m2_107 : M2 107 ls (.ref (b + 1) :: st) (put (b + 1) pre s A post) Q = M2 110 ls (.int (s 2) :: st) (put (b + 1) pre s A post) Q := w_get (show decode kb2 107 = .ok (.getfield 55, 3) from by decide +kernel) gf_55 put_o rfl
theorem m2_110 : M2 110 ls (.int z :: st) H Q = Q (some (.int z)) H := w_iret (show decode kb2 110 = .ok (.ireturn, 1) from by decide +kernel) rfl
theorem m2_111 : M2 111 [.val (.ref r), l1] st H Q = M2 112 [.val (.ref r), l1] (.ref r :: st) H Q := w_x (show decode kb2 111 = .ok (.aload_n 0, 1) from by decide +kernel) rfl
theorem m2_112 : M2 112 ls (.ref (b + 1) :: st) (put (b + 1) pre s A post) Q = M2 115 ls (.int (s 3) :: st) (put (b + 1) pre s A post) Q := w_get (show decode kb2 112 = .ok (.getfield 58, 3) from by decide +kernel) gf_58 put_o rfl
theorem m2_115 : M2 115 ls (.int z :: st) H Q = Q (some (.int z)) H := w_iret (show decode kb2 115 = .ok (.ireturn, 1) from by decide +kernel) rfl
theorem m2_116 : M2 116 [.val (.ref r), l1] st H Q = M2 117 [.val (.ref r), l1] (.ref r :: st) H Q := w_x (show decode kb2 116 = .ok (.aload_n 0, 1) from by decide +kernel) rfl
theorem m2_117 : M2 117 ls (.ref (b + 1) :: st) (put (b + 1) pre s A post) Q = M2 120 ls (.int (s 4) :: st) (put (b + 1) pre s A post) Q := w_get (show decode kb2 117 = .ok (.getfield 61, 3) from by decide +kernel) gf_61 put_o rfl
theorem m2_120 : M2 120 ls (.int z :: st) H Q = Q (some (.int z)) H := w_iret (show decode kb2 120 = .ok (.ireturn, 1) from by decide +kernel) rfl
theorem m2_121 : M2 121 [.val (.ref r), l1] st H Q = M2 122 [.val (.ref r), l1] (.ref r :: st) H Q := w_x (show decode kb2 121 = .ok (.aload_n 0, 1) from by decide +kernel) rfl
theorem m2_122 : M2 122 [.val (.ref r), l1] st H Q = M2 123 [.val (.ref r), l1] (.ref r :: st) H Q := w_x (show decode kb2 122 = .ok (.aload_n 0, 1) from by decide +kernel) rfl
theorem m2_123 : M2 123 ls (.ref (b + 1) :: st) (put (b + 1) pre s A post) Q = M2 126 ls (.int (s 1) :: st) (put (b + 1) pre s A post) Q := w_get (show decode kb2 123 = .ok (.getfield 51, 3) from by decide +kernel) gf_51 put_o rfl
theorem cr2_134 : vR tables_1 dn y2 134 = some (true, y3, prog_1_method_26_code, 2, (some .int), 1, 0) := pR_of (cR_of (by decide +kernel) rc_3 dn_3 dn_2 (sig := ⟨[.boolean], some .int⟩) (by decide +kernel) (by decide +kernel) rfl rfl) (by decide +kernel) (by decide +kernel)
theorem m2_126 (a0 : Int32) : M2 126 ls [.int a0, .ref (b + 1)] (put (b + 1) pre s A post) Q = M3 0 [.val (.ref (b + 1)), .val (.int a0)] [] (put (b + 1) pre s A post) (fun v H1 => M2 129 ls (v.toList ++ []) H1 Q) := w_virt (as := [.int a0]) (rest := []) (a := (b + 1)) (show decode kb2 126 = .ok (.invokevirtual 134, 3) from by decide +kernel) cr2_134 put_o rfl rfl (Nat.le_of_ble_eq_true rfl) (by show 2 ≤ 2; omega) rfl
theorem m2_129 : M2 129 ls (.int z :: st) H Q = Q (some (.int z)) H := w_iret (show decode kb2 129 = .ok (.ireturn, 1) from by decide +kernel) rfl
theorem m2_130 : M2 130 [.val (.ref r), l1] st H Q = M2 131 [.val (.ref r), l1] (.ref r :: st) H Q := w_x (show decode kb2 130 = .ok (.aload_n 0, 1) from by decide +kernel) rfl
theorem m2_131 : M2 131 [.val (.ref r), l1] st H Q = M2 132 [.val (.ref r), l1] (.ref r :: st) H Q := w_x (show decode kb2 131 = .ok (.aload_n 0, 1) from by decide +kernel) rfl
theorem m2_132 : M2 132 ls (.ref (b + 1) :: st) (put (b + 1) pre s A post) Q = M2 135 ls (.int (s 13) :: st) (put (b + 1) pre s A post) Q := w_get (show decode kb2 132 = .ok (.getfield 88, 3) from by decide +kernel) gf_88 put_o rfl
theorem m2_135 (a0 : Int32) : M2 135 ls [.int a0, .ref (b + 1)] (put (b + 1) pre s A post) Q = M3 0 [.val (.ref (b + 1)), .val (.int a0)] [] (put (b + 1) pre s A post) (fun v H1 => M2 138 ls (v.toList ++ []) H1 Q) := w_virt (as := [.int a0]) (rest := []) (a := (b + 1)) (show decode kb2 135 = .ok (.invokevirtual 134, 3) from by decide +kernel) cr2_134 put_o rfl rfl (Nat.le_of_ble_eq_true rfl) (by show 2 ≤ 2; omega) rfl
theorem m2_138 : M2 138 ls (.int z :: st) H Q = Q (some (.int z)) H := w_iret (show decode kb2 138 = .ok (.ireturn, 1) from by decide +kernel) rfl
theorem m2_139 : M2 139 [.val (.ref r), l1] st H Q = M2 140 [.val (.ref r), l1] (.ref r :: st) H Q := w_x (show decode kb2 139 = .ok (.aload_n 0, 1) from by decide +kernel) rfl
theorem m2_140 : M2 140 ls (.ref (b + 1) :: st) (put (b + 1) pre s A post) Q = M2 143 ls (.int (s 13) :: st) (put (b + 1) pre s A post) Q := w_get (show decode kb2 140 = .ok (.getfield 88, 3) from by decide +kernel) gf_88 put_o rfl
theorem m2_143 : M2 143 ls (.int x :: st) H Q = if x = 0 then M2 153 ls st H Q else M2 146 ls st H Q := w_if (show decode kb2 143 = .ok (.ifCond .eq 10, 3) from by decide +kernel) (z_eq x) rfl
theorem m2_146 : M2 146 [.val (.ref r), l1] st H Q = M2 147 [.val (.ref r), l1] (.ref r :: st) H Q := w_x (show decode kb2 146 = .ok (.aload_n 0, 1) from by decide +kernel) rfl
theorem m2_147 : M2 147 ls (.ref (b + 1) :: st) (put (b + 1) pre s A post) Q = M2 150 ls (.int (s 14) :: st) (put (b + 1) pre s A post) Q := w_get (show decode kb2 147 = .ok (.getfield 91, 3) from by decide +kernel) gf_91 put_o rfl
theorem m2_150 : M2 150 ls st H Q = M2 154 ls st H Q := w_x (show decode kb2 150 = .ok (.goto 4, 3) from by decide +kernel) rfl
theorem m2_153 : M2 153 ls st H Q = M2 154 ls (.int (-1) :: st) H Q := w_con (show decode kb2 153 = .ok (.iconst (-1), 1) from by decide +kernel) rfl (by decide)
theorem m2_154 : M2 154 ls (.int z :: st) H Q = Q (some (.int z)) H := w_iret (show decode kb2 154 = .ok (.ireturn, 1) from by decide +kernel) rfl
theorem m2_155 : M2 155 [.val (.ref r), l1] st H Q = M2 156 [.val (.ref r), l1] (.ref r :: st) H Q := w_x (show decode kb2 155 = .ok (.aload_n 0, 1) from by decide +kernel) rfl
theorem m2_156 : M2 156 ls (.ref (b + 1) :: st) (put (b + 1) pre s A post) Q = M2 159 ls (.int (s 13) :: st) (put (b + 1) pre s A post) Q := w_get (show decode kb2 156 = .ok (.getfield 88, 3) from by decide +kernel) gf_88 put_o rfl
theorem m2_159 : M2 159 ls (.int x :: st) H Q = if x = 0 then M2 169 ls st H Q else M2 162 ls st H Q := w_if (show decode kb2 159 = .ok (.ifCond .eq 10, 3) from by decide +kernel) (z_eq x) rfl
theorem m2_162 : M2 162 [.val (.ref r), l1] st H Q = M2 163 [.val (.ref r), l1] (.ref r :: st) H Q := w_x (show decode kb2 162 = .ok (.aload_n 0, 1) from by decide +kernel) rfl
theorem m2_163 : M2 163 ls (.ref (b + 1) :: st) (put (b + 1) pre s A post) Q = M2 166 ls (.int (s 15) :: st) (put (b + 1) pre s A post) Q := w_get (show decode kb2 163 = .ok (.getfield 94, 3) from by decide +kernel) gf_94 put_o rfl
theorem m2_166 : M2 166 ls st H Q = M2 170 ls st H Q := w_x (show decode kb2 166 = .ok (.goto 4, 3) from by decide +kernel) rfl
theorem m2_169 : M2 169 ls st H Q = M2 170 ls (.int 0 :: st) H Q := w_con (show decode kb2 169 = .ok (.iconst 0, 1) from by decide +kernel) rfl (by decide)
theorem m2_170 : M2 170 ls (.int z :: st) H Q = Q (some (.int z)) H := w_iret (show decode kb2 170 = .ok (.ireturn, 1) from by decide +kernel) rfl
theorem m2_171 : M2 171 [.val (.ref r), l1] st H Q = M2 172 [.val (.ref r), l1] (.ref r :: st) H Q := w_x (show decode kb2 171 = .ok (.aload_n 0, 1) from by decide +kernel) rfl
theorem m2_172 : M2 172 ls (.ref (b + 1) :: st) (put (b + 1) pre s A post) Q = M2 175 ls (.int (s 12) :: st) (put (b + 1) pre s A post) Q := w_get (show decode kb2 172 = .ok (.getfield 85, 3) from by decide +kernel) gf_85 put_o rfl
theorem m2_175 : M2 175 ls (.int z :: st) H Q = Q (some (.int z)) H := w_iret (show decode kb2 175 = .ok (.ireturn, 1) from by decide +kernel) rfl
theorem m2_176 : M2 176 [.val (.ref r), l1] st H Q = M2 177 [.val (.ref r), l1] (.ref r :: st) H Q := w_x (show decode kb2 176 = .ok (.aload_n 0, 1) from by decide +kernel) rfl
theorem m2_177 : M2 177 ls (.ref (b + 1) :: st) (put (b + 1) pre s A post) Q = M2 180 ls (.int (s 0) :: st) (put (b + 1) pre s A post) Q := w_get (show decode kb2 177 = .ok (.getfield 47, 3) from by decide +kernel) gf_47 put_o rfl
theorem m2_180 : M2 180 ls (.int z :: st) H Q = Q (some (.int z)) H := w_iret (show decode kb2 180 = .ok (.ireturn, 1) from by decide +kernel) rfl
theorem m2_181 : M2 181 ls st H Q = M2 182 ls (.int (-1) :: st) H Q := w_con (show decode kb2 181 = .ok (.iconst (-1), 1) from by decide +kernel) rfl (by decide)
theorem m2_182 : M2 182 ls (.int z :: st) H Q = Q (some (.int z)) H := w_iret (show decode kb2 182 = .ok (.ireturn, 1) from by decide +kernel) rfl
theorem m3_0 : M3 0 [l0, .val (.int v)] st H Q = M3 1 [l0, .val (.int v)] (.int v :: st) H Q := w_x (show decode kb3 0 = .ok (.iload_n 1, 1) from by decide +kernel) rfl
theorem m3_1 : M3 1 ls (.int x :: st) H Q = if x = 0 then M3 8 ls st H Q else M3 4 ls st H Q := w_if (show decode kb3 1 = .ok (.ifCond .eq 7, 3) from by decide +kernel) (z_eq x) rfl
theorem m3_4 : M3 4 ls st H Q = M3 5 ls (.int 1 :: st) H Q := w_con (show decode kb3 4 = .ok (.iconst 1, 1) from by decide +kernel) rfl (by decide)
theorem m3_5 : M3 5 ls st H Q = M3 9 ls st H Q := w_x (show decode kb3 5 = .ok (.goto 4, 3) from by decide +kernel) rfl
theorem m3_8 : M3 8 ls st H Q = M3 9 ls (.int 0 :: st) H Q := w_con (show decode kb3 8 = .ok (.iconst 0, 1) from by decide +kernel) rfl (by decide)
theorem m3_9 : M3 9 ls (.int z :: st) H Q = Q (some (.int z)) H := w_iret (show decode kb3 9 = .ok (.ireturn, 1) from by decide +kernel) rfl
theorem m4_0 : M4 0 [.val (.ref r), l1, l2] st H Q = M4 1 [.val (.ref r), l1, l2] (.ref r :: st) H Q := w_x (show decode kb4 0 = .ok (.aload_n 0, 1) from by decide +kernel) rfl
theorem m4_1 : M4 1 ls (.ref (b + 1) :: st) (put (b + 1) pre s A post) Q = M4 4 ls (.int (s 1) :: st) (put (b + 1) pre s A post) Q := w_get (show decode kb4 1 = .ok (.getfield 51, 3) from by decide +kernel) gf_51 put_o rfl
theorem m4_4 : M4 4 ls (.int x :: st) H Q = if x = 0 then M4 9 ls st H Q else M4 7 ls st H Q := w_if (show decode kb4 4 = .ok (.ifCond .eq 5, 3) from by decide +kernel) (z_eq x) rfl
theorem m4_7 : M4 7 ls st H Q = M4 8 ls (.int (-1) :: st) H Q := w_con (show decode kb4 7 = .ok (.iconst (-1), 1) from by decide +kernel) rfl (by decide)
theorem m4_8 : M4 8 ls (.int z :: st) H Q = Q (some (.int z)) H := w_iret (show decode kb4 8 = .ok (.ireturn, 1) from by decide +kernel) rfl
theorem m4_9 : M4 9 [.val (.ref r), l1, l2] st H Q = M4 10 [.val (.ref r), l1, l2] (.ref r :: st) H Q := w_x (show decode kb4 9 = .ok (.aload_n 0, 1) from by decide +kernel) rfl
theorem m4_10 : M4 10 [l0, .val (.int v), l2] st H Q = M4 11 [l0, .val (.int v), l2] (.int v :: st) H Q := w_x (show decode kb4 10 = .ok (.iload_n 1, 1) from by decide +kernel) rfl
theorem cr4_100 : vR tables_1 dn y4 100 = some (true, y5, prog_1_method_22_code, 2, (some .boolean), 1, 0) := pR_of (cR_of (by decide +kernel) rc_5 dn_5 dn_4 (sig := ⟨[.int], some .boolean⟩) (by decide +kernel) (by decide +kernel) rfl rfl) (by decide +kernel) (by decide +kernel)
theorem m4_11 (a0 : Int32) : M4 11 ls [.int a0, .ref (b + 1)] (put (b + 1) pre s A post) Q = M5 0 [.val (.ref (b + 1)), .val (.int a0)] [] (put (b + 1) pre s A post) (fun v H1 => M4 14 ls (v.toList ++ []) H1 Q) := w_virt (as := [.int a0]) (rest := []) (a := (b + 1)) (show decode kb4 11 = .ok (.invokevirtual 100, 3) from by decide +kernel) cr4_100 put_o rfl rfl (Nat.le_of_ble_eq_true rfl) (by show 2 ≤ 2; omega) rfl
theorem m4_14 : M4 14 ls (.int x :: st) H Q = if x = 0 then M4 17 ls st H Q else M4 20 ls st H Q := w_ifN (show decode kb4 14 = .ok (.ifCond .ne 6, 3) from by decide +kernel) (z_ne x) rfl
theorem m4_17 : M4 17 ls st H Q = M4 19 ls (.int (-2) :: st) H Q := w_con (show decode kb4 17 = .ok (.bipush (-2), 2) from by decide +kernel) rfl (by decide)
theorem m4_19 : M4 19 ls (.int z :: st) H Q = Q (some (.int z)) H := w_iret (show decode kb4 19 = .ok (.ireturn, 1) from by decide +kernel) rfl
theorem m4_20 : M4 20 [.val (.ref r), l1, l2] st H Q = M4 21 [.val (.ref r), l1, l2] (.ref r :: st) H Q := w_x (show decode kb4 20 = .ok (.aload_n 0, 1) from by decide +kernel) rfl
theorem m4_21 : M4 21 ls (.ref (b + 1) :: st) (put (b + 1) pre s A post) Q = M4 24 ls (.int (s 2) :: st) (put (b + 1) pre s A post) Q := w_get (show decode kb4 21 = .ok (.getfield 55, 3) from by decide +kernel) gf_55 put_o rfl
theorem m4_24 : M4 24 ls st H Q = M4 26 ls (.int 16 :: st) H Q := w_con (show decode kb4 24 = .ok (.bipush 16, 2) from by decide +kernel) rfl (by decide)
theorem m4_26 : M4 26 ls (.int y :: .int x :: st) H Q = if x < y then M4 32 ls st H Q else M4 29 ls st H Q := w_icmp (show decode kb4 26 = .ok (.if_icmp .lt 6, 3) from by decide +kernel) (i_lt x y) rfl
theorem m4_29 : M4 29 ls st H Q = M4 31 ls (.int (-3) :: st) H Q := w_con (show decode kb4 29 = .ok (.bipush (-3), 2) from by decide +kernel) rfl (by decide)
theorem m4_31 : M4 31 ls (.int z :: st) H Q = Q (some (.int z)) H := w_iret (show decode kb4 31 = .ok (.ireturn, 1) from by decide +kernel) rfl
theorem m4_32 : M4 32 [.val (.ref r), l1, l2] st H Q = M4 33 [.val (.ref r), l1, l2] (.ref r :: st) H Q := w_x (show decode kb4 32 = .ok (.aload_n 0, 1) from by decide +kernel) rfl
theorem m4_33 : M4 33 ls (.ref (b + 1) :: st) (put (b + 1) pre s A post) Q = M4 36 ls (.int (s 4) :: st) (put (b + 1) pre s A post) Q := w_get (show decode kb4 33 = .ok (.getfield 61, 3) from by decide +kernel) gf_61 put_o rfl
theorem m4_36 : M4 36 ls st H Q = M4 38 ls (.int 16 :: st) H Q := w_con (show decode kb4 36 = .ok (.bipush 16, 2) from by decide +kernel) rfl (by decide)
theorem m4_38 : M4 38 ls (.int y :: .int x :: st) H Q = if x < y then M4 44 ls st H Q else M4 41 ls st H Q := w_icmp (show decode kb4 38 = .ok (.if_icmp .lt 6, 3) from by decide +kernel) (i_lt x y) rfl
theorem m4_41 : M4 41 ls st H Q = M4 43 ls (.int (-3) :: st) H Q := w_con (show decode kb4 41 = .ok (.bipush (-3), 2) from by decide +kernel) rfl (by decide)
theorem m4_43 : M4 43 ls (.int z :: st) H Q = Q (some (.int z)) H := w_iret (show decode kb4 43 = .ok (.ireturn, 1) from by decide +kernel) rfl
theorem m4_44 : M4 44 [.val (.ref r), l1, l2] st H Q = M4 45 [.val (.ref r), l1, l2] (.ref r :: st) H Q := w_x (show decode kb4 44 = .ok (.aload_n 0, 1) from by decide +kernel) rfl
theorem m4_45 : M4 45 ls (.ref (b + 1) :: st) (put (b + 1) pre s A post) Q = M4 48 ls (.int (s 3) :: st) (put (b + 1) pre s A post) Q := w_get (show decode kb4 45 = .ok (.getfield 58, 3) from by decide +kernel) gf_58 put_o rfl
theorem m4_48 : M4 48 [.val (.ref r), l1, l2] st H Q = M4 49 [.val (.ref r), l1, l2] (.ref r :: st) H Q := w_x (show decode kb4 48 = .ok (.aload_n 0, 1) from by decide +kernel) rfl
theorem m4_49 : M4 49 ls (.ref (b + 1) :: st) (put (b + 1) pre s A post) Q = M4 52 ls (.int (s 4) :: st) (put (b + 1) pre s A post) Q := w_get (show decode kb4 49 = .ok (.getfield 61, 3) from by decide +kernel) gf_61 put_o rfl
theorem m4_52 : M4 52 ls (.int y :: .int x :: st) H Q = M4 53 ls (.int (x + y) :: st) H Q := w_x (show decode kb4 52 = .ok (.iadd, 1) from by decide +kernel) rfl
theorem m4_53 : M4 53 ls st H Q = M4 55 ls (.int 64 :: st) H Q := w_con (show decode kb4 53 = .ok (.bipush 64, 2) from by decide +kernel) rfl (by decide)
theorem m4_55 : M4 55 ls (.int y :: .int x :: st) H Q = if x < y then M4 61 ls st H Q else M4 58 ls st H Q := w_icmp (show decode kb4 55 = .ok (.if_icmp .lt 6, 3) from by decide +kernel) (i_lt x y) rfl
theorem m4_58 : M4 58 ls st H Q = M4 60 ls (.int (-3) :: st) H Q := w_con (show decode kb4 58 = .ok (.bipush (-3), 2) from by decide +kernel) rfl (by decide)
theorem m4_60 : M4 60 ls (.int z :: st) H Q = Q (some (.int z)) H := w_iret (show decode kb4 60 = .ok (.ireturn, 1) from by decide +kernel) rfl
theorem m4_61 : M4 61 [.val (.ref r), l1, l2] st H Q = M4 62 [.val (.ref r), l1, l2] (.ref r :: st) H Q := w_x (show decode kb4 61 = .ok (.aload_n 0, 1) from by decide +kernel) rfl
theorem m4_62 : M4 62 ls (.ref (b + 1) :: st) (put (b + 1) pre s A post) Q = M4 65 ls (.int (s 3) :: st) (put (b + 1) pre s A post) Q := w_get (show decode kb4 62 = .ok (.getfield 58, 3) from by decide +kernel) gf_58 put_o rfl
theorem m4_65 : M4 65 [.val (.ref r), l1, l2] st H Q = M4 66 [.val (.ref r), l1, l2] (.ref r :: st) H Q := w_x (show decode kb4 65 = .ok (.aload_n 0, 1) from by decide +kernel) rfl
theorem m4_66 : M4 66 ls (.ref (b + 1) :: st) (put (b + 1) pre s A post) Q = M4 69 ls (.int (s 4) :: st) (put (b + 1) pre s A post) Q := w_get (show decode kb4 66 = .ok (.getfield 61, 3) from by decide +kernel) gf_61 put_o rfl
theorem m4_69 : M4 69 ls (.int y :: .int x :: st) H Q = M4 70 ls (.int (x + y) :: st) H Q := w_x (show decode kb4 69 = .ok (.iadd, 1) from by decide +kernel) rfl
theorem m4_70u : M4 70 [l0, l1, .unset] ((.int v) :: st) H Q = M4 71 [l0, l1, .val (.int v)] st H Q := w_st (i := 2) (p := isI) (show decode kb4 70 = .ok (.istore_n 2, 1) from by decide +kernel) rfl rfl rfl rfl rfl rfl
theorem m4_71 : M4 71 [l0, l1, .val (.int v)] st H Q = M4 72 [l0, l1, .val (.int v)] (.int v :: st) H Q := w_x (show decode kb4 71 = .ok (.iload_n 2, 1) from by decide +kernel) rfl
theorem m4_72 : M4 72 ls (.int x :: st) H Q = if x < 0 then M4 81 ls st H Q else M4 75 ls st H Q := w_if (show decode kb4 72 = .ok (.ifCond .lt 9, 3) from by decide +kernel) (z_lt x) rfl
theorem m4_75 : M4 75 [l0, l1, .val (.int v)] st H Q = M4 76 [l0, l1, .val (.int v)] (.int v :: st) H Q := w_x (show decode kb4 75 = .ok (.iload_n 2, 1) from by decide +kernel) rfl
theorem m4_76 : M4 76 ls st H Q = M4 78 ls (.int 64 :: st) H Q := w_con (show decode kb4 76 = .ok (.bipush 64, 2) from by decide +kernel) rfl (by decide)
theorem m4_78 : M4 78 ls (.int y :: .int x :: st) H Q = if x < y then M4 84 ls st H Q else M4 81 ls st H Q := w_icmp (show decode kb4 78 = .ok (.if_icmp .lt 6, 3) from by decide +kernel) (i_lt x y) rfl
theorem m4_81 : M4 81 ls st H Q = M4 83 ls (.int (-3) :: st) H Q := w_con (show decode kb4 81 = .ok (.bipush (-3), 2) from by decide +kernel) rfl (by decide)
theorem m4_83 : M4 83 ls (.int z :: st) H Q = Q (some (.int z)) H := w_iret (show decode kb4 83 = .ok (.ireturn, 1) from by decide +kernel) rfl
theorem m4_84 : M4 84 [.val (.ref r), l1, l2] st H Q = M4 85 [.val (.ref r), l1, l2] (.ref r :: st) H Q := w_x (show decode kb4 84 = .ok (.aload_n 0, 1) from by decide +kernel) rfl
theorem m4_85 : M4 85 ls (.ref (b + 1) :: st) (put (b + 1) pre s A post) Q = M4 88 ls (.ref ((b + 1) + 1) :: st) (put (b + 1) pre s A post) Q := w_get (show decode kb4 85 = .ok (.getfield 7, 3) from by decide +kernel) gf_7 put_o rfl
theorem m4_88 : M4 88 [l0, l1, .val (.int v)] st H Q = M4 89 [l0, l1, .val (.int v)] (.int v :: st) H Q := w_x (show decode kb4 88 = .ok (.iload_n 2, 1) from by decide +kernel) rfl
theorem m4_89 : M4 89 [l0, .val (.int v), l2] st H Q = M4 90 [l0, .val (.int v), l2] (.int v :: st) H Q := w_x (show decode kb4 89 = .ok (.iload_n 1, 1) from by decide +kernel) rfl
theorem m4_90  : M4 90 ls (.int v :: .int j :: .ref ((b + 1) + 1) :: st) (put (b + 1) pre s A post) Q = (inB j (A 0) ∧ M4 91 ls st (put (b + 1) pre s (ou A 0 (setA (A 0) j v)) post) Q) := w_ist (show decode kb4 90 = .ok (.iastore, 1) from by decide +kernel) rfl put_a0 (by omega) rfl put_w0
theorem m4_91 : M4 91 [.val (.ref r), l1, l2] st H Q = M4 92 [.val (.ref r), l1, l2] (.ref r :: st) H Q := w_x (show decode kb4 91 = .ok (.aload_n 0, 1) from by decide +kernel) rfl
theorem m4_92 : M4 92 ls ((.ref r) :: st) H Q = M4 93 ls ((.ref r) :: (.ref r) :: st) H Q := w_x (show decode kb4 92 = .ok (.dup, 1) from by decide +kernel) rfl
theorem m4_93 : M4 93 ls (.ref (b + 1) :: st) (put (b + 1) pre s A post) Q = M4 96 ls (.int (s 4) :: st) (put (b + 1) pre s A post) Q := w_get (show decode kb4 93 = .ok (.getfield 61, 3) from by decide +kernel) gf_61 put_o rfl
theorem m4_96 : M4 96 ls st H Q = M4 97 ls (.int 1 :: st) H Q := w_con (show decode kb4 96 = .ok (.iconst 1, 1) from by decide +kernel) rfl (by decide)
theorem m4_97 : M4 97 ls (.int y :: .int x :: st) H Q = M4 98 ls (.int (x + y) :: st) H Q := w_x (show decode kb4 97 = .ok (.iadd, 1) from by decide +kernel) rfl
theorem pf4_61 : pfR tables_1 y4.cls y4.name 61 = some ("StreamSigScanner", 16, .int) := by decide +kernel
theorem m4_98 : M4 98 ls (.int v :: .ref (b + 1) :: st) (put (b + 1) pre s A post) Q = M4 101 ls st (put (b + 1) pre (ou s 4 v) A post) Q := w_put (show decode kb4 98 = .ok (.putfield 61, 3) from by decide +kernel) pf4_61 put_o (Nat.succ_le_succ (Nat.zero_le _)) (by show 16 < 29; omega) rfl put_s4
theorem m4_101 : M4 101 ls st H Q = M4 102 ls (.int 0 :: st) H Q := w_con (show decode kb4 101 = .ok (.iconst 0, 1) from by decide +kernel) rfl (by decide)
theorem m4_102 : M4 102 ls (.int z :: st) H Q = Q (some (.int z)) H := w_iret (show decode kb4 102 = .ok (.ireturn, 1) from by decide +kernel) rfl
theorem m5_0 : M5 0 [l0, .val (.int v)] st H Q = M5 1 [l0, .val (.int v)] (.int v :: st) H Q := w_x (show decode kb5 0 = .ok (.iload_n 1, 1) from by decide +kernel) rfl
theorem m5_1 : M5 1 ls (.int x :: st) H Q = if x < 0 then M5 15 ls st H Q else M5 4 ls st H Q := w_if (show decode kb5 1 = .ok (.ifCond .lt 14, 3) from by decide +kernel) (z_lt x) rfl
theorem m5_4 : M5 4 [l0, .val (.int v)] st H Q = M5 5 [l0, .val (.int v)] (.int v :: st) H Q := w_x (show decode kb5 4 = .ok (.iload_n 1, 1) from by decide +kernel) rfl
theorem m5_5 : M5 5 ls st H Q = M5 8 ls (.int 255 :: st) H Q := w_con (show decode kb5 5 = .ok (.sipush 255, 3) from by decide +kernel) rfl (by decide)
theorem m5_8 : M5 8 ls (.int y :: .int x :: st) H Q = if y < x then M5 15 ls st H Q else M5 11 ls st H Q := w_icmp (show decode kb5 8 = .ok (.if_icmp .gt 7, 3) from by decide +kernel) (i_gt x y) rfl
theorem m5_11 : M5 11 ls st H Q = M5 12 ls (.int 1 :: st) H Q := w_con (show decode kb5 11 = .ok (.iconst 1, 1) from by decide +kernel) rfl (by decide)
theorem m5_12 : M5 12 ls st H Q = M5 16 ls st H Q := w_x (show decode kb5 12 = .ok (.goto 4, 3) from by decide +kernel) rfl
theorem m5_15 : M5 15 ls st H Q = M5 16 ls (.int 0 :: st) H Q := w_con (show decode kb5 15 = .ok (.iconst 0, 1) from by decide +kernel) rfl (by decide)
theorem m5_16 : M5 16 ls (.int z :: st) H Q = Q (some (.int (nar .boolean z))) H := w_iretN (show decode kb5 16 = .ok (.ireturn, 1) from by decide +kernel) rfl (by simp)
theorem m6_0 : M6 0 [.val (.ref r)] st H Q = M6 1 [.val (.ref r)] (.ref r :: st) H Q := w_x (show decode kb6 0 = .ok (.aload_n 0, 1) from by decide +kernel) rfl
theorem m6_1 : M6 1 ls (.ref (b + 1) :: st) (put (b + 1) pre s A post) Q = M6 4 ls (.int (s 1) :: st) (put (b + 1) pre s A post) Q := w_get (show decode kb6 1 = .ok (.getfield 51, 3) from by decide +kernel) gf_51 put_o rfl
theorem m6_4 : M6 4 ls (.int x :: st) H Q = if x = 0 then M6 9 ls st H Q else M6 7 ls st H Q := w_if (show decode kb6 4 = .ok (.ifCond .eq 5, 3) from by decide +kernel) (z_eq x) rfl
theorem m6_7 : M6 7 ls st H Q = M6 8 ls (.int (-1) :: st) H Q := w_con (show decode kb6 7 = .ok (.iconst (-1), 1) from by decide +kernel) rfl (by decide)
theorem m6_8 : M6 8 ls (.int z :: st) H Q = Q (some (.int z)) H := w_iret (show decode kb6 8 = .ok (.ireturn, 1) from by decide +kernel) rfl
theorem m6_9 : M6 9 [.val (.ref r)] st H Q = M6 10 [.val (.ref r)] (.ref r :: st) H Q := w_x (show decode kb6 9 = .ok (.aload_n 0, 1) from by decide +kernel) rfl
theorem m6_10 : M6 10 ls (.ref (b + 1) :: st) (put (b + 1) pre s A post) Q = M6 13 ls (.int (s 4) :: st) (put (b + 1) pre s A post) Q := w_get (show decode kb6 10 = .ok (.getfield 61, 3) from by decide +kernel) gf_61 put_o rfl
theorem m6_13 : M6 13 ls (.int x :: st) H Q = if x = 0 then M6 18 ls st H Q else M6 16 ls st H Q := w_if (show decode kb6 13 = .ok (.ifCond .eq 5, 3) from by decide +kernel) (z_eq x) rfl
theorem m6_16 : M6 16 ls st H Q = M6 17 ls (.int (-1) :: st) H Q := w_con (show decode kb6 16 = .ok (.iconst (-1), 1) from by decide +kernel) rfl (by decide)
theorem m6_17 : M6 17 ls (.int z :: st) H Q = Q (some (.int z)) H := w_iret (show decode kb6 17 = .ok (.ireturn, 1) from by decide +kernel) rfl
theorem m6_18 : M6 18 [.val (.ref r)] st H Q = M6 19 [.val (.ref r)] (.ref r :: st) H Q := w_x (show decode kb6 18 = .ok (.aload_n 0, 1) from by decide +kernel) rfl
theorem m6_19 : M6 19 ls (.ref (b + 1) :: st) (put (b + 1) pre s A post) Q = M6 22 ls (.int (s 2) :: st) (put (b + 1) pre s A post) Q := w_get (show decode kb6 19 = .ok (.getfield 55, 3) from by decide +kernel) gf_55 put_o rfl
theorem m6_22 : M6 22 ls (.int x :: st) H Q = if x = 0 then M6 25 ls st H Q else M6 28 ls st H Q := w_ifN (show decode kb6 22 = .ok (.ifCond .ne 6, 3) from by decide +kernel) (z_ne x) rfl
theorem m6_25 : M6 25 ls st H Q = M6 27 ls (.int (-4) :: st) H Q := w_con (show decode kb6 25 = .ok (.bipush (-4), 2) from by decide +kernel) rfl (by decide)
theorem m6_27 : M6 27 ls (.int z :: st) H Q = Q (some (.int z)) H := w_iret (show decode kb6 27 = .ok (.ireturn, 1) from by decide +kernel) rfl
theorem m6_28 : M6 28 [.val (.ref r)] st H Q = M6 29 [.val (.ref r)] (.ref r :: st) H Q := w_x (show decode kb6 28 = .ok (.aload_n 0, 1) from by decide +kernel) rfl
theorem cr6_104 : vR tables_1 dn y6 104 = some (true, y9, prog_1_method_5_code, 2, none, 0, 0) := pR_of (cR_of (by decide +kernel) rc_9 dn_9 dn_6 (sig := ⟨[], none⟩) (by decide +kernel) (by decide +kernel) rfl rfl) (by decide +kernel) (by decide +kernel)
theorem m6_29 : M6 29 ls [.ref (b + 1)] (put (b + 1) pre s A post) Q = M9 0 [.val (.ref (b + 1)), .unset] [] (put (b + 1) pre s A post) (fun v H1 => M6 32 ls (v.toList ++ []) H1 Q) := w_virt (as := []) (rest := []) (a := (b + 1)) (show decode kb6 29 = .ok (.invokevirtual 104, 3) from by decide +kernel) cr6_104 put_o rfl rfl (Nat.le_of_ble_eq_true rfl) (by show 1 ≤ 2; omega) rfl
theorem m6_32 : M6 32 [.val (.ref r)] st H Q = M6 33 [.val (.ref r)] (.ref r :: st) H Q := w_x (show decode kb6 32 = .ok (.aload_n 0, 1) from by decide +kernel) rfl
theorem cr6_107 : vR tables_1 dn y6 107 = some (true, y12, prog_1_method_8_code, 9, none, 0, 12) := pR_of (cR_of (by decide +kernel) rc_12 dn_12 dn_6 (sig := ⟨[], none⟩) (by decide +kernel) (by decide +kernel) rfl rfl) (by decide +kernel) (by decide +kernel)
theorem m6_33 : M6 33 ls [.ref (b + 1)] (put (b + 1) pre s A post) Q = M12 0 [.val (.ref (b + 1)), .unset, .unset, .unset, .unset, .unset, .unset, .unset, .unset] [] (put (b + 1) pre s A post) (fun v H1 => M6 36 ls (v.toList ++ []) H1 Q) := w_virt (as := []) (rest := []) (a := (b + 1)) (show decode kb6 33 = .ok (.invokevirtual 107, 3) from by decide +kernel) cr6_107 put_o rfl rfl (Nat.le_of_ble_eq_true rfl) (by show 1 ≤ 9; omega) rfl
theorem m6_36 : M6 36 [.val (.ref r)] st H Q = M6 37 [.val (.ref r)] (.ref r :: st) H Q := w_x (show decode kb6 36 = .ok (.aload_n 0, 1) from by decide +kernel) rfl
theorem m6_37 : M6 37 ls st H Q = M6 38 ls (.int 0 :: st) H Q := w_con (show decode kb6 37 = .ok (.iconst 0, 1) from by decide +kernel) rfl (by decide)
theorem pf6_67 : pfR tables_1 y6.cls y6.name 67 = some ("StreamSigScanner", 18, .int) := by decide +kernel
theorem m6_38 : M6 38 ls (.int v :: .ref (b + 1) :: st) (put (b + 1) pre s A post) Q = M6 41 ls st (put (b + 1) pre (ou s 6 v) A post) Q := w_put (show decode kb6 38 = .ok (.putfield 67, 3) from by decide +kernel) pf6_67 put_o (Nat.succ_le_succ (Nat.zero_le _)) (by show 18 < 29; omega) rfl put_s6
theorem m6_41 : M6 41 [.val (.ref r)] st H Q = M6 42 [.val (.ref r)] (.ref r :: st) H Q := w_x (show decode kb6 41 = .ok (.aload_n 0, 1) from by decide +kernel) rfl
theorem m6_42 : M6 42 ls st H Q = M6 43 ls (.int 1 :: st) H Q := w_con (show decode kb6 42 = .ok (.iconst 1, 1) from by decide +kernel) rfl (by decide)
theorem pf6_51 : pfR tables_1 y6.cls y6.name 51 = some ("StreamSigScanner", 13, .boolean) := by decide +kernel
theorem m6_43 : M6 43 ls (.int v :: .ref (b + 1) :: st) (put (b + 1) pre s A post) Q = M6 46 ls st (put (b + 1) pre (ou s 1 (nar .boolean v)) A post) Q := w_put (show decode kb6 43 = .ok (.putfield 51, 3) from by decide +kernel) pf6_51 put_o (Nat.succ_le_succ (Nat.zero_le _)) (by show 13 < 29; omega) rfl put_s1
theorem m6_46 : M6 46 ls st H Q = M6 47 ls (.int 0 :: st) H Q := w_con (show decode kb6 46 = .ok (.iconst 0, 1) from by decide +kernel) rfl (by decide)
theorem m6_47 : M6 47 ls (.int z :: st) H Q = Q (some (.int z)) H := w_iret (show decode kb6 47 = .ok (.ireturn, 1) from by decide +kernel) rfl
theorem m7_0 : M7 0 [.val (.ref r), l1] st H Q = M7 1 [.val (.ref r), l1] (.ref r :: st) H Q := w_x (show decode kb7 0 = .ok (.aload_n 0, 1) from by decide +kernel) rfl
theorem m7_1 : M7 1 [l0, .val (.int v)] st H Q = M7 2 [l0, .val (.int v)] (.int v :: st) H Q := w_x (show decode kb7 1 = .ok (.iload_n 1, 1) from by decide +kernel) rfl
theorem cr7_138 : vR tables_1 dn y7 138 = some (true, y8, prog_1_method_24_code, 2, (some .boolean), 1, 0) := pR_of (cR_of (by decide +kernel) rc_8 dn_8 dn_7 (sig := ⟨[.int], some .boolean⟩) (by decide +kernel) (by decide +kernel) rfl rfl) (by decide +kernel) (by decide +kernel)
theorem m7_2 (a0 : Int32) : M7 2 ls [.int a0, .ref (b + 1)] (put (b + 1) pre s A post) Q = M8 0 [.val (.ref (b + 1)), .val (.int a0)] [] (put (b + 1) pre s A post) (fun v H1 => M7 5 ls (v.toList ++ []) H1 Q) := w_virt (as := [.int a0]) (rest := []) (a := (b + 1)) (show decode kb7 2 = .ok (.invokevirtual 138, 3) from by decide +kernel) cr7_138 put_o rfl rfl (Nat.le_of_ble_eq_true rfl) (by show 2 ≤ 2; omega) rfl
theorem m7_5 : M7 5 ls (.int x :: st) H Q = if x = 0 then M7 8 ls st H Q else M7 10 ls st H Q := w_ifN (show decode kb7 5 = .ok (.ifCond .ne 5, 3) from by decide +kernel) (z_ne x) rfl
theorem m7_8 : M7 8 ls st H Q = M7 9 ls (.int (-1) :: st) H Q := w_con (show decode kb7 8 = .ok (.iconst (-1), 1) from by decide +kernel) rfl (by decide)
theorem m7_9 : M7 9 ls (.int z :: st) H Q = Q (some (.int z)) H := w_iret (show decode kb7 9 = .ok (.ireturn, 1) from by decide +kernel) rfl
theorem m7_10 : M7 10 [.val (.ref r), l1] st H Q = M7 11 [.val (.ref r), l1] (.ref r :: st) H Q := w_x (show decode kb7 10 = .ok (.aload_n 0, 1) from by decide +kernel) rfl
theorem m7_11 : M7 11 ls (.ref (b + 1) :: st) (put (b + 1) pre s A post) Q = M7 14 ls (.ref ((b + 1) + 3) :: st) (put (b + 1) pre s A post) Q := w_get (show decode kb7 11 = .ok (.getfield 16, 3) from by decide +kernel) gf_16 put_o rfl
theorem m7_14 : M7 14 [l0, .val (.int v)] st H Q = M7 15 [l0, .val (.int v)] (.int v :: st) H Q := w_x (show decode kb7 14 = .ok (.iload_n 1, 1) from by decide +kernel) rfl
theorem m7_15  : M7 15 ls (.int j :: .ref ((b + 1) + 3) :: st) (put (b + 1) pre s A post) Q = (inB j (A 2) ∧ M7 16 ls (.int (getA (A 2) j) :: st) (put (b + 1) pre s A post) Q) := w_ild (show decode kb7 15 = .ok (.iaload, 1) from by decide +kernel) rfl put_a2
theorem m7_16 : M7 16 ls (.int z :: st) H Q = Q (some (.int z)) H := w_iret (show decode kb7 16 = .ok (.ireturn, 1) from by decide +kernel) rfl
theorem m8_0 : M8 0 [l0, .val (.int v)] st H Q = M8 1 [l0, .val (.int v)] (.int v :: st) H Q := w_x (show decode kb8 0 = .ok (.iload_n 1, 1) from by decide +kernel) rfl
theorem m8_1 : M8 1 ls (.int x :: st) H Q = if x < 0 then M8 22 ls st H Q else M8 4 ls st H Q := w_if (show decode kb8 1 = .ok (.ifCond .lt 21, 3) from by decide +kernel) (z_lt x) rfl
theorem m8_4 : M8 4 [l0, .val (.int v)] st H Q = M8 5 [l0, .val (.int v)] (.int v :: st) H Q := w_x (show decode kb8 4 = .ok (.iload_n 1, 1) from by decide +kernel) rfl
theorem m8_5 : M8 5 [.val (.ref r), l1] st H Q = M8 6 [.val (.ref r), l1] (.ref r :: st) H Q := w_x (show decode kb8 5 = .ok (.aload_n 0, 1) from by decide +kernel) rfl
theorem m8_6 : M8 6 ls (.ref (b + 1) :: st) (put (b + 1) pre s A post) Q = M8 9 ls (.int (s 2) :: st) (put (b + 1) pre s A post) Q := w_get (show decode kb8 6 = .ok (.getfield 55, 3) from by decide +kernel) gf_55 put_o rfl
theorem m8_9 : M8 9 ls (.int y :: .int x :: st) H Q = if x < y then M8 12 ls st H Q else M8 22 ls st H Q := w_icmpN (show decode kb8 9 = .ok (.if_icmp .ge 13, 3) from by decide +kernel) (i_ge x y) rfl
theorem m8_12 : M8 12 [l0, .val (.int v)] st H Q = M8 13 [l0, .val (.int v)] (.int v :: st) H Q := w_x (show decode kb8 12 = .ok (.iload_n 1, 1) from by decide +kernel) rfl
theorem m8_13 : M8 13 ls st H Q = M8 15 ls (.int 16 :: st) H Q := w_con (show decode kb8 13 = .ok (.bipush 16, 2) from by decide +kernel) rfl (by decide)
theorem m8_15 : M8 15 ls (.int y :: .int x :: st) H Q = if x < y then M8 18 ls st H Q else M8 22 ls st H Q := w_icmpN (show decode kb8 15 = .ok (.if_icmp .ge 7, 3) from by decide +kernel) (i_ge x y) rfl
theorem m8_18 : M8 18 ls st H Q = M8 19 ls (.int 1 :: st) H Q := w_con (show decode kb8 18 = .ok (.iconst 1, 1) from by decide +kernel) rfl (by decide)
theorem m8_19 : M8 19 ls st H Q = M8 23 ls st H Q := w_x (show decode kb8 19 = .ok (.goto 4, 3) from by decide +kernel) rfl
theorem m8_22 : M8 22 ls st H Q = M8 23 ls (.int 0 :: st) H Q := w_con (show decode kb8 22 = .ok (.iconst 0, 1) from by decide +kernel) rfl (by decide)
theorem m8_23 : M8 23 ls (.int z :: st) H Q = Q (some (.int (nar .boolean z))) H := w_iretN (show decode kb8 23 = .ok (.ireturn, 1) from by decide +kernel) rfl (by simp)
theorem m9_0 : M9 0 [.val (.ref r), l1] st H Q = M9 1 [.val (.ref r), l1] (.ref r :: st) H Q := w_x (show decode kb9 0 = .ok (.aload_n 0, 1) from by decide +kernel) rfl
theorem cr9_110 : vR tables_1 dn y9 110 = some (true, y10, prog_1_method_6_code, 2, none, 0, 6) := pR_of (cR_of (by decide +kernel) rc_10 dn_10 dn_9 (sig := ⟨[], none⟩) (by decide +kernel) (by decide +kernel) rfl rfl) (by decide +kernel) (by decide +kernel)
theorem m9_1 : M9 1 ls [.ref (b + 1)] (put (b + 1) pre s A post) Q = M10 0 [.val (.ref (b + 1)), .unset] [] (put (b + 1) pre s A post) (fun v H1 => M9 4 ls (v.toList ++ []) H1 Q) := w_virt (as := []) (rest := []) (a := (b + 1)) (show decode kb9 1 = .ok (.invokevirtual 110, 3) from by decide +kernel) cr9_110 put_o rfl rfl (Nat.le_of_ble_eq_true rfl) (by show 1 ≤ 2; omega) rfl
theorem m9_4 : M9 4 [.val (.ref r), l1] st H Q = M9 5 [.val (.ref r), l1] (.ref r :: st) H Q := w_x (show decode kb9 4 = .ok (.aload_n 0, 1) from by decide +kernel) rfl
theorem m9_5 : M9 5 ls st H Q = M9 6 ls (.int 1 :: st) H Q := w_con (show decode kb9 5 = .ok (.iconst 1, 1) from by decide +kernel) rfl (by decide)
theorem pf9_64 : pfR tables_1 y9.cls y9.name 64 = some ("StreamSigScanner", 17, .int) := by decide +kernel
theorem m9_6 : M9 6 ls (.int v :: .ref (b + 1) :: st) (put (b + 1) pre s A post) Q = M9 9 ls st (put (b + 1) pre (ou s 5 v) A post) Q := w_put (show decode kb9 6 = .ok (.putfield 64, 3) from by decide +kernel) pf9_64 put_o (Nat.succ_le_succ (Nat.zero_le _)) (by show 17 < 29; omega) rfl put_s5
theorem m9_9 : M9 9 ls st H Q = M9 10 ls (.int 0 :: st) H Q := w_con (show decode kb9 9 = .ok (.iconst 0, 1) from by decide +kernel) rfl (by decide)
theorem m9_10u : M9 10 [l0, .unset] ((.int v) :: st) H Q = M9 11 [l0, .val (.int v)] st H Q := w_st (i := 1) (p := isI) (show decode kb9 10 = .ok (.istore_n 1, 1) from by decide +kernel) rfl rfl rfl rfl rfl rfl
theorem m9_11 : M9 11 [l0, .val (.int v)] st H Q = M9 12 [l0, .val (.int v)] (.int v :: st) H Q := w_x (show decode kb9 11 = .ok (.iload_n 1, 1) from by decide +kernel) rfl
theorem m9_12 : M9 12 [.val (.ref r), l1] st H Q = M9 13 [.val (.ref r), l1] (.ref r :: st) H Q := w_x (show decode kb9 12 = .ok (.aload_n 0, 1) from by decide +kernel) rfl
theorem m9_13 : M9 13 ls (.ref (b + 1) :: st) (put (b + 1) pre s A post) Q = M9 16 ls (.int (s 2) :: st) (put (b + 1) pre s A post) Q := w_get (show decode kb9 13 = .ok (.getfield 55, 3) from by decide +kernel) gf_55 put_o rfl
theorem m9_16 : M9 16 ls (.int y :: .int x :: st) H Q = if x < y then M9 19 ls st H Q else M9 36 ls st H Q := w_icmpN (show decode kb9 16 = .ok (.if_icmp .ge 20, 3) from by decide +kernel) (i_ge x y) rfl
theorem m9_19 : M9 19 [l0, .val (.int v)] st H Q = M9 20 [l0, .val (.int v)] (.int v :: st) H Q := w_x (show decode kb9 19 = .ok (.iload_n 1, 1) from by decide +kernel) rfl
theorem m9_20 : M9 20 ls st H Q = M9 22 ls (.int 16 :: st) H Q := w_con (show decode kb9 20 = .ok (.bipush 16, 2) from by decide +kernel) rfl (by decide)
theorem m9_22 : M9 22 ls (.int y :: .int x :: st) H Q = if x < y then M9 25 ls st H Q else M9 36 ls st H Q := w_icmpN (show decode kb9 22 = .ok (.if_icmp .ge 14, 3) from by decide +kernel) (i_ge x y) rfl
theorem m9_25 : M9 25 [.val (.ref r), l1] st H Q = M9 26 [.val (.ref r), l1] (.ref r :: st) H Q := w_x (show decode kb9 25 = .ok (.aload_n 0, 1) from by decide +kernel) rfl
theorem m9_26 : M9 26 [l0, .val (.int v)] st H Q = M9 27 [l0, .val (.int v)] (.int v :: st) H Q := w_x (show decode kb9 26 = .ok (.iload_n 1, 1) from by decide +kernel) rfl
theorem cr9_113 : vR tables_1 dn y9 113 = some (true, y11, prog_1_method_7_code, 8, none, 1, 0) := pR_of (cR_of (by decide +kernel) rc_11 dn_11 dn_9 (sig := ⟨[.int], none⟩) (by decide +kernel) (by decide +kernel) rfl rfl) (by decide +kernel) (by decide +kernel)
theorem m9_27 (a0 : Int32) : M9 27 ls [.int a0, .ref (b + 1)] (put (b + 1) pre s A post) Q = M11 0 [.val (.ref (b + 1)), .val (.int a0), .unset, .unset, .unset, .unset, .unset, .unset] [] (put (b + 1) pre s A post) (fun v H1 => M9 30 ls (v.toList ++ []) H1 Q) := w_virt (as := [.int a0]) (rest := []) (a := (b + 1)) (show decode kb9 27 = .ok (.invokevirtual 113, 3) from by decide +kernel) cr9_113 put_o rfl rfl (Nat.le_of_ble_eq_true rfl) (by show 2 ≤ 8; omega) rfl
theorem m9_30 : M9 30 [l0, .val (.int v)] st H Q = M9 33 [l0, .val (.int (v + 1))] st H Q := w_iinc (show decode kb9 30 = .ok (.iinc 1 1, 3) from by decide +kernel) rfl (by decide) rfl
theorem m9_33 : M9 33 ls st H Q = M9 11 ls st H Q := w_x (show decode kb9 33 = .ok (.goto (-22), 3) from by decide +kernel) rfl
theorem m9_36 : M9 36 ls [] H Q = Q none H := w_vret (show decode kb9 36 = .ok (.return_, 1) from by decide +kernel) rfl
theorem m10_0 : M10 0 ls st H Q = M10 1 ls (.int 0 :: st) H Q := w_con (show decode kb10 0 = .ok (.iconst 0, 1) from by decide +kernel) rfl (by decide)
theorem m10_1u : M10 1 [l0, .unset] ((.int v) :: st) H Q = M10 2 [l0, .val (.int v)] st H Q := w_st (i := 1) (p := isI) (show decode kb10 1 = .ok (.istore_n 1, 1) from by decide +kernel) rfl rfl rfl rfl rfl rfl
theorem m10_2 : M10 2 [l0, .val (.int v)] st H Q = M10 3 [l0, .val (.int v)] (.int v :: st) H Q := w_x (show decode kb10 2 = .ok (.iload_n 1, 1) from by decide +kernel) rfl
theorem m10_3 : M10 3 ls st H Q = M10 6 ls (.int 16640 :: st) H Q := w_con (show decode kb10 3 = .ok (.sipush 16640, 3) from by decide +kernel) rfl (by decide)
theorem m10_6 : M10 6 ls (.int y :: .int x :: st) H Q = if x < y then M10 9 ls st H Q else M10 22 ls st H Q := w_icmpN (show decode kb10 6 = .ok (.if_icmp .ge 16, 3) from by decide +kernel) (i_ge x y) rfl
theorem m10_9 : M10 9 [.val (.ref r), l1] st H Q = M10 10 [.val (.ref r), l1] (.ref r :: st) H Q := w_x (show decode kb10 9 = .ok (.aload_n 0, 1) from by decide +kernel) rfl
theorem m10_10 : M10 10 ls (.ref (b + 1) :: st) (put (b + 1) pre s A post) Q = M10 13 ls (.ref ((b + 1) + 4) :: st) (put (b + 1) pre s A post) Q := w_get (show decode kb10 10 = .ok (.getfield 19, 3) from by decide +kernel) gf_19 put_o rfl
theorem m10_13 : M10 13 [l0, .val (.int v)] st H Q = M10 14 [l0, .val (.int v)] (.int v :: st) H Q := w_x (show decode kb10 13 = .ok (.iload_n 1, 1) from by decide +kernel) rfl
theorem m10_14 : M10 14 ls st H Q = M10 15 ls (.int 0 :: st) H Q := w_con (show decode kb10 14 = .ok (.iconst 0, 1) from by decide +kernel) rfl (by decide)
theorem m10_15  : M10 15 ls (.int v :: .int j :: .ref ((b + 1) + 4) :: st) (put (b + 1) pre s A post) Q = (inB j (A 3) ∧ M10 16 ls st (put (b + 1) pre s (ou A 3 (setA (A 3) j v)) post) Q) := w_ist (show decode kb10 15 = .ok (.iastore, 1) from by decide +kernel) rfl put_a3 (by omega) rfl put_w3
theorem m10_16 : M10 16 [l0, .val (.int v)] st H Q = M10 19 [l0, .val (.int (v + 1))] st H Q := w_iinc (show decode kb10 16 = .ok (.iinc 1 1, 3) from by decide +kernel) rfl (by decide) rfl
theorem m10_19 : M10 19 ls st H Q = M10 2 ls st H Q := w_x (show decode kb10 19 = .ok (.goto (-17), 3) from by decide +kernel) rfl
theorem m10_22 : M10 22 ls st H Q = M10 23 ls (.int 0 :: st) H Q := w_con (show decode kb10 22 = .ok (.iconst 0, 1) from by decide +kernel) rfl (by decide)
theorem m10_23i : M10 23 [l0, .val (.int z)] ((.int v) :: st) H Q = M10 24 [l0, .val (.int v)] st H Q := w_st (i := 1) (p := isI) (show decode kb10 23 = .ok (.istore_n 1, 1) from by decide +kernel) rfl rfl rfl rfl rfl rfl
theorem m10_24 : M10 24 [l0, .val (.int v)] st H Q = M10 25 [l0, .val (.int v)] (.int v :: st) H Q := w_x (show decode kb10 24 = .ok (.iload_n 1, 1) from by decide +kernel) rfl
theorem m10_25 : M10 25 ls st H Q = M10 27 ls (.int 65 :: st) H Q := w_con (show decode kb10 25 = .ok (.bipush 65, 2) from by decide +kernel) rfl (by decide)
theorem m10_27 : M10 27 ls (.int y :: .int x :: st) H Q = if x < y then M10 30 ls st H Q else M10 57 ls st H Q := w_icmpN (show decode kb10 27 = .ok (.if_icmp .ge 30, 3) from by decide +kernel) (i_ge x y) rfl
theorem m10_30 : M10 30 [.val (.ref r), l1] st H Q = M10 31 [.val (.ref r), l1] (.ref r :: st) H Q := w_x (show decode kb10 30 = .ok (.aload_n 0, 1) from by decide +kernel) rfl
theorem m10_31 : M10 31 ls (.ref (b + 1) :: st) (put (b + 1) pre s A post) Q = M10 34 ls (.ref ((b + 1) + 5) :: st) (put (b + 1) pre s A post) Q := w_get (show decode kb10 31 = .ok (.getfield 22, 3) from by decide +kernel) gf_22 put_o rfl
theorem m10_34 : M10 34 [l0, .val (.int v)] st H Q = M10 35 [l0, .val (.int v)] (.int v :: st) H Q := w_x (show decode kb10 34 = .ok (.iload_n 1, 1) from by decide +kernel) rfl
theorem m10_35 : M10 35 ls st H Q = M10 36 ls (.int 0 :: st) H Q := w_con (show decode kb10 35 = .ok (.iconst 0, 1) from by decide +kernel) rfl (by decide)
theorem m10_36  : M10 36 ls (.int v :: .int j :: .ref ((b + 1) + 5) :: st) (put (b + 1) pre s A post) Q = (inB j (A 4) ∧ M10 37 ls st (put (b + 1) pre s (ou A 4 (setA (A 4) j v)) post) Q) := w_ist (show decode kb10 36 = .ok (.iastore, 1) from by decide +kernel) rfl put_a4 (by omega) rfl put_w4
theorem m10_37 : M10 37 [.val (.ref r), l1] st H Q = M10 38 [.val (.ref r), l1] (.ref r :: st) H Q := w_x (show decode kb10 37 = .ok (.aload_n 0, 1) from by decide +kernel) rfl
theorem m10_38 : M10 38 ls (.ref (b + 1) :: st) (put (b + 1) pre s A post) Q = M10 41 ls (.ref ((b + 1) + 6) :: st) (put (b + 1) pre s A post) Q := w_get (show decode kb10 38 = .ok (.getfield 25, 3) from by decide +kernel) gf_25 put_o rfl
theorem m10_41 : M10 41 [l0, .val (.int v)] st H Q = M10 42 [l0, .val (.int v)] (.int v :: st) H Q := w_x (show decode kb10 41 = .ok (.iload_n 1, 1) from by decide +kernel) rfl
theorem m10_42 : M10 42 ls st H Q = M10 43 ls (.int 0 :: st) H Q := w_con (show decode kb10 42 = .ok (.iconst 0, 1) from by decide +kernel) rfl (by decide)
theorem m10_43  : M10 43 ls (.int v :: .int j :: .ref ((b + 1) + 6) :: st) (put (b + 1) pre s A post) Q = (inB j (A 5) ∧ M10 44 ls st (put (b + 1) pre s (ou A 5 (setA (A 5) j v)) post) Q) := w_ist (show decode kb10 43 = .ok (.iastore, 1) from by decide +kernel) rfl put_a5 (by omega) rfl put_w5
theorem m10_44 : M10 44 [.val (.ref r), l1] st H Q = M10 45 [.val (.ref r), l1] (.ref r :: st) H Q := w_x (show decode kb10 44 = .ok (.aload_n 0, 1) from by decide +kernel) rfl
theorem m10_45 : M10 45 ls (.ref (b + 1) :: st) (put (b + 1) pre s A post) Q = M10 48 ls (.ref ((b + 1) + 7) :: st) (put (b + 1) pre s A post) Q := w_get (show decode kb10 45 = .ok (.getfield 28, 3) from by decide +kernel) gf_28 put_o rfl
theorem m10_48 : M10 48 [l0, .val (.int v)] st H Q = M10 49 [l0, .val (.int v)] (.int v :: st) H Q := w_x (show decode kb10 48 = .ok (.iload_n 1, 1) from by decide +kernel) rfl
theorem m10_49 : M10 49 ls st H Q = M10 50 ls (.int 0 :: st) H Q := w_con (show decode kb10 49 = .ok (.iconst 0, 1) from by decide +kernel) rfl (by decide)
theorem m10_50  : M10 50 ls (.int v :: .int j :: .ref ((b + 1) + 7) :: st) (put (b + 1) pre s A post) Q = (inB j (A 6) ∧ M10 51 ls st (put (b + 1) pre s (ou A 6 (setA (A 6) j v)) post) Q) := w_ist (show decode kb10 50 = .ok (.iastore, 1) from by decide +kernel) rfl put_a6 (by omega) rfl put_w6
theorem m10_51 : M10 51 [l0, .val (.int v)] st H Q = M10 54 [l0, .val (.int (v + 1))] st H Q := w_iinc (show decode kb10 51 = .ok (.iinc 1 1, 3) from by decide +kernel) rfl (by decide) rfl
theorem m10_54 : M10 54 ls st H Q = M10 24 ls st H Q := w_x (show decode kb10 54 = .ok (.goto (-30), 3) from by decide +kernel) rfl
theorem m10_57 : M10 57 ls [] H Q = Q none H := w_vret (show decode kb10 57 = .ok (.return_, 1) from by decide +kernel) rfl
theorem m11_0 : M11 0 [l0, .val (.int v), l2, l3, l4, l5, l6, l7] st H Q = M11 1 [l0, .val (.int v), l2, l3, l4, l5, l6, l7] (.int v :: st) H Q := w_x (show decode kb11 0 = .ok (.iload_n 1, 1) from by decide +kernel) rfl
theorem m11_1 : M11 1 ls (.int x :: st) H Q = if x < 0 then M11 10 ls st H Q else M11 4 ls st H Q := w_if (show decode kb11 1 = .ok (.ifCond .lt 9, 3) from by decide +kernel) (z_lt x) rfl
theorem m11_4 : M11 4 [l0, .val (.int v), l2, l3, l4, l5, l6, l7] st H Q = M11 5 [l0, .val (.int v), l2, l3, l4, l5, l6, l7] (.int v :: st) H Q := w_x (show decode kb11 4 = .ok (.iload_n 1, 1) from by decide +kernel) rfl
theorem m11_5 : M11 5 ls st H Q = M11 7 ls (.int 16 :: st) H Q := w_con (show decode kb11 5 = .ok (.bipush 16, 2) from by decide +kernel) rfl (by decide)
theorem m11_7 : M11 7 ls (.int y :: .int x :: st) H Q = if x < y then M11 11 ls st H Q else M11 10 ls st H Q := w_icmp (show decode kb11 7 = .ok (.if_icmp .lt 4, 3) from by decide +kernel) (i_lt x y) rfl
theorem m11_10 : M11 10 ls [] H Q = Q none H := w_vret (show decode kb11 10 = .ok (.return_, 1) from by decide +kernel) rfl
theorem m11_11 : M11 11 [.val (.ref r), l1, l2, l3, l4, l5, l6, l7] st H Q = M11 12 [.val (.ref r), l1, l2, l3, l4, l5, l6, l7] (.ref r :: st) H Q := w_x (show decode kb11 11 = .ok (.aload_n 0, 1) from by decide +kernel) rfl
theorem m11_12 : M11 12 ls (.ref (b + 1) :: st) (put (b + 1) pre s A post) Q = M11 15 ls (.ref ((b + 1) + 2) :: st) (put (b + 1) pre s A post) Q := w_get (show decode kb11 12 = .ok (.getfield 13, 3) from by decide +kernel) gf_13 put_o rfl
theorem m11_15 : M11 15 [l0, .val (.int v), l2, l3, l4, l5, l6, l7] st H Q = M11 16 [l0, .val (.int v), l2, l3, l4, l5, l6, l7] (.int v :: st) H Q := w_x (show decode kb11 15 = .ok (.iload_n 1, 1) from by decide +kernel) rfl
theorem m11_16  : M11 16 ls (.int j :: .ref ((b + 1) + 2) :: st) (put (b + 1) pre s A post) Q = (inB j (A 1) ∧ M11 17 ls (.int (getA (A 1) j) :: st) (put (b + 1) pre s A post) Q) := w_ild (show decode kb11 16 = .ok (.iaload, 1) from by decide +kernel) rfl put_a1
theorem m11_17u : M11 17 [l0, l1, .unset, l3, l4, l5, l6, l7] ((.int v) :: st) H Q = M11 18 [l0, l1, .val (.int v), l3, l4, l5, l6, l7] st H Q := w_st (i := 2) (p := isI) (show decode kb11 17 = .ok (.istore_n 2, 1) from by decide +kernel) rfl rfl rfl rfl rfl rfl
theorem m11_18 : M11 18 [.val (.ref r), l1, l2, l3, l4, l5, l6, l7] st H Q = M11 19 [.val (.ref r), l1, l2, l3, l4, l5, l6, l7] (.ref r :: st) H Q := w_x (show decode kb11 18 = .ok (.aload_n 0, 1) from by decide +kernel) rfl
theorem m11_19 : M11 19 ls (.ref (b + 1) :: st) (put (b + 1) pre s A post) Q = M11 22 ls (.ref ((b + 1) + 3) :: st) (put (b + 1) pre s A post) Q := w_get (show decode kb11 19 = .ok (.getfield 16, 3) from by decide +kernel) gf_16 put_o rfl
theorem m11_22 : M11 22 [l0, .val (.int v), l2, l3, l4, l5, l6, l7] st H Q = M11 23 [l0, .val (.int v), l2, l3, l4, l5, l6, l7] (.int v :: st) H Q := w_x (show decode kb11 22 = .ok (.iload_n 1, 1) from by decide +kernel) rfl
theorem m11_23  : M11 23 ls (.int j :: .ref ((b + 1) + 3) :: st) (put (b + 1) pre s A post) Q = (inB j (A 2) ∧ M11 24 ls (.int (getA (A 2) j) :: st) (put (b + 1) pre s A post) Q) := w_ild (show decode kb11 23 = .ok (.iaload, 1) from by decide +kernel) rfl put_a2
theorem m11_24u : M11 24 [l0, l1, l2, .unset, l4, l5, l6, l7] ((.int v) :: st) H Q = M11 25 [l0, l1, l2, .val (.int v), l4, l5, l6, l7] st H Q := w_st (i := 3) (p := isI) (show decode kb11 24 = .ok (.istore_n 3, 1) from by decide +kernel) rfl rfl rfl rfl rfl rfl
theorem m11_25 : M11 25 ls st H Q = M11 26 ls (.int 0 :: st) H Q := w_con (show decode kb11 25 = .ok (.iconst 0, 1) from by decide +kernel) rfl (by decide)
theorem m11_26u : M11 26 [l0, l1, l2, l3, .unset, l5, l6, l7] ((.int v) :: st) H Q = M11 28 [l0, l1, l2, l3, .val (.int v), l5, l6, l7] st H Q := w_st (i := 4) (p := isI) (show decode kb11 26 = .ok (.istore 4, 2) from by decide +kernel) rfl rfl rfl rfl rfl rfl
theorem m11_28 : M11 28 ls st H Q = M11 29 ls (.int 0 :: st) H Q := w_con (show decode kb11 28 = .ok (.iconst 0, 1) from by decide +kernel) rfl (by decide)
theorem m11_29u : M11 29 [l0, l1, l2, l3, l4, .unset, l6, l7] ((.int v) :: st) H Q = M11 31 [l0, l1, l2, l3, l4, .val (.int v), l6, l7] st H Q := w_st (i := 5) (p := isI) (show decode kb11 29 = .ok (.istore 5, 2) from by decide +kernel) rfl rfl rfl rfl rfl rfl
theorem m11_31 : M11 31 [l0, l1, l2, l3, l4, .val (.int v), l6, l7] st H Q = M11 33 [l0, l1, l2, l3, l4, .val (.int v), l6, l7] (.int v :: st) H Q := w_x (show decode kb11 31 = .ok (.iload 5, 2) from by decide +kernel) rfl
theorem m11_33 : M11 33 [l0, l1, l2, .val (.int v), l4, l5, l6, l7] st H Q = M11 34 [l0, l1, l2, .val (.int v), l4, l5, l6, l7] (.int v :: st) H Q := w_x (show decode kb11 33 = .ok (.iload_n 3, 1) from by decide +kernel) rfl
theorem m11_34 : M11 34 ls (.int y :: .int x :: st) H Q = if x < y then M11 37 ls st H Q else M11 149 ls st H Q := w_icmpN (show decode kb11 34 = .ok (.if_icmp .ge 115, 3) from by decide +kernel) (i_ge x y) rfl
theorem m11_37 : M11 37 [l0, l1, l2, l3, l4, .val (.int v), l6, l7] st H Q = M11 39 [l0, l1, l2, l3, l4, .val (.int v), l6, l7] (.int v :: st) H Q := w_x (show decode kb11 37 = .ok (.iload 5, 2) from by decide +kernel) rfl
theorem m11_39 : M11 39 ls st H Q = M11 41 ls (.int 16 :: st) H Q := w_con (show decode kb11 39 = .ok (.bipush 16, 2) from by decide +kernel) rfl (by decide)
theorem m11_41 : M11 41 ls (.int y :: .int x :: st) H Q = if x < y then M11 44 ls st H Q else M11 149 ls st H Q := w_icmpN (show decode kb11 41 = .ok (.if_icmp .ge 108, 3) from by decide +kernel) (i_ge x y) rfl
theorem m11_44 : M11 44 [l0, l1, .val (.int v), l3, l4, l5, l6, l7] st H Q = M11 45 [l0, l1, .val (.int v), l3, l4, l5, l6, l7] (.int v :: st) H Q := w_x (show decode kb11 44 = .ok (.iload_n 2, 1) from by decide +kernel) rfl
theorem m11_45 : M11 45 [l0, l1, l2, l3, l4, .val (.int v), l6, l7] st H Q = M11 47 [l0, l1, l2, l3, l4, .val (.int v), l6, l7] (.int v :: st) H Q := w_x (show decode kb11 45 = .ok (.iload 5, 2) from by decide +kernel) rfl
theorem m11_47 : M11 47 ls (.int y :: .int x :: st) H Q = M11 48 ls (.int (x + y) :: st) H Q := w_x (show decode kb11 47 = .ok (.iadd, 1) from by decide +kernel) rfl
theorem m11_48u : M11 48 [l0, l1, l2, l3, l4, l5, .unset, l7] ((.int v) :: st) H Q = M11 50 [l0, l1, l2, l3, l4, l5, .val (.int v), l7] st H Q := w_st (i := 6) (p := isI) (show decode kb11 48 = .ok (.istore 6, 2) from by decide +kernel) rfl rfl rfl rfl rfl rfl
theorem m11_48i : M11 48 [l0, l1, l2, l3, l4, l5, .val (.int z), l7] ((.int v) :: st) H Q = M11 50 [l0, l1, l2, l3, l4, l5, .val (.int v), l7] st H Q := w_st (i := 6) (p := isI) (show decode kb11 48 = .ok (.istore 6, 2) from by decide +kernel) rfl rfl rfl rfl rfl rfl
theorem m11_48r : M11 48 [l0, l1, l2, l3, l4, l5, .val (.ref q), l7] ((.int v) :: st) H Q = M11 50 [l0, l1, l2, l3, l4, l5, .val (.int v), l7] st H Q := w_st (i := 6) (p := isI) (show decode kb11 48 = .ok (.istore 6, 2) from by decide +kernel) rfl rfl rfl rfl rfl rfl
theorem m11_48g (h : okS l6) : M11 48 [l0, l1, l2, l3, l4, l5, l6, l7] ((.int v) :: st) H Q = M11 50 [l0, l1, l2, l3, l4, l5, .val (.int v), l7] st H Q := by rcases h with rfl | ⟨z, rfl⟩ <;> first | exact m11_48u | exact m11_48i
theorem m11_50 : M11 50 [l0, l1, l2, l3, l4, l5, .val (.int v), l7] st H Q = M11 52 [l0, l1, l2, l3, l4, l5, .val (.int v), l7] (.int v :: st) H Q := w_x (show decode kb11 50 = .ok (.iload 6, 2) from by decide +kernel) rfl
theorem m11_52 : M11 52 ls (.int x :: st) H Q = if x < 0 then M11 62 ls st H Q else M11 55 ls st H Q := w_if (show decode kb11 52 = .ok (.ifCond .lt 10, 3) from by decide +kernel) (z_lt x) rfl
theorem m11_55 : M11 55 [l0, l1, l2, l3, l4, l5, .val (.int v), l7] st H Q = M11 57 [l0, l1, l2, l3, l4, l5, .val (.int v), l7] (.int v :: st) H Q := w_x (show decode kb11 55 = .ok (.iload 6, 2) from by decide +kernel) rfl
theorem m11_57 : M11 57 ls st H Q = M11 59 ls (.int 64 :: st) H Q := w_con (show decode kb11 57 = .ok (.bipush 64, 2) from by decide +kernel) rfl (by decide)
theorem m11_59 : M11 59 ls (.int y :: .int x :: st) H Q = if x < y then M11 63 ls st H Q else M11 62 ls st H Q := w_icmp (show decode kb11 59 = .ok (.if_icmp .lt 4, 3) from by decide +kernel) (i_lt x y) rfl
theorem m11_62 : M11 62 ls [] H Q = Q none H := w_vret (show decode kb11 62 = .ok (.return_, 1) from by decide +kernel) rfl
theorem m11_63 : M11 63 [l0, l1, l2, l3, .val (.int v), l5, l6, l7] st H Q = M11 65 [l0, l1, l2, l3, .val (.int v), l5, l6, l7] (.int v :: st) H Q := w_x (show decode kb11 63 = .ok (.iload 4, 2) from by decide +kernel) rfl
theorem m11_65 : M11 65 ls st H Q = M11 68 ls (.int 256 :: st) H Q := w_con (show decode kb11 65 = .ok (.sipush 256, 3) from by decide +kernel) rfl (by decide)
theorem m11_68 : M11 68 ls (.int y :: .int x :: st) H Q = M11 69 ls (.int (x * y) :: st) H Q := w_x (show decode kb11 68 = .ok (.imul, 1) from by decide +kernel) rfl
theorem m11_69 : M11 69 [.val (.ref r), l1, l2, l3, l4, l5, l6, l7] st H Q = M11 70 [.val (.ref r), l1, l2, l3, l4, l5, l6, l7] (.ref r :: st) H Q := w_x (show decode kb11 69 = .ok (.aload_n 0, 1) from by decide +kernel) rfl
theorem m11_70 : M11 70 ls (.ref (b + 1) :: st) (put (b + 1) pre s A post) Q = M11 73 ls (.ref ((b + 1) + 1) :: st) (put (b + 1) pre s A post) Q := w_get (show decode kb11 70 = .ok (.getfield 7, 3) from by decide +kernel) gf_7 put_o rfl
theorem m11_73 : M11 73 [l0, l1, l2, l3, l4, l5, .val (.int v), l7] st H Q = M11 75 [l0, l1, l2, l3, l4, l5, .val (.int v), l7] (.int v :: st) H Q := w_x (show decode kb11 73 = .ok (.iload 6, 2) from by decide +kernel) rfl
theorem m11_75  : M11 75 ls (.int j :: .ref ((b + 1) + 1) :: st) (put (b + 1) pre s A post) Q = (inB j (A 0) ∧ M11 76 ls (.int (getA (A 0) j) :: st) (put (b + 1) pre s A post) Q) := w_ild (show decode kb11 75 = .ok (.iaload, 1) from by decide +kernel) rfl put_a0
theorem m11_76 : M11 76 ls (.int y :: .int x :: st) H Q = M11 77 ls (.int (x + y) :: st) H Q := w_x (show decode kb11 76 = .ok (.iadd, 1) from by decide +kernel) rfl
theorem m11_77u : M11 77 [l0, l1, l2, l3, l4, l5, l6, .unset] ((.int v) :: st) H Q = M11 79 [l0, l1, l2, l3, l4, l5, l6, .val (.int v)] st H Q := w_st (i := 7) (p := isI) (show decode kb11 77 = .ok (.istore 7, 2) from by decide +kernel) rfl rfl rfl rfl rfl rfl
theorem m11_77i : M11 77 [l0, l1, l2, l3, l4, l5, l6, .val (.int z)] ((.int v) :: st) H Q = M11 79 [l0, l1, l2, l3, l4, l5, l6, .val (.int v)] st H Q := w_st (i := 7) (p := isI) (show decode kb11 77 = .ok (.istore 7, 2) from by decide +kernel) rfl rfl rfl rfl rfl rfl
theorem m11_77r : M11 77 [l0, l1, l2, l3, l4, l5, l6, .val (.ref q)] ((.int v) :: st) H Q = M11 79 [l0, l1, l2, l3, l4, l5, l6, .val (.int v)] st H Q := w_st (i := 7) (p := isI) (show decode kb11 77 = .ok (.istore 7, 2) from by decide +kernel) rfl rfl rfl rfl rfl rfl
theorem m11_77g (h : okS l7) : M11 77 [l0, l1, l2, l3, l4, l5, l6, l7] ((.int v) :: st) H Q = M11 79 [l0, l1, l2, l3, l4, l5, l6, .val (.int v)] st H Q := by rcases h with rfl | ⟨z, rfl⟩ <;> first | exact m11_77u | exact m11_77i
theorem m11_79 : M11 79 [l0, l1, l2, l3, l4, l5, l6, .val (.int v)] st H Q = M11 81 [l0, l1, l2, l3, l4, l5, l6, .val (.int v)] (.int v :: st) H Q := w_x (show decode kb11 79 = .ok (.iload 7, 2) from by decide +kernel) rfl
theorem m11_81 : M11 81 ls (.int x :: st) H Q = if x < 0 then M11 92 ls st H Q else M11 84 ls st H Q := w_if (show decode kb11 81 = .ok (.ifCond .lt 11, 3) from by decide +kernel) (z_lt x) rfl
theorem m11_84 : M11 84 [l0, l1, l2, l3, l4, l5, l6, .val (.int v)] st H Q = M11 86 [l0, l1, l2, l3, l4, l5, l6, .val (.int v)] (.int v :: st) H Q := w_x (show decode kb11 84 = .ok (.iload 7, 2) from by decide +kernel) rfl
theorem m11_86 : M11 86 ls st H Q = M11 89 ls (.int 16640 :: st) H Q := w_con (show decode kb11 86 = .ok (.sipush 16640, 3) from by decide +kernel) rfl (by decide)
theorem m11_89 : M11 89 ls (.int y :: .int x :: st) H Q = if x < y then M11 93 ls st H Q else M11 92 ls st H Q := w_icmp (show decode kb11 89 = .ok (.if_icmp .lt 4, 3) from by decide +kernel) (i_lt x y) rfl
theorem m11_92 : M11 92 ls [] H Q = Q none H := w_vret (show decode kb11 92 = .ok (.return_, 1) from by decide +kernel) rfl
theorem m11_93 : M11 93 [.val (.ref r), l1, l2, l3, l4, l5, l6, l7] st H Q = M11 94 [.val (.ref r), l1, l2, l3, l4, l5, l6, l7] (.ref r :: st) H Q := w_x (show decode kb11 93 = .ok (.aload_n 0, 1) from by decide +kernel) rfl
theorem m11_94 : M11 94 ls (.ref (b + 1) :: st) (put (b + 1) pre s A post) Q = M11 97 ls (.ref ((b + 1) + 4) :: st) (put (b + 1) pre s A post) Q := w_get (show decode kb11 94 = .ok (.getfield 19, 3) from by decide +kernel) gf_19 put_o rfl
theorem m11_97 : M11 97 [l0, l1, l2, l3, l4, l5, l6, .val (.int v)] st H Q = M11 99 [l0, l1, l2, l3, l4, l5, l6, .val (.int v)] (.int v :: st) H Q := w_x (show decode kb11 97 = .ok (.iload 7, 2) from by decide +kernel) rfl
theorem m11_99  : M11 99 ls (.int j :: .ref ((b + 1) + 4) :: st) (put (b + 1) pre s A post) Q = (inB j (A 3) ∧ M11 100 ls (.int (getA (A 3) j) :: st) (put (b + 1) pre s A post) Q) := w_ild (show decode kb11 99 = .ok (.iaload, 1) from by decide +kernel) rfl put_a3
theorem m11_100 : M11 100 ls (.int x :: st) H Q = if x = 0 then M11 103 ls st H Q else M11 134 ls st H Q := w_ifN (show decode kb11 100 = .ok (.ifCond .ne 34, 3) from by decide +kernel) (z_ne x) rfl
theorem m11_103 : M11 103 [.val (.ref r), l1, l2, l3, l4, l5, l6, l7] st H Q = M11 104 [.val (.ref r), l1, l2, l3, l4, l5, l6, l7] (.ref r :: st) H Q := w_x (show decode kb11 103 = .ok (.aload_n 0, 1) from by decide +kernel) rfl
theorem m11_104 : M11 104 ls (.ref (b + 1) :: st) (put (b + 1) pre s A post) Q = M11 107 ls (.int (s 5) :: st) (put (b + 1) pre s A post) Q := w_get (show decode kb11 104 = .ok (.getfield 64, 3) from by decide +kernel) gf_64 put_o rfl
theorem m11_107 : M11 107 ls st H Q = M11 109 ls (.int 65 :: st) H Q := w_con (show decode kb11 107 = .ok (.bipush 65, 2) from by decide +kernel) rfl (by decide)
theorem m11_109 : M11 109 ls (.int y :: .int x :: st) H Q = if x < y then M11 113 ls st H Q else M11 112 ls st H Q := w_icmp (show decode kb11 109 = .ok (.if_icmp .lt 4, 3) from by decide +kernel) (i_lt x y) rfl
theorem m11_112 : M11 112 ls [] H Q = Q none H := w_vret (show decode kb11 112 = .ok (.return_, 1) from by decide +kernel) rfl
theorem m11_113 : M11 113 [.val (.ref r), l1, l2, l3, l4, l5, l6, l7] st H Q = M11 114 [.val (.ref r), l1, l2, l3, l4, l5, l6, l7] (.ref r :: st) H Q := w_x (show decode kb11 113 = .ok (.aload_n 0, 1) from by decide +kernel) rfl
theorem m11_114 : M11 114 ls (.ref (b + 1) :: st) (put (b + 1) pre s A post) Q = M11 117 ls (.ref ((b + 1) + 4) :: st) (put (b + 1) pre s A post) Q := w_get (show decode kb11 114 = .ok (.getfield 19, 3) from by decide +kernel) gf_19 put_o rfl
theorem m11_117 : M11 117 [l0, l1, l2, l3, l4, l5, l6, .val (.int v)] st H Q = M11 119 [l0, l1, l2, l3, l4, l5, l6, .val (.int v)] (.int v :: st) H Q := w_x (show decode kb11 117 = .ok (.iload 7, 2) from by decide +kernel) rfl
theorem m11_119 : M11 119 [.val (.ref r), l1, l2, l3, l4, l5, l6, l7] st H Q = M11 120 [.val (.ref r), l1, l2, l3, l4, l5, l6, l7] (.ref r :: st) H Q := w_x (show decode kb11 119 = .ok (.aload_n 0, 1) from by decide +kernel) rfl
theorem m11_120 : M11 120 ls (.ref (b + 1) :: st) (put (b + 1) pre s A post) Q = M11 123 ls (.int (s 5) :: st) (put (b + 1) pre s A post) Q := w_get (show decode kb11 120 = .ok (.getfield 64, 3) from by decide +kernel) gf_64 put_o rfl
theorem m11_123  : M11 123 ls (.int v :: .int j :: .ref ((b + 1) + 4) :: st) (put (b + 1) pre s A post) Q = (inB j (A 3) ∧ M11 124 ls st (put (b + 1) pre s (ou A 3 (setA (A 3) j v)) post) Q) := w_ist (show decode kb11 123 = .ok (.iastore, 1) from by decide +kernel) rfl put_a3 (by omega) rfl put_w3
theorem m11_124 : M11 124 [.val (.ref r), l1, l2, l3, l4, l5, l6, l7] st H Q = M11 125 [.val (.ref r), l1, l2, l3, l4, l5, l6, l7] (.ref r :: st) H Q := w_x (show decode kb11 124 = .ok (.aload_n 0, 1) from by decide +kernel) rfl
theorem m11_125 : M11 125 ls ((.ref r) :: st) H Q = M11 126 ls ((.ref r) :: (.ref r) :: st) H Q := w_x (show decode kb11 125 = .ok (.dup, 1) from by decide +kernel) rfl
theorem m11_126 : M11 126 ls (.ref (b + 1) :: st) (put (b + 1) pre s A post) Q = M11 129 ls (.int (s 5) :: st) (put (b + 1) pre s A post) Q := w_get (show decode kb11 126 = .ok (.getfield 64, 3) from by decide +kernel) gf_64 put_o rfl
theorem m11_129 : M11 129 ls st H Q = M11 130 ls (.int 1 :: st) H Q := w_con (show decode kb11 129 = .ok (.iconst 1, 1) from by decide +kernel) rfl (by decide)
theorem m11_130 : M11 130 ls (.int y :: .int x :: st) H Q = M11 131 ls (.int (x + y) :: st) H Q := w_x (show decode kb11 130 = .ok (.iadd, 1) from by decide +kernel) rfl
theorem pf11_64 : pfR tables_1 y11.cls y11.name 64 = some ("StreamSigScanner", 17, .int) := by decide +kernel
theorem m11_131 : M11 131 ls (.int v :: .ref (b + 1) :: st) (put (b + 1) pre s A post) Q = M11 134 ls st (put (b + 1) pre (ou s 5 v) A post) Q := w_put (show decode kb11 131 = .ok (.putfield 64, 3) from by decide +kernel) pf11_64 put_o (Nat.succ_le_succ (Nat.zero_le _)) (by show 17 < 29; omega) rfl put_s5
theorem m11_134 : M11 134 [.val (.ref r), l1, l2, l3, l4, l5, l6, l7] st H Q = M11 135 [.val (.ref r), l1, l2, l3, l4, l5, l6, l7] (.ref r :: st) H Q := w_x (show decode kb11 134 = .ok (.aload_n 0, 1) from by decide +kernel) rfl
theorem m11_135 : M11 135 ls (.ref (b + 1) :: st) (put (b + 1) pre s A post) Q = M11 138 ls (.ref ((b + 1) + 4) :: st) (put (b + 1) pre s A post) Q := w_get (show decode kb11 135 = .ok (.getfield 19, 3) from by decide +kernel) gf_19 put_o rfl
theorem m11_138 : M11 138 [l0, l1, l2, l3, l4, l5, l6, .val (.int v)] st H Q = M11 140 [l0, l1, l2, l3, l4, l5, l6, .val (.int v)] (.int v :: st) H Q := w_x (show decode kb11 138 = .ok (.iload 7, 2) from by decide +kernel) rfl
theorem m11_140  : M11 140 ls (.int j :: .ref ((b + 1) + 4) :: st) (put (b + 1) pre s A post) Q = (inB j (A 3) ∧ M11 141 ls (.int (getA (A 3) j) :: st) (put (b + 1) pre s A post) Q) := w_ild (show decode kb11 140 = .ok (.iaload, 1) from by decide +kernel) rfl put_a3
theorem m11_141i : M11 141 [l0, l1, l2, l3, .val (.int z), l5, l6, l7] ((.int v) :: st) H Q = M11 143 [l0, l1, l2, l3, .val (.int v), l5, l6, l7] st H Q := w_st (i := 4) (p := isI) (show decode kb11 141 = .ok (.istore 4, 2) from by decide +kernel) rfl rfl rfl rfl rfl rfl
theorem m11_143 : M11 143 [l0, l1, l2, l3, l4, .val (.int v), l6, l7] st H Q = M11 146 [l0, l1, l2, l3, l4, .val (.int (v + 1)), l6, l7] st H Q := w_iinc (show decode kb11 143 = .ok (.iinc 5 1, 3) from by decide +kernel) rfl (by decide) rfl
theorem m11_146 : M11 146 ls st H Q = M11 31 ls st H Q := w_x (show decode kb11 146 = .ok (.goto (-115), 3) from by decide +kernel) rfl
theorem m11_149 : M11 149 [l0, l1, l2, l3, .val (.int v), l5, l6, l7] st H Q = M11 151 [l0, l1, l2, l3, .val (.int v), l5, l6, l7] (.int v :: st) H Q := w_x (show decode kb11 149 = .ok (.iload 4, 2) from by decide +kernel) rfl
theorem m11_151 : M11 151 ls (.int x :: st) H Q = if x < 0 then M11 174 ls st H Q else M11 154 ls st H Q := w_if (show decode kb11 151 = .ok (.ifCond .lt 23, 3) from by decide +kernel) (z_lt x) rfl
theorem m11_154 : M11 154 [l0, l1, l2, l3, .val (.int v), l5, l6, l7] st H Q = M11 156 [l0, l1, l2, l3, .val (.int v), l5, l6, l7] (.int v :: st) H Q := w_x (show decode kb11 154 = .ok (.iload 4, 2) from by decide +kernel) rfl
theorem m11_156 : M11 156 ls st H Q = M11 158 ls (.int 65 :: st) H Q := w_con (show decode kb11 156 = .ok (.bipush 65, 2) from by decide +kernel) rfl (by decide)
theorem m11_158 : M11 158 ls (.int y :: .int x :: st) H Q = if x < y then M11 161 ls st H Q else M11 174 ls st H Q := w_icmpN (show decode kb11 158 = .ok (.if_icmp .ge 16, 3) from by decide +kernel) (i_ge x y) rfl
theorem m11_161 : M11 161 [.val (.ref r), l1, l2, l3, l4, l5, l6, l7] st H Q = M11 162 [.val (.ref r), l1, l2, l3, l4, l5, l6, l7] (.ref r :: st) H Q := w_x (show decode kb11 161 = .ok (.aload_n 0, 1) from by decide +kernel) rfl
theorem m11_162 : M11 162 ls (.ref (b + 1) :: st) (put (b + 1) pre s A post) Q = M11 165 ls (.ref ((b + 1) + 6) :: st) (put (b + 1) pre s A post) Q := w_get (show decode kb11 162 = .ok (.getfield 25, 3) from by decide +kernel) gf_25 put_o rfl
theorem m11_165 : M11 165 [l0, l1, l2, l3, .val (.int v), l5, l6, l7] st H Q = M11 167 [l0, l1, l2, l3, .val (.int v), l5, l6, l7] (.int v :: st) H Q := w_x (show decode kb11 165 = .ok (.iload 4, 2) from by decide +kernel) rfl
theorem m11_167 : M11 167 ls (.int x :: .ref q :: st) H Q = M11 168 ls (.int x :: .ref q :: .int x :: .ref q :: st) H Q := w_x (show decode kb11 167 = .ok (.dup2, 1) from by decide +kernel) rfl
theorem m11_168  : M11 168 ls (.int j :: .ref ((b + 1) + 6) :: st) (put (b + 1) pre s A post) Q = (inB j (A 5) ∧ M11 169 ls (.int (getA (A 5) j) :: st) (put (b + 1) pre s A post) Q) := w_ild (show decode kb11 168 = .ok (.iaload, 1) from by decide +kernel) rfl put_a5
theorem m11_169 : M11 169 ls st H Q = M11 170 ls (.int 1 :: st) H Q := w_con (show decode kb11 169 = .ok (.iconst 1, 1) from by decide +kernel) rfl (by decide)
theorem m11_170 : M11 170 [l0, .val (.int v), l2, l3, l4, l5, l6, l7] st H Q = M11 171 [l0, .val (.int v), l2, l3, l4, l5, l6, l7] (.int v :: st) H Q := w_x (show decode kb11 170 = .ok (.iload_n 1, 1) from by decide +kernel) rfl
theorem m11_171 : M11 171 ls (.int y :: .int x :: st) H Q = M11 172 ls (.int (x <<< (y &&& 31)) :: st) H Q := w_x (show decode kb11 171 = .ok (.ishl, 1) from by decide +kernel) rfl
theorem m11_172 : M11 172 ls (.int y :: .int x :: st) H Q = M11 173 ls (.int (x ||| y) :: st) H Q := w_x (show decode kb11 172 = .ok (.ior, 1) from by decide +kernel) rfl
theorem m11_173  : M11 173 ls (.int v :: .int j :: .ref ((b + 1) + 6) :: st) (put (b + 1) pre s A post) Q = (inB j (A 5) ∧ M11 174 ls st (put (b + 1) pre s (ou A 5 (setA (A 5) j v)) post) Q) := w_ist (show decode kb11 173 = .ok (.iastore, 1) from by decide +kernel) rfl put_a5 (by omega) rfl put_w5
theorem m11_174 : M11 174 ls [] H Q = Q none H := w_vret (show decode kb11 174 = .ok (.return_, 1) from by decide +kernel) rfl
theorem m12_0 : M12 0 ls st H Q = M12 1 ls (.int 0 :: st) H Q := w_con (show decode kb12 0 = .ok (.iconst 0, 1) from by decide +kernel) rfl (by decide)
theorem m12_1u : M12 1 [l0, .unset, l2, l3, l4, l5, l6, l7, l8] ((.int v) :: st) H Q = M12 2 [l0, .val (.int v), l2, l3, l4, l5, l6, l7, l8] st H Q := w_st (i := 1) (p := isI) (show decode kb12 1 = .ok (.istore_n 1, 1) from by decide +kernel) rfl rfl rfl rfl rfl rfl
theorem m12_2 : M12 2 ls st H Q = M12 3 ls (.int 0 :: st) H Q := w_con (show decode kb12 2 = .ok (.iconst 0, 1) from by decide +kernel) rfl (by decide)
theorem m12_3u : M12 3 [l0, l1, .unset, l3, l4, l5, l6, l7, l8] ((.int v) :: st) H Q = M12 4 [l0, l1, .val (.int v), l3, l4, l5, l6, l7, l8] st H Q := w_st (i := 2) (p := isI) (show decode kb12 3 = .ok (.istore_n 2, 1) from by decide +kernel) rfl rfl rfl rfl rfl rfl
theorem m12_4 : M12 4 [l0, l1, .val (.int v), l3, l4, l5, l6, l7, l8] st H Q = M12 5 [l0, l1, .val (.int v), l3, l4, l5, l6, l7, l8] (.int v :: st) H Q := w_x (show decode kb12 4 = .ok (.iload_n 2, 1) from by decide +kernel) rfl
theorem m12_5 : M12 5 ls st H Q = M12 8 ls (.int 256 :: st) H Q := w_con (show decode kb12 5 = .ok (.sipush 256, 3) from by decide +kernel) rfl (by decide)
theorem m12_8 : M12 8 ls (.int y :: .int x :: st) H Q = if x < y then M12 11 ls st H Q else M12 57 ls st H Q := w_icmpN (show decode kb12 8 = .ok (.if_icmp .ge 49, 3) from by decide +kernel) (i_ge x y) rfl
theorem m12_11 : M12 11 [.val (.ref r), l1, l2, l3, l4, l5, l6, l7, l8] st H Q = M12 12 [.val (.ref r), l1, l2, l3, l4, l5, l6, l7, l8] (.ref r :: st) H Q := w_x (show decode kb12 11 = .ok (.aload_n 0, 1) from by decide +kernel) rfl
theorem m12_12 : M12 12 ls (.ref (b + 1) :: st) (put (b + 1) pre s A post) Q = M12 15 ls (.ref ((b + 1) + 4) :: st) (put (b + 1) pre s A post) Q := w_get (show decode kb12 12 = .ok (.getfield 19, 3) from by decide +kernel) gf_19 put_o rfl
theorem m12_15 : M12 15 [l0, l1, .val (.int v), l3, l4, l5, l6, l7, l8] st H Q = M12 16 [l0, l1, .val (.int v), l3, l4, l5, l6, l7, l8] (.int v :: st) H Q := w_x (show decode kb12 15 = .ok (.iload_n 2, 1) from by decide +kernel) rfl
theorem m12_16  : M12 16 ls (.int j :: .ref ((b + 1) + 4) :: st) (put (b + 1) pre s A post) Q = (inB j (A 3) ∧ M12 17 ls (.int (getA (A 3) j) :: st) (put (b + 1) pre s A post) Q) := w_ild (show decode kb12 16 = .ok (.iaload, 1) from by decide +kernel) rfl put_a3
theorem m12_17u : M12 17 [l0, l1, l2, .unset, l4, l5, l6, l7, l8] ((.int v) :: st) H Q = M12 18 [l0, l1, l2, .val (.int v), l4, l5, l6, l7, l8] st H Q := w_st (i := 3) (p := isI) (show decode kb12 17 = .ok (.istore_n 3, 1) from by decide +kernel) rfl rfl rfl rfl rfl rfl
theorem m12_17i : M12 17 [l0, l1, l2, .val (.int z), l4, l5, l6, l7, l8] ((.int v) :: st) H Q = M12 18 [l0, l1, l2, .val (.int v), l4, l5, l6, l7, l8] st H Q := w_st (i := 3) (p := isI) (show decode kb12 17 = .ok (.istore_n 3, 1) from by decide +kernel) rfl rfl rfl rfl rfl rfl
theorem m12_17r : M12 17 [l0, l1, l2, .val (.ref q), l4, l5, l6, l7, l8] ((.int v) :: st) H Q = M12 18 [l0, l1, l2, .val (.int v), l4, l5, l6, l7, l8] st H Q := w_st (i := 3) (p := isI) (show decode kb12 17 = .ok (.istore_n 3, 1) from by decide +kernel) rfl rfl rfl rfl rfl rfl
theorem m12_17g (h : okS l3) : M12 17 [l0, l1, l2, l3, l4, l5, l6, l7, l8] ((.int v) :: st) H Q = M12 18 [l0, l1, l2, .val (.int v), l4, l5, l6, l7, l8] st H Q := by rcases h with rfl | ⟨z, rfl⟩ <;> first | exact m12_17u | exact m12_17i
theorem m12_18 : M12 18 [l0, l1, l2, .val (.int v), l4, l5, l6, l7, l8] st H Q = M12 19 [l0, l1, l2, .val (.int v), l4, l5, l6, l7, l8] (.int v :: st) H Q := w_x (show decode kb12 18 = .ok (.iload_n 3, 1) from by decide +kernel) rfl
theorem m12_19 : M12 19 ls (.int x :: st) H Q = if 0 < x then M12 22 ls st H Q else M12 51 ls st H Q := w_ifN (show decode kb12 19 = .ok (.ifCond .le 32, 3) from by decide +kernel) (z_le x) rfl
theorem m12_22 : M12 22 [l0, l1, l2, .val (.int v), l4, l5, l6, l7, l8] st H Q = M12 23 [l0, l1, l2, .val (.int v), l4, l5, l6, l7, l8] (.int v :: st) H Q := w_x (show decode kb12 22 = .ok (.iload_n 3, 1) from by decide +kernel) rfl
theorem m12_23 : M12 23 ls st H Q = M12 25 ls (.int 65 :: st) H Q := w_con (show decode kb12 23 = .ok (.bipush 65, 2) from by decide +kernel) rfl (by decide)
theorem m12_25 : M12 25 ls (.int y :: .int x :: st) H Q = if x < y then M12 28 ls st H Q else M12 51 ls st H Q := w_icmpN (show decode kb12 25 = .ok (.if_icmp .ge 26, 3) from by decide +kernel) (i_ge x y) rfl
theorem m12_28 : M12 28 [l0, .val (.int v), l2, l3, l4, l5, l6, l7, l8] st H Q = M12 29 [l0, .val (.int v), l2, l3, l4, l5, l6, l7, l8] (.int v :: st) H Q := w_x (show decode kb12 28 = .ok (.iload_n 1, 1) from by decide +kernel) rfl
theorem m12_29 : M12 29 ls st H Q = M12 31 ls (.int 65 :: st) H Q := w_con (show decode kb12 29 = .ok (.bipush 65, 2) from by decide +kernel) rfl (by decide)
theorem m12_31 : M12 31 ls (.int y :: .int x :: st) H Q = if x < y then M12 34 ls st H Q else M12 51 ls st H Q := w_icmpN (show decode kb12 31 = .ok (.if_icmp .ge 20, 3) from by decide +kernel) (i_ge x y) rfl
theorem m12_34 : M12 34 [.val (.ref r), l1, l2, l3, l4, l5, l6, l7, l8] st H Q = M12 35 [.val (.ref r), l1, l2, l3, l4, l5, l6, l7, l8] (.ref r :: st) H Q := w_x (show decode kb12 34 = .ok (.aload_n 0, 1) from by decide +kernel) rfl
theorem m12_35 : M12 35 ls (.ref (b + 1) :: st) (put (b + 1) pre s A post) Q = M12 38 ls (.ref ((b + 1) + 5) :: st) (put (b + 1) pre s A post) Q := w_get (show decode kb12 35 = .ok (.getfield 22, 3) from by decide +kernel) gf_22 put_o rfl
theorem m12_38 : M12 38 [l0, l1, l2, .val (.int v), l4, l5, l6, l7, l8] st H Q = M12 39 [l0, l1, l2, .val (.int v), l4, l5, l6, l7, l8] (.int v :: st) H Q := w_x (show decode kb12 38 = .ok (.iload_n 3, 1) from by decide +kernel) rfl
theorem m12_39 : M12 39 ls st H Q = M12 40 ls (.int 0 :: st) H Q := w_con (show decode kb12 39 = .ok (.iconst 0, 1) from by decide +kernel) rfl (by decide)
theorem m12_40  : M12 40 ls (.int v :: .int j :: .ref ((b + 1) + 5) :: st) (put (b + 1) pre s A post) Q = (inB j (A 4) ∧ M12 41 ls st (put (b + 1) pre s (ou A 4 (setA (A 4) j v)) post) Q) := w_ist (show decode kb12 40 = .ok (.iastore, 1) from by decide +kernel) rfl put_a4 (by omega) rfl put_w4
theorem m12_41 : M12 41 [.val (.ref r), l1, l2, l3, l4, l5, l6, l7, l8] st H Q = M12 42 [.val (.ref r), l1, l2, l3, l4, l5, l6, l7, l8] (.ref r :: st) H Q := w_x (show decode kb12 41 = .ok (.aload_n 0, 1) from by decide +kernel) rfl
theorem m12_42 : M12 42 ls (.ref (b + 1) :: st) (put (b + 1) pre s A post) Q = M12 45 ls (.ref ((b + 1) + 7) :: st) (put (b + 1) pre s A post) Q := w_get (show decode kb12 42 = .ok (.getfield 28, 3) from by decide +kernel) gf_28 put_o rfl
theorem m12_45 : M12 45 [l0, .val (.int v), l2, l3, l4, l5, l6, l7, l8] st H Q = M12 46 [l0, .val (.int v), l2, l3, l4, l5, l6, l7, l8] (.int v :: st) H Q := w_x (show decode kb12 45 = .ok (.iload_n 1, 1) from by decide +kernel) rfl
theorem m12_46 : M12 46 [l0, l1, l2, .val (.int v), l4, l5, l6, l7, l8] st H Q = M12 47 [l0, l1, l2, .val (.int v), l4, l5, l6, l7, l8] (.int v :: st) H Q := w_x (show decode kb12 46 = .ok (.iload_n 3, 1) from by decide +kernel) rfl
theorem m12_47  : M12 47 ls (.int v :: .int j :: .ref ((b + 1) + 7) :: st) (put (b + 1) pre s A post) Q = (inB j (A 6) ∧ M12 48 ls st (put (b + 1) pre s (ou A 6 (setA (A 6) j v)) post) Q) := w_ist (show decode kb12 47 = .ok (.iastore, 1) from by decide +kernel) rfl put_a6 (by omega) rfl put_w6
theorem m12_48 : M12 48 [l0, .val (.int v), l2, l3, l4, l5, l6, l7, l8] st H Q = M12 51 [l0, .val (.int (v + 1)), l2, l3, l4, l5, l6, l7, l8] st H Q := w_iinc (show decode kb12 48 = .ok (.iinc 1 1, 3) from by decide +kernel) rfl (by decide) rfl
theorem m12_51 : M12 51 [l0, l1, .val (.int v), l3, l4, l5, l6, l7, l8] st H Q = M12 54 [l0, l1, .val (.int (v + 1)), l3, l4, l5, l6, l7, l8] st H Q := w_iinc (show decode kb12 51 = .ok (.iinc 2 1, 3) from by decide +kernel) rfl (by decide) rfl
theorem m12_54 : M12 54 ls st H Q = M12 4 ls st H Q := w_x (show decode kb12 54 = .ok (.goto (-50), 3) from by decide +kernel) rfl
theorem m12_57 : M12 57 ls st H Q = M12 58 ls (.int 0 :: st) H Q := w_con (show decode kb12 57 = .ok (.iconst 0, 1) from by decide +kernel) rfl (by decide)
theorem m12_58i : M12 58 [l0, l1, .val (.int z), l3, l4, l5, l6, l7, l8] ((.int v) :: st) H Q = M12 59 [l0, l1, .val (.int v), l3, l4, l5, l6, l7, l8] st H Q := w_st (i := 2) (p := isI) (show decode kb12 58 = .ok (.istore_n 2, 1) from by decide +kernel) rfl rfl rfl rfl rfl rfl
theorem m12_59 : M12 59 [l0, l1, .val (.int v), l3, l4, l5, l6, l7, l8] st H Q = M12 60 [l0, l1, .val (.int v), l3, l4, l5, l6, l7, l8] (.int v :: st) H Q := w_x (show decode kb12 59 = .ok (.iload_n 2, 1) from by decide +kernel) rfl
theorem m12_60 : M12 60 [l0, .val (.int v), l2, l3, l4, l5, l6, l7, l8] st H Q = M12 61 [l0, .val (.int v), l2, l3, l4, l5, l6, l7, l8] (.int v :: st) H Q := w_x (show decode kb12 60 = .ok (.iload_n 1, 1) from by decide +kernel) rfl
theorem m12_61 : M12 61 ls (.int y :: .int x :: st) H Q = if x < y then M12 64 ls st H Q else M12 237 ls st H Q := w_icmpN (show decode kb12 61 = .ok (.if_icmp .ge 176, 3) from by decide +kernel) (i_ge x y) rfl
theorem m12_64 : M12 64 [l0, l1, .val (.int v), l3, l4, l5, l6, l7, l8] st H Q = M12 65 [l0, l1, .val (.int v), l3, l4, l5, l6, l7, l8] (.int v :: st) H Q := w_x (show decode kb12 64 = .ok (.iload_n 2, 1) from by decide +kernel) rfl
theorem m12_65 : M12 65 ls st H Q = M12 67 ls (.int 65 :: st) H Q := w_con (show decode kb12 65 = .ok (.bipush 65, 2) from by decide +kernel) rfl (by decide)
theorem m12_67 : M12 67 ls (.int y :: .int x :: st) H Q = if x < y then M12 70 ls st H Q else M12 237 ls st H Q := w_icmpN (show decode kb12 67 = .ok (.if_icmp .ge 170, 3) from by decide +kernel) (i_ge x y) rfl
theorem m12_70 : M12 70 [.val (.ref r), l1, l2, l3, l4, l5, l6, l7, l8] st H Q = M12 71 [.val (.ref r), l1, l2, l3, l4, l5, l6, l7, l8] (.ref r :: st) H Q := w_x (show decode kb12 70 = .ok (.aload_n 0, 1) from by decide +kernel) rfl
theorem m12_71 : M12 71 ls (.ref (b + 1) :: st) (put (b + 1) pre s A post) Q = M12 74 ls (.ref ((b + 1) + 7) :: st) (put (b + 1) pre s A post) Q := w_get (show decode kb12 71 = .ok (.getfield 28, 3) from by decide +kernel) gf_28 put_o rfl
theorem m12_74 : M12 74 [l0, l1, .val (.int v), l3, l4, l5, l6, l7, l8] st H Q = M12 75 [l0, l1, .val (.int v), l3, l4, l5, l6, l7, l8] (.int v :: st) H Q := w_x (show decode kb12 74 = .ok (.iload_n 2, 1) from by decide +kernel) rfl
theorem m12_75  : M12 75 ls (.int j :: .ref ((b + 1) + 7) :: st) (put (b + 1) pre s A post) Q = (inB j (A 6) ∧ M12 76 ls (.int (getA (A 6) j) :: st) (put (b + 1) pre s A post) Q) := w_ild (show decode kb12 75 = .ok (.iaload, 1) from by decide +kernel) rfl put_a6
theorem m12_76u : M12 76 [l0, l1, l2, .unset, l4, l5, l6, l7, l8] ((.int v) :: st) H Q = M12 77 [l0, l1, l2, .val (.int v), l4, l5, l6, l7, l8] st H Q := w_st (i := 3) (p := isI) (show decode kb12 76 = .ok (.istore_n 3, 1) from by decide +kernel) rfl rfl rfl rfl rfl rfl
theorem m12_76i : M12 76 [l0, l1, l2, .val (.int z), l4, l5, l6, l7, l8] ((.int v) :: st) H Q = M12 77 [l0, l1, l2, .val (.int v), l4, l5, l6, l7, l8] st H Q := w_st (i := 3) (p := isI) (show decode kb12 76 = .ok (.istore_n 3, 1) from by decide +kernel) rfl rfl rfl rfl rfl rfl
theorem m12_76r : M12 76 [l0, l1, l2, .val (.ref q), l4, l5, l6, l7, l8] ((.int v) :: st) H Q = M12 77 [l0, l1, l2, .val (.int v), l4, l5, l6, l7, l8] st H Q := w_st (i := 3) (p := isI) (show decode kb12 76 = .ok (.istore_n 3, 1) from by decide +kernel) rfl rfl rfl rfl rfl rfl
theorem m12_76g (h : okS l3) : M12 76 [l0, l1, l2, l3, l4, l5, l6, l7, l8] ((.int v) :: st) H Q = M12 77 [l0, l1, l2, .val (.int v), l4, l5, l6, l7, l8] st H Q := by rcases h with rfl | ⟨z, rfl⟩ <;> first | exact m12_76u | exact m12_76i
theorem m12_77 : M12 77 [l0, l1, .val (.int v), l3, l4, l5, l6, l7, l8] st H Q = M12 80 [l0, l1, .val (.int (v + 1)), l3, l4, l5, l6, l7, l8] st H Q := w_iinc (show decode kb12 77 = .ok (.iinc 2 1, 3) from by decide +kernel) rfl (by decide) rfl
theorem m12_80 : M12 80 [l0, l1, l2, .val (.int v), l4, l5, l6, l7, l8] st H Q = M12 81 [l0, l1, l2, .val (.int v), l4, l5, l6, l7, l8] (.int v :: st) H Q := w_x (show decode kb12 80 = .ok (.iload_n 3, 1) from by decide +kernel) rfl
theorem m12_81 : M12 81 ls (.int x :: st) H Q = if 0 < x then M12 84 ls st H Q else M12 59 ls st H Q := w_ifN (show decode kb12 81 = .ok (.ifCond .le (-22), 3) from by decide +kernel) (z_le x) rfl
theorem m12_84 : M12 84 [l0, l1, l2, .val (.int v), l4, l5, l6, l7, l8] st H Q = M12 85 [l0, l1, l2, .val (.int v), l4, l5, l6, l7, l8] (.int v :: st) H Q := w_x (show decode kb12 84 = .ok (.iload_n 3, 1) from by decide +kernel) rfl
theorem m12_85 : M12 85 ls st H Q = M12 87 ls (.int 65 :: st) H Q := w_con (show decode kb12 85 = .ok (.bipush 65, 2) from by decide +kernel) rfl (by decide)
theorem m12_87 : M12 87 ls (.int y :: .int x :: st) H Q = if x < y then M12 93 ls st H Q else M12 90 ls st H Q := w_icmp (show decode kb12 87 = .ok (.if_icmp .lt 6, 3) from by decide +kernel) (i_lt x y) rfl
theorem m12_90 : M12 90 ls st H Q = M12 59 ls st H Q := w_x (show decode kb12 90 = .ok (.goto (-31), 3) from by decide +kernel) rfl
theorem m12_93 : M12 93 [.val (.ref r), l1, l2, l3, l4, l5, l6, l7, l8] st H Q = M12 94 [.val (.ref r), l1, l2, l3, l4, l5, l6, l7, l8] (.ref r :: st) H Q := w_x (show decode kb12 93 = .ok (.aload_n 0, 1) from by decide +kernel) rfl
theorem m12_94 : M12 94 ls (.ref (b + 1) :: st) (put (b + 1) pre s A post) Q = M12 97 ls (.ref ((b + 1) + 5) :: st) (put (b + 1) pre s A post) Q := w_get (show decode kb12 94 = .ok (.getfield 22, 3) from by decide +kernel) gf_22 put_o rfl
theorem m12_97 : M12 97 [l0, l1, l2, .val (.int v), l4, l5, l6, l7, l8] st H Q = M12 98 [l0, l1, l2, .val (.int v), l4, l5, l6, l7, l8] (.int v :: st) H Q := w_x (show decode kb12 97 = .ok (.iload_n 3, 1) from by decide +kernel) rfl
theorem m12_98  : M12 98 ls (.int j :: .ref ((b + 1) + 5) :: st) (put (b + 1) pre s A post) Q = (inB j (A 4) ∧ M12 99 ls (.int (getA (A 4) j) :: st) (put (b + 1) pre s A post) Q) := w_ild (show decode kb12 98 = .ok (.iaload, 1) from by decide +kernel) rfl put_a4
theorem m12_99u : M12 99 [l0, l1, l2, l3, .unset, l5, l6, l7, l8] ((.int v) :: st) H Q = M12 101 [l0, l1, l2, l3, .val (.int v), l5, l6, l7, l8] st H Q := w_st (i := 4) (p := isI) (show decode kb12 99 = .ok (.istore 4, 2) from by decide +kernel) rfl rfl rfl rfl rfl rfl
theorem m12_99i : M12 99 [l0, l1, l2, l3, .val (.int z), l5, l6, l7, l8] ((.int v) :: st) H Q = M12 101 [l0, l1, l2, l3, .val (.int v), l5, l6, l7, l8] st H Q := w_st (i := 4) (p := isI) (show decode kb12 99 = .ok (.istore 4, 2) from by decide +kernel) rfl rfl rfl rfl rfl rfl
theorem m12_99r : M12 99 [l0, l1, l2, l3, .val (.ref q), l5, l6, l7, l8] ((.int v) :: st) H Q = M12 101 [l0, l1, l2, l3, .val (.int v), l5, l6, l7, l8] st H Q := w_st (i := 4) (p := isI) (show decode kb12 99 = .ok (.istore 4, 2) from by decide +kernel) rfl rfl rfl rfl rfl rfl
theorem m12_99g (h : okS l4) : M12 99 [l0, l1, l2, l3, l4, l5, l6, l7, l8] ((.int v) :: st) H Q = M12 101 [l0, l1, l2, l3, .val (.int v), l5, l6, l7, l8] st H Q := by rcases h with rfl | ⟨z, rfl⟩ <;> first | exact m12_99u | exact m12_99i
theorem m12_101 : M12 101 [l0, l1, l2, l3, .val (.int v), l5, l6, l7, l8] st H Q = M12 103 [l0, l1, l2, l3, .val (.int v), l5, l6, l7, l8] (.int v :: st) H Q := w_x (show decode kb12 101 = .ok (.iload 4, 2) from by decide +kernel) rfl
theorem m12_103 : M12 103 ls (.int x :: st) H Q = if x < 0 then M12 113 ls st H Q else M12 106 ls st H Q := w_if (show decode kb12 103 = .ok (.ifCond .lt 10, 3) from by decide +kernel) (z_lt x) rfl
theorem m12_106 : M12 106 [l0, l1, l2, l3, .val (.int v), l5, l6, l7, l8] st H Q = M12 108 [l0, l1, l2, l3, .val (.int v), l5, l6, l7, l8] (.int v :: st) H Q := w_x (show decode kb12 106 = .ok (.iload 4, 2) from by decide +kernel) rfl
theorem m12_108 : M12 108 ls st H Q = M12 110 ls (.int 65 :: st) H Q := w_con (show decode kb12 108 = .ok (.bipush 65, 2) from by decide +kernel) rfl (by decide)
theorem m12_110 : M12 110 ls (.int y :: .int x :: st) H Q = if x < y then M12 116 ls st H Q else M12 113 ls st H Q := w_icmp (show decode kb12 110 = .ok (.if_icmp .lt 6, 3) from by decide +kernel) (i_lt x y) rfl
theorem m12_113 : M12 113 ls st H Q = M12 114 ls (.int 0 :: st) H Q := w_con (show decode kb12 113 = .ok (.iconst 0, 1) from by decide +kernel) rfl (by decide)
theorem m12_114i : M12 114 [l0, l1, l2, l3, .val (.int z), l5, l6, l7, l8] ((.int v) :: st) H Q = M12 116 [l0, l1, l2, l3, .val (.int v), l5, l6, l7, l8] st H Q := w_st (i := 4) (p := isI) (show decode kb12 114 = .ok (.istore 4, 2) from by decide +kernel) rfl rfl rfl rfl rfl rfl
theorem m12_116 : M12 116 [.val (.ref r), l1, l2, l3, l4, l5, l6, l7, l8] st H Q = M12 117 [.val (.ref r), l1, l2, l3, l4, l5, l6, l7, l8] (.ref r :: st) H Q := w_x (show decode kb12 116 = .ok (.aload_n 0, 1) from by decide +kernel) rfl
theorem m12_117 : M12 117 ls (.ref (b + 1) :: st) (put (b + 1) pre s A post) Q = M12 120 ls (.ref ((b + 1) + 6) :: st) (put (b + 1) pre s A post) Q := w_get (show decode kb12 117 = .ok (.getfield 25, 3) from by decide +kernel) gf_25 put_o rfl
theorem m12_120 : M12 120 [l0, l1, l2, .val (.int v), l4, l5, l6, l7, l8] st H Q = M12 121 [l0, l1, l2, .val (.int v), l4, l5, l6, l7, l8] (.int v :: st) H Q := w_x (show decode kb12 120 = .ok (.iload_n 3, 1) from by decide +kernel) rfl
theorem m12_121 : M12 121 ls (.int x :: .ref q :: st) H Q = M12 122 ls (.int x :: .ref q :: .int x :: .ref q :: st) H Q := w_x (show decode kb12 121 = .ok (.dup2, 1) from by decide +kernel) rfl
theorem m12_122  : M12 122 ls (.int j :: .ref ((b + 1) + 6) :: st) (put (b + 1) pre s A post) Q = (inB j (A 5) ∧ M12 123 ls (.int (getA (A 5) j) :: st) (put (b + 1) pre s A post) Q) := w_ild (show decode kb12 122 = .ok (.iaload, 1) from by decide +kernel) rfl put_a5
theorem m12_123 : M12 123 [.val (.ref r), l1, l2, l3, l4, l5, l6, l7, l8] st H Q = M12 124 [.val (.ref r), l1, l2, l3, l4, l5, l6, l7, l8] (.ref r :: st) H Q := w_x (show decode kb12 123 = .ok (.aload_n 0, 1) from by decide +kernel) rfl
theorem m12_124 : M12 124 ls (.ref (b + 1) :: st) (put (b + 1) pre s A post) Q = M12 127 ls (.ref ((b + 1) + 6) :: st) (put (b + 1) pre s A post) Q := w_get (show decode kb12 124 = .ok (.getfield 25, 3) from by decide +kernel) gf_25 put_o rfl
theorem m12_127 : M12 127 [l0, l1, l2, l3, .val (.int v), l5, l6, l7, l8] st H Q = M12 129 [l0, l1, l2, l3, .val (.int v), l5, l6, l7, l8] (.int v :: st) H Q := w_x (show decode kb12 127 = .ok (.iload 4, 2) from by decide +kernel) rfl
theorem m12_129  : M12 129 ls (.int j :: .ref ((b + 1) + 6) :: st) (put (b + 1) pre s A post) Q = (inB j (A 5) ∧ M12 130 ls (.int (getA (A 5) j) :: st) (put (b + 1) pre s A post) Q) := w_ild (show decode kb12 129 = .ok (.iaload, 1) from by decide +kernel) rfl put_a5
theorem m12_130 : M12 130 ls (.int y :: .int x :: st) H Q = M12 131 ls (.int (x ||| y) :: st) H Q := w_x (show decode kb12 130 = .ok (.ior, 1) from by decide +kernel) rfl
theorem m12_131  : M12 131 ls (.int v :: .int j :: .ref ((b + 1) + 6) :: st) (put (b + 1) pre s A post) Q = (inB j (A 5) ∧ M12 132 ls st (put (b + 1) pre s (ou A 5 (setA (A 5) j v)) post) Q) := w_ist (show decode kb12 131 = .ok (.iastore, 1) from by decide +kernel) rfl put_a5 (by omega) rfl put_w5
theorem m12_132 : M12 132 ls st H Q = M12 133 ls (.int 0 :: st) H Q := w_con (show decode kb12 132 = .ok (.iconst 0, 1) from by decide +kernel) rfl (by decide)
theorem m12_133u : M12 133 [l0, l1, l2, l3, l4, .unset, l6, l7, l8] ((.int v) :: st) H Q = M12 135 [l0, l1, l2, l3, l4, .val (.int v), l6, l7, l8] st H Q := w_st (i := 5) (p := isI) (show decode kb12 133 = .ok (.istore 5, 2) from by decide +kernel) rfl rfl rfl rfl rfl rfl
theorem m12_133i : M12 133 [l0, l1, l2, l3, l4, .val (.int z), l6, l7, l8] ((.int v) :: st) H Q = M12 135 [l0, l1, l2, l3, l4, .val (.int v), l6, l7, l8] st H Q := w_st (i := 5) (p := isI) (show decode kb12 133 = .ok (.istore 5, 2) from by decide +kernel) rfl rfl rfl rfl rfl rfl
theorem m12_133r : M12 133 [l0, l1, l2, l3, l4, .val (.ref q), l6, l7, l8] ((.int v) :: st) H Q = M12 135 [l0, l1, l2, l3, l4, .val (.int v), l6, l7, l8] st H Q := w_st (i := 5) (p := isI) (show decode kb12 133 = .ok (.istore 5, 2) from by decide +kernel) rfl rfl rfl rfl rfl rfl
theorem m12_133g (h : okS l5) : M12 133 [l0, l1, l2, l3, l4, l5, l6, l7, l8] ((.int v) :: st) H Q = M12 135 [l0, l1, l2, l3, l4, .val (.int v), l6, l7, l8] st H Q := by rcases h with rfl | ⟨z, rfl⟩ <;> first | exact m12_133u | exact m12_133i
theorem m12_135 : M12 135 [l0, l1, l2, l3, l4, .val (.int v), l6, l7, l8] st H Q = M12 137 [l0, l1, l2, l3, l4, .val (.int v), l6, l7, l8] (.int v :: st) H Q := w_x (show decode kb12 135 = .ok (.iload 5, 2) from by decide +kernel) rfl
theorem m12_137 : M12 137 ls st H Q = M12 140 ls (.int 256 :: st) H Q := w_con (show decode kb12 137 = .ok (.sipush 256, 3) from by decide +kernel) rfl (by decide)
theorem m12_140 : M12 140 ls (.int y :: .int x :: st) H Q = if x < y then M12 143 ls st H Q else M12 234 ls st H Q := w_icmpN (show decode kb12 140 = .ok (.if_icmp .ge 94, 3) from by decide +kernel) (i_ge x y) rfl
theorem m12_143 : M12 143 [l0, l1, l2, .val (.int v), l4, l5, l6, l7, l8] st H Q = M12 144 [l0, l1, l2, .val (.int v), l4, l5, l6, l7, l8] (.int v :: st) H Q := w_x (show decode kb12 143 = .ok (.iload_n 3, 1) from by decide +kernel) rfl
theorem m12_144 : M12 144 ls st H Q = M12 147 ls (.int 256 :: st) H Q := w_con (show decode kb12 144 = .ok (.sipush 256, 3) from by decide +kernel) rfl (by decide)
theorem m12_147 : M12 147 ls (.int y :: .int x :: st) H Q = M12 148 ls (.int (x * y) :: st) H Q := w_x (show decode kb12 147 = .ok (.imul, 1) from by decide +kernel) rfl
theorem m12_148 : M12 148 [l0, l1, l2, l3, l4, .val (.int v), l6, l7, l8] st H Q = M12 150 [l0, l1, l2, l3, l4, .val (.int v), l6, l7, l8] (.int v :: st) H Q := w_x (show decode kb12 148 = .ok (.iload 5, 2) from by decide +kernel) rfl
theorem m12_150 : M12 150 ls (.int y :: .int x :: st) H Q = M12 151 ls (.int (x + y) :: st) H Q := w_x (show decode kb12 150 = .ok (.iadd, 1) from by decide +kernel) rfl
theorem m12_151u : M12 151 [l0, l1, l2, l3, l4, l5, .unset, l7, l8] ((.int v) :: st) H Q = M12 153 [l0, l1, l2, l3, l4, l5, .val (.int v), l7, l8] st H Q := w_st (i := 6) (p := isI) (show decode kb12 151 = .ok (.istore 6, 2) from by decide +kernel) rfl rfl rfl rfl rfl rfl
theorem m12_151i : M12 151 [l0, l1, l2, l3, l4, l5, .val (.int z), l7, l8] ((.int v) :: st) H Q = M12 153 [l0, l1, l2, l3, l4, l5, .val (.int v), l7, l8] st H Q := w_st (i := 6) (p := isI) (show decode kb12 151 = .ok (.istore 6, 2) from by decide +kernel) rfl rfl rfl rfl rfl rfl
theorem m12_151r : M12 151 [l0, l1, l2, l3, l4, l5, .val (.ref q), l7, l8] ((.int v) :: st) H Q = M12 153 [l0, l1, l2, l3, l4, l5, .val (.int v), l7, l8] st H Q := w_st (i := 6) (p := isI) (show decode kb12 151 = .ok (.istore 6, 2) from by decide +kernel) rfl rfl rfl rfl rfl rfl
theorem m12_151g (h : okS l6) : M12 151 [l0, l1, l2, l3, l4, l5, l6, l7, l8] ((.int v) :: st) H Q = M12 153 [l0, l1, l2, l3, l4, l5, .val (.int v), l7, l8] st H Q := by rcases h with rfl | ⟨z, rfl⟩ <;> first | exact m12_151u | exact m12_151i
theorem m12_153 : M12 153 [.val (.ref r), l1, l2, l3, l4, l5, l6, l7, l8] st H Q = M12 154 [.val (.ref r), l1, l2, l3, l4, l5, l6, l7, l8] (.ref r :: st) H Q := w_x (show decode kb12 153 = .ok (.aload_n 0, 1) from by decide +kernel) rfl
theorem m12_154 : M12 154 ls (.ref (b + 1) :: st) (put (b + 1) pre s A post) Q = M12 157 ls (.ref ((b + 1) + 4) :: st) (put (b + 1) pre s A post) Q := w_get (show decode kb12 154 = .ok (.getfield 19, 3) from by decide +kernel) gf_19 put_o rfl
theorem m12_157 : M12 157 [l0, l1, l2, l3, .val (.int v), l5, l6, l7, l8] st H Q = M12 159 [l0, l1, l2, l3, .val (.int v), l5, l6, l7, l8] (.int v :: st) H Q := w_x (show decode kb12 157 = .ok (.iload 4, 2) from by decide +kernel) rfl
theorem m12_159 : M12 159 ls st H Q = M12 162 ls (.int 256 :: st) H Q := w_con (show decode kb12 159 = .ok (.sipush 256, 3) from by decide +kernel) rfl (by decide)
theorem m12_162 : M12 162 ls (.int y :: .int x :: st) H Q = M12 163 ls (.int (x * y) :: st) H Q := w_x (show decode kb12 162 = .ok (.imul, 1) from by decide +kernel) rfl
theorem m12_163 : M12 163 [l0, l1, l2, l3, l4, .val (.int v), l6, l7, l8] st H Q = M12 165 [l0, l1, l2, l3, l4, .val (.int v), l6, l7, l8] (.int v :: st) H Q := w_x (show decode kb12 163 = .ok (.iload 5, 2) from by decide +kernel) rfl
theorem m12_165 : M12 165 ls (.int y :: .int x :: st) H Q = M12 166 ls (.int (x + y) :: st) H Q := w_x (show decode kb12 165 = .ok (.iadd, 1) from by decide +kernel) rfl
theorem m12_166  : M12 166 ls (.int j :: .ref ((b + 1) + 4) :: st) (put (b + 1) pre s A post) Q = (inB j (A 3) ∧ M12 167 ls (.int (getA (A 3) j) :: st) (put (b + 1) pre s A post) Q) := w_ild (show decode kb12 166 = .ok (.iaload, 1) from by decide +kernel) rfl put_a3
theorem m12_167u : M12 167 [l0, l1, l2, l3, l4, l5, l6, .unset, l8] ((.int v) :: st) H Q = M12 169 [l0, l1, l2, l3, l4, l5, l6, .val (.int v), l8] st H Q := w_st (i := 7) (p := isI) (show decode kb12 167 = .ok (.istore 7, 2) from by decide +kernel) rfl rfl rfl rfl rfl rfl
theorem m12_167i : M12 167 [l0, l1, l2, l3, l4, l5, l6, .val (.int z), l8] ((.int v) :: st) H Q = M12 169 [l0, l1, l2, l3, l4, l5, l6, .val (.int v), l8] st H Q := w_st (i := 7) (p := isI) (show decode kb12 167 = .ok (.istore 7, 2) from by decide +kernel) rfl rfl rfl rfl rfl rfl
theorem m12_167r : M12 167 [l0, l1, l2, l3, l4, l5, l6, .val (.ref q), l8] ((.int v) :: st) H Q = M12 169 [l0, l1, l2, l3, l4, l5, l6, .val (.int v), l8] st H Q := w_st (i := 7) (p := isI) (show decode kb12 167 = .ok (.istore 7, 2) from by decide +kernel) rfl rfl rfl rfl rfl rfl
theorem m12_167g (h : okS l7) : M12 167 [l0, l1, l2, l3, l4, l5, l6, l7, l8] ((.int v) :: st) H Q = M12 169 [l0, l1, l2, l3, l4, l5, l6, .val (.int v), l8] st H Q := by rcases h with rfl | ⟨z, rfl⟩ <;> first | exact m12_167u | exact m12_167i
theorem m12_169 : M12 169 [.val (.ref r), l1, l2, l3, l4, l5, l6, l7, l8] st H Q = M12 170 [.val (.ref r), l1, l2, l3, l4, l5, l6, l7, l8] (.ref r :: st) H Q := w_x (show decode kb12 169 = .ok (.aload_n 0, 1) from by decide +kernel) rfl
theorem m12_170 : M12 170 ls (.ref (b + 1) :: st) (put (b + 1) pre s A post) Q = M12 173 ls (.ref ((b + 1) + 4) :: st) (put (b + 1) pre s A post) Q := w_get (show decode kb12 170 = .ok (.getfield 19, 3) from by decide +kernel) gf_19 put_o rfl
theorem m12_173 : M12 173 [l0, l1, l2, l3, l4, l5, .val (.int v), l7, l8] st H Q = M12 175 [l0, l1, l2, l3, l4, l5, .val (.int v), l7, l8] (.int v :: st) H Q := w_x (show decode kb12 173 = .ok (.iload 6, 2) from by decide +kernel) rfl
theorem m12_175  : M12 175 ls (.int j :: .ref ((b + 1) + 4) :: st) (put (b + 1) pre s A post) Q = (inB j (A 3) ∧ M12 176 ls (.int (getA (A 3) j) :: st) (put (b + 1) pre s A post) Q) := w_ild (show decode kb12 175 = .ok (.iaload, 1) from by decide +kernel) rfl put_a3
theorem m12_176u : M12 176 [l0, l1, l2, l3, l4, l5, l6, l7, .unset] ((.int v) :: st) H Q = M12 178 [l0, l1, l2, l3, l4, l5, l6, l7, .val (.int v)] st H Q := w_st (i := 8) (p := isI) (show decode kb12 176 = .ok (.istore 8, 2) from by decide +kernel) rfl rfl rfl rfl rfl rfl
theorem m12_176i : M12 176 [l0, l1, l2, l3, l4, l5, l6, l7, .val (.int z)] ((.int v) :: st) H Q = M12 178 [l0, l1, l2, l3, l4, l5, l6, l7, .val (.int v)] st H Q := w_st (i := 8) (p := isI) (show decode kb12 176 = .ok (.istore 8, 2) from by decide +kernel) rfl rfl rfl rfl rfl rfl
theorem m12_176r : M12 176 [l0, l1, l2, l3, l4, l5, l6, l7, .val (.ref q)] ((.int v) :: st) H Q = M12 178 [l0, l1, l2, l3, l4, l5, l6, l7, .val (.int v)] st H Q := w_st (i := 8) (p := isI) (show decode kb12 176 = .ok (.istore 8, 2) from by decide +kernel) rfl rfl rfl rfl rfl rfl
theorem m12_176g (h : okS l8) : M12 176 [l0, l1, l2, l3, l4, l5, l6, l7, l8] ((.int v) :: st) H Q = M12 178 [l0, l1, l2, l3, l4, l5, l6, l7, .val (.int v)] st H Q := by rcases h with rfl | ⟨z, rfl⟩ <;> first | exact m12_176u | exact m12_176i
theorem m12_178 : M12 178 [l0, l1, l2, l3, l4, l5, l6, l7, .val (.int v)] st H Q = M12 180 [l0, l1, l2, l3, l4, l5, l6, l7, .val (.int v)] (.int v :: st) H Q := w_x (show decode kb12 178 = .ok (.iload 8, 2) from by decide +kernel) rfl
theorem m12_180 : M12 180 ls (.int x :: st) H Q = if 0 < x then M12 183 ls st H Q else M12 219 ls st H Q := w_ifN (show decode kb12 180 = .ok (.ifCond .le 39, 3) from by decide +kernel) (z_le x) rfl
theorem m12_183 : M12 183 [l0, l1, l2, l3, l4, l5, l6, l7, .val (.int v)] st H Q = M12 185 [l0, l1, l2, l3, l4, l5, l6, l7, .val (.int v)] (.int v :: st) H Q := w_x (show decode kb12 183 = .ok (.iload 8, 2) from by decide +kernel) rfl
theorem m12_185 : M12 185 ls st H Q = M12 187 ls (.int 65 :: st) H Q := w_con (show decode kb12 185 = .ok (.bipush 65, 2) from by decide +kernel) rfl (by decide)
theorem m12_187 : M12 187 ls (.int y :: .int x :: st) H Q = if x < y then M12 190 ls st H Q else M12 219 ls st H Q := w_icmpN (show decode kb12 187 = .ok (.if_icmp .ge 32, 3) from by decide +kernel) (i_ge x y) rfl
theorem m12_190 : M12 190 [.val (.ref r), l1, l2, l3, l4, l5, l6, l7, l8] st H Q = M12 191 [.val (.ref r), l1, l2, l3, l4, l5, l6, l7, l8] (.ref r :: st) H Q := w_x (show decode kb12 190 = .ok (.aload_n 0, 1) from by decide +kernel) rfl
theorem m12_191 : M12 191 ls (.ref (b + 1) :: st) (put (b + 1) pre s A post) Q = M12 194 ls (.ref ((b + 1) + 5) :: st) (put (b + 1) pre s A post) Q := w_get (show decode kb12 191 = .ok (.getfield 22, 3) from by decide +kernel) gf_22 put_o rfl
theorem m12_194 : M12 194 [l0, l1, l2, l3, l4, l5, l6, l7, .val (.int v)] st H Q = M12 196 [l0, l1, l2, l3, l4, l5, l6, l7, .val (.int v)] (.int v :: st) H Q := w_x (show decode kb12 194 = .ok (.iload 8, 2) from by decide +kernel) rfl
theorem m12_196 : M12 196 [l0, l1, l2, l3, l4, l5, l6, .val (.int v), l8] st H Q = M12 198 [l0, l1, l2, l3, l4, l5, l6, .val (.int v), l8] (.int v :: st) H Q := w_x (show decode kb12 196 = .ok (.iload 7, 2) from by decide +kernel) rfl
theorem m12_198  : M12 198 ls (.int v :: .int j :: .ref ((b + 1) + 5) :: st) (put (b + 1) pre s A post) Q = (inB j (A 4) ∧ M12 199 ls st (put (b + 1) pre s (ou A 4 (setA (A 4) j v)) post) Q) := w_ist (show decode kb12 198 = .ok (.iastore, 1) from by decide +kernel) rfl put_a4 (by omega) rfl put_w4
theorem m12_199 : M12 199 [l0, .val (.int v), l2, l3, l4, l5, l6, l7, l8] st H Q = M12 200 [l0, .val (.int v), l2, l3, l4, l5, l6, l7, l8] (.int v :: st) H Q := w_x (show decode kb12 199 = .ok (.iload_n 1, 1) from by decide +kernel) rfl
theorem m12_200 : M12 200 ls st H Q = M12 202 ls (.int 65 :: st) H Q := w_con (show decode kb12 200 = .ok (.bipush 65, 2) from by decide +kernel) rfl (by decide)
theorem m12_202 : M12 202 ls (.int y :: .int x :: st) H Q = if x < y then M12 205 ls st H Q else M12 228 ls st H Q := w_icmpN (show decode kb12 202 = .ok (.if_icmp .ge 26, 3) from by decide +kernel) (i_ge x y) rfl
theorem m12_205 : M12 205 [.val (.ref r), l1, l2, l3, l4, l5, l6, l7, l8] st H Q = M12 206 [.val (.ref r), l1, l2, l3, l4, l5, l6, l7, l8] (.ref r :: st) H Q := w_x (show decode kb12 205 = .ok (.aload_n 0, 1) from by decide +kernel) rfl
theorem m12_206 : M12 206 ls (.ref (b + 1) :: st) (put (b + 1) pre s A post) Q = M12 209 ls (.ref ((b + 1) + 7) :: st) (put (b + 1) pre s A post) Q := w_get (show decode kb12 206 = .ok (.getfield 28, 3) from by decide +kernel) gf_28 put_o rfl
theorem m12_209 : M12 209 [l0, .val (.int v), l2, l3, l4, l5, l6, l7, l8] st H Q = M12 210 [l0, .val (.int v), l2, l3, l4, l5, l6, l7, l8] (.int v :: st) H Q := w_x (show decode kb12 209 = .ok (.iload_n 1, 1) from by decide +kernel) rfl
theorem m12_210 : M12 210 [l0, l1, l2, l3, l4, l5, l6, l7, .val (.int v)] st H Q = M12 212 [l0, l1, l2, l3, l4, l5, l6, l7, .val (.int v)] (.int v :: st) H Q := w_x (show decode kb12 210 = .ok (.iload 8, 2) from by decide +kernel) rfl
theorem m12_212  : M12 212 ls (.int v :: .int j :: .ref ((b + 1) + 7) :: st) (put (b + 1) pre s A post) Q = (inB j (A 6) ∧ M12 213 ls st (put (b + 1) pre s (ou A 6 (setA (A 6) j v)) post) Q) := w_ist (show decode kb12 212 = .ok (.iastore, 1) from by decide +kernel) rfl put_a6 (by omega) rfl put_w6
theorem m12_213 : M12 213 [l0, .val (.int v), l2, l3, l4, l5, l6, l7, l8] st H Q = M12 216 [l0, .val (.int (v + 1)), l2, l3, l4, l5, l6, l7, l8] st H Q := w_iinc (show decode kb12 213 = .ok (.iinc 1 1, 3) from by decide +kernel) rfl (by decide) rfl
theorem m12_216 : M12 216 ls st H Q = M12 228 ls st H Q := w_x (show decode kb12 216 = .ok (.goto 12, 3) from by decide +kernel) rfl
theorem m12_219 : M12 219 [.val (.ref r), l1, l2, l3, l4, l5, l6, l7, l8] st H Q = M12 220 [.val (.ref r), l1, l2, l3, l4, l5, l6, l7, l8] (.ref r :: st) H Q := w_x (show decode kb12 219 = .ok (.aload_n 0, 1) from by decide +kernel) rfl
theorem m12_220 : M12 220 ls (.ref (b + 1) :: st) (put (b + 1) pre s A post) Q = M12 223 ls (.ref ((b + 1) + 4) :: st) (put (b + 1) pre s A post) Q := w_get (show decode kb12 220 = .ok (.getfield 19, 3) from by decide +kernel) gf_19 put_o rfl
theorem m12_223 : M12 223 [l0, l1, l2, l3, l4, l5, .val (.int v), l7, l8] st H Q = M12 225 [l0, l1, l2, l3, l4, l5, .val (.int v), l7, l8] (.int v :: st) H Q := w_x (show decode kb12 223 = .ok (.iload 6, 2) from by decide +kernel) rfl
theorem m12_225 : M12 225 [l0, l1, l2, l3, l4, l5, l6, .val (.int v), l8] st H Q = M12 227 [l0, l1, l2, l3, l4, l5, l6, .val (.int v), l8] (.int v :: st) H Q := w_x (show decode kb12 225 = .ok (.iload 7, 2) from by decide +kernel) rfl
theorem m12_227  : M12 227 ls (.int v :: .int j :: .ref ((b + 1) + 4) :: st) (put (b + 1) pre s A post) Q = (inB j (A 3) ∧ M12 228 ls st (put (b + 1) pre s (ou A 3 (setA (A 3) j v)) post) Q) := w_ist (show decode kb12 227 = .ok (.iastore, 1) from by decide +kernel) rfl put_a3 (by omega) rfl put_w3
theorem m12_228 : M12 228 [l0, l1, l2, l3, l4, .val (.int v), l6, l7, l8] st H Q = M12 231 [l0, l1, l2, l3, l4, .val (.int (v + 1)), l6, l7, l8] st H Q := w_iinc (show decode kb12 228 = .ok (.iinc 5 1, 3) from by decide +kernel) rfl (by decide) rfl
theorem m12_231 : M12 231 ls st H Q = M12 135 ls st H Q := w_x (show decode kb12 231 = .ok (.goto (-96), 3) from by decide +kernel) rfl
theorem m12_234 : M12 234 ls st H Q = M12 59 ls st H Q := w_x (show decode kb12 234 = .ok (.goto (-175), 3) from by decide +kernel) rfl
theorem m12_237 : M12 237 ls [] H Q = Q none H := w_vret (show decode kb12 237 = .ok (.return_, 1) from by decide +kernel) rfl
theorem m13_0 : M13 0 [.val (.ref r), l1] st H Q = M13 1 [.val (.ref r), l1] (.ref r :: st) H Q := w_x (show decode kb13 0 = .ok (.aload_n 0, 1) from by decide +kernel) rfl
theorem m13_1 : M13 1 ls (.ref (b + 1) :: st) (put (b + 1) pre s A post) Q = M13 4 ls (.int (s 1) :: st) (put (b + 1) pre s A post) Q := w_get (show decode kb13 1 = .ok (.getfield 51, 3) from by decide +kernel) gf_51 put_o rfl
theorem m13_4 : M13 4 ls (.int x :: st) H Q = if x = 0 then M13 7 ls st H Q else M13 9 ls st H Q := w_ifN (show decode kb13 4 = .ok (.ifCond .ne 5, 3) from by decide +kernel) (z_ne x) rfl
theorem m13_7 : M13 7 ls st H Q = M13 8 ls (.int (-1) :: st) H Q := w_con (show decode kb13 7 = .ok (.iconst (-1), 1) from by decide +kernel) rfl (by decide)
theorem m13_8 : M13 8 ls (.int z :: st) H Q = Q (some (.int z)) H := w_iret (show decode kb13 8 = .ok (.ireturn, 1) from by decide +kernel) rfl
theorem m13_9 : M13 9 [.val (.ref r), l1] st H Q = M13 10 [.val (.ref r), l1] (.ref r :: st) H Q := w_x (show decode kb13 9 = .ok (.aload_n 0, 1) from by decide +kernel) rfl
theorem m13_10 : M13 10 ls (.ref (b + 1) :: st) (put (b + 1) pre s A post) Q = M13 13 ls (.int (s 13) :: st) (put (b + 1) pre s A post) Q := w_get (show decode kb13 10 = .ok (.getfield 88, 3) from by decide +kernel) gf_88 put_o rfl
theorem m13_13 : M13 13 ls (.int x :: st) H Q = if x = 0 then M13 18 ls st H Q else M13 16 ls st H Q := w_if (show decode kb13 13 = .ok (.ifCond .eq 5, 3) from by decide +kernel) (z_eq x) rfl
theorem m13_16 : M13 16 ls st H Q = M13 17 ls (.int (-1) :: st) H Q := w_con (show decode kb13 16 = .ok (.iconst (-1), 1) from by decide +kernel) rfl (by decide)
theorem m13_17 : M13 17 ls (.int z :: st) H Q = Q (some (.int z)) H := w_iret (show decode kb13 17 = .ok (.ireturn, 1) from by decide +kernel) rfl
theorem m13_18 : M13 18 [.val (.ref r), l1] st H Q = M13 19 [.val (.ref r), l1] (.ref r :: st) H Q := w_x (show decode kb13 18 = .ok (.aload_n 0, 1) from by decide +kernel) rfl
theorem m13_19 : M13 19 [l0, .val (.int v)] st H Q = M13 20 [l0, .val (.int v)] (.int v :: st) H Q := w_x (show decode kb13 19 = .ok (.iload_n 1, 1) from by decide +kernel) rfl
theorem cr13_117 : vR tables_1 dn y13 117 = some (true, y16, prog_1_method_23_code, 2, (some .boolean), 1, 0) := pR_of (cR_of (by decide +kernel) rc_16 dn_16 dn_13 (sig := ⟨[.int], some .boolean⟩) (by decide +kernel) (by decide +kernel) rfl rfl) (by decide +kernel) (by decide +kernel)
theorem m13_20 (a0 : Int32) : M13 20 ls [.int a0, .ref (b + 1)] (put (b + 1) pre s A post) Q = M16 0 [.val (.ref (b + 1)), .val (.int a0)] [] (put (b + 1) pre s A post) (fun v H1 => M13 23 ls (v.toList ++ []) H1 Q) := w_virt (as := [.int a0]) (rest := []) (a := (b + 1)) (show decode kb13 20 = .ok (.invokevirtual 117, 3) from by decide +kernel) cr13_117 put_o rfl rfl (Nat.le_of_ble_eq_true rfl) (by show 2 ≤ 2; omega) rfl
theorem m13_23 : M13 23 ls (.int x :: st) H Q = if x = 0 then M13 26 ls st H Q else M13 29 ls st H Q := w_ifN (show decode kb13 23 = .ok (.ifCond .ne 6, 3) from by decide +kernel) (z_ne x) rfl
theorem m13_26 : M13 26 ls st H Q = M13 28 ls (.int (-5) :: st) H Q := w_con (show decode kb13 26 = .ok (.bipush (-5), 2) from by decide +kernel) rfl (by decide)
theorem m13_28 : M13 28 ls (.int z :: st) H Q = Q (some (.int z)) H := w_iret (show decode kb13 28 = .ok (.ireturn, 1) from by decide +kernel) rfl
theorem m13_29 : M13 29 [.val (.ref r), l1] st H Q = M13 30 [.val (.ref r), l1] (.ref r :: st) H Q := w_x (show decode kb13 29 = .ok (.aload_n 0, 1) from by decide +kernel) rfl
theorem m13_30 : M13 30 ls st H Q = M13 31 ls (.int 1 :: st) H Q := w_con (show decode kb13 30 = .ok (.iconst 1, 1) from by decide +kernel) rfl (by decide)
theorem pf13_88 : pfR tables_1 y13.cls y13.name 88 = some ("StreamSigScanner", 25, .boolean) := by decide +kernel
theorem m13_31 : M13 31 ls (.int v :: .ref (b + 1) :: st) (put (b + 1) pre s A post) Q = M13 34 ls st (put (b + 1) pre (ou s 13 (nar .boolean v)) A post) Q := w_put (show decode kb13 31 = .ok (.putfield 88, 3) from by decide +kernel) pf13_88 put_o (Nat.succ_le_succ (Nat.zero_le _)) (by show 25 < 29; omega) rfl put_s13
theorem m13_34 : M13 34 [.val (.ref r), l1] st H Q = M13 35 [.val (.ref r), l1] (.ref r :: st) H Q := w_x (show decode kb13 34 = .ok (.aload_n 0, 1) from by decide +kernel) rfl
theorem m13_35 : M13 35 [l0, .val (.int v)] st H Q = M13 36 [l0, .val (.int v)] (.int v :: st) H Q := w_x (show decode kb13 35 = .ok (.iload_n 1, 1) from by decide +kernel) rfl
theorem pf13_91 : pfR tables_1 y13.cls y13.name 91 = some ("StreamSigScanner", 26, .int) := by decide +kernel
theorem m13_36 : M13 36 ls (.int v :: .ref (b + 1) :: st) (put (b + 1) pre s A post) Q = M13 39 ls st (put (b + 1) pre (ou s 14 v) A post) Q := w_put (show decode kb13 36 = .ok (.putfield 91, 3) from by decide +kernel) pf13_91 put_o (Nat.succ_le_succ (Nat.zero_le _)) (by show 26 < 29; omega) rfl put_s14
theorem m13_39 : M13 39 [.val (.ref r), l1] st H Q = M13 40 [.val (.ref r), l1] (.ref r :: st) H Q := w_x (show decode kb13 39 = .ok (.aload_n 0, 1) from by decide +kernel) rfl
theorem m13_40 : M13 40 ls st H Q = M13 41 ls (.int 0 :: st) H Q := w_con (show decode kb13 40 = .ok (.iconst 0, 1) from by decide +kernel) rfl (by decide)
theorem pf13_94 : pfR tables_1 y13.cls y13.name 94 = some ("StreamSigScanner", 27, .int) := by decide +kernel
theorem m13_41 : M13 41 ls (.int v :: .ref (b + 1) :: st) (put (b + 1) pre s A post) Q = M13 44 ls st (put (b + 1) pre (ou s 15 v) A post) Q := w_put (show decode kb13 41 = .ok (.putfield 94, 3) from by decide +kernel) pf13_94 put_o (Nat.succ_le_succ (Nat.zero_le _)) (by show 27 < 29; omega) rfl put_s15
theorem m13_44 : M13 44 ls st H Q = M13 45 ls (.int 0 :: st) H Q := w_con (show decode kb13 44 = .ok (.iconst 0, 1) from by decide +kernel) rfl (by decide)
theorem m13_45 : M13 45 ls (.int z :: st) H Q = Q (some (.int z)) H := w_iret (show decode kb13 45 = .ok (.ireturn, 1) from by decide +kernel) rfl
theorem m14_0 : M14 0 [.val (.ref r), l1] st H Q = M14 1 [.val (.ref r), l1] (.ref r :: st) H Q := w_x (show decode kb14 0 = .ok (.aload_n 0, 1) from by decide +kernel) rfl
theorem m14_1 : M14 1 ls (.ref (b + 1) :: st) (put (b + 1) pre s A post) Q = M14 4 ls (.int (s 13) :: st) (put (b + 1) pre s A post) Q := w_get (show decode kb14 1 = .ok (.getfield 88, 3) from by decide +kernel) gf_88 put_o rfl
theorem m14_4 : M14 4 ls (.int x :: st) H Q = if x = 0 then M14 7 ls st H Q else M14 9 ls st H Q := w_ifN (show decode kb14 4 = .ok (.ifCond .ne 5, 3) from by decide +kernel) (z_ne x) rfl
theorem m14_7 : M14 7 ls st H Q = M14 8 ls (.int (-1) :: st) H Q := w_con (show decode kb14 7 = .ok (.iconst (-1), 1) from by decide +kernel) rfl (by decide)
theorem m14_8 : M14 8 ls (.int z :: st) H Q = Q (some (.int z)) H := w_iret (show decode kb14 8 = .ok (.ireturn, 1) from by decide +kernel) rfl
theorem m14_9 : M14 9 [.val (.ref r), l1] st H Q = M14 10 [.val (.ref r), l1] (.ref r :: st) H Q := w_x (show decode kb14 9 = .ok (.aload_n 0, 1) from by decide +kernel) rfl
theorem m14_10 : M14 10 [l0, .val (.int v)] st H Q = M14 11 [l0, .val (.int v)] (.int v :: st) H Q := w_x (show decode kb14 10 = .ok (.iload_n 1, 1) from by decide +kernel) rfl
theorem cr14_100 : vR tables_1 dn y14 100 = some (true, y5, prog_1_method_22_code, 2, (some .boolean), 1, 0) := pR_of (cR_of (by decide +kernel) rc_5 dn_5 dn_14 (sig := ⟨[.int], some .boolean⟩) (by decide +kernel) (by decide +kernel) rfl rfl) (by decide +kernel) (by decide +kernel)
theorem m14_11 (a0 : Int32) : M14 11 ls [.int a0, .ref (b + 1)] (put (b + 1) pre s A post) Q = M5 0 [.val (.ref (b + 1)), .val (.int a0)] [] (put (b + 1) pre s A post) (fun v H1 => M14 14 ls (v.toList ++ []) H1 Q) := w_virt (as := [.int a0]) (rest := []) (a := (b + 1)) (show decode kb14 11 = .ok (.invokevirtual 100, 3) from by decide +kernel) cr14_100 put_o rfl rfl (Nat.le_of_ble_eq_true rfl) (by show 2 ≤ 2; omega) rfl
theorem m14_14 : M14 14 ls (.int x :: st) H Q = if x = 0 then M14 17 ls st H Q else M14 20 ls st H Q := w_ifN (show decode kb14 14 = .ok (.ifCond .ne 6, 3) from by decide +kernel) (z_ne x) rfl
theorem m14_17 : M14 17 ls st H Q = M14 19 ls (.int (-2) :: st) H Q := w_con (show decode kb14 17 = .ok (.bipush (-2), 2) from by decide +kernel) rfl (by decide)
theorem m14_19 : M14 19 ls (.int z :: st) H Q = Q (some (.int z)) H := w_iret (show decode kb14 19 = .ok (.ireturn, 1) from by decide +kernel) rfl
theorem m14_20 : M14 20 [.val (.ref r), l1] st H Q = M14 21 [.val (.ref r), l1] (.ref r :: st) H Q := w_x (show decode kb14 20 = .ok (.aload_n 0, 1) from by decide +kernel) rfl
theorem m14_21 : M14 21 ls (.ref (b + 1) :: st) (put (b + 1) pre s A post) Q = M14 24 ls (.int (s 15) :: st) (put (b + 1) pre s A post) Q := w_get (show decode kb14 21 = .ok (.getfield 94, 3) from by decide +kernel) gf_94 put_o rfl
theorem m14_24 : M14 24 ls st H Q = M14 26 ls (.int 16 :: st) H Q := w_con (show decode kb14 24 = .ok (.bipush 16, 2) from by decide +kernel) rfl (by decide)
theorem m14_26 : M14 26 ls (.int y :: .int x :: st) H Q = if x < y then M14 32 ls st H Q else M14 29 ls st H Q := w_icmp (show decode kb14 26 = .ok (.if_icmp .lt 6, 3) from by decide +kernel) (i_lt x y) rfl
theorem m14_29 : M14 29 ls st H Q = M14 31 ls (.int (-3) :: st) H Q := w_con (show decode kb14 29 = .ok (.bipush (-3), 2) from by decide +kernel) rfl (by decide)
theorem m14_31 : M14 31 ls (.int z :: st) H Q = Q (some (.int z)) H := w_iret (show decode kb14 31 = .ok (.ireturn, 1) from by decide +kernel) rfl
theorem m14_32 : M14 32 [.val (.ref r), l1] st H Q = M14 33 [.val (.ref r), l1] (.ref r :: st) H Q := w_x (show decode kb14 32 = .ok (.aload_n 0, 1) from by decide +kernel) rfl
theorem m14_33 : M14 33 ls (.ref (b + 1) :: st) (put (b + 1) pre s A post) Q = M14 36 ls (.int (s 14) :: st) (put (b + 1) pre s A post) Q := w_get (show decode kb14 33 = .ok (.getfield 91, 3) from by decide +kernel) gf_91 put_o rfl
theorem m14_36 : M14 36 [.val (.ref r), l1] st H Q = M14 37 [.val (.ref r), l1] (.ref r :: st) H Q := w_x (show decode kb14 36 = .ok (.aload_n 0, 1) from by decide +kernel) rfl
theorem m14_37 : M14 37 ls (.ref (b + 1) :: st) (put (b + 1) pre s A post) Q = M14 40 ls (.int (s 15) :: st) (put (b + 1) pre s A post) Q := w_get (show decode kb14 37 = .ok (.getfield 94, 3) from by decide +kernel) gf_94 put_o rfl
theorem m14_40 : M14 40 ls (.int y :: .int x :: st) H Q = M14 41 ls (.int (x + y) :: st) H Q := w_x (show decode kb14 40 = .ok (.iadd, 1) from by decide +kernel) rfl
theorem m14_41 : M14 41 ls st H Q = M14 44 ls (.int 256 :: st) H Q := w_con (show decode kb14 41 = .ok (.sipush 256, 3) from by decide +kernel) rfl (by decide)
theorem m14_44 : M14 44 ls (.int y :: .int x :: st) H Q = if x < y then M14 50 ls st H Q else M14 47 ls st H Q := w_icmp (show decode kb14 44 = .ok (.if_icmp .lt 6, 3) from by decide +kernel) (i_lt x y) rfl
theorem m14_47 : M14 47 ls st H Q = M14 49 ls (.int (-5) :: st) H Q := w_con (show decode kb14 47 = .ok (.bipush (-5), 2) from by decide +kernel) rfl (by decide)
theorem m14_49 : M14 49 ls (.int z :: st) H Q = Q (some (.int z)) H := w_iret (show decode kb14 49 = .ok (.ireturn, 1) from by decide +kernel) rfl
theorem m14_50 : M14 50 [.val (.ref r), l1] st H Q = M14 51 [.val (.ref r), l1] (.ref r :: st) H Q := w_x (show decode kb14 50 = .ok (.aload_n 0, 1) from by decide +kernel) rfl
theorem m14_51 : M14 51 ls (.ref (b + 1) :: st) (put (b + 1) pre s A post) Q = M14 54 ls (.int (s 15) :: st) (put (b + 1) pre s A post) Q := w_get (show decode kb14 51 = .ok (.getfield 94, 3) from by decide +kernel) gf_94 put_o rfl
theorem m14_54 : M14 54 ls (.int x :: st) H Q = if x < 0 then M14 57 ls st H Q else M14 60 ls st H Q := w_ifN (show decode kb14 54 = .ok (.ifCond .ge 6, 3) from by decide +kernel) (z_ge x) rfl
theorem m14_57 : M14 57 ls st H Q = M14 59 ls (.int (-3) :: st) H Q := w_con (show decode kb14 57 = .ok (.bipush (-3), 2) from by decide +kernel) rfl (by decide)
theorem m14_59 : M14 59 ls (.int z :: st) H Q = Q (some (.int z)) H := w_iret (show decode kb14 59 = .ok (.ireturn, 1) from by decide +kernel) rfl
theorem m14_60 : M14 60 [.val (.ref r), l1] st H Q = M14 61 [.val (.ref r), l1] (.ref r :: st) H Q := w_x (show decode kb14 60 = .ok (.aload_n 0, 1) from by decide +kernel) rfl
theorem m14_61 : M14 61 ls (.ref (b + 1) :: st) (put (b + 1) pre s A post) Q = M14 64 ls (.ref ((b + 1) + 10) :: st) (put (b + 1) pre s A post) Q := w_get (show decode kb14 61 = .ok (.getfield 38, 3) from by decide +kernel) gf_38 put_o rfl
theorem m14_64 : M14 64 [.val (.ref r), l1] st H Q = M14 65 [.val (.ref r), l1] (.ref r :: st) H Q := w_x (show decode kb14 64 = .ok (.aload_n 0, 1) from by decide +kernel) rfl
theorem m14_65 : M14 65 ls (.ref (b + 1) :: st) (put (b + 1) pre s A post) Q = M14 68 ls (.int (s 15) :: st) (put (b + 1) pre s A post) Q := w_get (show decode kb14 65 = .ok (.getfield 94, 3) from by decide +kernel) gf_94 put_o rfl
theorem m14_68 : M14 68 [l0, .val (.int v)] st H Q = M14 69 [l0, .val (.int v)] (.int v :: st) H Q := w_x (show decode kb14 68 = .ok (.iload_n 1, 1) from by decide +kernel) rfl
theorem m14_69  : M14 69 ls (.int v :: .int j :: .ref ((b + 1) + 10) :: st) (put (b + 1) pre s A post) Q = (inB j (A 9) ∧ M14 70 ls st (put (b + 1) pre s (ou A 9 (setA (A 9) j v)) post) Q) := w_ist (show decode kb14 69 = .ok (.iastore, 1) from by decide +kernel) rfl put_a9 (by omega) rfl put_w9
theorem m14_70 : M14 70 [.val (.ref r), l1] st H Q = M14 71 [.val (.ref r), l1] (.ref r :: st) H Q := w_x (show decode kb14 70 = .ok (.aload_n 0, 1) from by decide +kernel) rfl
theorem m14_71 : M14 71 ls ((.ref r) :: st) H Q = M14 72 ls ((.ref r) :: (.ref r) :: st) H Q := w_x (show decode kb14 71 = .ok (.dup, 1) from by decide +kernel) rfl
theorem m14_72 : M14 72 ls (.ref (b + 1) :: st) (put (b + 1) pre s A post) Q = M14 75 ls (.int (s 15) :: st) (put (b + 1) pre s A post) Q := w_get (show decode kb14 72 = .ok (.getfield 94, 3) from by decide +kernel) gf_94 put_o rfl
theorem m14_75 : M14 75 ls st H Q = M14 76 ls (.int 1 :: st) H Q := w_con (show decode kb14 75 = .ok (.iconst 1, 1) from by decide +kernel) rfl (by decide)
theorem m14_76 : M14 76 ls (.int y :: .int x :: st) H Q = M14 77 ls (.int (x + y) :: st) H Q := w_x (show decode kb14 76 = .ok (.iadd, 1) from by decide +kernel) rfl
theorem pf14_94 : pfR tables_1 y14.cls y14.name 94 = some ("StreamSigScanner", 27, .int) := by decide +kernel
theorem m14_77 : M14 77 ls (.int v :: .ref (b + 1) :: st) (put (b + 1) pre s A post) Q = M14 80 ls st (put (b + 1) pre (ou s 15 v) A post) Q := w_put (show decode kb14 77 = .ok (.putfield 94, 3) from by decide +kernel) pf14_94 put_o (Nat.succ_le_succ (Nat.zero_le _)) (by show 27 < 29; omega) rfl put_s15
theorem m14_80 : M14 80 ls st H Q = M14 81 ls (.int 0 :: st) H Q := w_con (show decode kb14 80 = .ok (.iconst 0, 1) from by decide +kernel) rfl (by decide)
theorem m14_81 : M14 81 ls (.int z :: st) H Q = Q (some (.int z)) H := w_iret (show decode kb14 81 = .ok (.ireturn, 1) from by decide +kernel) rfl
theorem m15_0 : M15 0 [.val (.ref r), l1, l2] st H Q = M15 1 [.val (.ref r), l1, l2] (.ref r :: st) H Q := w_x (show decode kb15 0 = .ok (.aload_n 0, 1) from by decide +kernel) rfl
theorem m15_1 : M15 1 ls (.ref (b + 1) :: st) (put (b + 1) pre s A post) Q = M15 4 ls (.int (s 13) :: st) (put (b + 1) pre s A post) Q := w_get (show decode kb15 1 = .ok (.getfield 88, 3) from by decide +kernel) gf_88 put_o rfl
theorem m15_4 : M15 4 ls (.int x :: st) H Q = if x = 0 then M15 7 ls st H Q else M15 9 ls st H Q := w_ifN (show decode kb15 4 = .ok (.ifCond .ne 5, 3) from by decide +kernel) (z_ne x) rfl
theorem m15_7 : M15 7 ls st H Q = M15 8 ls (.int (-1) :: st) H Q := w_con (show decode kb15 7 = .ok (.iconst (-1), 1) from by decide +kernel) rfl (by decide)
theorem m15_8 : M15 8 ls (.int z :: st) H Q = Q (some (.int z)) H := w_iret (show decode kb15 8 = .ok (.ireturn, 1) from by decide +kernel) rfl
theorem m15_9 : M15 9 [.val (.ref r), l1, l2] st H Q = M15 10 [.val (.ref r), l1, l2] (.ref r :: st) H Q := w_x (show decode kb15 9 = .ok (.aload_n 0, 1) from by decide +kernel) rfl
theorem m15_10 : M15 10 ls (.ref (b + 1) :: st) (put (b + 1) pre s A post) Q = M15 13 ls (.int (s 7) :: st) (put (b + 1) pre s A post) Q := w_get (show decode kb15 10 = .ok (.getfield 70, 3) from by decide +kernel) gf_70 put_o rfl
theorem m15_13u : M15 13 [l0, .unset, l2] ((.int v) :: st) H Q = M15 14 [l0, .val (.int v), l2] st H Q := w_st (i := 1) (p := isI) (show decode kb15 13 = .ok (.istore_n 1, 1) from by decide +kernel) rfl rfl rfl rfl rfl rfl
theorem m15_14 : M15 14 ls st H Q = M15 15 ls (.int 0 :: st) H Q := w_con (show decode kb15 14 = .ok (.iconst 0, 1) from by decide +kernel) rfl (by decide)
theorem m15_15u : M15 15 [l0, l1, .unset] ((.int v) :: st) H Q = M15 16 [l0, l1, .val (.int v)] st H Q := w_st (i := 2) (p := isI) (show decode kb15 15 = .ok (.istore_n 2, 1) from by decide +kernel) rfl rfl rfl rfl rfl rfl
theorem m15_16 : M15 16 [l0, l1, .val (.int v)] st H Q = M15 17 [l0, l1, .val (.int v)] (.int v :: st) H Q := w_x (show decode kb15 16 = .ok (.iload_n 2, 1) from by decide +kernel) rfl
theorem m15_17 : M15 17 [.val (.ref r), l1, l2] st H Q = M15 18 [.val (.ref r), l1, l2] (.ref r :: st) H Q := w_x (show decode kb15 17 = .ok (.aload_n 0, 1) from by decide +kernel) rfl
theorem m15_18 : M15 18 ls (.ref (b + 1) :: st) (put (b + 1) pre s A post) Q = M15 21 ls (.int (s 15) :: st) (put (b + 1) pre s A post) Q := w_get (show decode kb15 18 = .ok (.getfield 94, 3) from by decide +kernel) gf_94 put_o rfl
theorem m15_21 : M15 21 ls (.int y :: .int x :: st) H Q = if x < y then M15 24 ls st H Q else M15 53 ls st H Q := w_icmpN (show decode kb15 21 = .ok (.if_icmp .ge 32, 3) from by decide +kernel) (i_ge x y) rfl
theorem m15_24 : M15 24 [l0, l1, .val (.int v)] st H Q = M15 25 [l0, l1, .val (.int v)] (.int v :: st) H Q := w_x (show decode kb15 24 = .ok (.iload_n 2, 1) from by decide +kernel) rfl
theorem m15_25 : M15 25 ls st H Q = M15 27 ls (.int 16 :: st) H Q := w_con (show decode kb15 25 = .ok (.bipush 16, 2) from by decide +kernel) rfl (by decide)
theorem m15_27 : M15 27 ls (.int y :: .int x :: st) H Q = if x < y then M15 30 ls st H Q else M15 53 ls st H Q := w_icmpN (show decode kb15 27 = .ok (.if_icmp .ge 26, 3) from by decide +kernel) (i_ge x y) rfl
theorem m15_30 : M15 30 [.val (.ref r), l1, l2] st H Q = M15 31 [.val (.ref r), l1, l2] (.ref r :: st) H Q := w_x (show decode kb15 30 = .ok (.aload_n 0, 1) from by decide +kernel) rfl
theorem m15_31 : M15 31 [.val (.ref r), l1, l2] st H Q = M15 32 [.val (.ref r), l1, l2] (.ref r :: st) H Q := w_x (show decode kb15 31 = .ok (.aload_n 0, 1) from by decide +kernel) rfl
theorem m15_32 : M15 32 ls (.ref (b + 1) :: st) (put (b + 1) pre s A post) Q = M15 35 ls (.int (s 14) :: st) (put (b + 1) pre s A post) Q := w_get (show decode kb15 32 = .ok (.getfield 91, 3) from by decide +kernel) gf_91 put_o rfl
theorem m15_35 : M15 35 [l0, l1, .val (.int v)] st H Q = M15 36 [l0, l1, .val (.int v)] (.int v :: st) H Q := w_x (show decode kb15 35 = .ok (.iload_n 2, 1) from by decide +kernel) rfl
theorem m15_36 : M15 36 ls (.int y :: .int x :: st) H Q = M15 37 ls (.int (x + y) :: st) H Q := w_x (show decode kb15 36 = .ok (.iadd, 1) from by decide +kernel) rfl
theorem m15_37 : M15 37 [.val (.ref r), l1, l2] st H Q = M15 38 [.val (.ref r), l1, l2] (.ref r :: st) H Q := w_x (show decode kb15 37 = .ok (.aload_n 0, 1) from by decide +kernel) rfl
theorem m15_38 : M15 38 ls (.ref (b + 1) :: st) (put (b + 1) pre s A post) Q = M15 41 ls (.ref ((b + 1) + 10) :: st) (put (b + 1) pre s A post) Q := w_get (show decode kb15 38 = .ok (.getfield 38, 3) from by decide +kernel) gf_38 put_o rfl
theorem m15_41 : M15 41 [l0, l1, .val (.int v)] st H Q = M15 42 [l0, l1, .val (.int v)] (.int v :: st) H Q := w_x (show decode kb15 41 = .ok (.iload_n 2, 1) from by decide +kernel) rfl
theorem m15_42  : M15 42 ls (.int j :: .ref ((b + 1) + 10) :: st) (put (b + 1) pre s A post) Q = (inB j (A 9) ∧ M15 43 ls (.int (getA (A 9) j) :: st) (put (b + 1) pre s A post) Q) := w_ild (show decode kb15 42 = .ok (.iaload, 1) from by decide +kernel) rfl put_a9
theorem m15_43 : M15 43 [l0, .val (.int v), l2] st H Q = M15 44 [l0, .val (.int v), l2] (.int v :: st) H Q := w_x (show decode kb15 43 = .ok (.iload_n 1, 1) from by decide +kernel) rfl
theorem cr15_120 : vR tables_1 dn y15 120 = some (true, y18, prog_1_method_12_code, 4, none, 3, 19) := pR_of (cR_of (by decide +kernel) rc_18 dn_18 dn_15 (sig := ⟨[.int, .int, .int], none⟩) (by decide +kernel) (by decide +kernel) rfl rfl) (by decide +kernel) (by decide +kernel)
theorem m15_44 (a0 : Int32) (a1 : Int32) (a2 : Int32) : M15 44 ls [.int a2, .int a1, .int a0, .ref (b + 1)] (put (b + 1) pre s A post) Q = M18 0 [.val (.ref (b + 1)), .val (.int a0), .val (.int a1), .val (.int a2)] [] (put (b + 1) pre s A post) (fun v H1 => M15 47 ls (v.toList ++ []) H1 Q) := w_virt (as := [.int a2, .int a1, .int a0]) (rest := []) (a := (b + 1)) (show decode kb15 44 = .ok (.invokevirtual 120, 3) from by decide +kernel) cr15_120 put_o rfl rfl (Nat.le_of_ble_eq_true rfl) (by show 4 ≤ 4; omega) rfl
theorem m15_47 : M15 47 [l0, l1, .val (.int v)] st H Q = M15 50 [l0, l1, .val (.int (v + 1))] st H Q := w_iinc (show decode kb15 47 = .ok (.iinc 2 1, 3) from by decide +kernel) rfl (by decide) rfl
theorem m15_50 : M15 50 ls st H Q = M15 16 ls st H Q := w_x (show decode kb15 50 = .ok (.goto (-34), 3) from by decide +kernel) rfl
theorem m15_53 : M15 53 [.val (.ref r), l1, l2] st H Q = M15 54 [.val (.ref r), l1, l2] (.ref r :: st) H Q := w_x (show decode kb15 53 = .ok (.aload_n 0, 1) from by decide +kernel) rfl
theorem m15_54 : M15 54 ls st H Q = M15 55 ls (.int 0 :: st) H Q := w_con (show decode kb15 54 = .ok (.iconst 0, 1) from by decide +kernel) rfl (by decide)
theorem pf15_88 : pfR tables_1 y15.cls y15.name 88 = some ("StreamSigScanner", 25, .boolean) := by decide +kernel
theorem m15_55 : M15 55 ls (.int v :: .ref (b + 1) :: st) (put (b + 1) pre s A post) Q = M15 58 ls st (put (b + 1) pre (ou s 13 (nar .boolean v)) A post) Q := w_put (show decode kb15 55 = .ok (.putfield 88, 3) from by decide +kernel) pf15_88 put_o (Nat.succ_le_succ (Nat.zero_le _)) (by show 25 < 29; omega) rfl put_s13
theorem m15_58 : M15 58 [.val (.ref r), l1, l2] st H Q = M15 59 [.val (.ref r), l1, l2] (.ref r :: st) H Q := w_x (show decode kb15 58 = .ok (.aload_n 0, 1) from by decide +kernel) rfl
theorem m15_59 : M15 59 ls st H Q = M15 60 ls (.int (-1) :: st) H Q := w_con (show decode kb15 59 = .ok (.iconst (-1), 1) from by decide +kernel) rfl (by decide)
theorem pf15_91 : pfR tables_1 y15.cls y15.name 91 = some ("StreamSigScanner", 26, .int) := by decide +kernel
theorem m15_60 : M15 60 ls (.int v :: .ref (b + 1) :: st) (put (b + 1) pre s A post) Q = M15 63 ls st (put (b + 1) pre (ou s 14 v) A post) Q := w_put (show decode kb15 60 = .ok (.putfield 91, 3) from by decide +kernel) pf15_91 put_o (Nat.succ_le_succ (Nat.zero_le _)) (by show 26 < 29; omega) rfl put_s14
theorem m15_63 : M15 63 [.val (.ref r), l1, l2] st H Q = M15 64 [.val (.ref r), l1, l2] (.ref r :: st) H Q := w_x (show decode kb15 63 = .ok (.aload_n 0, 1) from by decide +kernel) rfl
theorem m15_64 : M15 64 ls st H Q = M15 65 ls (.int 0 :: st) H Q := w_con (show decode kb15 64 = .ok (.iconst 0, 1) from by decide +kernel) rfl (by decide)
theorem pf15_94 : pfR tables_1 y15.cls y15.name 94 = some ("StreamSigScanner", 27, .int) := by decide +kernel
theorem m15_65 : M15 65 ls (.int v :: .ref (b + 1) :: st) (put (b + 1) pre s A post) Q = M15 68 ls st (put (b + 1) pre (ou s 15 v) A post) Q := w_put (show decode kb15 65 = .ok (.putfield 94, 3) from by decide +kernel) pf15_94 put_o (Nat.succ_le_succ (Nat.zero_le _)) (by show 27 < 29; omega) rfl put_s15
theorem m15_68 : M15 68 [.val (.ref r), l1, l2] st H Q = M15 69 [.val (.ref r), l1, l2] (.ref r :: st) H Q := w_x (show decode kb15 68 = .ok (.aload_n 0, 1) from by decide +kernel) rfl
theorem cr15_124 : vR tables_1 dn y15 124 = some (true, y17, prog_1_method_13_code, 4, none, 0, 0) := pR_of (cR_of (by decide +kernel) rc_17 dn_17 dn_15 (sig := ⟨[], none⟩) (by decide +kernel) (by decide +kernel) rfl rfl) (by decide +kernel) (by decide +kernel)
theorem m15_69 : M15 69 ls [.ref (b + 1)] (put (b + 1) pre s A post) Q = M17 0 [.val (.ref (b + 1)), .unset, .unset, .unset] [] (put (b + 1) pre s A post) (fun v H1 => M15 72 ls (v.toList ++ []) H1 Q) := w_virt (as := []) (rest := []) (a := (b + 1)) (show decode kb15 69 = .ok (.invokevirtual 124, 3) from by decide +kernel) cr15_124 put_o rfl rfl (Nat.le_of_ble_eq_true rfl) (by show 1 ≤ 4; omega) rfl
theorem m15_72 : M15 72 [.val (.ref r), l1, l2] st H Q = M15 73 [.val (.ref r), l1, l2] (.ref r :: st) H Q := w_x (show decode kb15 72 = .ok (.aload_n 0, 1) from by decide +kernel) rfl
theorem m15_73 : M15 73 ls (.ref (b + 1) :: st) (put (b + 1) pre s A post) Q = M15 76 ls (.int (s 7) :: st) (put (b + 1) pre s A post) Q := w_get (show decode kb15 73 = .ok (.getfield 70, 3) from by decide +kernel) gf_70 put_o rfl
theorem m15_76 : M15 76 [l0, .val (.int v), l2] st H Q = M15 77 [l0, .val (.int v), l2] (.int v :: st) H Q := w_x (show decode kb15 76 = .ok (.iload_n 1, 1) from by decide +kernel) rfl
theorem m15_77 : M15 77 ls (.int y :: .int x :: st) H Q = M15 78 ls (.int (x - y) :: st) H Q := w_x (show decode kb15 77 = .ok (.isub, 1) from by decide +kernel) rfl
theorem m15_78 : M15 78 ls (.int z :: st) H Q = Q (some (.int z)) H := w_iret (show decode kb15 78 = .ok (.ireturn, 1) from by decide +kernel) rfl
theorem m16_0 : M16 0 [l0, .val (.int v)] st H Q = M16 1 [l0, .val (.int v)] (.int v :: st) H Q := w_x (show decode kb16 0 = .ok (.iload_n 1, 1) from by decide +kernel) rfl
theorem m16_1 : M16 1 ls (.int x :: st) H Q = if x < 0 then M16 15 ls st H Q else M16 4 ls st H Q := w_if (show decode kb16 1 = .ok (.ifCond .lt 14, 3) from by decide +kernel) (z_lt x) rfl
theorem m16_4 : M16 4 [l0, .val (.int v)] st H Q = M16 5 [l0, .val (.int v)] (.int v :: st) H Q := w_x (show decode kb16 4 = .ok (.iload_n 1, 1) from by decide +kernel) rfl
theorem m16_5 : M16 5 ls st H Q = M16 8 ls (.int 256 :: st) H Q := w_con (show decode kb16 5 = .ok (.sipush 256, 3) from by decide +kernel) rfl (by decide)
theorem m16_8 : M16 8 ls (.int y :: .int x :: st) H Q = if x < y then M16 11 ls st H Q else M16 15 ls st H Q := w_icmpN (show decode kb16 8 = .ok (.if_icmp .ge 7, 3) from by decide +kernel) (i_ge x y) rfl
theorem m16_11 : M16 11 ls st H Q = M16 12 ls (.int 1 :: st) H Q := w_con (show decode kb16 11 = .ok (.iconst 1, 1) from by decide +kernel) rfl (by decide)
theorem m16_12 : M16 12 ls st H Q = M16 16 ls st H Q := w_x (show decode kb16 12 = .ok (.goto 4, 3) from by decide +kernel) rfl
theorem m16_15 : M16 15 ls st H Q = M16 16 ls (.int 0 :: st) H Q := w_con (show decode kb16 15 = .ok (.iconst 0, 1) from by decide +kernel) rfl (by decide)
theorem m16_16 : M16 16 ls (.int z :: st) H Q = Q (some (.int (nar .boolean z))) H := w_iretN (show decode kb16 16 = .ok (.ireturn, 1) from by decide +kernel) rfl (by simp)
theorem m17_0 : M17 0 ls st H Q = M17 1 ls (.int 0 :: st) H Q := w_con (show decode kb17 0 = .ok (.iconst 0, 1) from by decide +kernel) rfl (by decide)
theorem m17_1u : M17 1 [l0, .unset, l2, l3] ((.int v) :: st) H Q = M17 2 [l0, .val (.int v), l2, l3] st H Q := w_st (i := 1) (p := isI) (show decode kb17 1 = .ok (.istore_n 1, 1) from by decide +kernel) rfl rfl rfl rfl rfl rfl
theorem m17_2 : M17 2 [l0, .val (.int v), l2, l3] st H Q = M17 3 [l0, .val (.int v), l2, l3] (.int v :: st) H Q := w_x (show decode kb17 2 = .ok (.iload_n 1, 1) from by decide +kernel) rfl
theorem m17_3 : M17 3 ls st H Q = M17 6 ls (.int 256 :: st) H Q := w_con (show decode kb17 3 = .ok (.sipush 256, 3) from by decide +kernel) rfl (by decide)
theorem m17_6 : M17 6 ls (.int y :: .int x :: st) H Q = if x < y then M17 9 ls st H Q else M17 73 ls st H Q := w_icmpN (show decode kb17 6 = .ok (.if_icmp .ge 67, 3) from by decide +kernel) (i_ge x y) rfl
theorem m17_9 : M17 9 [.val (.ref r), l1, l2, l3] st H Q = M17 10 [.val (.ref r), l1, l2, l3] (.ref r :: st) H Q := w_x (show decode kb17 9 = .ok (.aload_n 0, 1) from by decide +kernel) rfl
theorem m17_10 : M17 10 ls (.ref (b + 1) :: st) (put (b + 1) pre s A post) Q = M17 13 ls (.int (s 7) :: st) (put (b + 1) pre s A post) Q := w_get (show decode kb17 10 = .ok (.getfield 70, 3) from by decide +kernel) gf_70 put_o rfl
theorem m17_13 : M17 13 ls st H Q = M17 16 ls (.int 256 :: st) H Q := w_con (show decode kb17 13 = .ok (.sipush 256, 3) from by decide +kernel) rfl (by decide)
theorem m17_16 : M17 16 ls (.int y :: .int x :: st) H Q = if x < y then M17 19 ls st H Q else M17 31 ls st H Q := w_icmpN (show decode kb17 16 = .ok (.if_icmp .ge 15, 3) from by decide +kernel) (i_ge x y) rfl
theorem m17_19 : M17 19 [.val (.ref r), l1, l2, l3] st H Q = M17 20 [.val (.ref r), l1, l2, l3] (.ref r :: st) H Q := w_x (show decode kb17 19 = .ok (.aload_n 0, 1) from by decide +kernel) rfl
theorem m17_20 : M17 20 ls (.ref (b + 1) :: st) (put (b + 1) pre s A post) Q = M17 23 ls (.ref ((b + 1) + 8) :: st) (put (b + 1) pre s A post) Q := w_get (show decode kb17 20 = .ok (.getfield 31, 3) from by decide +kernel) gf_31 put_o rfl
theorem m17_23 : M17 23 [.val (.ref r), l1, l2, l3] st H Q = M17 24 [.val (.ref r), l1, l2, l3] (.ref r :: st) H Q := w_x (show decode kb17 23 = .ok (.aload_n 0, 1) from by decide +kernel) rfl
theorem m17_24 : M17 24 ls (.ref (b + 1) :: st) (put (b + 1) pre s A post) Q = M17 27 ls (.int (s 7) :: st) (put (b + 1) pre s A post) Q := w_get (show decode kb17 24 = .ok (.getfield 70, 3) from by decide +kernel) gf_70 put_o rfl
theorem m17_27  : M17 27 ls (.int j :: .ref ((b + 1) + 8) :: st) (put (b + 1) pre s A post) Q = (inB j (A 7) ∧ M17 28 ls (.int (getA (A 7) j) :: st) (put (b + 1) pre s A post) Q) := w_ild (show decode kb17 27 = .ok (.baload, 1) from by decide +kernel) rfl put_a7
theorem m17_28 : M17 28 ls (.int x :: st) H Q = if x = 0 then M17 31 ls st H Q else M17 32 ls st H Q := w_ifN (show decode kb17 28 = .ok (.ifCond .ne 4, 3) from by decide +kernel) (z_ne x) rfl
theorem m17_31 : M17 31 ls [] H Q = Q none H := w_vret (show decode kb17 31 = .ok (.return_, 1) from by decide +kernel) rfl
theorem m17_32 : M17 32 [.val (.ref r), l1, l2, l3] st H Q = M17 33 [.val (.ref r), l1, l2, l3] (.ref r :: st) H Q := w_x (show decode kb17 32 = .ok (.aload_n 0, 1) from by decide +kernel) rfl
theorem m17_33 : M17 33 ls (.ref (b + 1) :: st) (put (b + 1) pre s A post) Q = M17 36 ls (.int (s 7) :: st) (put (b + 1) pre s A post) Q := w_get (show decode kb17 33 = .ok (.getfield 70, 3) from by decide +kernel) gf_70 put_o rfl
theorem m17_36u : M17 36 [l0, l1, .unset, l3] ((.int v) :: st) H Q = M17 37 [l0, l1, .val (.int v), l3] st H Q := w_st (i := 2) (p := isI) (show decode kb17 36 = .ok (.istore_n 2, 1) from by decide +kernel) rfl rfl rfl rfl rfl rfl
theorem m17_36i : M17 36 [l0, l1, .val (.int z), l3] ((.int v) :: st) H Q = M17 37 [l0, l1, .val (.int v), l3] st H Q := w_st (i := 2) (p := isI) (show decode kb17 36 = .ok (.istore_n 2, 1) from by decide +kernel) rfl rfl rfl rfl rfl rfl
theorem m17_36r : M17 36 [l0, l1, .val (.ref q), l3] ((.int v) :: st) H Q = M17 37 [l0, l1, .val (.int v), l3] st H Q := w_st (i := 2) (p := isI) (show decode kb17 36 = .ok (.istore_n 2, 1) from by decide +kernel) rfl rfl rfl rfl rfl rfl
theorem m17_36g (h : okS l2) : M17 36 [l0, l1, l2, l3] ((.int v) :: st) H Q = M17 37 [l0, l1, .val (.int v), l3] st H Q := by rcases h with rfl | ⟨z, rfl⟩ <;> first | exact m17_36u | exact m17_36i
theorem m17_37 : M17 37 [.val (.ref r), l1, l2, l3] st H Q = M17 38 [.val (.ref r), l1, l2, l3] (.ref r :: st) H Q := w_x (show decode kb17 37 = .ok (.aload_n 0, 1) from by decide +kernel) rfl
theorem m17_38 : M17 38 ls (.ref (b + 1) :: st) (put (b + 1) pre s A post) Q = M17 41 ls (.ref ((b + 1) + 9) :: st) (put (b + 1) pre s A post) Q := w_get (show decode kb17 38 = .ok (.getfield 35, 3) from by decide +kernel) gf_35 put_o rfl
theorem m17_41 : M17 41 [l0, l1, .val (.int v), l3] st H Q = M17 42 [l0, l1, .val (.int v), l3] (.int v :: st) H Q := w_x (show decode kb17 41 = .ok (.iload_n 2, 1) from by decide +kernel) rfl
theorem m17_42  : M17 42 ls (.int j :: .ref ((b + 1) + 9) :: st) (put (b + 1) pre s A post) Q = (inB j (A 8) ∧ M17 43 ls (.int (getA (A 8) j) :: st) (put (b + 1) pre s A post) Q) := w_ild (show decode kb17 42 = .ok (.iaload, 1) from by decide +kernel) rfl put_a8
theorem m17_43u : M17 43 [l0, l1, l2, .unset] ((.int v) :: st) H Q = M17 44 [l0, l1, l2, .val (.int v)] st H Q := w_st (i := 3) (p := isI) (show decode kb17 43 = .ok (.istore_n 3, 1) from by decide +kernel) rfl rfl rfl rfl rfl rfl
theorem m17_43i : M17 43 [l0, l1, l2, .val (.int z)] ((.int v) :: st) H Q = M17 44 [l0, l1, l2, .val (.int v)] st H Q := w_st (i := 3) (p := isI) (show decode kb17 43 = .ok (.istore_n 3, 1) from by decide +kernel) rfl rfl rfl rfl rfl rfl
theorem m17_43r : M17 43 [l0, l1, l2, .val (.ref q)] ((.int v) :: st) H Q = M17 44 [l0, l1, l2, .val (.int v)] st H Q := w_st (i := 3) (p := isI) (show decode kb17 43 = .ok (.istore_n 3, 1) from by decide +kernel) rfl rfl rfl rfl rfl rfl
theorem m17_43g (h : okS l3) : M17 43 [l0, l1, l2, l3] ((.int v) :: st) H Q = M17 44 [l0, l1, l2, .val (.int v)] st H Q := by rcases h with rfl | ⟨z, rfl⟩ <;> first | exact m17_43u | exact m17_43i
theorem m17_44 : M17 44 [.val (.ref r), l1, l2, l3] st H Q = M17 45 [.val (.ref r), l1, l2, l3] (.ref r :: st) H Q := w_x (show decode kb17 44 = .ok (.aload_n 0, 1) from by decide +kernel) rfl
theorem m17_45 : M17 45 [l0, l1, .val (.int v), l3] st H Q = M17 46 [l0, l1, .val (.int v), l3] (.int v :: st) H Q := w_x (show decode kb17 45 = .ok (.iload_n 2, 1) from by decide +kernel) rfl
theorem m17_46 : M17 46 ls st H Q = M17 47 ls (.int 1 :: st) H Q := w_con (show decode kb17 46 = .ok (.iconst 1, 1) from by decide +kernel) rfl (by decide)
theorem m17_47 : M17 47 ls (.int y :: .int x :: st) H Q = M17 48 ls (.int (x + y) :: st) H Q := w_x (show decode kb17 47 = .ok (.iadd, 1) from by decide +kernel) rfl
theorem pf17_70 : pfR tables_1 y17.cls y17.name 70 = some ("StreamSigScanner", 19, .int) := by decide +kernel
theorem m17_48 : M17 48 ls (.int v :: .ref (b + 1) :: st) (put (b + 1) pre s A post) Q = M17 51 ls st (put (b + 1) pre (ou s 7 v) A post) Q := w_put (show decode kb17 48 = .ok (.putfield 70, 3) from by decide +kernel) pf17_70 put_o (Nat.succ_le_succ (Nat.zero_le _)) (by show 19 < 29; omega) rfl put_s7
theorem m17_51 : M17 51 [.val (.ref r), l1, l2, l3] st H Q = M17 52 [.val (.ref r), l1, l2, l3] (.ref r :: st) H Q := w_x (show decode kb17 51 = .ok (.aload_n 0, 1) from by decide +kernel) rfl
theorem m17_52 : M17 52 ls ((.ref r) :: st) H Q = M17 53 ls ((.ref r) :: (.ref r) :: st) H Q := w_x (show decode kb17 52 = .ok (.dup, 1) from by decide +kernel) rfl
theorem m17_53 : M17 53 ls (.ref (b + 1) :: st) (put (b + 1) pre s A post) Q = M17 56 ls (.int (s 8) :: st) (put (b + 1) pre s A post) Q := w_get (show decode kb17 53 = .ok (.getfield 73, 3) from by decide +kernel) gf_73 put_o rfl
theorem m17_56 : M17 56 ls st H Q = M17 57 ls (.int 1 :: st) H Q := w_con (show decode kb17 56 = .ok (.iconst 1, 1) from by decide +kernel) rfl (by decide)
theorem m17_57 : M17 57 ls (.int y :: .int x :: st) H Q = M17 58 ls (.int (x - y) :: st) H Q := w_x (show decode kb17 57 = .ok (.isub, 1) from by decide +kernel) rfl
theorem pf17_73 : pfR tables_1 y17.cls y17.name 73 = some ("StreamSigScanner", 20, .int) := by decide +kernel
theorem m17_58 : M17 58 ls (.int v :: .ref (b + 1) :: st) (put (b + 1) pre s A post) Q = M17 61 ls st (put (b + 1) pre (ou s 8 v) A post) Q := w_put (show decode kb17 58 = .ok (.putfield 73, 3) from by decide +kernel) pf17_73 put_o (Nat.succ_le_succ (Nat.zero_le _)) (by show 20 < 29; omega) rfl put_s8
theorem m17_61 : M17 61 [.val (.ref r), l1, l2, l3] st H Q = M17 62 [.val (.ref r), l1, l2, l3] (.ref r :: st) H Q := w_x (show decode kb17 61 = .ok (.aload_n 0, 1) from by decide +kernel) rfl
theorem m17_62 : M17 62 [l0, l1, .val (.int v), l3] st H Q = M17 63 [l0, l1, .val (.int v), l3] (.int v :: st) H Q := w_x (show decode kb17 62 = .ok (.iload_n 2, 1) from by decide +kernel) rfl
theorem m17_63 : M17 63 [l0, l1, l2, .val (.int v)] st H Q = M17 64 [l0, l1, l2, .val (.int v)] (.int v :: st) H Q := w_x (show decode kb17 63 = .ok (.iload_n 3, 1) from by decide +kernel) rfl
theorem cr17_127 : vR tables_1 dn y17 127 = some (true, y19, prog_1_method_14_code, 7, none, 2, 0) := pR_of (cR_of (by decide +kernel) rc_19 dn_19 dn_17 (sig := ⟨[.int, .int], none⟩) (by decide +kernel) (by decide +kernel) rfl rfl) (by decide +kernel) (by decide +kernel)
theorem m17_64 (a0 : Int32) (a1 : Int32) : M17 64 ls [.int a1, .int a0, .ref (b + 1)] (put (b + 1) pre s A post) Q = M19 0 [.val (.ref (b + 1)), .val (.int a0), .val (.int a1), .unset, .unset, .unset, .unset] [] (put (b + 1) pre s A post) (fun v H1 => M17 67 ls (v.toList ++ []) H1 Q) := w_virt (as := [.int a1, .int a0]) (rest := []) (a := (b + 1)) (show decode kb17 64 = .ok (.invokevirtual 127, 3) from by decide +kernel) cr17_127 put_o rfl rfl (Nat.le_of_ble_eq_true rfl) (by show 3 ≤ 7; omega) rfl
theorem m17_67 : M17 67 [l0, .val (.int v), l2, l3] st H Q = M17 70 [l0, .val (.int (v + 1)), l2, l3] st H Q := w_iinc (show decode kb17 67 = .ok (.iinc 1 1, 3) from by decide +kernel) rfl (by decide) rfl
theorem m17_70 : M17 70 ls st H Q = M17 2 ls st H Q := w_x (show decode kb17 70 = .ok (.goto (-68), 3) from by decide +kernel) rfl
theorem m17_73 : M17 73 ls [] H Q = Q none H := w_vret (show decode kb17 73 = .ok (.return_, 1) from by decide +kernel) rfl
theorem m18_0 : M18 0 [.val (.ref r), l1, l2, l3] st H Q = M18 1 [.val (.ref r), l1, l2, l3] (.ref r :: st) H Q := w_x (show decode kb18 0 = .ok (.aload_n 0, 1) from by decide +kernel) rfl
theorem m18_1 : M18 1 [l0, .val (.int v), l2, l3] st H Q = M18 2 [l0, .val (.int v), l2, l3] (.int v :: st) H Q := w_x (show decode kb18 1 = .ok (.iload_n 1, 1) from by decide +kernel) rfl
theorem cr18_117 : vR tables_1 dn y18 117 = some (true, y16, prog_1_method_23_code, 2, (some .boolean), 1, 0) := pR_of (cR_of (by decide +kernel) rc_16 dn_16 dn_18 (sig := ⟨[.int], some .boolean⟩) (by decide +kernel) (by decide +kernel) rfl rfl) (by decide +kernel) (by decide +kernel)
theorem m18_2 (a0 : Int32) : M18 2 ls [.int a0, .ref (b + 1)] (put (b + 1) pre s A post) Q = M16 0 [.val (.ref (b + 1)), .val (.int a0)] [] (put (b + 1) pre s A post) (fun v H1 => M18 5 ls (v.toList ++ []) H1 Q) := w_virt (as := [.int a0]) (rest := []) (a := (b + 1)) (show decode kb18 2 = .ok (.invokevirtual 117, 3) from by decide +kernel) cr18_117 put_o rfl rfl (Nat.le_of_ble_eq_true rfl) (by show 2 ≤ 2; omega) rfl
theorem m18_5 : M18 5 ls (.int x :: st) H Q = if x = 0 then M18 8 ls st H Q else M18 9 ls st H Q := w_ifN (show decode kb18 5 = .ok (.ifCond .ne 4, 3) from by decide +kernel) (z_ne x) rfl
theorem m18_8 : M18 8 ls [] H Q = Q none H := w_vret (show decode kb18 8 = .ok (.return_, 1) from by decide +kernel) rfl
theorem m18_9 : M18 9 [.val (.ref r), l1, l2, l3] st H Q = M18 10 [.val (.ref r), l1, l2, l3] (.ref r :: st) H Q := w_x (show decode kb18 9 = .ok (.aload_n 0, 1) from by decide +kernel) rfl
theorem m18_10 : M18 10 ls (.ref (b + 1) :: st) (put (b + 1) pre s A post) Q = M18 13 ls (.ref ((b + 1) + 8) :: st) (put (b + 1) pre s A post) Q := w_get (show decode kb18 10 = .ok (.getfield 31, 3) from by decide +kernel) gf_31 put_o rfl
theorem m18_13 : M18 13 [l0, .val (.int v), l2, l3] st H Q = M18 14 [l0, .val (.int v), l2, l3] (.int v :: st) H Q := w_x (show decode kb18 13 = .ok (.iload_n 1, 1) from by decide +kernel) rfl
theorem m18_14  : M18 14 ls (.int j :: .ref ((b + 1) + 8) :: st) (put (b + 1) pre s A post) Q = (inB j (A 7) ∧ M18 15 ls (.int (getA (A 7) j) :: st) (put (b + 1) pre s A post) Q) := w_ild (show decode kb18 14 = .ok (.baload, 1) from by decide +kernel) rfl put_a7
theorem m18_15 : M18 15 ls (.int x :: st) H Q = if x = 0 then M18 57 ls st H Q else M18 18 ls st H Q := w_if (show decode kb18 15 = .ok (.ifCond .eq 42, 3) from by decide +kernel) (z_eq x) rfl
theorem m18_18 : M18 18 [.val (.ref r), l1, l2, l3] st H Q = M18 19 [.val (.ref r), l1, l2, l3] (.ref r :: st) H Q := w_x (show decode kb18 18 = .ok (.aload_n 0, 1) from by decide +kernel) rfl
theorem m18_19 : M18 19 ls (.ref (b + 1) :: st) (put (b + 1) pre s A post) Q = M18 22 ls (.ref ((b + 1) + 9) :: st) (put (b + 1) pre s A post) Q := w_get (show decode kb18 19 = .ok (.getfield 35, 3) from by decide +kernel) gf_35 put_o rfl
theorem m18_22 : M18 22 [l0, .val (.int v), l2, l3] st H Q = M18 23 [l0, .val (.int v), l2, l3] (.int v :: st) H Q := w_x (show decode kb18 22 = .ok (.iload_n 1, 1) from by decide +kernel) rfl
theorem m18_23  : M18 23 ls (.int j :: .ref ((b + 1) + 9) :: st) (put (b + 1) pre s A post) Q = (inB j (A 8) ∧ M18 24 ls (.int (getA (A 8) j) :: st) (put (b + 1) pre s A post) Q) := w_ild (show decode kb18 23 = .ok (.iaload, 1) from by decide +kernel) rfl put_a8
theorem m18_24 : M18 24 [l0, l1, .val (.int v), l3] st H Q = M18 25 [l0, l1, .val (.int v), l3] (.int v :: st) H Q := w_x (show decode kb18 24 = .ok (.iload_n 2, 1) from by decide +kernel) rfl
theorem m18_25 : M18 25 ls (.int y :: .int x :: st) H Q = if x = y then M18 28 ls st H Q else M18 41 ls st H Q := w_icmpN (show decode kb18 25 = .ok (.if_icmp .ne 16, 3) from by decide +kernel) (i_ne x y) rfl
theorem m18_28 : M18 28 [.val (.ref r), l1, l2, l3] st H Q = M18 29 [.val (.ref r), l1, l2, l3] (.ref r :: st) H Q := w_x (show decode kb18 28 = .ok (.aload_n 0, 1) from by decide +kernel) rfl
theorem m18_29 : M18 29 ls ((.ref r) :: st) H Q = M18 30 ls ((.ref r) :: (.ref r) :: st) H Q := w_x (show decode kb18 29 = .ok (.dup, 1) from by decide +kernel) rfl
theorem m18_30 : M18 30 ls (.ref (b + 1) :: st) (put (b + 1) pre s A post) Q = M18 33 ls (.int (s 10) :: st) (put (b + 1) pre s A post) Q := w_get (show decode kb18 30 = .ok (.getfield 79, 3) from by decide +kernel) gf_79 put_o rfl
theorem m18_33 : M18 33 ls st H Q = M18 34 ls (.int 1 :: st) H Q := w_con (show decode kb18 33 = .ok (.iconst 1, 1) from by decide +kernel) rfl (by decide)
theorem m18_34 : M18 34 ls (.int y :: .int x :: st) H Q = M18 35 ls (.int (x + y) :: st) H Q := w_x (show decode kb18 34 = .ok (.iadd, 1) from by decide +kernel) rfl
theorem pf18_79 : pfR tables_1 y18.cls y18.name 79 = some ("StreamSigScanner", 22, .int) := by decide +kernel
theorem m18_35 : M18 35 ls (.int v :: .ref (b + 1) :: st) (put (b + 1) pre s A post) Q = M18 38 ls st (put (b + 1) pre (ou s 10 v) A post) Q := w_put (show decode kb18 35 = .ok (.putfield 79, 3) from by decide +kernel) pf18_79 put_o (Nat.succ_le_succ (Nat.zero_le _)) (by show 22 < 29; omega) rfl put_s10
theorem m18_38 : M18 38 ls st H Q = M18 56 ls st H Q := w_x (show decode kb18 38 = .ok (.goto 18, 3) from by decide +kernel) rfl
theorem m18_41 : M18 41 [.val (.ref r), l1, l2, l3] st H Q = M18 42 [.val (.ref r), l1, l2, l3] (.ref r :: st) H Q := w_x (show decode kb18 41 = .ok (.aload_n 0, 1) from by decide +kernel) rfl
theorem m18_42 : M18 42 ls ((.ref r) :: st) H Q = M18 43 ls ((.ref r) :: (.ref r) :: st) H Q := w_x (show decode kb18 42 = .ok (.dup, 1) from by decide +kernel) rfl
theorem m18_43 : M18 43 ls (.ref (b + 1) :: st) (put (b + 1) pre s A post) Q = M18 46 ls (.int (s 9) :: st) (put (b + 1) pre s A post) Q := w_get (show decode kb18 43 = .ok (.getfield 76, 3) from by decide +kernel) gf_76 put_o rfl
theorem m18_46 : M18 46 ls st H Q = M18 47 ls (.int 1 :: st) H Q := w_con (show decode kb18 46 = .ok (.iconst 1, 1) from by decide +kernel) rfl (by decide)
theorem m18_47 : M18 47 ls (.int y :: .int x :: st) H Q = M18 48 ls (.int (x + y) :: st) H Q := w_x (show decode kb18 47 = .ok (.iadd, 1) from by decide +kernel) rfl
theorem pf18_76 : pfR tables_1 y18.cls y18.name 76 = some ("StreamSigScanner", 21, .int) := by decide +kernel
theorem m18_48 : M18 48 ls (.int v :: .ref (b + 1) :: st) (put (b + 1) pre s A post) Q = M18 51 ls st (put (b + 1) pre (ou s 9 v) A post) Q := w_put (show decode kb18 48 = .ok (.putfield 76, 3) from by decide +kernel) pf18_76 put_o (Nat.succ_le_succ (Nat.zero_le _)) (by show 21 < 29; omega) rfl put_s9
theorem m18_51 : M18 51 [.val (.ref r), l1, l2, l3] st H Q = M18 52 [.val (.ref r), l1, l2, l3] (.ref r :: st) H Q := w_x (show decode kb18 51 = .ok (.aload_n 0, 1) from by decide +kernel) rfl
theorem m18_52 : M18 52 [l0, .val (.int v), l2, l3] st H Q = M18 53 [l0, .val (.int v), l2, l3] (.int v :: st) H Q := w_x (show decode kb18 52 = .ok (.iload_n 1, 1) from by decide +kernel) rfl
theorem pf18_85 : pfR tables_1 y18.cls y18.name 85 = some ("StreamSigScanner", 24, .int) := by decide +kernel
theorem m18_53 : M18 53 ls (.int v :: .ref (b + 1) :: st) (put (b + 1) pre s A post) Q = M18 56 ls st (put (b + 1) pre (ou s 12 v) A post) Q := w_put (show decode kb18 53 = .ok (.putfield 85, 3) from by decide +kernel) pf18_85 put_o (Nat.succ_le_succ (Nat.zero_le _)) (by show 24 < 29; omega) rfl put_s12
theorem m18_56 : M18 56 ls [] H Q = Q none H := w_vret (show decode kb18 56 = .ok (.return_, 1) from by decide +kernel) rfl
theorem m18_57 : M18 57 [l0, .val (.int v), l2, l3] st H Q = M18 58 [l0, .val (.int v), l2, l3] (.int v :: st) H Q := w_x (show decode kb18 57 = .ok (.iload_n 1, 1) from by decide +kernel) rfl
theorem m18_58 : M18 58 [l0, l1, l2, .val (.int v)] st H Q = M18 59 [l0, l1, l2, .val (.int v)] (.int v :: st) H Q := w_x (show decode kb18 58 = .ok (.iload_n 3, 1) from by decide +kernel) rfl
theorem m18_59 : M18 59 [.val (.ref r), l1, l2, l3] st H Q = M18 60 [.val (.ref r), l1, l2, l3] (.ref r :: st) H Q := w_x (show decode kb18 59 = .ok (.aload_n 0, 1) from by decide +kernel) rfl
theorem m18_60 : M18 60 ls (.ref (b + 1) :: st) (put (b + 1) pre s A post) Q = M18 63 ls (.int (s 0) :: st) (put (b + 1) pre s A post) Q := w_get (show decode kb18 60 = .ok (.getfield 47, 3) from by decide +kernel) gf_47 put_o rfl
theorem m18_63 : M18 63 ls (.int y :: .int x :: st) H Q = M18 64 ls (.int (x + y) :: st) H Q := w_x (show decode kb18 63 = .ok (.iadd, 1) from by decide +kernel) rfl
theorem m18_64 : M18 64 ls (.int y :: .int x :: st) H Q = if x < y then M18 78 ls st H Q else M18 67 ls st H Q := w_icmp (show decode kb18 64 = .ok (.if_icmp .lt 14, 3) from by decide +kernel) (i_lt x y) rfl
theorem m18_67 : M18 67 [.val (.ref r), l1, l2, l3] st H Q = M18 68 [.val (.ref r), l1, l2, l3] (.ref r :: st) H Q := w_x (show decode kb18 67 = .ok (.aload_n 0, 1) from by decide +kernel) rfl
theorem m18_68 : M18 68 ls ((.ref r) :: st) H Q = M18 69 ls ((.ref r) :: (.ref r) :: st) H Q := w_x (show decode kb18 68 = .ok (.dup, 1) from by decide +kernel) rfl
theorem m18_69 : M18 69 ls (.ref (b + 1) :: st) (put (b + 1) pre s A post) Q = M18 72 ls (.int (s 11) :: st) (put (b + 1) pre s A post) Q := w_get (show decode kb18 69 = .ok (.getfield 82, 3) from by decide +kernel) gf_82 put_o rfl
theorem m18_72 : M18 72 ls st H Q = M18 73 ls (.int 1 :: st) H Q := w_con (show decode kb18 72 = .ok (.iconst 1, 1) from by decide +kernel) rfl (by decide)
theorem m18_73 : M18 73 ls (.int y :: .int x :: st) H Q = M18 74 ls (.int (x + y) :: st) H Q := w_x (show decode kb18 73 = .ok (.iadd, 1) from by decide +kernel) rfl
theorem pf18_82 : pfR tables_1 y18.cls y18.name 82 = some ("StreamSigScanner", 23, .int) := by decide +kernel
theorem m18_74 : M18 74 ls (.int v :: .ref (b + 1) :: st) (put (b + 1) pre s A post) Q = M18 77 ls st (put (b + 1) pre (ou s 11 v) A post) Q := w_put (show decode kb18 74 = .ok (.putfield 82, 3) from by decide +kernel) pf18_82 put_o (Nat.succ_le_succ (Nat.zero_le _)) (by show 23 < 29; omega) rfl put_s11
theorem m18_77 : M18 77 ls [] H Q = Q none H := w_vret (show decode kb18 77 = .ok (.return_, 1) from by decide +kernel) rfl
theorem m18_78 : M18 78 [.val (.ref r), l1, l2, l3] st H Q = M18 79 [.val (.ref r), l1, l2, l3] (.ref r :: st) H Q := w_x (show decode kb18 78 = .ok (.aload_n 0, 1) from by decide +kernel) rfl
theorem m18_79 : M18 79 ls (.ref (b + 1) :: st) (put (b + 1) pre s A post) Q = M18 82 ls (.ref ((b + 1) + 8) :: st) (put (b + 1) pre s A post) Q := w_get (show decode kb18 79 = .ok (.getfield 31, 3) from by decide +kernel) gf_31 put_o rfl
theorem m18_82 : M18 82 [l0, .val (.int v), l2, l3] st H Q = M18 83 [l0, .val (.int v), l2, l3] (.int v :: st) H Q := w_x (show decode kb18 82 = .ok (.iload_n 1, 1) from by decide +kernel) rfl
theorem m18_83 : M18 83 ls st H Q = M18 84 ls (.int 1 :: st) H Q := w_con (show decode kb18 83 = .ok (.iconst 1, 1) from by decide +kernel) rfl (by decide)
theorem m18_84  : M18 84 ls (.int v :: .int j :: .ref ((b + 1) + 8) :: st) (put (b + 1) pre s A post) Q = (inB j (A 7) ∧ M18 85 ls st (put (b + 1) pre s (ou A 7 (setA (A 7) j (nar .boolean v))) post) Q) := w_ist (show decode kb18 84 = .ok (.bastore, 1) from by decide +kernel) rfl put_a7 (by omega) rfl put_w7
theorem m18_85 : M18 85 [.val (.ref r), l1, l2, l3] st H Q = M18 86 [.val (.ref r), l1, l2, l3] (.ref r :: st) H Q := w_x (show decode kb18 85 = .ok (.aload_n 0, 1) from by decide +kernel) rfl
theorem m18_86 : M18 86 ls (.ref (b + 1) :: st) (put (b + 1) pre s A post) Q = M18 89 ls (.ref ((b + 1) + 9) :: st) (put (b + 1) pre s A post) Q := w_get (show decode kb18 86 = .ok (.getfield 35, 3) from by decide +kernel) gf_35 put_o rfl
theorem m18_89 : M18 89 [l0, .val (.int v), l2, l3] st H Q = M18 90 [l0, .val (.int v), l2, l3] (.int v :: st) H Q := w_x (show decode kb18 89 = .ok (.iload_n 1, 1) from by decide +kernel) rfl
theorem m18_90 : M18 90 [l0, l1, .val (.int v), l3] st H Q = M18 91 [l0, l1, .val (.int v), l3] (.int v :: st) H Q := w_x (show decode kb18 90 = .ok (.iload_n 2, 1) from by decide +kernel) rfl
theorem m18_91  : M18 91 ls (.int v :: .int j :: .ref ((b + 1) + 9) :: st) (put (b + 1) pre s A post) Q = (inB j (A 8) ∧ M18 92 ls st (put (b + 1) pre s (ou A 8 (setA (A 8) j v)) post) Q) := w_ist (show decode kb18 91 = .ok (.iastore, 1) from by decide +kernel) rfl put_a8 (by omega) rfl put_w8
theorem m18_92 : M18 92 [.val (.ref r), l1, l2, l3] st H Q = M18 93 [.val (.ref r), l1, l2, l3] (.ref r :: st) H Q := w_x (show decode kb18 92 = .ok (.aload_n 0, 1) from by decide +kernel) rfl
theorem m18_93 : M18 93 ls ((.ref r) :: st) H Q = M18 94 ls ((.ref r) :: (.ref r) :: st) H Q := w_x (show decode kb18 93 = .ok (.dup, 1) from by decide +kernel) rfl
theorem m18_94 : M18 94 ls (.ref (b + 1) :: st) (put (b + 1) pre s A post) Q = M18 97 ls (.int (s 8) :: st) (put (b + 1) pre s A post) Q := w_get (show decode kb18 94 = .ok (.getfield 73, 3) from by decide +kernel) gf_73 put_o rfl
theorem m18_97 : M18 97 ls st H Q = M18 98 ls (.int 1 :: st) H Q := w_con (show decode kb18 97 = .ok (.iconst 1, 1) from by decide +kernel) rfl (by decide)
theorem m18_98 : M18 98 ls (.int y :: .int x :: st) H Q = M18 99 ls (.int (x + y) :: st) H Q := w_x (show decode kb18 98 = .ok (.iadd, 1) from by decide +kernel) rfl
theorem pf18_73 : pfR tables_1 y18.cls y18.name 73 = some ("StreamSigScanner", 20, .int) := by decide +kernel
theorem m18_99 : M18 99 ls (.int v :: .ref (b + 1) :: st) (put (b + 1) pre s A post) Q = M18 102 ls st (put (b + 1) pre (ou s 8 v) A post) Q := w_put (show decode kb18 99 = .ok (.putfield 73, 3) from by decide +kernel) pf18_73 put_o (Nat.succ_le_succ (Nat.zero_le _)) (by show 20 < 29; omega) rfl put_s8
theorem m18_102 : M18 102 ls [] H Q = Q none H := w_vret (show decode kb18 102 = .ok (.return_, 1) from by decide +kernel) rfl
theorem m19_0 : M19 0 [.val (.ref r), l1, l2, l3, l4, l5, l6] st H Q = M19 1 [.val (.ref r), l1, l2, l3, l4, l5, l6] (.ref r :: st) H Q := w_x (show decode kb19 0 = .ok (.aload_n 0, 1) from by decide +kernel) rfl
theorem m19_1 : M19 1 ls (.ref (b + 1) :: st) (put (b + 1) pre s A post) Q = M19 4 ls (.int (s 6) :: st) (put (b + 1) pre s A post) Q := w_get (show decode kb19 1 = .ok (.getfield 67, 3) from by decide +kernel) gf_67 put_o rfl
theorem m19_4 : M19 4 ls st H Q = M19 7 ls (.int 256 :: st) H Q := w_con (show decode kb19 4 = .ok (.sipush 256, 3) from by decide +kernel) rfl (by decide)
theorem m19_7 : M19 7 ls (.int y :: .int x :: st) H Q = M19 8 ls (.int (x * y) :: st) H Q := w_x (show decode kb19 7 = .ok (.imul, 1) from by decide +kernel) rfl
theorem m19_8 : M19 8 [l0, l1, .val (.int v), l3, l4, l5, l6] st H Q = M19 9 [l0, l1, .val (.int v), l3, l4, l5, l6] (.int v :: st) H Q := w_x (show decode kb19 8 = .ok (.iload_n 2, 1) from by decide +kernel) rfl
theorem m19_9 : M19 9 ls (.int y :: .int x :: st) H Q = M19 10 ls (.int (x + y) :: st) H Q := w_x (show decode kb19 9 = .ok (.iadd, 1) from by decide +kernel) rfl
theorem m19_10u : M19 10 [l0, l1, l2, .unset, l4, l5, l6] ((.int v) :: st) H Q = M19 11 [l0, l1, l2, .val (.int v), l4, l5, l6] st H Q := w_st (i := 3) (p := isI) (show decode kb19 10 = .ok (.istore_n 3, 1) from by decide +kernel) rfl rfl rfl rfl rfl rfl
theorem m19_11 : M19 11 [l0, l1, l2, .val (.int v), l4, l5, l6] st H Q = M19 12 [l0, l1, l2, .val (.int v), l4, l5, l6] (.int v :: st) H Q := w_x (show decode kb19 11 = .ok (.iload_n 3, 1) from by decide +kernel) rfl
theorem m19_12 : M19 12 ls (.int x :: st) H Q = if x < 0 then M19 22 ls st H Q else M19 15 ls st H Q := w_if (show decode kb19 12 = .ok (.ifCond .lt 10, 3) from by decide +kernel) (z_lt x) rfl
theorem m19_15 : M19 15 [l0, l1, l2, .val (.int v), l4, l5, l6] st H Q = M19 16 [l0, l1, l2, .val (.int v), l4, l5, l6] (.int v :: st) H Q := w_x (show decode kb19 15 = .ok (.iload_n 3, 1) from by decide +kernel) rfl
theorem m19_16 : M19 16 ls st H Q = M19 19 ls (.int 16640 :: st) H Q := w_con (show decode kb19 16 = .ok (.sipush 16640, 3) from by decide +kernel) rfl (by decide)
theorem m19_19 : M19 19 ls (.int y :: .int x :: st) H Q = if x < y then M19 28 ls st H Q else M19 22 ls st H Q := w_icmp (show decode kb19 19 = .ok (.if_icmp .lt 9, 3) from by decide +kernel) (i_lt x y) rfl
theorem m19_22 : M19 22 [.val (.ref r), l1, l2, l3, l4, l5, l6] st H Q = M19 23 [.val (.ref r), l1, l2, l3, l4, l5, l6] (.ref r :: st) H Q := w_x (show decode kb19 22 = .ok (.aload_n 0, 1) from by decide +kernel) rfl
theorem m19_23 : M19 23 ls st H Q = M19 24 ls (.int 0 :: st) H Q := w_con (show decode kb19 23 = .ok (.iconst 0, 1) from by decide +kernel) rfl (by decide)
theorem pf19_67 : pfR tables_1 y19.cls y19.name 67 = some ("StreamSigScanner", 18, .int) := by decide +kernel
theorem m19_24 : M19 24 ls (.int v :: .ref (b + 1) :: st) (put (b + 1) pre s A post) Q = M19 27 ls st (put (b + 1) pre (ou s 6 v) A post) Q := w_put (show decode kb19 24 = .ok (.putfield 67, 3) from by decide +kernel) pf19_67 put_o (Nat.succ_le_succ (Nat.zero_le _)) (by show 18 < 29; omega) rfl put_s6
theorem m19_27 : M19 27 ls [] H Q = Q none H := w_vret (show decode kb19 27 = .ok (.return_, 1) from by decide +kernel) rfl
theorem m19_28 : M19 28 [.val (.ref r), l1, l2, l3, l4, l5, l6] st H Q = M19 29 [.val (.ref r), l1, l2, l3, l4, l5, l6] (.ref r :: st) H Q := w_x (show decode kb19 28 = .ok (.aload_n 0, 1) from by decide +kernel) rfl
theorem m19_29 : M19 29 ls (.ref (b + 1) :: st) (put (b + 1) pre s A post) Q = M19 32 ls (.ref ((b + 1) + 4) :: st) (put (b + 1) pre s A post) Q := w_get (show decode kb19 29 = .ok (.getfield 19, 3) from by decide +kernel) gf_19 put_o rfl
theorem m19_32 : M19 32 [l0, l1, l2, .val (.int v), l4, l5, l6] st H Q = M19 33 [l0, l1, l2, .val (.int v), l4, l5, l6] (.int v :: st) H Q := w_x (show decode kb19 32 = .ok (.iload_n 3, 1) from by decide +kernel) rfl
theorem m19_33  : M19 33 ls (.int j :: .ref ((b + 1) + 4) :: st) (put (b + 1) pre s A post) Q = (inB j (A 3) ∧ M19 34 ls (.int (getA (A 3) j) :: st) (put (b + 1) pre s A post) Q) := w_ild (show decode kb19 33 = .ok (.iaload, 1) from by decide +kernel) rfl put_a3
theorem m19_34u : M19 34 [l0, l1, l2, l3, .unset, l5, l6] ((.int v) :: st) H Q = M19 36 [l0, l1, l2, l3, .val (.int v), l5, l6] st H Q := w_st (i := 4) (p := isI) (show decode kb19 34 = .ok (.istore 4, 2) from by decide +kernel) rfl rfl rfl rfl rfl rfl
theorem m19_36 : M19 36 [l0, l1, l2, l3, .val (.int v), l5, l6] st H Q = M19 38 [l0, l1, l2, l3, .val (.int v), l5, l6] (.int v :: st) H Q := w_x (show decode kb19 36 = .ok (.iload 4, 2) from by decide +kernel) rfl
theorem m19_38 : M19 38 ls (.int x :: st) H Q = if x < 0 then M19 48 ls st H Q else M19 41 ls st H Q := w_if (show decode kb19 38 = .ok (.ifCond .lt 10, 3) from by decide +kernel) (z_lt x) rfl
theorem m19_41 : M19 41 [l0, l1, l2, l3, .val (.int v), l5, l6] st H Q = M19 43 [l0, l1, l2, l3, .val (.int v), l5, l6] (.int v :: st) H Q := w_x (show decode kb19 41 = .ok (.iload 4, 2) from by decide +kernel) rfl
theorem m19_43 : M19 43 ls st H Q = M19 45 ls (.int 65 :: st) H Q := w_con (show decode kb19 43 = .ok (.bipush 65, 2) from by decide +kernel) rfl (by decide)
theorem m19_45 : M19 45 ls (.int y :: .int x :: st) H Q = if x < y then M19 51 ls st H Q else M19 48 ls st H Q := w_icmp (show decode kb19 45 = .ok (.if_icmp .lt 6, 3) from by decide +kernel) (i_lt x y) rfl
theorem m19_48 : M19 48 ls st H Q = M19 49 ls (.int 0 :: st) H Q := w_con (show decode kb19 48 = .ok (.iconst 0, 1) from by decide +kernel) rfl (by decide)
theorem m19_49i : M19 49 [l0, l1, l2, l3, .val (.int z), l5, l6] ((.int v) :: st) H Q = M19 51 [l0, l1, l2, l3, .val (.int v), l5, l6] st H Q := w_st (i := 4) (p := isI) (show decode kb19 49 = .ok (.istore 4, 2) from by decide +kernel) rfl rfl rfl rfl rfl rfl
theorem m19_51 : M19 51 [.val (.ref r), l1, l2, l3, l4, l5, l6] st H Q = M19 52 [.val (.ref r), l1, l2, l3, l4, l5, l6] (.ref r :: st) H Q := w_x (show decode kb19 51 = .ok (.aload_n 0, 1) from by decide +kernel) rfl
theorem m19_52 : M19 52 [l0, l1, l2, l3, .val (.int v), l5, l6] st H Q = M19 54 [l0, l1, l2, l3, .val (.int v), l5, l6] (.int v :: st) H Q := w_x (show decode kb19 52 = .ok (.iload 4, 2) from by decide +kernel) rfl
theorem m19_54 : M19 54 ls (.int v :: .ref (b + 1) :: st) (put (b + 1) pre s A post) Q = M19 57 ls st (put (b + 1) pre (ou s 6 v) A post) Q := w_put (show decode kb19 54 = .ok (.putfield 67, 3) from by decide +kernel) pf19_67 put_o (Nat.succ_le_succ (Nat.zero_le _)) (by show 18 < 29; omega) rfl put_s6
theorem m19_57 : M19 57 [.val (.ref r), l1, l2, l3, l4, l5, l6] st H Q = M19 58 [.val (.ref r), l1, l2, l3, l4, l5, l6] (.ref r :: st) H Q := w_x (show decode kb19 57 = .ok (.aload_n 0, 1) from by decide +kernel) rfl
theorem m19_58 : M19 58 ls (.ref (b + 1) :: st) (put (b + 1) pre s A post) Q = M19 61 ls (.ref ((b + 1) + 6) :: st) (put (b + 1) pre s A post) Q := w_get (show decode kb19 58 = .ok (.getfield 25, 3) from by decide +kernel) gf_25 put_o rfl
theorem m19_61 : M19 61 [l0, l1, l2, l3, .val (.int v), l5, l6] st H Q = M19 63 [l0, l1, l2, l3, .val (.int v), l5, l6] (.int v :: st) H Q := w_x (show decode kb19 61 = .ok (.iload 4, 2) from by decide +kernel) rfl
theorem m19_63  : M19 63 ls (.int j :: .ref ((b + 1) + 6) :: st) (put (b + 1) pre s A post) Q = (inB j (A 5) ∧ M19 64 ls (.int (getA (A 5) j) :: st) (put (b + 1) pre s A post) Q) := w_ild (show decode kb19 63 = .ok (.iaload, 1) from by decide +kernel) rfl put_a5
theorem m19_64u : M19 64 [l0, l1, l2, l3, l4, .unset, l6] ((.int v) :: st) H Q = M19 66 [l0, l1, l2, l3, l4, .val (.int v), l6] st H Q := w_st (i := 5) (p := isI) (show decode kb19 64 = .ok (.istore 5, 2) from by decide +kernel) rfl rfl rfl rfl rfl rfl
theorem m19_66 : M19 66 [l0, l1, l2, l3, l4, .val (.int v), l6] st H Q = M19 68 [l0, l1, l2, l3, l4, .val (.int v), l6] (.int v :: st) H Q := w_x (show decode kb19 66 = .ok (.iload 5, 2) from by decide +kernel) rfl
theorem m19_68 : M19 68 ls (.int x :: st) H Q = if x = 0 then M19 71 ls st H Q else M19 72 ls st H Q := w_ifN (show decode kb19 68 = .ok (.ifCond .ne 4, 3) from by decide +kernel) (z_ne x) rfl
theorem m19_71 : M19 71 ls [] H Q = Q none H := w_vret (show decode kb19 71 = .ok (.return_, 1) from by decide +kernel) rfl
theorem m19_72 : M19 72 ls st H Q = M19 73 ls (.int 0 :: st) H Q := w_con (show decode kb19 72 = .ok (.iconst 0, 1) from by decide +kernel) rfl (by decide)
theorem m19_73u : M19 73 [l0, l1, l2, l3, l4, l5, .unset] ((.int v) :: st) H Q = M19 75 [l0, l1, l2, l3, l4, l5, .val (.int v)] st H Q := w_st (i := 6) (p := isI) (show decode kb19 73 = .ok (.istore 6, 2) from by decide +kernel) rfl rfl rfl rfl rfl rfl
theorem m19_75 : M19 75 [l0, l1, l2, l3, l4, l5, .val (.int v)] st H Q = M19 77 [l0, l1, l2, l3, l4, l5, .val (.int v)] (.int v :: st) H Q := w_x (show decode kb19 75 = .ok (.iload 6, 2) from by decide +kernel) rfl
theorem m19_77 : M19 77 [.val (.ref r), l1, l2, l3, l4, l5, l6] st H Q = M19 78 [.val (.ref r), l1, l2, l3, l4, l5, l6] (.ref r :: st) H Q := w_x (show decode kb19 77 = .ok (.aload_n 0, 1) from by decide +kernel) rfl
theorem m19_78 : M19 78 ls (.ref (b + 1) :: st) (put (b + 1) pre s A post) Q = M19 81 ls (.int (s 2) :: st) (put (b + 1) pre s A post) Q := w_get (show decode kb19 78 = .ok (.getfield 55, 3) from by decide +kernel) gf_55 put_o rfl
theorem m19_81 : M19 81 ls (.int y :: .int x :: st) H Q = if x < y then M19 84 ls st H Q else M19 114 ls st H Q := w_icmpN (show decode kb19 81 = .ok (.if_icmp .ge 33, 3) from by decide +kernel) (i_ge x y) rfl
theorem m19_84 : M19 84 [l0, l1, l2, l3, l4, l5, .val (.int v)] st H Q = M19 86 [l0, l1, l2, l3, l4, l5, .val (.int v)] (.int v :: st) H Q := w_x (show decode kb19 84 = .ok (.iload 6, 2) from by decide +kernel) rfl
theorem m19_86 : M19 86 ls st H Q = M19 88 ls (.int 16 :: st) H Q := w_con (show decode kb19 86 = .ok (.bipush 16, 2) from by decide +kernel) rfl (by decide)
theorem m19_88 : M19 88 ls (.int y :: .int x :: st) H Q = if x < y then M19 91 ls st H Q else M19 114 ls st H Q := w_icmpN (show decode kb19 88 = .ok (.if_icmp .ge 26, 3) from by decide +kernel) (i_ge x y) rfl
theorem m19_91 : M19 91 [l0, l1, l2, l3, l4, .val (.int v), l6] st H Q = M19 93 [l0, l1, l2, l3, l4, .val (.int v), l6] (.int v :: st) H Q := w_x (show decode kb19 91 = .ok (.iload 5, 2) from by decide +kernel) rfl
theorem m19_93 : M19 93 [l0, l1, l2, l3, l4, l5, .val (.int v)] st H Q = M19 95 [l0, l1, l2, l3, l4, l5, .val (.int v)] (.int v :: st) H Q := w_x (show decode kb19 93 = .ok (.iload 6, 2) from by decide +kernel) rfl
theorem m19_95 : M19 95 ls (.int y :: .int x :: st) H Q = M19 96 ls (.int (x >>> (y &&& 31)) :: st) H Q := w_x (show decode kb19 95 = .ok (.ishr, 1) from by decide +kernel) rfl
theorem m19_96 : M19 96 ls st H Q = M19 97 ls (.int 1 :: st) H Q := w_con (show decode kb19 96 = .ok (.iconst 1, 1) from by decide +kernel) rfl (by decide)
theorem m19_97 : M19 97 ls (.int y :: .int x :: st) H Q = M19 98 ls (.int (x &&& y) :: st) H Q := w_x (show decode kb19 97 = .ok (.iand, 1) from by decide +kernel) rfl
theorem m19_98 : M19 98 ls (.int x :: st) H Q = if x = 0 then M19 108 ls st H Q else M19 101 ls st H Q := w_if (show decode kb19 98 = .ok (.ifCond .eq 10, 3) from by decide +kernel) (z_eq x) rfl
theorem m19_101 : M19 101 [.val (.ref r), l1, l2, l3, l4, l5, l6] st H Q = M19 102 [.val (.ref r), l1, l2, l3, l4, l5, l6] (.ref r :: st) H Q := w_x (show decode kb19 101 = .ok (.aload_n 0, 1) from by decide +kernel) rfl
theorem m19_102 : M19 102 [l0, l1, l2, l3, l4, l5, .val (.int v)] st H Q = M19 104 [l0, l1, l2, l3, l4, l5, .val (.int v)] (.int v :: st) H Q := w_x (show decode kb19 102 = .ok (.iload 6, 2) from by decide +kernel) rfl
theorem m19_104 : M19 104 [l0, .val (.int v), l2, l3, l4, l5, l6] st H Q = M19 105 [l0, .val (.int v), l2, l3, l4, l5, l6] (.int v :: st) H Q := w_x (show decode kb19 104 = .ok (.iload_n 1, 1) from by decide +kernel) rfl
theorem cr19_131 : vR tables_1 dn y19 131 = some (true, y20, prog_1_method_15_code, 3, none, 2, 0) := pR_of (cR_of (by decide +kernel) rc_20 dn_20 dn_19 (sig := ⟨[.int, .int], none⟩) (by decide +kernel) (by decide +kernel) rfl rfl) (by decide +kernel) (by decide +kernel)
theorem m19_105 (a0 : Int32) (a1 : Int32) : M19 105 ls [.int a1, .int a0, .ref (b + 1)] (put (b + 1) pre s A post) Q = M20 0 [.val (.ref (b + 1)), .val (.int a0), .val (.int a1)] [] (put (b + 1) pre s A post) (fun v H1 => M19 108 ls (v.toList ++ []) H1 Q) := w_virt (as := [.int a1, .int a0]) (rest := []) (a := (b + 1)) (show decode kb19 105 = .ok (.invokevirtual 131, 3) from by decide +kernel) cr19_131 put_o rfl rfl (Nat.le_of_ble_eq_true rfl) (by show 3 ≤ 3; omega) rfl
theorem m19_108 : M19 108 [l0, l1, l2, l3, l4, l5, .val (.int v)] st H Q = M19 111 [l0, l1, l2, l3, l4, l5, .val (.int (v + 1))] st H Q := w_iinc (show decode kb19 108 = .ok (.iinc 6 1, 3) from by decide +kernel) rfl (by decide) rfl
theorem m19_111 : M19 111 ls st H Q = M19 75 ls st H Q := w_x (show decode kb19 111 = .ok (.goto (-36), 3) from by decide +kernel) rfl
theorem m19_114 : M19 114 ls [] H Q = Q none H := w_vret (show decode kb19 114 = .ok (.return_, 1) from by decide +kernel) rfl
theorem m20_0 : M20 0 [.val (.ref r), l1, l2] st H Q = M20 1 [.val (.ref r), l1, l2] (.ref r :: st) H Q := w_x (show decode kb20 0 = .ok (.aload_n 0, 1) from by decide +kernel) rfl
theorem m20_1 : M20 1 ls (.ref (b + 1) :: st) (put (b + 1) pre s A post) Q = M20 4 ls (.int (s 16) :: st) (put (b + 1) pre s A post) Q := w_get (show decode kb20 1 = .ok (.getfield 97, 3) from by decide +kernel) gf_97 put_o rfl
theorem m20_4 : M20 4 ls (.int x :: st) H Q = if x < 0 then M20 36 ls st H Q else M20 7 ls st H Q := w_if (show decode kb20 4 = .ok (.ifCond .lt 32, 3) from by decide +kernel) (z_lt x) rfl
theorem m20_7 : M20 7 [.val (.ref r), l1, l2] st H Q = M20 8 [.val (.ref r), l1, l2] (.ref r :: st) H Q := w_x (show decode kb20 7 = .ok (.aload_n 0, 1) from by decide +kernel) rfl
theorem m20_8 : M20 8 ls (.ref (b + 1) :: st) (put (b + 1) pre s A post) Q = M20 11 ls (.int (s 16) :: st) (put (b + 1) pre s A post) Q := w_get (show decode kb20 8 = .ok (.getfield 97, 3) from by decide +kernel) gf_97 put_o rfl
theorem m20_11 : M20 11 ls st H Q = M20 13 ls (.int 64 :: st) H Q := w_con (show decode kb20 11 = .ok (.bipush 64, 2) from by decide +kernel) rfl (by decide)
theorem m20_13 : M20 13 ls (.int y :: .int x :: st) H Q = if x < y then M20 16 ls st H Q else M20 36 ls st H Q := w_icmpN (show decode kb20 13 = .ok (.if_icmp .ge 23, 3) from by decide +kernel) (i_ge x y) rfl
theorem m20_16 : M20 16 [.val (.ref r), l1, l2] st H Q = M20 17 [.val (.ref r), l1, l2] (.ref r :: st) H Q := w_x (show decode kb20 16 = .ok (.aload_n 0, 1) from by decide +kernel) rfl
theorem m20_17 : M20 17 ls (.ref (b + 1) :: st) (put (b + 1) pre s A post) Q = M20 20 ls (.ref ((b + 1) + 11) :: st) (put (b + 1) pre s A post) Q := w_get (show decode kb20 17 = .ok (.getfield 41, 3) from by decide +kernel) gf_41 put_o rfl
theorem m20_20 : M20 20 [.val (.ref r), l1, l2] st H Q = M20 21 [.val (.ref r), l1, l2] (.ref r :: st) H Q := w_x (show decode kb20 20 = .ok (.aload_n 0, 1) from by decide +kernel) rfl
theorem m20_21 : M20 21 ls (.ref (b + 1) :: st) (put (b + 1) pre s A post) Q = M20 24 ls (.int (s 16) :: st) (put (b + 1) pre s A post) Q := w_get (show decode kb20 21 = .ok (.getfield 97, 3) from by decide +kernel) gf_97 put_o rfl
theorem m20_24 : M20 24 [l0, .val (.int v), l2] st H Q = M20 25 [l0, .val (.int v), l2] (.int v :: st) H Q := w_x (show decode kb20 24 = .ok (.iload_n 1, 1) from by decide +kernel) rfl
theorem m20_25  : M20 25 ls (.int v :: .int j :: .ref ((b + 1) + 11) :: st) (put (b + 1) pre s A post) Q = (inB j (A 10) ∧ M20 26 ls st (put (b + 1) pre s (ou A 10 (setA (A 10) j v)) post) Q) := w_ist (show decode kb20 25 = .ok (.iastore, 1) from by decide +kernel) rfl put_a10 (by omega) rfl put_w10
theorem m20_26 : M20 26 [.val (.ref r), l1, l2] st H Q = M20 27 [.val (.ref r), l1, l2] (.ref r :: st) H Q := w_x (show decode kb20 26 = .ok (.aload_n 0, 1) from by decide +kernel) rfl
theorem m20_27 : M20 27 ls (.ref (b + 1) :: st) (put (b + 1) pre s A post) Q = M20 30 ls (.ref ((b + 1) + 12) :: st) (put (b + 1) pre s A post) Q := w_get (show decode kb20 27 = .ok (.getfield 44, 3) from by decide +kernel) gf_44 put_o rfl
theorem m20_30 : M20 30 [.val (.ref r), l1, l2] st H Q = M20 31 [.val (.ref r), l1, l2] (.ref r :: st) H Q := w_x (show decode kb20 30 = .ok (.aload_n 0, 1) from by decide +kernel) rfl
theorem m20_31 : M20 31 ls (.ref (b + 1) :: st) (put (b + 1) pre s A post) Q = M20 34 ls (.int (s 16) :: st) (put (b + 1) pre s A post) Q := w_get (show decode kb20 31 = .ok (.getfield 97, 3) from by decide +kernel) gf_97 put_o rfl
theorem m20_34 : M20 34 [l0, l1, .val (.int v)] st H Q = M20 35 [l0, l1, .val (.int v)] (.int v :: st) H Q := w_x (show decode kb20 34 = .ok (.iload_n 2, 1) from by decide +kernel) rfl
theorem m20_35  : M20 35 ls (.int v :: .int j :: .ref ((b + 1) + 12) :: st) (put (b + 1) pre s A post) Q = (inB j (A 11) ∧ M20 36 ls st (put (b + 1) pre s (ou A 11 (setA (A 11) j v)) post) Q) := w_ist (show decode kb20 35 = .ok (.iastore, 1) from by decide +kernel) rfl put_a11 (by omega) rfl put_w11
theorem m20_36 : M20 36 [.val (.ref r), l1, l2] st H Q = M20 37 [.val (.ref r), l1, l2] (.ref r :: st) H Q := w_x (show decode kb20 36 = .ok (.aload_n 0, 1) from by decide +kernel) rfl
theorem m20_37 : M20 37 ls ((.ref r) :: st) H Q = M20 38 ls ((.ref r) :: (.ref r) :: st) H Q := w_x (show decode kb20 37 = .ok (.dup, 1) from by decide +kernel) rfl
theorem m20_38 : M20 38 ls (.ref (b + 1) :: st) (put (b + 1) pre s A post) Q = M20 41 ls (.int (s 16) :: st) (put (b + 1) pre s A post) Q := w_get (show decode kb20 38 = .ok (.getfield 97, 3) from by decide +kernel) gf_97 put_o rfl
theorem m20_41 : M20 41 ls st H Q = M20 42 ls (.int 1 :: st) H Q := w_con (show decode kb20 41 = .ok (.iconst 1, 1) from by decide +kernel) rfl (by decide)
theorem m20_42 : M20 42 ls (.int y :: .int x :: st) H Q = M20 43 ls (.int (x + y) :: st) H Q := w_x (show decode kb20 42 = .ok (.iadd, 1) from by decide +kernel) rfl
theorem pf20_97 : pfR tables_1 y20.cls y20.name 97 = some ("StreamSigScanner", 28, .int) := by decide +kernel
theorem m20_43 : M20 43 ls (.int v :: .ref (b + 1) :: st) (put (b + 1) pre s A post) Q = M20 46 ls st (put (b + 1) pre (ou s 16 v) A post) Q := w_put (show decode kb20 43 = .ok (.putfield 97, 3) from by decide +kernel) pf20_97 put_o (Nat.succ_le_succ (Nat.zero_le _)) (by show 28 < 29; omega) rfl put_s16
theorem m20_46 : M20 46 ls [] H Q = Q none H := w_vret (show decode kb20 46 = .ok (.return_, 1) from by decide +kernel) rfl
theorem m21_0 : M21 0 [.val (.ref r), l1, l2, l3, l4, l5, l6, l7, l8, l9, l10, l11, l12, l13, l14, l15, l16, l17, l18, l19, l20, l21, l22, l23, l24, l25, l26, l27, l28, l29, l30, l31, l32] st H Q = M21 1 [.val (.ref r), l1, l2, l3, l4, l5, l6, l7, l8, l9, l10, l11, l12, l13, l14, l15, l16, l17, l18, l19, l20, l21, l22, l23, l24, l25, l26, l27, l28, l29, l30, l31, l32] (.ref r :: st) H Q := w_x at_0 rfl
theorem m21_1 : M21 1 ls (.ref 0 :: st) ((.array .int, sc.map Value.int) :: R) Q = M21 2 ls (.int sc.length.toInt32 :: st) ((.array .int, sc.map Value.int) :: R) Q := by exact (w_len at_1 rfl).trans (by rw [List.length_map]; rfl)
theorem m21_1p : M21 1 ls (.ref 0 :: st) (put (b + 1) ((.array .int, sc.map Value.int) :: pre) s A post) Q = M21 2 ls (.int sc.length.toInt32 :: st) (put (b + 1) ((.array .int, sc.map Value.int) :: pre) s A post) Q := by exact (w_len at_1 rfl).trans (by rw [List.length_map]; rfl)
theorem m21_2 : M21 2 ls (.int x :: st) H Q = if 0 < x then M21 5 ls st H Q else M21 14 ls st H Q := w_ifN at_2 (z_le x) rfl
theorem m21_5 : M21 5 [.val (.ref r), l1, l2, l3, l4, l5, l6, l7, l8, l9, l10, l11, l12, l13, l14, l15, l16, l17, l18, l19, l20, l21, l22, l23, l24, l25, l26, l27, l28, l29, l30, l31, l32] st H Q = M21 6 [.val (.ref r), l1, l2, l3, l4, l5, l6, l7, l8, l9, l10, l11, l12, l13, l14, l15, l16, l17, l18, l19, l20, l21, l22, l23, l24, l25, l26, l27, l28, l29, l30, l31, l32] (.ref r :: st) H Q := w_x at_5 rfl
theorem m21_6 : M21 6 ls st H Q = M21 7 ls (.int 0 :: st) H Q := w_con at_6 rfl (by decide)
theorem m21_7 : M21 7 ls (.int j :: .ref 0 :: st) ((.array .int, sc.map Value.int) :: R) Q = (inB j sc ∧ M21 8 ls (.int (getA sc j) :: st) ((.array .int, sc.map Value.int) :: R) Q) := w_ild at_7 rfl rfl
theorem m21_7p : M21 7 ls (.int j :: .ref 0 :: st) (put (b + 1) ((.array .int, sc.map Value.int) :: pre) s A post) Q = (inB j sc ∧ M21 8 ls (.int (getA sc j) :: st) (put (b + 1) ((.array .int, sc.map Value.int) :: pre) s A post) Q) := w_ild at_7 rfl rfl
theorem m21_8 : M21 8 ls st H Q = M21 10 ls (.int 127 :: st) H Q := w_con at_8 rfl (by decide)
theorem m21_10 : M21 10 ls (.int y :: .int x :: st) H Q = M21 11 ls (.int (x &&& y) :: st) H Q := w_x at_10 rfl
theorem m21_11 : M21 11 ls st H Q = M21 16 ls st H Q := w_x at_11 rfl
theorem m21_14 : M21 14 ls st H Q = M21 16 ls (.int 16 :: st) H Q := w_con at_14 rfl (by decide)
theorem m21_16u : M21 16 [l0, .unset, l2, l3, l4, l5, l6, l7, l8, l9, l10, l11, l12, l13, l14, l15, l16, l17, l18, l19, l20, l21, l22, l23, l24, l25, l26, l27, l28, l29, l30, l31, l32] ((.int v) :: st) H Q = M21 17 [l0, .val (.int v), l2, l3, l4, l5, l6, l7, l8, l9, l10, l11, l12, l13, l14, l15, l16, l17, l18, l19, l20, l21, l22, l23, l24, l25, l26, l27, l28, l29, l30, l31, l32] st H Q := w_st (i := 1) (p := isI) at_16 rfl rfl rfl rfl rfl rfl
theorem m21_17 : M21 17 ls st H Q = M21 20 ls (.ref H.length :: st) (H ++ [(.object "StreamSigScanner", D0)]) Q := (w_new (C := "StreamSigScanner") at_17 (by rw [hNew, show rCls tables_1 y21.cls 7 = some "StreamSigScanner" from by decide +kernel]; dsimp only; rw [if_pos (by decide +kernel)])).trans (by rw [lay0]; rfl)
theorem m21_20 : M21 20 ls ((.ref r) :: st) H Q = M21 21 ls ((.ref r) :: (.ref r) :: st) H Q := w_x at_20 rfl
theorem m21_21 : M21 21 [l0, .val (.int v), l2, l3, l4, l5, l6, l7, l8, l9, l10, l11, l12, l13, l14, l15, l16, l17, l18, l19, l20, l21, l22, l23, l24, l25, l26, l27, l28, l29, l30, l31, l32] st H Q = M21 22 [l0, .val (.int v), l2, l3, l4, l5, l6, l7, l8, l9, l10, l11, l12, l13, l14, l15, l16, l17, l18, l19, l20, l21, l22, l23, l24, l25, l26, l27, l28, l29, l30, l31, l32] (.int v :: st) H Q := w_x at_21 rfl
theorem cr21_9 : nR tables_1 dn y21 9 = some (y0, prog_1_method_1_code, 3, none, 1, 35) := nR_of (cR_of (by decide +kernel) rc_0 dn_0 dn_21 (sig := ⟨[.int], none⟩) (by decide +kernel) (by decide +kernel) rfl rfl) rfl (by decide +kernel) rfl
theorem cr21_9_o : oR tables_1 dn y21 9 = none := by decide +kernel
theorem m21_22 (a0 : Int32) (u0 : Nat) : M21 22 ls [.int a0, .ref r, .ref u0] H Q = M0 0 [.val (.ref r), .val (.int a0), .unset] [] H (fun v H1 => M21 25 ls (v.toList ++ [.ref u0]) H1 Q) := w_spec (as := [.int a0]) (rest := [.ref u0]) (a := r) at_22 cr21_9_o cr21_9 rfl (Nat.le_of_ble_eq_true rfl) (by show 2 ≤ 3; omega) rfl
theorem m21_25u : M21 25 [l0, l1, .unset, l3, l4, l5, l6, l7, l8, l9, l10, l11, l12, l13, l14, l15, l16, l17, l18, l19, l20, l21, l22, l23, l24, l25, l26, l27, l28, l29, l30, l31, l32] ((.ref r) :: st) H Q = M21 26 [l0, l1, .val (.ref r), l3, l4, l5, l6, l7, l8, l9, l10, l11, l12, l13, l14, l15, l16, l17, l18, l19, l20, l21, l22, l23, l24, l25, l26, l27, l28, l29, l30, l31, l32] st H Q := w_st (i := 2) (p := Value.isRef) at_25 rfl rfl rfl rfl rfl rfl
theorem m21_26 : M21 26 [l0, .val (.int v), l2, l3, l4, l5, l6, l7, l8, l9, l10, l11, l12, l13, l14, l15, l16, l17, l18, l19, l20, l21, l22, l23, l24, l25, l26, l27, l28, l29, l30, l31, l32] st H Q = M21 27 [l0, .val (.int v), l2, l3, l4, l5, l6, l7, l8, l9, l10, l11, l12, l13, l14, l15, l16, l17, l18, l19, l20, l21, l22, l23, l24, l25, l26, l27, l28, l29, l30, l31, l32] (.int v :: st) H Q := w_x at_26 rfl
theorem m21_27 : M21 27 ls st H Q = M21 29 ls (.int 8 :: st) H Q := w_con at_27 rfl (by decide)
theorem m21_29 : M21 29 ls (.int y :: .int x :: st) H Q = if x < y then M21 32 ls st H Q else M21 37 ls st H Q := w_icmpN at_29 (i_ge x y) rfl
theorem m21_32 : M21 32 ls st H Q = M21 34 ls (.int 8 :: st) H Q := w_con at_32 rfl (by decide)
theorem m21_34 : M21 34 ls st H Q = M21 49 ls st H Q := w_x at_34 rfl
theorem m21_37 : M21 37 [l0, .val (.int v), l2, l3, l4, l5, l6, l7, l8, l9, l10, l11, l12, l13, l14, l15, l16, l17, l18, l19, l20, l21, l22, l23, l24, l25, l26, l27, l28, l29, l30, l31, l32] st H Q = M21 38 [l0, .val (.int v), l2, l3, l4, l5, l6, l7, l8, l9, l10, l11, l12, l13, l14, l15, l16, l17, l18, l19, l20, l21, l22, l23, l24, l25, l26, l27, l28, l29, l30, l31, l32] (.int v :: st) H Q := w_x at_37 rfl
theorem m21_38 : M21 38 ls st H Q = M21 40 ls (.int 64 :: st) H Q := w_con at_38 rfl (by decide)
theorem m21_40 : M21 40 ls (.int y :: .int x :: st) H Q = if y < x then M21 43 ls st H Q else M21 48 ls st H Q := w_icmpN at_40 (i_le x y) rfl
theorem m21_43 : M21 43 ls st H Q = M21 45 ls (.int 64 :: st) H Q := w_con at_43 rfl (by decide)
theorem m21_45 : M21 45 ls st H Q = M21 49 ls st H Q := w_x at_45 rfl
theorem m21_48 : M21 48 [l0, .val (.int v), l2, l3, l4, l5, l6, l7, l8, l9, l10, l11, l12, l13, l14, l15, l16, l17, l18, l19, l20, l21, l22, l23, l24, l25, l26, l27, l28, l29, l30, l31, l32] st H Q = M21 49 [l0, .val (.int v), l2, l3, l4, l5, l6, l7, l8, l9, l10, l11, l12, l13, l14, l15, l16, l17, l18, l19, l20, l21, l22, l23, l24, l25, l26, l27, l28, l29, l30, l31, l32] (.int v :: st) H Q := w_x at_48 rfl
theorem m21_49u : M21 49 [l0, l1, l2, .unset, l4, l5, l6, l7, l8, l9, l10, l11, l12, l13, l14, l15, l16, l17, l18, l19, l20, l21, l22, l23, l24, l25, l26, l27, l28, l29, l30, l31, l32] ((.int v) :: st) H Q = M21 50 [l0, l1, l2, .val (.int v), l4, l5, l6, l7, l8, l9, l10, l11, l12, l13, l14, l15, l16, l17, l18, l19, l20, l21, l22, l23, l24, l25, l26, l27, l28, l29, l30, l31, l32] st H Q := w_st (i := 3) (p := isI) at_49 rfl rfl rfl rfl rfl rfl
theorem m21_50 : M21 50 ls st H Q = M21 51 ls (.int 0 :: st) H Q := w_con at_50 rfl (by decide)
theorem m21_51u : M21 51 [l0, l1, l2, l3, .unset, l5, l6, l7, l8, l9, l10, l11, l12, l13, l14, l15, l16, l17, l18, l19, l20, l21, l22, l23, l24, l25, l26, l27, l28, l29, l30, l31, l32] ((.int v) :: st) H Q = M21 53 [l0, l1, l2, l3, .val (.int v), l5, l6, l7, l8, l9, l10, l11, l12, l13, l14, l15, l16, l17, l18, l19, l20, l21, l22, l23, l24, l25, l26, l27, l28, l29, l30, l31, l32] st H Q := w_st (i := 4) (p := isI) at_51 rfl rfl rfl rfl rfl rfl
theorem m21_53 : M21 53 ls st H Q = M21 54 ls (.int (-1) :: st) H Q := w_con at_53 rfl (by decide)
theorem m21_54u : M21 54 [l0, l1, l2, l3, l4, .unset, l6, l7, l8, l9, l10, l11, l12, l13, l14, l15, l16, l17, l18, l19, l20, l21, l22, l23, l24, l25, l26, l27, l28, l29, l30, l31, l32] ((.int v) :: st) H Q = M21 56 [l0, l1, l2, l3, l4, .val (.int v), l6, l7, l8, l9, l10, l11, l12, l13, l14, l15, l16, l17, l18, l19, l20, l21, l22, l23, l24, l25, l26, l27, l28, l29, l30, l31, l32] st H Q := w_st (i := 5) (p := isI) at_54 rfl rfl rfl rfl rfl rfl
theorem m21_56 : M21 56 ls st H Q = M21 58 ls (.int (-2) :: st) H Q := w_con at_56 rfl (by decide)
theorem m21_58u : M21 58 [l0, l1, l2, l3, l4, l5, .unset, l7, l8, l9, l10, l11, l12, l13, l14, l15, l16, l17, l18, l19, l20, l21, l22, l23, l24, l25, l26, l27, l28, l29, l30, l31, l32] ((.int v) :: st) H Q = M21 60 [l0, l1, l2, l3, l4, l5, .val (.int v), l7, l8, l9, l10, l11, l12, l13, l14, l15, l16, l17, l18, l19, l20, l21, l22, l23, l24, l25, l26, l27, l28, l29, l30, l31, l32] st H Q := w_st (i := 6) (p := isI) at_58 rfl rfl rfl rfl rfl rfl
theorem m21_60 : M21 60 ls st H Q = M21 62 ls (.int (-3) :: st) H Q := w_con at_60 rfl (by decide)
theorem m21_62u : M21 62 [l0, l1, l2, l3, l4, l5, l6, .unset, l8, l9, l10, l11, l12, l13, l14, l15, l16, l17, l18, l19, l20, l21, l22, l23, l24, l25, l26, l27, l28, l29, l30, l31, l32] ((.int v) :: st) H Q = M21 64 [l0, l1, l2, l3, l4, l5, l6, .val (.int v), l8, l9, l10, l11, l12, l13, l14, l15, l16, l17, l18, l19, l20, l21, l22, l23, l24, l25, l26, l27, l28, l29, l30, l31, l32] st H Q := w_st (i := 7) (p := isI) at_62 rfl rfl rfl rfl rfl rfl
theorem m21_64 : M21 64 ls st H Q = M21 66 ls (.int (-4) :: st) H Q := w_con at_64 rfl (by decide)
theorem m21_66u : M21 66 [l0, l1, l2, l3, l4, l5, l6, l7, .unset, l9, l10, l11, l12, l13, l14, l15, l16, l17, l18, l19, l20, l21, l22, l23, l24, l25, l26, l27, l28, l29, l30, l31, l32] ((.int v) :: st) H Q = M21 68 [l0, l1, l2, l3, l4, l5, l6, l7, .val (.int v), l9, l10, l11, l12, l13, l14, l15, l16, l17, l18, l19, l20, l21, l22, l23, l24, l25, l26, l27, l28, l29, l30, l31, l32] st H Q := w_st (i := 8) (p := isI) at_66 rfl rfl rfl rfl rfl rfl
theorem m21_68 : M21 68 ls st H Q = M21 70 ls (.int (-5) :: st) H Q := w_con at_68 rfl (by decide)
theorem m21_70u : M21 70 [l0, l1, l2, l3, l4, l5, l6, l7, l8, .unset, l10, l11, l12, l13, l14, l15, l16, l17, l18, l19, l20, l21, l22, l23, l24, l25, l26, l27, l28, l29, l30, l31, l32] ((.int v) :: st) H Q = M21 72 [l0, l1, l2, l3, l4, l5, l6, l7, l8, .val (.int v), l10, l11, l12, l13, l14, l15, l16, l17, l18, l19, l20, l21, l22, l23, l24, l25, l26, l27, l28, l29, l30, l31, l32] st H Q := w_st (i := 9) (p := isI) at_70 rfl rfl rfl rfl rfl rfl
theorem m21_72 : M21 72 ls st H Q = M21 73 ls (.int 0 :: st) H Q := w_con at_72 rfl (by decide)
theorem m21_73u : M21 73 [l0, l1, l2, l3, l4, l5, l6, l7, l8, l9, .unset, l11, l12, l13, l14, l15, l16, l17, l18, l19, l20, l21, l22, l23, l24, l25, l26, l27, l28, l29, l30, l31, l32] ((.int v) :: st) H Q = M21 75 [l0, l1, l2, l3, l4, l5, l6, l7, l8, l9, .val (.int v), l11, l12, l13, l14, l15, l16, l17, l18, l19, l20, l21, l22, l23, l24, l25, l26, l27, l28, l29, l30, l31, l32] st H Q := w_st (i := 10) (p := isI) at_73 rfl rfl rfl rfl rfl rfl
theorem m21_75 : M21 75 ls st H Q = M21 76 ls (.int 0 :: st) H Q := w_con at_75 rfl (by decide)
theorem m21_76u : M21 76 [l0, l1, l2, l3, l4, l5, l6, l7, l8, l9, l10, .unset, l12, l13, l14, l15, l16, l17, l18, l19, l20, l21, l22, l23, l24, l25, l26, l27, l28, l29, l30, l31, l32] ((.int v) :: st) H Q = M21 78 [l0, l1, l2, l3, l4, l5, l6, l7, l8, l9, l10, .val (.int v), l12, l13, l14, l15, l16, l17, l18, l19, l20, l21, l22, l23, l24, l25, l26, l27, l28, l29, l30, l31, l32] st H Q := w_st (i := 11) (p := isI) at_76 rfl rfl rfl rfl rfl rfl
theorem m21_78 : M21 78 ls st H Q = M21 79 ls (.int 0 :: st) H Q := w_con at_78 rfl (by decide)
theorem m21_79u : M21 79 [l0, l1, l2, l3, l4, l5, l6, l7, l8, l9, l10, l11, .unset, l13, l14, l15, l16, l17, l18, l19, l20, l21, l22, l23, l24, l25, l26, l27, l28, l29, l30, l31, l32] ((.int v) :: st) H Q = M21 81 [l0, l1, l2, l3, l4, l5, l6, l7, l8, l9, l10, l11, .val (.int v), l13, l14, l15, l16, l17, l18, l19, l20, l21, l22, l23, l24, l25, l26, l27, l28, l29, l30, l31, l32] st H Q := w_st (i := 12) (p := isI) at_79 rfl rfl rfl rfl rfl rfl
theorem m21_81 : M21 81 ls st H Q = M21 82 ls (.int 0 :: st) H Q := w_con at_81 rfl (by decide)
theorem m21_82u : M21 82 [l0, l1, l2, l3, l4, l5, l6, l7, l8, l9, l10, l11, l12, .unset, l14, l15, l16, l17, l18, l19, l20, l21, l22, l23, l24, l25, l26, l27, l28, l29, l30, l31, l32] ((.int v) :: st) H Q = M21 84 [l0, l1, l2, l3, l4, l5, l6, l7, l8, l9, l10, l11, l12, .val (.int v), l14, l15, l16, l17, l18, l19, l20, l21, l22, l23, l24, l25, l26, l27, l28, l29, l30, l31, l32] st H Q := w_st (i := 13) (p := isI) at_82 rfl rfl rfl rfl rfl rfl
theorem m21_84 : M21 84 ls st H Q = M21 85 ls (.int 0 :: st) H Q := w_con at_84 rfl (by decide)
theorem m21_85u : M21 85 [l0, l1, l2, l3, l4, l5, l6, l7, l8, l9, l10, l11, l12, l13, .unset, l15, l16, l17, l18, l19, l20, l21, l22, l23, l24, l25, l26, l27, l28, l29, l30, l31, l32] ((.int v) :: st) H Q = M21 87 [l0, l1, l2, l3, l4, l5, l6, l7, l8, l9, l10, l11, l12, l13, .val (.int v), l15, l16, l17, l18, l19, l20, l21, l22, l23, l24, l25, l26, l27, l28, l29, l30, l31, l32] st H Q := w_st (i := 14) (p := isI) at_85 rfl rfl rfl rfl rfl rfl
theorem m21_87 : M21 87 ls st H Q = M21 88 ls (.int (-1) :: st) H Q := w_con at_87 rfl (by decide)
theorem m21_88u : M21 88 [l0, l1, l2, l3, l4, l5, l6, l7, l8, l9, l10, l11, l12, l13, l14, .unset, l16, l17, l18, l19, l20, l21, l22, l23, l24, l25, l26, l27, l28, l29, l30, l31, l32] ((.int v) :: st) H Q = M21 90 [l0, l1, l2, l3, l4, l5, l6, l7, l8, l9, l10, l11, l12, l13, l14, .val (.int v), l16, l17, l18, l19, l20, l21, l22, l23, l24, l25, l26, l27, l28, l29, l30, l31, l32] st H Q := w_st (i := 15) (p := isI) at_88 rfl rfl rfl rfl rfl rfl
theorem m21_90 : M21 90 ls st H Q = M21 91 ls (.int 0 :: st) H Q := w_con at_90 rfl (by decide)
theorem m21_91u : M21 91 [l0, l1, l2, l3, l4, l5, l6, l7, l8, l9, l10, l11, l12, l13, l14, l15, .unset, l17, l18, l19, l20, l21, l22, l23, l24, l25, l26, l27, l28, l29, l30, l31, l32] ((.int v) :: st) H Q = M21 93 [l0, l1, l2, l3, l4, l5, l6, l7, l8, l9, l10, l11, l12, l13, l14, l15, .val (.int v), l17, l18, l19, l20, l21, l22, l23, l24, l25, l26, l27, l28, l29, l30, l31, l32] st H Q := w_st (i := 16) (p := isI) at_91 rfl rfl rfl rfl rfl rfl
theorem m21_93 : M21 93 ls st H Q = M21 94 ls (.int 0 :: st) H Q := w_con at_93 rfl (by decide)
theorem m21_94u : M21 94 [l0, l1, l2, l3, l4, l5, l6, l7, l8, l9, l10, l11, l12, l13, l14, l15, l16, .unset, l18, l19, l20, l21, l22, l23, l24, l25, l26, l27, l28, l29, l30, l31, l32] ((.int v) :: st) H Q = M21 96 [l0, l1, l2, l3, l4, l5, l6, l7, l8, l9, l10, l11, l12, l13, l14, l15, l16, .val (.int v), l18, l19, l20, l21, l22, l23, l24, l25, l26, l27, l28, l29, l30, l31, l32] st H Q := w_st (i := 17) (p := isI) at_94 rfl rfl rfl rfl rfl rfl
theorem m21_96 : M21 96 ls st H Q = M21 97 ls (.int 0 :: st) H Q := w_con at_96 rfl (by decide)
theorem m21_97u : M21 97 [l0, l1, l2, l3, l4, l5, l6, l7, l8, l9, l10, l11, l12, l13, l14, l15, l16, l17, .unset, l19, l20, l21, l22, l23, l24, l25, l26, l27, l28, l29, l30, l31, l32] ((.int v) :: st) H Q = M21 99 [l0, l1, l2, l3, l4, l5, l6, l7, l8, l9, l10, l11, l12, l13, l14, l15, l16, l17, .val (.int v), l19, l20, l21, l22, l23, l24, l25, l26, l27, l28, l29, l30, l31, l32] st H Q := w_st (i := 18) (p := isI) at_97 rfl rfl rfl rfl rfl rfl
theorem m21_99 : M21 99 ls st H Q = M21 100 ls (.int 0 :: st) H Q := w_con at_99 rfl (by decide)
theorem m21_100u : M21 100 [l0, l1, l2, l3, l4, l5, l6, l7, l8, l9, l10, l11, l12, l13, l14, l15, l16, l17, l18, .unset, l20, l21, l22, l23, l24, l25, l26, l27, l28, l29, l30, l31, l32] ((.int v) :: st) H Q = M21 102 [l0, l1, l2, l3, l4, l5, l6, l7, l8, l9, l10, l11, l12, l13, l14, l15, l16, l17, l18, .val (.int v), l20, l21, l22, l23, l24, l25, l26, l27, l28, l29, l30, l31, l32] st H Q := w_st (i := 19) (p := isI) at_100 rfl rfl rfl rfl rfl rfl
theorem m21_102 : M21 102 ls st H Q = M21 103 ls (.int 1 :: st) H Q := w_con at_102 rfl (by decide)
theorem m21_103u : M21 103 [l0, l1, l2, l3, l4, l5, l6, l7, l8, l9, l10, l11, l12, l13, l14, l15, l16, l17, l18, l19, .unset, l21, l22, l23, l24, l25, l26, l27, l28, l29, l30, l31, l32] ((.int v) :: st) H Q = M21 105 [l0, l1, l2, l3, l4, l5, l6, l7, l8, l9, l10, l11, l12, l13, l14, l15, l16, l17, l18, l19, .val (.int v), l21, l22, l23, l24, l25, l26, l27, l28, l29, l30, l31, l32] st H Q := w_st (i := 20) (p := isI) at_103 rfl rfl rfl rfl rfl rfl
theorem m21_105 : M21 105 [l0, l1, l2, l3, l4, l5, l6, l7, l8, l9, l10, l11, l12, l13, l14, l15, l16, l17, l18, l19, .val (.int v), l21, l22, l23, l24, l25, l26, l27, l28, l29, l30, l31, l32] st H Q = M21 107 [l0, l1, l2, l3, l4, l5, l6, l7, l8, l9, l10, l11, l12, l13, l14, l15, l16, l17, l18, l19, .val (.int v), l21, l22, l23, l24, l25, l26, l27, l28, l29, l30, l31, l32] (.int v :: st) H Q := w_x at_105 rfl
theorem m21_107 : M21 107 ls st H Q = M21 108 ls (.int 1 :: st) H Q := w_con at_107 rfl (by decide)
theorem m21_108 : M21 108 ls (.int y :: .int x :: st) H Q = M21 109 ls (.int (x + y) :: st) H Q := w_x at_108 rfl
theorem m21_109 : M21 109 [.val (.ref r), l1, l2, l3, l4, l5, l6, l7, l8, l9, l10, l11, l12, l13, l14, l15, l16, l17, l18, l19, l20, l21, l22, l23, l24, l25, l26, l27, l28, l29, l30, l31, l32] st H Q = M21 110 [.val (.ref r), l1, l2, l3, l4, l5, l6, l7, l8, l9, l10, l11, l12, l13, l14, l15, l16, l17, l18, l19, l20, l21, l22, l23, l24, l25, l26, l27, l28, l29, l30, l31, l32] (.ref r :: st) H Q := w_x at_109 rfl
theorem m21_110 : M21 110 ls (.ref 0 :: st) ((.array .int, sc.map Value.int) :: R) Q = M21 111 ls (.int sc.length.toInt32 :: st) ((.array .int, sc.map Value.int) :: R) Q := by exact (w_len at_110 rfl).trans (by rw [List.length_map]; rfl)
theorem m21_110p : M21 110 ls (.ref 0 :: st) (put (b + 1) ((.array .int, sc.map Value.int) :: pre) s A post) Q = M21 111 ls (.int sc.length.toInt32 :: st) (put (b + 1) ((.array .int, sc.map Value.int) :: pre) s A post) Q := by exact (w_len at_110 rfl).trans (by rw [List.length_map]; rfl)
theorem m21_111 : M21 111 ls (.int y :: .int x :: st) H Q = if x < y then M21 114 ls st H Q else M21 891 ls st H Q := w_icmpN at_111 (i_ge x y) rfl
theorem m21_114 : M21 114 [.val (.ref r), l1, l2, l3, l4, l5, l6, l7, l8, l9, l10, l11, l12, l13, l14, l15, l16, l17, l18, l19, l20, l21, l22, l23, l24, l25, l26, l27, l28, l29, l30, l31, l32] st H Q = M21 115 [.val (.ref r), l1, l2, l3, l4, l5, l6, l7, l8, l9, l10, l11, l12, l13, l14, l15, l16, l17, l18, l19, l20, l21, l22, l23, l24, l25, l26, l27, l28, l29, l30, l31, l32] (.ref r :: st) H Q := w_x at_114 rfl
theorem m21_115 : M21 115 [l0, l1, l2, l3, l4, l5, l6, l7, l8, l9, l10, l11, l12, l13, l14, l15, l16, l17, l18, l19, .val (.int v), l21, l22, l23, l24, l25, l26, l27, l28, l29, l30, l31, l32] st H Q = M21 117 [l0, l1, l2, l3, l4, l5, l6, l7, l8, l9, l10, l11, l12, l13, l14, l15, l16, l17, l18, l19, .val (.int v), l21, l22, l23, l24, l25, l26, l27, l28, l29, l30, l31, l32] (.int v :: st) H Q := w_x at_115 rfl
theorem m21_117 : M21 117 ls (.int j :: .ref 0 :: st) ((.array .int, sc.map Value.int) :: R) Q = (inB j sc ∧ M21 118 ls (.int (getA sc j) :: st) ((.array .int, sc.map Value.int) :: R) Q) := w_ild at_117 rfl rfl
theorem m21_117p : M21 117 ls (.int j :: .ref 0 :: st) (put (b + 1) ((.array .int, sc.map Value.int) :: pre) s A post) Q = (inB j sc ∧ M21 118 ls (.int (getA sc j) :: st) (put (b + 1) ((.array .int, sc.map Value.int) :: pre) s A post) Q) := w_ild at_117 rfl rfl
theorem m21_118 : M21 118 ls st H Q = M21 120 ls (.int 7 :: st) H Q := w_con at_118 rfl (by decide)
theorem m21_120 : M21 120 ls (.int y :: .int x :: st) H Q = M21 121 ls (.int (x &&& y) :: st) H Q := w_x at_120 rfl
theorem m21_121u : M21 121 [l0, l1, l2, l3, l4, l5, l6, l7, l8, l9, l10, l11, l12, l13, l14, l15, l16, l17, l18, l19, l20, .unset, l22, l23, l24, l25, l26, l27, l28, l29, l30, l31, l32] ((.int v) :: st) H Q = M21 123 [l0, l1, l2, l3, l4, l5, l6, l7, l8, l9, l10, l11, l12, l13, l14, l15, l16, l17, l18, l19, l20, .val (.int v), l22, l23, l24, l25, l26, l27, l28, l29, l30, l31, l32] st H Q := w_st (i := 21) (p := isI) at_121 rfl rfl rfl rfl rfl rfl
theorem m21_121i : M21 121 [l0, l1, l2, l3, l4, l5, l6, l7, l8, l9, l10, l11, l12, l13, l14, l15, l16, l17, l18, l19, l20, .val (.int z), l22, l23, l24, l25, l26, l27, l28, l29, l30, l31, l32] ((.int v) :: st) H Q = M21 123 [l0, l1, l2, l3, l4, l5, l6, l7, l8, l9, l10, l11, l12, l13, l14, l15, l16, l17, l18, l19, l20, .val (.int v), l22, l23, l24, l25, l26, l27, l28, l29, l30, l31, l32] st H Q := w_st (i := 21) (p := isI) at_121 rfl rfl rfl rfl rfl rfl
theorem m21_121r : M21 121 [l0, l1, l2, l3, l4, l5, l6, l7, l8, l9, l10, l11, l12, l13, l14, l15, l16, l17, l18, l19, l20, .val (.ref q), l22, l23, l24, l25, l26, l27, l28, l29, l30, l31, l32] ((.int v) :: st) H Q = M21 123 [l0, l1, l2, l3, l4, l5, l6, l7, l8, l9, l10, l11, l12, l13, l14, l15, l16, l17, l18, l19, l20, .val (.int v), l22, l23, l24, l25, l26, l27, l28, l29, l30, l31, l32] st H Q := w_st (i := 21) (p := isI) at_121 rfl rfl rfl rfl rfl rfl
theorem m21_121g (h : okS l21) : M21 121 [l0, l1, l2, l3, l4, l5, l6, l7, l8, l9, l10, l11, l12, l13, l14, l15, l16, l17, l18, l19, l20, l21, l22, l23, l24, l25, l26, l27, l28, l29, l30, l31, l32] ((.int v) :: st) H Q = M21 123 [l0, l1, l2, l3, l4, l5, l6, l7, l8, l9, l10, l11, l12, l13, l14, l15, l16, l17, l18, l19, l20, .val (.int v), l22, l23, l24, l25, l26, l27, l28, l29, l30, l31, l32] st H Q := by rcases h with rfl | ⟨z, rfl⟩ <;> first | exact m21_121u | exact m21_121i
theorem m21_123 : M21 123 [.val (.ref r), l1, l2, l3, l4, l5, l6, l7, l8, l9, l10, l11, l12, l13, l14, l15, l16, l17, l18, l19, l20, l21, l22, l23, l24, l25, l26, l27, l28, l29, l30, l31, l32] st H Q = M21 124 [.val (.ref r), l1, l2, l3, l4, l5, l6, l7, l8, l9, l10, l11, l12, l13, l14, l15, l16, l17, l18, l19, l20, l21, l22, l23, l24, l25, l26, l27, l28, l29, l30, l31, l32] (.ref r :: st) H Q := w_x at_123 rfl
theorem m21_124 : M21 124 [l0, l1, l2, l3, l4, l5, l6, l7, l8, l9, l10, l11, l12, l13, l14, l15, l16, l17, l18, l19, .val (.int v), l21, l22, l23, l24, l25, l26, l27, l28, l29, l30, l31, l32] st H Q = M21 126 [l0, l1, l2, l3, l4, l5, l6, l7, l8, l9, l10, l11, l12, l13, l14, l15, l16, l17, l18, l19, .val (.int v), l21, l22, l23, l24, l25, l26, l27, l28, l29, l30, l31, l32] (.int v :: st) H Q := w_x at_124 rfl
theorem m21_126 : M21 126 ls st H Q = M21 127 ls (.int 1 :: st) H Q := w_con at_126 rfl (by decide)
theorem m21_127 : M21 127 ls (.int y :: .int x :: st) H Q = M21 128 ls (.int (x + y) :: st) H Q := w_x at_127 rfl
theorem m21_128 : M21 128 ls (.int j :: .ref 0 :: st) ((.array .int, sc.map Value.int) :: R) Q = (inB j sc ∧ M21 129 ls (.int (getA sc j) :: st) ((.array .int, sc.map Value.int) :: R) Q) := w_ild at_128 rfl rfl
theorem m21_128p : M21 128 ls (.int j :: .ref 0 :: st) (put (b + 1) ((.array .int, sc.map Value.int) :: pre) s A post) Q = (inB j sc ∧ M21 129 ls (.int (getA sc j) :: st) (put (b + 1) ((.array .int, sc.map Value.int) :: pre) s A post) Q) := w_ild at_128 rfl rfl
theorem m21_129u : M21 129 [l0, l1, l2, l3, l4, l5, l6, l7, l8, l9, l10, l11, l12, l13, l14, l15, l16, l17, l18, l19, l20, l21, .unset, l23, l24, l25, l26, l27, l28, l29, l30, l31, l32] ((.int v) :: st) H Q = M21 131 [l0, l1, l2, l3, l4, l5, l6, l7, l8, l9, l10, l11, l12, l13, l14, l15, l16, l17, l18, l19, l20, l21, .val (.int v), l23, l24, l25, l26, l27, l28, l29, l30, l31, l32] st H Q := w_st (i := 22) (p := isI) at_129 rfl rfl rfl rfl rfl rfl
theorem m21_129i : M21 129 [l0, l1, l2, l3, l4, l5, l6, l7, l8, l9, l10, l11, l12, l13, l14, l15, l16, l17, l18, l19, l20, l21, .val (.int z), l23, l24, l25, l26, l27, l28, l29, l30, l31, l32] ((.int v) :: st) H Q = M21 131 [l0, l1, l2, l3, l4, l5, l6, l7, l8, l9, l10, l11, l12, l13, l14, l15, l16, l17, l18, l19, l20, l21, .val (.int v), l23, l24, l25, l26, l27, l28, l29, l30, l31, l32] st H Q := w_st (i := 22) (p := isI) at_129 rfl rfl rfl rfl rfl rfl
theorem m21_129r : M21 129 [l0, l1, l2, l3, l4, l5, l6, l7, l8, l9, l10, l11, l12, l13, l14, l15, l16, l17, l18, l19, l20, l21, .val (.ref q), l23, l24, l25, l26, l27, l28, l29, l30, l31, l32] ((.int v) :: st) H Q = M21 131 [l0, l1, l2, l3, l4, l5, l6, l7, l8, l9, l10, l11, l12, l13, l14, l15, l16, l17, l18, l19, l20, l21, .val (.int v), l23, l24, l25, l26, l27, l28, l29, l30, l31, l32] st H Q := w_st (i := 22) (p := isI) at_129 rfl rfl rfl rfl rfl rfl
theorem m21_129g (h : okS l22) : M21 129 [l0, l1, l2, l3, l4, l5, l6, l7, l8, l9, l10, l11, l12, l13, l14, l15, l16, l17, l18, l19, l20, l21, l22, l23, l24, l25, l26, l27, l28, l29, l30, l31, l32] ((.int v) :: st) H Q = M21 131 [l0, l1, l2, l3, l4, l5, l6, l7, l8, l9, l10, l11, l12, l13, l14, l15, l16, l17, l18, l19, l20, l21, .val (.int v), l23, l24, l25, l26, l27, l28, l29, l30, l31, l32] st H Q := by rcases h with rfl | ⟨z, rfl⟩ <;> first | exact m21_129u | exact m21_129i
theorem m21_131 : M21 131 [l0, l1, l2, l3, l4, l5, l6, l7, l8, l9, l10, l11, l12, l13, l14, l15, l16, l17, l18, l19, l20, l21, .val (.int v), l23, l24, l25, l26, l27, l28, l29, l30, l31, l32] st H Q = M21 133 [l0, l1, l2, l3, l4, l5, l6, l7, l8, l9, l10, l11, l12, l13, l14, l15, l16, l17, l18, l19, l20, l21, .val (.int v), l23, l24, l25, l26, l27, l28, l29, l30, l31, l32] (.int v :: st) H Q := w_x at_131 rfl
theorem m21_133 : M21 133 ls st H Q = M21 135 ls (.int 7 :: st) H Q := w_con at_133 rfl (by decide)
theorem m21_135 : M21 135 ls (.int y :: .int x :: st) H Q = M21 136 ls (.int (x &&& y) :: st) H Q := w_x at_135 rfl
theorem m21_136 : M21 136 ls st H Q = M21 137 ls (.int 5 :: st) H Q := w_con at_136 rfl (by decide)
theorem m21_137 : M21 137 ls (.int y :: .int x :: st) H Q = (y ≠ 0 ∧ M21 138 ls (.int (x % y) :: st) H Q) := w_div (f := fun x y => x % y) at_137 (fun _ => rfl) rfl rfl
theorem m21_138 : M21 138 ls st H Q = M21 139 ls (.int 1 :: st) H Q := w_con at_138 rfl (by decide)
theorem m21_139 : M21 139 ls (.int y :: .int x :: st) H Q = M21 140 ls (.int (x - y) :: st) H Q := w_x at_139 rfl
theorem m21_140u : M21 140 [l0, l1, l2, l3, l4, l5, l6, l7, l8, l9, l10, l11, l12, l13, l14, l15, l16, l17, l18, l19, l20, l21, l22, l23, l24, .unset, l26, l27, l28, l29, l30, l31, l32] ((.int v) :: st) H Q = M21 142 [l0, l1, l2, l3, l4, l5, l6, l7, l8, l9, l10, l11, l12, l13, l14, l15, l16, l17, l18, l19, l20, l21, l22, l23, l24, .val (.int v), l26, l27, l28, l29, l30, l31, l32] st H Q := w_st (i := 25) (p := isI) at_140 rfl rfl rfl rfl rfl rfl
theorem m21_140i : M21 140 [l0, l1, l2, l3, l4, l5, l6, l7, l8, l9, l10, l11, l12, l13, l14, l15, l16, l17, l18, l19, l20, l21, l22, l23, l24, .val (.int z), l26, l27, l28, l29, l30, l31, l32] ((.int v) :: st) H Q = M21 142 [l0, l1, l2, l3, l4, l5, l6, l7, l8, l9, l10, l11, l12, l13, l14, l15, l16, l17, l18, l19, l20, l21, l22, l23, l24, .val (.int v), l26, l27, l28, l29, l30, l31, l32] st H Q := w_st (i := 25) (p := isI) at_140 rfl rfl rfl rfl rfl rfl
theorem m21_140r : M21 140 [l0, l1, l2, l3, l4, l5, l6, l7, l8, l9, l10, l11, l12, l13, l14, l15, l16, l17, l18, l19, l20, l21, l22, l23, l24, .val (.ref q), l26, l27, l28, l29, l30, l31, l32] ((.int v) :: st) H Q = M21 142 [l0, l1, l2, l3, l4, l5, l6, l7, l8, l9, l10, l11, l12, l13, l14, l15, l16, l17, l18, l19, l20, l21, l22, l23, l24, .val (.int v), l26, l27, l28, l29, l30, l31, l32] st H Q := w_st (i := 25) (p := isI) at_140 rfl rfl rfl rfl rfl rfl
theorem m21_140g (h : okS l25) : M21 140 [l0, l1, l2, l3, l4, l5, l6, l7, l8, l9, l10, l11, l12, l13, l14, l15, l16, l17, l18, l19, l20, l21, l22, l23, l24, l25, l26, l27, l28, l29, l30, l31, l32] ((.int v) :: st) H Q = M21 142 [l0, l1, l2, l3, l4, l5, l6, l7, l8, l9, l10, l11, l12, l13, l14, l15, l16, l17, l18, l19, l20, l21, l22, l23, l24, .val (.int v), l26, l27, l28, l29, l30, l31, l32] st H Q := by rcases h with rfl | ⟨z, rfl⟩ <;> first | exact m21_140u | exact m21_140i
theorem m21_142 : M21 142 ls st H Q = M21 143 ls (.int 0 :: st) H Q := w_con at_142 rfl (by decide)
theorem m21_143u : M21 143 [l0, l1, l2, l3, l4, l5, l6, l7, l8, l9, l10, l11, l12, l13, l14, l15, l16, l17, l18, l19, l20, l21, l22, l23, l24, l25, .unset, l27, l28, l29, l30, l31, l32] ((.int v) :: st) H Q = M21 145 [l0, l1, l2, l3, l4, l5, l6, l7, l8, l9, l10, l11, l12, l13, l14, l15, l16, l17, l18, l19, l20, l21, l22, l23, l24, l25, .val (.int v), l27, l28, l29, l30, l31, l32] st H Q := w_st (i := 26) (p := isI) at_143 rfl rfl rfl rfl rfl rfl
theorem m21_143i : M21 143 [l0, l1, l2, l3, l4, l5, l6, l7, l8, l9, l10, l11, l12, l13, l14, l15, l16, l17, l18, l19, l20, l21, l22, l23, l24, l25, .val (.int z), l27, l28, l29, l30, l31, l32] ((.int v) :: st) H Q = M21 145 [l0, l1, l2, l3, l4, l5, l6, l7, l8, l9, l10, l11, l12, l13, l14, l15, l16, l17, l18, l19, l20, l21, l22, l23, l24, l25, .val (.int v), l27, l28, l29, l30, l31, l32] st H Q := w_st (i := 26) (p := isI) at_143 rfl rfl rfl rfl rfl rfl
theorem m21_143r : M21 143 [l0, l1, l2, l3, l4, l5, l6, l7, l8, l9, l10, l11, l12, l13, l14, l15, l16, l17, l18, l19, l20, l21, l22, l23, l24, l25, .val (.ref q), l27, l28, l29, l30, l31, l32] ((.int v) :: st) H Q = M21 145 [l0, l1, l2, l3, l4, l5, l6, l7, l8, l9, l10, l11, l12, l13, l14, l15, l16, l17, l18, l19, l20, l21, l22, l23, l24, l25, .val (.int v), l27, l28, l29, l30, l31, l32] st H Q := w_st (i := 26) (p := isI) at_143 rfl rfl rfl rfl rfl rfl
theorem m21_143g (h : okS l26) : M21 143 [l0, l1, l2, l3, l4, l5, l6, l7, l8, l9, l10, l11, l12, l13, l14, l15, l16, l17, l18, l19, l20, l21, l22, l23, l24, l25, l26, l27, l28, l29, l30, l31, l32] ((.int v) :: st) H Q = M21 145 [l0, l1, l2, l3, l4, l5, l6, l7, l8, l9, l10, l11, l12, l13, l14, l15, l16, l17, l18, l19, l20, l21, l22, l23, l24, l25, .val (.int v), l27, l28, l29, l30, l31, l32] st H Q := by rcases h with rfl | ⟨z, rfl⟩ <;> first | exact m21_143u | exact m21_143i
theorem m21_145 : M21 145 [l0, l1, l2, l3, l4, l5, l6, l7, l8, l9, l10, l11, l12, l13, l14, l15, l16, l17, l18, l19, l20, .val (.int v), l22, l23, l24, l25, l26, l27, l28, l29, l30, l31, l32] st H Q = M21 147 [l0, l1, l2, l3, l4, l5, l6, l7, l8, l9, l10, l11, l12, l13, l14, l15, l16, l17, l18, l19, l20, .val (.int v), l22, l23, l24, l25, l26, l27, l28, l29, l30, l31, l32] (.int v :: st) H Q := w_x at_145 rfl
theorem m21_147 : M21 147 ls st H Q = M21 148 ls (.int 1 :: st) H Q := w_con at_147 rfl (by decide)
theorem m21_148 : M21 148 ls (.int y :: .int x :: st) H Q = if y < x then M21 234 ls st H Q else M21 151 ls st H Q := w_icmp at_148 (i_gt x y) rfl
theorem m21_151 : M21 151 [l0, l1, l2, l3, l4, l5, l6, l7, l8, l9, .val (.int v), l11, l12, l13, l14, l15, l16, l17, l18, l19, l20, l21, l22, l23, l24, l25, l26, l27, l28, l29, l30, l31, l32] st H Q = M21 153 [l0, l1, l2, l3, l4, l5, l6, l7, l8, l9, .val (.int v), l11, l12, l13, l14, l15, l16, l17, l18, l19, l20, l21, l22, l23, l24, l25, l26, l27, l28, l29, l30, l31, l32] (.int v :: st) H Q := w_x at_151 rfl
theorem m21_153 : M21 153 ls (.int x :: st) H Q = if x = 0 then M21 161 ls st H Q else M21 156 ls st H Q := w_if at_153 (z_eq x) rfl
theorem m21_156 : M21 156 [l0, l1, l2, l3, l4, .val (.int v), l6, l7, l8, l9, l10, l11, l12, l13, l14, l15, l16, l17, l18, l19, l20, l21, l22, l23, l24, l25, l26, l27, l28, l29, l30, l31, l32] st H Q = M21 158 [l0, l1, l2, l3, l4, .val (.int v), l6, l7, l8, l9, l10, l11, l12, l13, l14, l15, l16, l17, l18, l19, l20, l21, l22, l23, l24, l25, l26, l27, l28, l29, l30, l31, l32] (.int v :: st) H Q := w_x at_156 rfl
theorem m21_158 : M21 158 ls st H Q = M21 202 ls st H Q := w_x at_158 rfl
theorem m21_161 : M21 161 [l0, l1, l2, l3, l4, l5, l6, l7, l8, l9, l10, l11, l12, l13, l14, l15, l16, l17, l18, l19, l20, l21, l22, l23, l24, .val (.int v), l26, l27, l28, l29, l30, l31, l32] st H Q = M21 163 [l0, l1, l2, l3, l4, l5, l6, l7, l8, l9, l10, l11, l12, l13, l14, l15, l16, l17, l18, l19, l20, l21, l22, l23, l24, .val (.int v), l26, l27, l28, l29, l30, l31, l32] (.int v :: st) H Q := w_x at_161 rfl
theorem m21_163 : M21 163 ls (.int x :: st) H Q = if x < 0 then M21 166 ls st H Q else M21 171 ls st H Q := w_ifN at_163 (z_ge x) rfl
theorem m21_166 : M21 166 [l0, l1, l2, l3, l4, l5, .val (.int v), l7, l8, l9, l10, l11, l12, l13, l14, l15, l16, l17, l18, l19, l20, l21, l22, l23, l24, l25, l26, l27, l28, l29, l30, l31, l32] st H Q = M21 168 [l0, l1, l2, l3, l4, l5, .val (.int v), l7, l8, l9, l10, l11, l12, l13, l14, l15, l16, l17, l18, l19, l20, l21, l22, l23, l24, l25, l26, l27, l28, l29, l30, l31, l32] (.int v :: st) H Q := w_x at_166 rfl
theorem m21_168 : M21 168 ls st H Q = M21 202 ls st H Q := w_x at_168 rfl
theorem m21_171 : M21 171 [l0, l1, l2, l3, l4, l5, l6, l7, l8, l9, l10, l11, .val (.int v), l13, l14, l15, l16, l17, l18, l19, l20, l21, l22, l23, l24, l25, l26, l27, l28, l29, l30, l31, l32] st H Q = M21 173 [l0, l1, l2, l3, l4, l5, l6, l7, l8, l9, l10, l11, .val (.int v), l13, l14, l15, l16, l17, l18, l19, l20, l21, l22, l23, l24, l25, l26, l27, l28, l29, l30, l31, l32] (.int v :: st) H Q := w_x at_171 rfl
theorem m21_173 : M21 173 ls st H Q = M21 175 ls (.int 16 :: st) H Q := w_con at_173 rfl (by decide)
theorem m21_175 : M21 175 ls (.int y :: .int x :: st) H Q = if x = y then M21 195 ls st H Q else M21 178 ls st H Q := w_icmp at_175 (i_eq x y) rfl
theorem m21_178 : M21 178 [l0, l1, l2, l3, l4, l5, l6, l7, l8, l9, l10, l11, l12, l13, .val (.int v), l15, l16, l17, l18, l19, l20, l21, l22, l23, l24, l25, l26, l27, l28, l29, l30, l31, l32] st H Q = M21 180 [l0, l1, l2, l3, l4, l5, l6, l7, l8, l9, l10, l11, l12, l13, .val (.int v), l15, l16, l17, l18, l19, l20, l21, l22, l23, l24, l25, l26, l27, l28, l29, l30, l31, l32] (.int v :: st) H Q := w_x at_178 rfl
theorem m21_180 : M21 180 ls st H Q = M21 182 ls (.int 16 :: st) H Q := w_con at_180 rfl (by decide)
theorem m21_182 : M21 182 ls (.int y :: .int x :: st) H Q = if x = y then M21 195 ls st H Q else M21 185 ls st H Q := w_icmp at_182 (i_eq x y) rfl
theorem m21_185 : M21 185 [l0, l1, l2, l3, l4, l5, l6, l7, l8, l9, l10, l11, l12, .val (.int v), l14, l15, l16, l17, l18, l19, l20, l21, l22, l23, l24, l25, l26, l27, l28, l29, l30, l31, l32] st H Q = M21 187 [l0, l1, l2, l3, l4, l5, l6, l7, l8, l9, l10, l11, l12, .val (.int v), l14, l15, l16, l17, l18, l19, l20, l21, l22, l23, l24, l25, l26, l27, l28, l29, l30, l31, l32] (.int v :: st) H Q := w_x at_185 rfl
theorem m21_187 : M21 187 [l0, l1, l2, l3, l4, l5, l6, l7, l8, l9, l10, l11, l12, l13, .val (.int v), l15, l16, l17, l18, l19, l20, l21, l22, l23, l24, l25, l26, l27, l28, l29, l30, l31, l32] st H Q = M21 189 [l0, l1, l2, l3, l4, l5, l6, l7, l8, l9, l10, l11, l12, l13, .val (.int v), l15, l16, l17, l18, l19, l20, l21, l22, l23, l24, l25, l26, l27, l28, l29, l30, l31, l32] (.int v :: st) H Q := w_x at_187 rfl
theorem m21_189 : M21 189 ls (.int y :: .int x :: st) H Q = M21 190 ls (.int (x + y) :: st) H Q := w_x at_189 rfl
theorem m21_190 : M21 190 ls st H Q = M21 192 ls (.int 64 :: st) H Q := w_con at_190 rfl (by decide)
theorem m21_192 : M21 192 ls (.int y :: .int x :: st) H Q = if x = y then M21 195 ls st H Q else M21 200 ls st H Q := w_icmpN at_192 (i_ne x y) rfl
theorem m21_195 : M21 195 [l0, l1, l2, l3, l4, l5, l6, .val (.int v), l8, l9, l10, l11, l12, l13, l14, l15, l16, l17, l18, l19, l20, l21, l22, l23, l24, l25, l26, l27, l28, l29, l30, l31, l32] st H Q = M21 197 [l0, l1, l2, l3, l4, l5, l6, .val (.int v), l8, l9, l10, l11, l12, l13, l14, l15, l16, l17, l18, l19, l20, l21, l22, l23, l24, l25, l26, l27, l28, l29, l30, l31, l32] (.int v :: st) H Q := w_x at_195 rfl
theorem m21_197 : M21 197 ls st H Q = M21 202 ls st H Q := w_x at_197 rfl
theorem m21_200 : M21 200 [l0, l1, l2, l3, .val (.int v), l5, l6, l7, l8, l9, l10, l11, l12, l13, l14, l15, l16, l17, l18, l19, l20, l21, l22, l23, l24, l25, l26, l27, l28, l29, l30, l31, l32] st H Q = M21 202 [l0, l1, l2, l3, .val (.int v), l5, l6, l7, l8, l9, l10, l11, l12, l13, l14, l15, l16, l17, l18, l19, l20, l21, l22, l23, l24, l25, l26, l27, l28, l29, l30, l31, l32] (.int v :: st) H Q := w_x at_200 rfl
theorem m21_202u : M21 202 [l0, l1, l2, l3, l4, l5, l6, l7, l8, l9, l10, l11, l12, l13, l14, l15, l16, l17, l18, l19, l20, l21, l22, l23, .unset, l25, l26, l27, l28, l29, l30, l31, l32] ((.int v) :: st) H Q = M21 204 [l0, l1, l2, l3, l4, l5, l6, l7, l8, l9, l10, l11, l12, l13, l14, l15, l16, l17, l18, l19, l20, l21, l22, l23, .val (.int v), l25, l26, l27, l28, l29, l30, l31, l32] st H Q := w_st (i := 24) (p := isI) at_202 rfl rfl rfl rfl rfl rfl
theorem m21_202i : M21 202 [l0, l1, l2, l3, l4, l5, l6, l7, l8, l9, l10, l11, l12, l13, l14, l15, l16, l17, l18, l19, l20, l21, l22, l23, .val (.int z), l25, l26, l27, l28, l29, l30, l31, l32] ((.int v) :: st) H Q = M21 204 [l0, l1, l2, l3, l4, l5, l6, l7, l8, l9, l10, l11, l12, l13, l14, l15, l16, l17, l18, l19, l20, l21, l22, l23, .val (.int v), l25, l26, l27, l28, l29, l30, l31, l32] st H Q := w_st (i := 24) (p := isI) at_202 rfl rfl rfl rfl rfl rfl
theorem m21_202r : M21 202 [l0, l1, l2, l3, l4, l5, l6, l7, l8, l9, l10, l11, l12, l13, l14, l15, l16, l17, l18, l19, l20, l21, l22, l23, .val (.ref q), l25, l26, l27, l28, l29, l30, l31, l32] ((.int v) :: st) H Q = M21 204 [l0, l1, l2, l3, l4, l5, l6, l7, l8, l9, l10, l11, l12, l13, l14, l15, l16, l17, l18, l19, l20, l21, l22, l23, .val (.int v), l25, l26, l27, l28, l29, l30, l31, l32] st H Q := w_st (i := 24) (p := isI) at_202 rfl rfl rfl rfl rfl rfl
theorem m21_202g (h : okS l24) : M21 202 [l0, l1, l2, l3, l4, l5, l6, l7, l8, l9, l10, l11, l12, l13, l14, l15, l16, l17, l18, l19, l20, l21, l22, l23, l24, l25, l26, l27, l28, l29, l30, l31, l32] ((.int v) :: st) H Q = M21 204 [l0, l1, l2, l3, l4, l5, l6, l7, l8, l9, l10, l11, l12, l13, l14, l15, l16, l17, l18, l19, l20, l21, l22, l23, .val (.int v), l25, l26, l27, l28, l29, l30, l31, l32] st H Q := by rcases h with rfl | ⟨z, rfl⟩ <;> first | exact m21_202u | exact m21_202i
theorem m21_204 : M21 204 [l0, l1, .val (.ref r), l3, l4, l5, l6, l7, l8, l9, l10, l11, l12, l13, l14, l15, l16, l17, l18, l19, l20, l21, l22, l23, l24, l25, l26, l27, l28, l29, l30, l31, l32] st H Q = M21 205 [l0, l1, .val (.ref r), l3, l4, l5, l6, l7, l8, l9, l10, l11, l12, l13, l14, l15, l16, l17, l18, l19, l20, l21, l22, l23, l24, l25, l26, l27, l28, l29, l30, l31, l32] (.ref r :: st) H Q := w_x at_204 rfl
theorem m21_205 : M21 205 [l0, l1, l2, l3, l4, l5, l6, l7, l8, l9, l10, l11, l12, l13, l14, l15, l16, l17, l18, l19, l20, l21, l22, l23, l24, .val (.int v), l26, l27, l28, l29, l30, l31, l32] st H Q = M21 207 [l0, l1, l2, l3, l4, l5, l6, l7, l8, l9, l10, l11, l12, l13, l14, l15, l16, l17, l18, l19, l20, l21, l22, l23, l24, .val (.int v), l26, l27, l28, l29, l30, l31, l32] (.int v :: st) H Q := w_x at_205 rfl
theorem cr21_12 : vR tables_1 dn y21 12 = some (false, y4, prog_1_method_2_code, 3, (some .int), 1, 34) := vR_of (cR_of (by decide +kernel) rc_4 dn_4 dn_21 (sig := ⟨[.int], some .int⟩) (by decide +kernel) (by decide +kernel) rfl rfl) (by decide +kernel) (by decide +kernel) (by decide +kernel)
theorem m21_207 (a0 : Int32) : M21 207 ls [.int a0, .ref (b + 1)] (put (b + 1) pre s A post) Q = M4 0 [.val (.ref (b + 1)), .val (.int a0), .unset] [] (put (b + 1) pre s A post) (fun v H1 => M21 210 ls (v.toList ++ []) H1 Q) := w_virt (as := [.int a0]) (rest := []) (a := (b + 1)) at_207 cr21_12 put_o rfl rfl (Nat.le_of_ble_eq_true rfl) (by show 2 ≤ 3; omega) rfl
theorem m21_210u : M21 210 [l0, l1, l2, l3, l4, l5, l6, l7, l8, l9, l10, l11, l12, l13, l14, l15, l16, l17, l18, l19, l20, l21, l22, .unset, l24, l25, l26, l27, l28, l29, l30, l31, l32] ((.int v) :: st) H Q = M21 212 [l0, l1, l2, l3, l4, l5, l6, l7, l8, l9, l10, l11, l12, l13, l14, l15, l16, l17, l18, l19, l20, l21, l22, .val (.int v), l24, l25, l26, l27, l28, l29, l30, l31, l32] st H Q := w_st (i := 23) (p := isI) at_210 rfl rfl rfl rfl rfl rfl
theorem m21_210i : M21 210 [l0, l1, l2, l3, l4, l5, l6, l7, l8, l9, l10, l11, l12, l13, l14, l15, l16, l17, l18, l19, l20, l21, l22, .val (.int z), l24, l25, l26, l27, l28, l29, l30, l31, l32] ((.int v) :: st) H Q = M21 212 [l0, l1, l2, l3, l4, l5, l6, l7, l8, l9, l10, l11, l12, l13, l14, l15, l16, l17, l18, l19, l20, l21, l22, .val (.int v), l24, l25, l26, l27, l28, l29, l30, l31, l32] st H Q := w_st (i := 23) (p := isI) at_210 rfl rfl rfl rfl rfl rfl
theorem m21_210r : M21 210 [l0, l1, l2, l3, l4, l5, l6, l7, l8, l9, l10, l11, l12, l13, l14, l15, l16, l17, l18, l19, l20, l21, l22, .val (.ref q), l24, l25, l26, l27, l28, l29, l30, l31, l32] ((.int v) :: st) H Q = M21 212 [l0, l1, l2, l3, l4, l5, l6, l7, l8, l9, l10, l11, l12, l13, l14, l15, l16, l17, l18, l19, l20, l21, l22, .val (.int v), l24, l25, l26, l27, l28, l29, l30, l31, l32] st H Q := w_st (i := 23) (p := isI) at_210 rfl rfl rfl rfl rfl rfl
theorem m21_210g (h : okS l23) : M21 210 [l0, l1, l2, l3, l4, l5, l6, l7, l8, l9, l10, l11, l12, l13, l14, l15, l16, l17, l18, l19, l20, l21, l22, l23, l24, l25, l26, l27, l28, l29, l30, l31, l32] ((.int v) :: st) H Q = M21 212 [l0, l1, l2, l3, l4, l5, l6, l7, l8, l9, l10, l11, l12, l13, l14, l15, l16, l17, l18, l19, l20, l21, l22, .val (.int v), l24, l25, l26, l27, l28, l29, l30, l31, l32] st H Q := by rcases h with rfl | ⟨z, rfl⟩ <;> first | exact m21_210u | exact m21_210i
theorem m21_212 : M21 212 [l0, l1, l2, l3, l4, l5, l6, l7, l8, l9, l10, l11, l12, l13, l14, l15, l16, l17, l18, l19, l20, l21, l22, .val (.int v), l24, l25, l26, l27, l28, l29, l30, l31, l32] st H Q = M21 214 [l0, l1, l2, l3, l4, l5, l6, l7, l8, l9, l10, l11, l12, l13, l14, l15, l16, l17, l18, l19, l20, l21, l22, .val (.int v), l24, l25, l26, l27, l28, l29, l30, l31, l32] (.int v :: st) H Q := w_x at_212 rfl
theorem m21_214 : M21 214 [l0, l1, l2, l3, l4, l5, l6, l7, l8, l9, l10, l11, l12, l13, l14, l15, l16, l17, l18, l19, l20, l21, l22, l23, .val (.int v), l25, l26, l27, l28, l29, l30, l31, l32] st H Q = M21 216 [l0, l1, l2, l3, l4, l5, l6, l7, l8, l9, l10, l11, l12, l13, l14, l15, l16, l17, l18, l19, l20, l21, l22, l23, .val (.int v), l25, l26, l27, l28, l29, l30, l31, l32] (.int v :: st) H Q := w_x at_214 rfl
theorem m21_216 : M21 216 ls (.int y :: .int x :: st) H Q = if x = y then M21 221 ls st H Q else M21 219 ls st H Q := w_icmp at_216 (i_eq x y) rfl
theorem m21_219 : M21 219 ls st H Q = M21 220 ls (.int 0 :: st) H Q := w_con at_219 rfl (by decide)
theorem m21_220 : M21 220 ls (.int z :: st) H Q = Q (some (.int (nar .boolean z))) H := w_iretN at_220 rfl (by simp)
theorem m21_221 : M21 221 [l0, l1, l2, l3, l4, l5, l6, l7, l8, l9, l10, l11, l12, l13, l14, l15, l16, l17, l18, l19, l20, l21, l22, .val (.int v), l24, l25, l26, l27, l28, l29, l30, l31, l32] st H Q = M21 223 [l0, l1, l2, l3, l4, l5, l6, l7, l8, l9, l10, l11, l12, l13, l14, l15, l16, l17, l18, l19, l20, l21, l22, .val (.int v), l24, l25, l26, l27, l28, l29, l30, l31, l32] (.int v :: st) H Q := w_x at_221 rfl
theorem m21_223 : M21 223 [l0, l1, l2, l3, .val (.int v), l5, l6, l7, l8, l9, l10, l11, l12, l13, l14, l15, l16, l17, l18, l19, l20, l21, l22, l23, l24, l25, l26, l27, l28, l29, l30, l31, l32] st H Q = M21 225 [l0, l1, l2, l3, .val (.int v), l5, l6, l7, l8, l9, l10, l11, l12, l13, l14, l15, l16, l17, l18, l19, l20, l21, l22, l23, l24, l25, l26, l27, l28, l29, l30, l31, l32] (.int v :: st) H Q := w_x at_223 rfl
theorem m21_225 : M21 225 ls (.int y :: .int x :: st) H Q = if x = y then M21 228 ls st H Q else M21 628 ls st H Q := w_icmpN at_225 (i_ne x y) rfl
theorem m21_228 : M21 228 [l0, l1, l2, l3, l4, l5, l6, l7, l8, l9, l10, l11, l12, l13, .val (.int v), l15, l16, l17, l18, l19, l20, l21, l22, l23, l24, l25, l26, l27, l28, l29, l30, l31, l32] st H Q = M21 231 [l0, l1, l2, l3, l4, l5, l6, l7, l8, l9, l10, l11, l12, l13, .val (.int (v + 1)), l15, l16, l17, l18, l19, l20, l21, l22, l23, l24, l25, l26, l27, l28, l29, l30, l31, l32] st H Q := w_iinc at_228 rfl (by decide) rfl
theorem m21_231 : M21 231 ls st H Q = M21 628 ls st H Q := w_x at_231 rfl
theorem m21_234 : M21 234 [l0, l1, l2, l3, l4, l5, l6, l7, l8, l9, l10, l11, l12, l13, l14, l15, l16, l17, l18, l19, l20, .val (.int v), l22, l23, l24, l25, l26, l27, l28, l29, l30, l31, l32] st H Q = M21 236 [l0, l1, l2, l3, l4, l5, l6, l7, l8, l9, l10, l11, l12, l13, l14, l15, l16, l17, l18, l19, l20, .val (.int v), l22, l23, l24, l25, l26, l27, l28, l29, l30, l31, l32] (.int v :: st) H Q := w_x at_234 rfl
theorem m21_236 : M21 236 ls st H Q = M21 237 ls (.int 2 :: st) H Q := w_con at_236 rfl (by decide)
theorem m21_237 : M21 237 ls (.int y :: .int x :: st) H Q = if x = y then M21 240 ls st H Q else M21 317 ls st H Q := w_icmpN at_237 (i_ne x y) rfl
theorem m21_240 : M21 240 [l0, l1, l2, l3, l4, l5, l6, l7, l8, l9, .val (.int v), l11, l12, l13, l14, l15, l16, l17, l18, l19, l20, l21, l22, l23, l24, l25, l26, l27, l28, l29, l30, l31, l32] st H Q = M21 242 [l0, l1, l2, l3, l4, l5, l6, l7, l8, l9, .val (.int v), l11, l12, l13, l14, l15, l16, l17, l18, l19, l20, l21, l22, l23, l24, l25, l26, l27, l28, l29, l30, l31, l32] (.int v :: st) H Q := w_x at_240 rfl
theorem m21_242 : M21 242 ls (.int x :: st) H Q = if x = 0 then M21 250 ls st H Q else M21 245 ls st H Q := w_if at_242 (z_eq x) rfl
theorem m21_245 : M21 245 [l0, l1, l2, l3, l4, .val (.int v), l6, l7, l8, l9, l10, l11, l12, l13, l14, l15, l16, l17, l18, l19, l20, l21, l22, l23, l24, l25, l26, l27, l28, l29, l30, l31, l32] st H Q = M21 247 [l0, l1, l2, l3, l4, .val (.int v), l6, l7, l8, l9, l10, l11, l12, l13, l14, l15, l16, l17, l18, l19, l20, l21, l22, l23, l24, l25, l26, l27, l28, l29, l30, l31, l32] (.int v :: st) H Q := w_x at_245 rfl
theorem m21_247 : M21 247 ls st H Q = M21 262 ls st H Q := w_x at_247 rfl
theorem m21_250 : M21 250 [l0, l1, l2, l3, l4, l5, l6, l7, l8, l9, l10, l11, l12, l13, .val (.int v), l15, l16, l17, l18, l19, l20, l21, l22, l23, l24, l25, l26, l27, l28, l29, l30, l31, l32] st H Q = M21 252 [l0, l1, l2, l3, l4, l5, l6, l7, l8, l9, l10, l11, l12, l13, .val (.int v), l15, l16, l17, l18, l19, l20, l21, l22, l23, l24, l25, l26, l27, l28, l29, l30, l31, l32] (.int v :: st) H Q := w_x at_250 rfl
theorem m21_252 : M21 252 ls (.int x :: st) H Q = if x = 0 then M21 255 ls st H Q else M21 260 ls st H Q := w_ifN at_252 (z_ne x) rfl
theorem m21_255 : M21 255 [l0, l1, l2, l3, l4, l5, l6, l7, .val (.int v), l9, l10, l11, l12, l13, l14, l15, l16, l17, l18, l19, l20, l21, l22, l23, l24, l25, l26, l27, l28, l29, l30, l31, l32] st H Q = M21 257 [l0, l1, l2, l3, l4, l5, l6, l7, .val (.int v), l9, l10, l11, l12, l13, l14, l15, l16, l17, l18, l19, l20, l21, l22, l23, l24, l25, l26, l27, l28, l29, l30, l31, l32] (.int v :: st) H Q := w_x at_255 rfl
theorem m21_257 : M21 257 ls st H Q = M21 262 ls st H Q := w_x at_257 rfl
theorem m21_260 : M21 260 [l0, l1, l2, l3, l4, l5, l6, l7, l8, l9, l10, l11, .val (.int v), l13, l14, l15, l16, l17, l18, l19, l20, l21, l22, l23, l24, l25, l26, l27, l28, l29, l30, l31, l32] st H Q = M21 262 [l0, l1, l2, l3, l4, l5, l6, l7, l8, l9, l10, l11, .val (.int v), l13, l14, l15, l16, l17, l18, l19, l20, l21, l22, l23, l24, l25, l26, l27, l28, l29, l30, l31, l32] (.int v :: st) H Q := w_x at_260 rfl
theorem m21_262u : M21 262 [l0, l1, l2, l3, l4, l5, l6, l7, l8, l9, l10, l11, l12, l13, l14, l15, l16, l17, l18, l19, l20, l21, l22, l23, .unset, l25, l26, l27, l28, l29, l30, l31, l32] ((.int v) :: st) H Q = M21 264 [l0, l1, l2, l3, l4, l5, l6, l7, l8, l9, l10, l11, l12, l13, l14, l15, l16, l17, l18, l19, l20, l21, l22, l23, .val (.int v), l25, l26, l27, l28, l29, l30, l31, l32] st H Q := w_st (i := 24) (p := isI) at_262 rfl rfl rfl rfl rfl rfl
theorem m21_262i : M21 262 [l0, l1, l2, l3, l4, l5, l6, l7, l8, l9, l10, l11, l12, l13, l14, l15, l16, l17, l18, l19, l20, l21, l22, l23, .val (.int z), l25, l26, l27, l28, l29, l30, l31, l32] ((.int v) :: st) H Q = M21 264 [l0, l1, l2, l3, l4, l5, l6, l7, l8, l9, l10, l11, l12, l13, l14, l15, l16, l17, l18, l19, l20, l21, l22, l23, .val (.int v), l25, l26, l27, l28, l29, l30, l31, l32] st H Q := w_st (i := 24) (p := isI) at_262 rfl rfl rfl rfl rfl rfl
theorem m21_262r : M21 262 [l0, l1, l2, l3, l4, l5, l6, l7, l8, l9, l10, l11, l12, l13, l14, l15, l16, l17, l18, l19, l20, l21, l22, l23, .val (.ref q), l25, l26, l27, l28, l29, l30, l31, l32] ((.int v) :: st) H Q = M21 264 [l0, l1, l2, l3, l4, l5, l6, l7, l8, l9, l10, l11, l12, l13, l14, l15, l16, l17, l18, l19, l20, l21, l22, l23, .val (.int v), l25, l26, l27, l28, l29, l30, l31, l32] st H Q := w_st (i := 24) (p := isI) at_262 rfl rfl rfl rfl rfl rfl
theorem m21_262g (h : okS l24) : M21 262 [l0, l1, l2, l3, l4, l5, l6, l7, l8, l9, l10, l11, l12, l13, l14, l15, l16, l17, l18, l19, l20, l21, l22, l23, l24, l25, l26, l27, l28, l29, l30, l31, l32] ((.int v) :: st) H Q = M21 264 [l0, l1, l2, l3, l4, l5, l6, l7, l8, l9, l10, l11, l12, l13, l14, l15, l16, l17, l18, l19, l20, l21, l22, l23, .val (.int v), l25, l26, l27, l28, l29, l30, l31, l32] st H Q := by rcases h with rfl | ⟨z, rfl⟩ <;> first | exact m21_262u | exact m21_262i
theorem m21_264 : M21 264 [l0, l1, .val (.ref r), l3, l4, l5, l6, l7, l8, l9, l10, l11, l12, l13, l14, l15, l16, l17, l18, l19, l20, l21, l22, l23, l24, l25, l26, l27, l28, l29, l30, l31, l32] st H Q = M21 265 [l0, l1, .val (.ref r), l3, l4, l5, l6, l7, l8, l9, l10, l11, l12, l13, l14, l15, l16, l17, l18, l19, l20, l21, l22, l23, l24, l25, l26, l27, l28, l29, l30, l31, l32] (.ref r :: st) H Q := w_x at_264 rfl
theorem cr21_16 : vR tables_1 dn y21 16 = some (false, y1, prog_1_method_3_code, 2, (some .int), 0, 48) := vR_of (cR_of (by decide +kernel) rc_1 dn_1 dn_21 (sig := ⟨[], some .int⟩) (by decide +kernel) (by decide +kernel) rfl rfl) (by decide +kernel) (by decide +kernel) (by decide +kernel)
theorem m21_265 : M21 265 ls [.ref (b + 1)] (put (b + 1) pre s A post) Q = M1 0 [.val (.ref (b + 1)), .unset] [] (put (b + 1) pre s A post) (fun v H1 => M21 268 ls (v.toList ++ []) H1 Q) := w_virt (as := []) (rest := []) (a := (b + 1)) at_265 cr21_16 put_o rfl rfl (Nat.le_of_ble_eq_true rfl) (by show 1 ≤ 2; omega) rfl
theorem m21_268u : M21 268 [l0, l1, l2, l3, l4, l5, l6, l7, l8, l9, l10, l11, l12, l13, l14, l15, l16, l17, l18, l19, l20, l21, l22, .unset, l24, l25, l26, l27, l28, l29, l30, l31, l32] ((.int v) :: st) H Q = M21 270 [l0, l1, l2, l3, l4, l5, l6, l7, l8, l9, l10, l11, l12, l13, l14, l15, l16, l17, l18, l19, l20, l21, l22, .val (.int v), l24, l25, l26, l27, l28, l29, l30, l31, l32] st H Q := w_st (i := 23) (p := isI) at_268 rfl rfl rfl rfl rfl rfl
theorem m21_268i : M21 268 [l0, l1, l2, l3, l4, l5, l6, l7, l8, l9, l10, l11, l12, l13, l14, l15, l16, l17, l18, l19, l20, l21, l22, .val (.int z), l24, l25, l26, l27, l28, l29, l30, l31, l32] ((.int v) :: st) H Q = M21 270 [l0, l1, l2, l3, l4, l5, l6, l7, l8, l9, l10, l11, l12, l13, l14, l15, l16, l17, l18, l19, l20, l21, l22, .val (.int v), l24, l25, l26, l27, l28, l29, l30, l31, l32] st H Q := w_st (i := 23) (p := isI) at_268 rfl rfl rfl rfl rfl rfl
theorem m21_268r : M21 268 [l0, l1, l2, l3, l4, l5, l6, l7, l8, l9, l10, l11, l12, l13, l14, l15, l16, l17, l18, l19, l20, l21, l22, .val (.ref q), l24, l25, l26, l27, l28, l29, l30, l31, l32] ((.int v) :: st) H Q = M21 270 [l0, l1, l2, l3, l4, l5, l6, l7, l8, l9, l10, l11, l12, l13, l14, l15, l16, l17, l18, l19, l20, l21, l22, .val (.int v), l24, l25, l26, l27, l28, l29, l30, l31, l32] st H Q := w_st (i := 23) (p := isI) at_268 rfl rfl rfl rfl rfl rfl
theorem m21_268g (h : okS l23) : M21 268 [l0, l1, l2, l3, l4, l5, l6, l7, l8, l9, l10, l11, l12, l13, l14, l15, l16, l17, l18, l19, l20, l21, l22, l23, l24, l25, l26, l27, l28, l29, l30, l31, l32] ((.int v) :: st) H Q = M21 270 [l0, l1, l2, l3, l4, l5, l6, l7, l8, l9, l10, l11, l12, l13, l14, l15, l16, l17, l18, l19, l20, l21, l22, .val (.int v), l24, l25, l26, l27, l28, l29, l30, l31, l32] st H Q := by rcases h with rfl | ⟨z, rfl⟩ <;> first | exact m21_268u | exact m21_268i
theorem m21_270 : M21 270 [l0, l1, l2, l3, l4, l5, l6, l7, l8, l9, l10, l11, l12, l13, l14, l15, l16, l17, l18, l19, l20, l21, l22, .val (.int v), l24, l25, l26, l27, l28, l29, l30, l31, l32] st H Q = M21 272 [l0, l1, l2, l3, l4, l5, l6, l7, l8, l9, l10, l11, l12, l13, l14, l15, l16, l17, l18, l19, l20, l21, l22, .val (.int v), l24, l25, l26, l27, l28, l29, l30, l31, l32] (.int v :: st) H Q := w_x at_270 rfl
theorem m21_272 : M21 272 [l0, l1, l2, l3, l4, l5, l6, l7, l8, l9, l10, l11, l12, l13, l14, l15, l16, l17, l18, l19, l20, l21, l22, l23, .val (.int v), l25, l26, l27, l28, l29, l30, l31, l32] st H Q = M21 274 [l0, l1, l2, l3, l4, l5, l6, l7, l8, l9, l10, l11, l12, l13, l14, l15, l16, l17, l18, l19, l20, l21, l22, l23, .val (.int v), l25, l26, l27, l28, l29, l30, l31, l32] (.int v :: st) H Q := w_x at_272 rfl
theorem m21_274 : M21 274 ls (.int y :: .int x :: st) H Q = if x = y then M21 279 ls st H Q else M21 277 ls st H Q := w_icmp at_274 (i_eq x y) rfl
theorem m21_277 : M21 277 ls st H Q = M21 278 ls (.int 0 :: st) H Q := w_con at_277 rfl (by decide)
theorem m21_278 : M21 278 ls (.int z :: st) H Q = Q (some (.int (nar .boolean z))) H := w_iretN at_278 rfl (by simp)
theorem m21_279 : M21 279 [l0, l1, l2, l3, l4, l5, l6, l7, l8, l9, l10, l11, l12, l13, l14, l15, l16, l17, l18, l19, l20, l21, l22, .val (.int v), l24, l25, l26, l27, l28, l29, l30, l31, l32] st H Q = M21 281 [l0, l1, l2, l3, l4, l5, l6, l7, l8, l9, l10, l11, l12, l13, l14, l15, l16, l17, l18, l19, l20, l21, l22, .val (.int v), l24, l25, l26, l27, l28, l29, l30, l31, l32] (.int v :: st) H Q := w_x at_279 rfl
theorem m21_281 : M21 281 ls (.int x :: st) H Q = if x < 0 then M21 628 ls st H Q else M21 284 ls st H Q := w_if at_281 (z_lt x) rfl
theorem m21_284 : M21 284 [l0, l1, .val (.ref r), l3, l4, l5, l6, l7, l8, l9, l10, l11, l12, l13, l14, l15, l16, l17, l18, l19, l20, l21, l22, l23, l24, l25, l26, l27, l28, l29, l30, l31, l32] st H Q = M21 285 [l0, l1, .val (.ref r), l3, l4, l5, l6, l7, l8, l9, l10, l11, l12, l13, l14, l15, l16, l17, l18, l19, l20, l21, l22, l23, l24, l25, l26, l27, l28, l29, l30, l31, l32] (.ref r :: st) H Q := w_x at_284 rfl
theorem m21_285 : M21 285 [l0, l1, l2, l3, l4, l5, l6, l7, l8, l9, l10, l11, .val (.int v), l13, l14, l15, l16, l17, l18, l19, l20, l21, l22, l23, l24, l25, l26, l27, l28, l29, l30, l31, l32] st H Q = M21 287 [l0, l1, l2, l3, l4, l5, l6, l7, l8, l9, l10, l11, .val (.int v), l13, l14, l15, l16, l17, l18, l19, l20, l21, l22, l23, l24, l25, l26, l27, l28, l29, l30, l31, l32] (.int v :: st) H Q := w_x at_285 rfl
theorem cr21_20 : vR tables_1 dn y21 20 = some (false, y7, prog_1_method_18_code, 2, (some .int), 1, 35) := vR_of (cR_of (by decide +kernel) rc_7 dn_7 dn_21 (sig := ⟨[.int], some .int⟩) (by decide +kernel) (by decide +kernel) rfl rfl) (by decide +kernel) (by decide +kernel) (by decide +kernel)
theorem m21_287 (a0 : Int32) : M21 287 ls [.int a0, .ref (b + 1)] (put (b + 1) pre s A post) Q = M7 0 [.val (.ref (b + 1)), .val (.int a0)] [] (put (b + 1) pre s A post) (fun v H1 => M21 290 ls (v.toList ++ []) H1 Q) := w_virt (as := [.int a0]) (rest := []) (a := (b + 1)) at_287 cr21_20 put_o rfl rfl (Nat.le_of_ble_eq_true rfl) (by show 2 ≤ 2; omega) rfl
theorem m21_290u : M21 290 [l0, l1, l2, l3, l4, l5, l6, l7, l8, l9, l10, l11, l12, l13, l14, l15, l16, l17, l18, l19, l20, l21, l22, l23, l24, l25, l26, .unset, l28, l29, l30, l31, l32] ((.int v) :: st) H Q = M21 292 [l0, l1, l2, l3, l4, l5, l6, l7, l8, l9, l10, l11, l12, l13, l14, l15, l16, l17, l18, l19, l20, l21, l22, l23, l24, l25, l26, .val (.int v), l28, l29, l30, l31, l32] st H Q := w_st (i := 27) (p := isI) at_290 rfl rfl rfl rfl rfl rfl
theorem m21_290i : M21 290 [l0, l1, l2, l3, l4, l5, l6, l7, l8, l9, l10, l11, l12, l13, l14, l15, l16, l17, l18, l19, l20, l21, l22, l23, l24, l25, l26, .val (.int z), l28, l29, l30, l31, l32] ((.int v) :: st) H Q = M21 292 [l0, l1, l2, l3, l4, l5, l6, l7, l8, l9, l10, l11, l12, l13, l14, l15, l16, l17, l18, l19, l20, l21, l22, l23, l24, l25, l26, .val (.int v), l28, l29, l30, l31, l32] st H Q := w_st (i := 27) (p := isI) at_290 rfl rfl rfl rfl rfl rfl
theorem m21_290r : M21 290 [l0, l1, l2, l3, l4, l5, l6, l7, l8, l9, l10, l11, l12, l13, l14, l15, l16, l17, l18, l19, l20, l21, l22, l23, l24, l25, l26, .val (.ref q), l28, l29, l30, l31, l32] ((.int v) :: st) H Q = M21 292 [l0, l1, l2, l3, l4, l5, l6, l7, l8, l9, l10, l11, l12, l13, l14, l15, l16, l17, l18, l19, l20, l21, l22, l23, l24, l25, l26, .val (.int v), l28, l29, l30, l31, l32] st H Q := w_st (i := 27) (p := isI) at_290 rfl rfl rfl rfl rfl rfl
theorem m21_290g (h : okS l27) : M21 290 [l0, l1, l2, l3, l4, l5, l6, l7, l8, l9, l10, l11, l12, l13, l14, l15, l16, l17, l18, l19, l20, l21, l22, l23, l24, l25, l26, l27, l28, l29, l30, l31, l32] ((.int v) :: st) H Q = M21 292 [l0, l1, l2, l3, l4, l5, l6, l7, l8, l9, l10, l11, l12, l13, l14, l15, l16, l17, l18, l19, l20, l21, l22, l23, l24, l25, l26, .val (.int v), l28, l29, l30, l31, l32] st H Q := by rcases h with rfl | ⟨z, rfl⟩ <;> first | exact m21_290u | exact m21_290i
theorem m21_292 : M21 292 [l0, l1, l2, l3, l4, l5, l6, l7, l8, l9, l10, l11, l12, l13, l14, l15, l16, l17, l18, l19, l20, l21, l22, l23, l24, l25, l26, .val (.int v), l28, l29, l30, l31, l32] st H Q = M21 294 [l0, l1, l2, l3, l4, l5, l6, l7, l8, l9, l10, l11, l12, l13, l14, l15, l16, l17, l18, l19, l20, l21, l22, l23, l24, l25, l26, .val (.int v), l28, l29, l30, l31, l32] (.int v :: st) H Q := w_x at_292 rfl
theorem m21_294 : M21 294 [l0, l1, l2, l3, l4, l5, l6, l7, l8, l9, l10, l11, l12, l13, .val (.int v), l15, l16, l17, l18, l19, l20, l21, l22, l23, l24, l25, l26, l27, l28, l29, l30, l31, l32] st H Q = M21 296 [l0, l1, l2, l3, l4, l5, l6, l7, l8, l9, l10, l11, l12, l13, .val (.int v), l15, l16, l17, l18, l19, l20, l21, l22, l23, l24, l25, l26, l27, l28, l29, l30, l31, l32] (.int v :: st) H Q := w_x at_294 rfl
theorem m21_296 : M21 296 ls (.int y :: .int x :: st) H Q = if x = y then M21 301 ls st H Q else M21 299 ls st H Q := w_icmp at_296 (i_eq x y) rfl
theorem m21_299 : M21 299 ls st H Q = M21 300 ls (.int 0 :: st) H Q := w_con at_299 rfl (by decide)
theorem m21_300 : M21 300 ls (.int z :: st) H Q = Q (some (.int (nar .boolean z))) H := w_iretN at_300 rfl (by simp)
theorem m21_301 : M21 301 [l0, l1, l2, l3, l4, l5, l6, l7, l8, l9, l10, l11, l12, .val (.int v), l14, l15, l16, l17, l18, l19, l20, l21, l22, l23, l24, l25, l26, l27, l28, l29, l30, l31, l32] st H Q = M21 303 [l0, l1, l2, l3, l4, l5, l6, l7, l8, l9, l10, l11, l12, .val (.int v), l14, l15, l16, l17, l18, l19, l20, l21, l22, l23, l24, l25, l26, l27, l28, l29, l30, l31, l32] (.int v :: st) H Q := w_x at_301 rfl
theorem m21_303 : M21 303 [l0, l1, l2, l3, l4, l5, l6, l7, l8, l9, l10, l11, l12, l13, .val (.int v), l15, l16, l17, l18, l19, l20, l21, l22, l23, l24, l25, l26, l27, l28, l29, l30, l31, l32] st H Q = M21 305 [l0, l1, l2, l3, l4, l5, l6, l7, l8, l9, l10, l11, l12, l13, .val (.int v), l15, l16, l17, l18, l19, l20, l21, l22, l23, l24, l25, l26, l27, l28, l29, l30, l31, l32] (.int v :: st) H Q := w_x at_303 rfl
theorem m21_305 : M21 305 ls (.int y :: .int x :: st) H Q = M21 306 ls (.int (x + y) :: st) H Q := w_x at_305 rfl
theorem m21_306i : M21 306 [l0, l1, l2, l3, l4, l5, l6, l7, l8, l9, l10, l11, l12, .val (.int z), l14, l15, l16, l17, l18, l19, l20, l21, l22, l23, l24, l25, l26, l27, l28, l29, l30, l31, l32] ((.int v) :: st) H Q = M21 308 [l0, l1, l2, l3, l4, l5, l6, l7, l8, l9, l10, l11, l12, .val (.int v), l14, l15, l16, l17, l18, l19, l20, l21, l22, l23, l24, l25, l26, l27, l28, l29, l30, l31, l32] st H Q := w_st (i := 13) (p := isI) at_306 rfl rfl rfl rfl rfl rfl
theorem m21_308 : M21 308 [l0, l1, l2, l3, l4, l5, l6, l7, l8, l9, l10, l11, .val (.int v), l13, l14, l15, l16, l17, l18, l19, l20, l21, l22, l23, l24, l25, l26, l27, l28, l29, l30, l31, l32] st H Q = M21 311 [l0, l1, l2, l3, l4, l5, l6, l7, l8, l9, l10, l11, .val (.int (v + 1)), l13, l14, l15, l16, l17, l18, l19, l20, l21, l22, l23, l24, l25, l26, l27, l28, l29, l30, l31, l32] st H Q := w_iinc at_308 rfl (by decide) rfl
theorem m21_311 : M21 311 ls st H Q = M21 312 ls (.int 0 :: st) H Q := w_con at_311 rfl (by decide)
theorem m21_312i : M21 312 [l0, l1, l2, l3, l4, l5, l6, l7, l8, l9, l10, l11, l12, l13, .val (.int z), l15, l16, l17, l18, l19, l20, l21, l22, l23, l24, l25, l26, l27, l28, l29, l30, l31, l32] ((.int v) :: st) H Q = M21 314 [l0, l1, l2, l3, l4, l5, l6, l7, l8, l9, l10, l11, l12, l13, .val (.int v), l15, l16, l17, l18, l19, l20, l21, l22, l23, l24, l25, l26, l27, l28, l29, l30, l31, l32] st H Q := w_st (i := 14) (p := isI) at_312 rfl rfl rfl rfl rfl rfl
theorem m21_314 : M21 314 ls st H Q = M21 628 ls st H Q := w_x at_314 rfl
theorem m21_317 : M21 317 [l0, l1, l2, l3, l4, l5, l6, l7, l8, l9, l10, l11, l12, l13, l14, l15, l16, l17, l18, l19, l20, .val (.int v), l22, l23, l24, l25, l26, l27, l28, l29, l30, l31, l32] st H Q = M21 319 [l0, l1, l2, l3, l4, l5, l6, l7, l8, l9, l10, l11, l12, l13, l14, l15, l16, l17, l18, l19, l20, .val (.int v), l22, l23, l24, l25, l26, l27, l28, l29, l30, l31, l32] (.int v :: st) H Q := w_x at_317 rfl
theorem m21_319 : M21 319 ls st H Q = M21 320 ls (.int 3 :: st) H Q := w_con at_319 rfl (by decide)
theorem m21_320 : M21 320 ls (.int y :: .int x :: st) H Q = if x = y then M21 323 ls st H Q else M21 380 ls st H Q := w_icmpN at_320 (i_ne x y) rfl
theorem m21_323 : M21 323 [l0, l1, l2, l3, l4, l5, l6, l7, l8, l9, .val (.int v), l11, l12, l13, l14, l15, l16, l17, l18, l19, l20, l21, l22, l23, l24, l25, l26, l27, l28, l29, l30, l31, l32] st H Q = M21 325 [l0, l1, l2, l3, l4, l5, l6, l7, l8, l9, .val (.int v), l11, l12, l13, l14, l15, l16, l17, l18, l19, l20, l21, l22, l23, l24, l25, l26, l27, l28, l29, l30, l31, l32] (.int v :: st) H Q := w_x at_323 rfl
theorem m21_325 : M21 325 ls (.int x :: st) H Q = if x = 0 then M21 328 ls st H Q else M21 333 ls st H Q := w_ifN at_325 (z_ne x) rfl
theorem m21_328 : M21 328 [l0, l1, l2, l3, l4, l5, l6, l7, l8, l9, l10, l11, l12, l13, .val (.int v), l15, l16, l17, l18, l19, l20, l21, l22, l23, l24, l25, l26, l27, l28, l29, l30, l31, l32] st H Q = M21 330 [l0, l1, l2, l3, l4, l5, l6, l7, l8, l9, l10, l11, l12, l13, .val (.int v), l15, l16, l17, l18, l19, l20, l21, l22, l23, l24, l25, l26, l27, l28, l29, l30, l31, l32] (.int v :: st) H Q := w_x at_328 rfl
theorem m21_330 : M21 330 ls (.int x :: st) H Q = if x = 0 then M21 338 ls st H Q else M21 333 ls st H Q := w_if at_330 (z_eq x) rfl
theorem m21_333 : M21 333 [l0, l1, l2, l3, l4, .val (.int v), l6, l7, l8, l9, l10, l11, l12, l13, l14, l15, l16, l17, l18, l19, l20, l21, l22, l23, l24, l25, l26, l27, l28, l29, l30, l31, l32] st H Q = M21 335 [l0, l1, l2, l3, l4, .val (.int v), l6, l7, l8, l9, l10, l11, l12, l13, l14, l15, l16, l17, l18, l19, l20, l21, l22, l23, l24, l25, l26, l27, l28, l29, l30, l31, l32] (.int v :: st) H Q := w_x at_333 rfl
theorem m21_335 : M21 335 ls st H Q = M21 350 ls st H Q := w_x at_335 rfl
theorem m21_338 : M21 338 [l0, l1, l2, l3, l4, l5, l6, l7, l8, l9, l10, l11, .val (.int v), l13, l14, l15, l16, l17, l18, l19, l20, l21, l22, l23, l24, l25, l26, l27, l28, l29, l30, l31, l32] st H Q = M21 340 [l0, l1, l2, l3, l4, l5, l6, l7, l8, l9, l10, l11, .val (.int v), l13, l14, l15, l16, l17, l18, l19, l20, l21, l22, l23, l24, l25, l26, l27, l28, l29, l30, l31, l32] (.int v :: st) H Q := w_x at_338 rfl
theorem m21_340 : M21 340 ls (.int x :: st) H Q = if x = 0 then M21 343 ls st H Q else M21 348 ls st H Q := w_ifN at_340 (z_ne x) rfl
theorem m21_343 : M21 343 [l0, l1, l2, l3, l4, l5, l6, l7, .val (.int v), l9, l10, l11, l12, l13, l14, l15, l16, l17, l18, l19, l20, l21, l22, l23, l24, l25, l26, l27, l28, l29, l30, l31, l32] st H Q = M21 345 [l0, l1, l2, l3, l4, l5, l6, l7, .val (.int v), l9, l10, l11, l12, l13, l14, l15, l16, l17, l18, l19, l20, l21, l22, l23, l24, l25, l26, l27, l28, l29, l30, l31, l32] (.int v :: st) H Q := w_x at_343 rfl
theorem m21_345 : M21 345 ls st H Q = M21 350 ls st H Q := w_x at_345 rfl
theorem m21_348 : M21 348 [l0, l1, l2, l3, .val (.int v), l5, l6, l7, l8, l9, l10, l11, l12, l13, l14, l15, l16, l17, l18, l19, l20, l21, l22, l23, l24, l25, l26, l27, l28, l29, l30, l31, l32] st H Q = M21 350 [l0, l1, l2, l3, .val (.int v), l5, l6, l7, l8, l9, l10, l11, l12, l13, l14, l15, l16, l17, l18, l19, l20, l21, l22, l23, l24, l25, l26, l27, l28, l29, l30, l31, l32] (.int v :: st) H Q := w_x at_348 rfl
theorem m21_350u : M21 350 [l0, l1, l2, l3, l4, l5, l6, l7, l8, l9, l10, l11, l12, l13, l14, l15, l16, l17, l18, l19, l20, l21, l22, l23, .unset, l25, l26, l27, l28, l29, l30, l31, l32] ((.int v) :: st) H Q = M21 352 [l0, l1, l2, l3, l4, l5, l6, l7, l8, l9, l10, l11, l12, l13, l14, l15, l16, l17, l18, l19, l20, l21, l22, l23, .val (.int v), l25, l26, l27, l28, l29, l30, l31, l32] st H Q := w_st (i := 24) (p := isI) at_350 rfl rfl rfl rfl rfl rfl
theorem m21_350i : M21 350 [l0, l1, l2, l3, l4, l5, l6, l7, l8, l9, l10, l11, l12, l13, l14, l15, l16, l17, l18, l19, l20, l21, l22, l23, .val (.int z), l25, l26, l27, l28, l29, l30, l31, l32] ((.int v) :: st) H Q = M21 352 [l0, l1, l2, l3, l4, l5, l6, l7, l8, l9, l10, l11, l12, l13, l14, l15, l16, l17, l18, l19, l20, l21, l22, l23, .val (.int v), l25, l26, l27, l28, l29, l30, l31, l32] st H Q := w_st (i := 24) (p := isI) at_350 rfl rfl rfl rfl rfl rfl
theorem m21_350r : M21 350 [l0, l1, l2, l3, l4, l5, l6, l7, l8, l9, l10, l11, l12, l13, l14, l15, l16, l17, l18, l19, l20, l21, l22, l23, .val (.ref q), l25, l26, l27, l28, l29, l30, l31, l32] ((.int v) :: st) H Q = M21 352 [l0, l1, l2, l3, l4, l5, l6, l7, l8, l9, l10, l11, l12, l13, l14, l15, l16, l17, l18, l19, l20, l21, l22, l23, .val (.int v), l25, l26, l27, l28, l29, l30, l31, l32] st H Q := w_st (i := 24) (p := isI) at_350 rfl rfl rfl rfl rfl rfl
theorem m21_350g (h : okS l24) : M21 350 [l0, l1, l2, l3, l4, l5, l6, l7, l8, l9, l10, l11, l12, l13, l14, l15, l16, l17, l18, l19, l20, l21, l22, l23, l24, l25, l26, l27, l28, l29, l30, l31, l32] ((.int v) :: st) H Q = M21 352 [l0, l1, l2, l3, l4, l5, l6, l7, l8, l9, l10, l11, l12, l13, l14, l15, l16, l17, l18, l19, l20, l21, l22, l23, .val (.int v), l25, l26, l27, l28, l29, l30, l31, l32] st H Q := by rcases h with rfl | ⟨z, rfl⟩ <;> first | exact m21_350u | exact m21_350i
theorem m21_352 : M21 352 [l0, l1, .val (.ref r), l3, l4, l5, l6, l7, l8, l9, l10, l11, l12, l13, l14, l15, l16, l17, l18, l19, l20, l21, l22, l23, l24, l25, l26, l27, l28, l29, l30, l31, l32] st H Q = M21 353 [l0, l1, .val (.ref r), l3, l4, l5, l6, l7, l8, l9, l10, l11, l12, l13, l14, l15, l16, l17, l18, l19, l20, l21, l22, l23, l24, l25, l26, l27, l28, l29, l30, l31, l32] (.ref r :: st) H Q := w_x at_352 rfl
theorem cr21_23 : vR tables_1 dn y21 23 = some (false, y6, prog_1_method_4_code, 1, (some .int), 0, 17) := vR_of (cR_of (by decide +kernel) rc_6 dn_6 dn_21 (sig := ⟨[], some .int⟩) (by decide +kernel) (by decide +kernel) rfl rfl) (by decide +kernel) (by decide +kernel) (by decide +kernel)
theorem m21_353 : M21 353 ls [.ref (b + 1)] (put (b + 1) pre s A post) Q = M6 0 [.val (.ref (b + 1))] [] (put (b + 1) pre s A post) (fun v H1 => M21 356 ls (v.toList ++ []) H1 Q) := w_virt (as := []) (rest := []) (a := (b + 1)) at_353 cr21_23 put_o rfl rfl (Nat.le_of_ble_eq_true rfl) (by show 1 ≤ 1; omega) rfl
theorem m21_356u : M21 356 [l0, l1, l2, l3, l4, l5, l6, l7, l8, l9, l10, l11, l12, l13, l14, l15, l16, l17, l18, l19, l20, l21, l22, .unset, l24, l25, l26, l27, l28, l29, l30, l31, l32] ((.int v) :: st) H Q = M21 358 [l0, l1, l2, l3, l4, l5, l6, l7, l8, l9, l10, l11, l12, l13, l14, l15, l16, l17, l18, l19, l20, l21, l22, .val (.int v), l24, l25, l26, l27, l28, l29, l30, l31, l32] st H Q := w_st (i := 23) (p := isI) at_356 rfl rfl rfl rfl rfl rfl
theorem m21_356i : M21 356 [l0, l1, l2, l3, l4, l5, l6, l7, l8, l9, l10, l11, l12, l13, l14, l15, l16, l17, l18, l19, l20, l21, l22, .val (.int z), l24, l25, l26, l27, l28, l29, l30, l31, l32] ((.int v) :: st) H Q = M21 358 [l0, l1, l2, l3, l4, l5, l6, l7, l8, l9, l10, l11, l12, l13, l14, l15, l16, l17, l18, l19, l20, l21, l22, .val (.int v), l24, l25, l26, l27, l28, l29, l30, l31, l32] st H Q := w_st (i := 23) (p := isI) at_356 rfl rfl rfl rfl rfl rfl
theorem m21_356r : M21 356 [l0, l1, l2, l3, l4, l5, l6, l7, l8, l9, l10, l11, l12, l13, l14, l15, l16, l17, l18, l19, l20, l21, l22, .val (.ref q), l24, l25, l26, l27, l28, l29, l30, l31, l32] ((.int v) :: st) H Q = M21 358 [l0, l1, l2, l3, l4, l5, l6, l7, l8, l9, l10, l11, l12, l13, l14, l15, l16, l17, l18, l19, l20, l21, l22, .val (.int v), l24, l25, l26, l27, l28, l29, l30, l31, l32] st H Q := w_st (i := 23) (p := isI) at_356 rfl rfl rfl rfl rfl rfl
theorem m21_356g (h : okS l23) : M21 356 [l0, l1, l2, l3, l4, l5, l6, l7, l8, l9, l10, l11, l12, l13, l14, l15, l16, l17, l18, l19, l20, l21, l22, l23, l24, l25, l26, l27, l28, l29, l30, l31, l32] ((.int v) :: st) H Q = M21 358 [l0, l1, l2, l3, l4, l5, l6, l7, l8, l9, l10, l11, l12, l13, l14, l15, l16, l17, l18, l19, l20, l21, l22, .val (.int v), l24, l25, l26, l27, l28, l29, l30, l31, l32] st H Q := by rcases h with rfl | ⟨z, rfl⟩ <;> first | exact m21_356u | exact m21_356i
theorem m21_358 : M21 358 [l0, l1, l2, l3, l4, l5, l6, l7, l8, l9, l10, l11, l12, l13, l14, l15, l16, l17, l18, l19, l20, l21, l22, .val (.int v), l24, l25, l26, l27, l28, l29, l30, l31, l32] st H Q = M21 360 [l0, l1, l2, l3, l4, l5, l6, l7, l8, l9, l10, l11, l12, l13, l14, l15, l16, l17, l18, l19, l20, l21, l22, .val (.int v), l24, l25, l26, l27, l28, l29, l30, l31, l32] (.int v :: st) H Q := w_x at_358 rfl
theorem m21_360 : M21 360 [l0, l1, l2, l3, l4, l5, l6, l7, l8, l9, l10, l11, l12, l13, l14, l15, l16, l17, l18, l19, l20, l21, l22, l23, .val (.int v), l25, l26, l27, l28, l29, l30, l31, l32] st H Q = M21 362 [l0, l1, l2, l3, l4, l5, l6, l7, l8, l9, l10, l11, l12, l13, l14, l15, l16, l17, l18, l19, l20, l21, l22, l23, .val (.int v), l25, l26, l27, l28, l29, l30, l31, l32] (.int v :: st) H Q := w_x at_360 rfl
theorem m21_362 : M21 362 ls (.int y :: .int x :: st) H Q = if x = y then M21 367 ls st H Q else M21 365 ls st H Q := w_icmp at_362 (i_eq x y) rfl
theorem m21_365 : M21 365 ls st H Q = M21 366 ls (.int 0 :: st) H Q := w_con at_365 rfl (by decide)
theorem m21_366 : M21 366 ls (.int z :: st) H Q = Q (some (.int (nar .boolean z))) H := w_iretN at_366 rfl (by simp)
theorem m21_367 : M21 367 [l0, l1, l2, l3, l4, l5, l6, l7, l8, l9, l10, l11, l12, l13, l14, l15, l16, l17, l18, l19, l20, l21, l22, .val (.int v), l24, l25, l26, l27, l28, l29, l30, l31, l32] st H Q = M21 369 [l0, l1, l2, l3, l4, l5, l6, l7, l8, l9, l10, l11, l12, l13, l14, l15, l16, l17, l18, l19, l20, l21, l22, .val (.int v), l24, l25, l26, l27, l28, l29, l30, l31, l32] (.int v :: st) H Q := w_x at_367 rfl
theorem m21_369 : M21 369 [l0, l1, l2, l3, .val (.int v), l5, l6, l7, l8, l9, l10, l11, l12, l13, l14, l15, l16, l17, l18, l19, l20, l21, l22, l23, l24, l25, l26, l27, l28, l29, l30, l31, l32] st H Q = M21 371 [l0, l1, l2, l3, .val (.int v), l5, l6, l7, l8, l9, l10, l11, l12, l13, l14, l15, l16, l17, l18, l19, l20, l21, l22, l23, l24, l25, l26, l27, l28, l29, l30, l31, l32] (.int v :: st) H Q := w_x at_369 rfl
theorem m21_371 : M21 371 ls (.int y :: .int x :: st) H Q = if x = y then M21 374 ls st H Q else M21 628 ls st H Q := w_icmpN at_371 (i_ne x y) rfl
theorem m21_374 : M21 374 ls st H Q = M21 375 ls (.int 1 :: st) H Q := w_con at_374 rfl (by decide)
theorem m21_375i : M21 375 [l0, l1, l2, l3, l4, l5, l6, l7, l8, l9, .val (.int z), l11, l12, l13, l14, l15, l16, l17, l18, l19, l20, l21, l22, l23, l24, l25, l26, l27, l28, l29, l30, l31, l32] ((.int v) :: st) H Q = M21 377 [l0, l1, l2, l3, l4, l5, l6, l7, l8, l9, .val (.int v), l11, l12, l13, l14, l15, l16, l17, l18, l19, l20, l21, l22, l23, l24, l25, l26, l27, l28, l29, l30, l31, l32] st H Q := w_st (i := 10) (p := isI) at_375 rfl rfl rfl rfl rfl rfl
theorem m21_377 : M21 377 ls st H Q = M21 628 ls st H Q := w_x at_377 rfl
theorem m21_380 : M21 380 [l0, l1, l2, l3, l4, l5, l6, l7, l8, l9, l10, l11, l12, l13, l14, l15, l16, l17, l18, l19, l20, .val (.int v), l22, l23, l24, l25, l26, l27, l28, l29, l30, l31, l32] st H Q = M21 382 [l0, l1, l2, l3, l4, l5, l6, l7, l8, l9, l10, l11, l12, l13, l14, l15, l16, l17, l18, l19, l20, .val (.int v), l22, l23, l24, l25, l26, l27, l28, l29, l30, l31, l32] (.int v :: st) H Q := w_x at_380 rfl
theorem m21_382 : M21 382 ls st H Q = M21 383 ls (.int 4 :: st) H Q := w_con at_382 rfl (by decide)
theorem m21_383 : M21 383 ls (.int y :: .int x :: st) H Q = if x = y then M21 386 ls st H Q else M21 472 ls st H Q := w_icmpN at_383 (i_ne x y) rfl
theorem m21_386 : M21 386 [l0, l1, l2, l3, l4, l5, l6, l7, l8, l9, l10, l11, l12, l13, l14, l15, l16, l17, .val (.int v), l19, l20, l21, l22, l23, l24, l25, l26, l27, l28, l29, l30, l31, l32] st H Q = M21 388 [l0, l1, l2, l3, l4, l5, l6, l7, l8, l9, l10, l11, l12, l13, l14, l15, l16, l17, .val (.int v), l19, l20, l21, l22, l23, l24, l25, l26, l27, l28, l29, l30, l31, l32] (.int v :: st) H Q := w_x at_386 rfl
theorem m21_388 : M21 388 [l0, l1, l2, l3, l4, l5, l6, l7, l8, l9, l10, l11, l12, l13, l14, l15, l16, l17, l18, l19, l20, l21, .val (.int v), l23, l24, l25, l26, l27, l28, l29, l30, l31, l32] st H Q = M21 390 [l0, l1, l2, l3, l4, l5, l6, l7, l8, l9, l10, l11, l12, l13, l14, l15, l16, l17, l18, l19, l20, l21, .val (.int v), l23, l24, l25, l26, l27, l28, l29, l30, l31, l32] (.int v :: st) H Q := w_x at_388 rfl
theorem m21_390 : M21 390 ls st H Q = M21 392 ls (.int 31 :: st) H Q := w_con at_390 rfl (by decide)
theorem m21_392 : M21 392 ls (.int y :: .int x :: st) H Q = M21 393 ls (.int (x &&& y) :: st) H Q := w_x at_392 rfl
theorem m21_393 : M21 393 ls (.int y :: .int x :: st) H Q = M21 394 ls (.int (x + y) :: st) H Q := w_x at_393 rfl
theorem m21_394 : M21 394 ls st H Q = M21 395 ls (.int 4 :: st) H Q := w_con at_394 rfl (by decide)
theorem m21_395 : M21 395 ls (.int y :: .int x :: st) H Q = M21 396 ls (.int (x - y) :: st) H Q := w_x at_395 rfl
theorem m21_396u : M21 396 [l0, l1, l2, l3, l4, l5, l6, l7, l8, l9, l10, l11, l12, l13, l14, l15, l16, l17, l18, l19, l20, l21, l22, l23, l24, l25, l26, .unset, l28, l29, l30, l31, l32] ((.int v) :: st) H Q = M21 398 [l0, l1, l2, l3, l4, l5, l6, l7, l8, l9, l10, l11, l12, l13, l14, l15, l16, l17, l18, l19, l20, l21, l22, l23, l24, l25, l26, .val (.int v), l28, l29, l30, l31, l32] st H Q := w_st (i := 27) (p := isI) at_396 rfl rfl rfl rfl rfl rfl
theorem m21_396i : M21 396 [l0, l1, l2, l3, l4, l5, l6, l7, l8, l9, l10, l11, l12, l13, l14, l15, l16, l17, l18, l19, l20, l21, l22, l23, l24, l25, l26, .val (.int z), l28, l29, l30, l31, l32] ((.int v) :: st) H Q = M21 398 [l0, l1, l2, l3, l4, l5, l6, l7, l8, l9, l10, l11, l12, l13, l14, l15, l16, l17, l18, l19, l20, l21, l22, l23, l24, l25, l26, .val (.int v), l28, l29, l30, l31, l32] st H Q := w_st (i := 27) (p := isI) at_396 rfl rfl rfl rfl rfl rfl
theorem m21_396r : M21 396 [l0, l1, l2, l3, l4, l5, l6, l7, l8, l9, l10, l11, l12, l13, l14, l15, l16, l17, l18, l19, l20, l21, l22, l23, l24, l25, l26, .val (.ref q), l28, l29, l30, l31, l32] ((.int v) :: st) H Q = M21 398 [l0, l1, l2, l3, l4, l5, l6, l7, l8, l9, l10, l11, l12, l13, l14, l15, l16, l17, l18, l19, l20, l21, l22, l23, l24, l25, l26, .val (.int v), l28, l29, l30, l31, l32] st H Q := w_st (i := 27) (p := isI) at_396 rfl rfl rfl rfl rfl rfl
theorem m21_396g (h : okS l27) : M21 396 [l0, l1, l2, l3, l4, l5, l6, l7, l8, l9, l10, l11, l12, l13, l14, l15, l16, l17, l18, l19, l20, l21, l22, l23, l24, l25, l26, l27, l28, l29, l30, l31, l32] ((.int v) :: st) H Q = M21 398 [l0, l1, l2, l3, l4, l5, l6, l7, l8, l9, l10, l11, l12, l13, l14, l15, l16, l17, l18, l19, l20, l21, l22, l23, l24, l25, l26, .val (.int v), l28, l29, l30, l31, l32] st H Q := by rcases h with rfl | ⟨z, rfl⟩ <;> first | exact m21_396u | exact m21_396i
theorem m21_398 : M21 398 [l0, l1, l2, l3, l4, l5, l6, l7, l8, l9, .val (.int v), l11, l12, l13, l14, l15, l16, l17, l18, l19, l20, l21, l22, l23, l24, l25, l26, l27, l28, l29, l30, l31, l32] st H Q = M21 400 [l0, l1, l2, l3, l4, l5, l6, l7, l8, l9, .val (.int v), l11, l12, l13, l14, l15, l16, l17, l18, l19, l20, l21, l22, l23, l24, l25, l26, l27, l28, l29, l30, l31, l32] (.int v :: st) H Q := w_x at_398 rfl
theorem m21_400 : M21 400 ls (.int x :: st) H Q = if x = 0 then M21 408 ls st H Q else M21 403 ls st H Q := w_if at_400 (z_eq x) rfl
theorem m21_403 : M21 403 [l0, l1, l2, l3, l4, l5, l6, l7, l8, l9, l10, .val (.int v), l12, l13, l14, l15, l16, l17, l18, l19, l20, l21, l22, l23, l24, l25, l26, l27, l28, l29, l30, l31, l32] st H Q = M21 405 [l0, l1, l2, l3, l4, l5, l6, l7, l8, l9, l10, .val (.int v), l12, l13, l14, l15, l16, l17, l18, l19, l20, l21, l22, l23, l24, l25, l26, l27, l28, l29, l30, l31, l32] (.int v :: st) H Q := w_x at_403 rfl
theorem m21_405 : M21 405 ls (.int x :: st) H Q = if x = 0 then M21 413 ls st H Q else M21 408 ls st H Q := w_if at_405 (z_eq x) rfl
theorem m21_408 : M21 408 [l0, l1, l2, l3, l4, .val (.int v), l6, l7, l8, l9, l10, l11, l12, l13, l14, l15, l16, l17, l18, l19, l20, l21, l22, l23, l24, l25, l26, l27, l28, l29, l30, l31, l32] st H Q = M21 410 [l0, l1, l2, l3, l4, .val (.int v), l6, l7, l8, l9, l10, l11, l12, l13, l14, l15, l16, l17, l18, l19, l20, l21, l22, l23, l24, l25, l26, l27, l28, l29, l30, l31, l32] (.int v :: st) H Q := w_x at_408 rfl
theorem m21_410 : M21 410 ls st H Q = M21 433 ls st H Q := w_x at_410 rfl
theorem m21_413 : M21 413 [l0, l1, l2, l3, l4, l5, l6, l7, l8, l9, l10, l11, l12, l13, l14, l15, l16, l17, l18, l19, l20, l21, l22, l23, l24, l25, l26, .val (.int v), l28, l29, l30, l31, l32] st H Q = M21 415 [l0, l1, l2, l3, l4, l5, l6, l7, l8, l9, l10, l11, l12, l13, l14, l15, l16, l17, l18, l19, l20, l21, l22, l23, l24, l25, l26, .val (.int v), l28, l29, l30, l31, l32] (.int v :: st) H Q := w_x at_413 rfl
theorem m21_415 : M21 415 ls (.int x :: st) H Q = if x < 0 then M21 426 ls st H Q else M21 418 ls st H Q := w_if at_415 (z_lt x) rfl
theorem m21_418 : M21 418 [l0, l1, l2, l3, l4, l5, l6, l7, l8, l9, l10, l11, l12, l13, l14, l15, l16, l17, l18, l19, l20, l21, l22, l23, l24, l25, l26, .val (.int v), l28, l29, l30, l31, l32] st H Q = M21 420 [l0, l1, l2, l3, l4, l5, l6, l7, l8, l9, l10, l11, l12, l13, l14, l15, l16, l17, l18, l19, l20, l21, l22, l23, l24, l25, l26, .val (.int v), l28, l29, l30, l31, l32] (.int v :: st) H Q := w_x at_418 rfl
theorem m21_420 : M21 420 ls st H Q = M21 423 ls (.int 255 :: st) H Q := w_con at_420 rfl (by decide)
theorem m21_423 : M21 423 ls (.int y :: .int x :: st) H Q = if y < x then M21 426 ls st H Q else M21 431 ls st H Q := w_icmpN at_423 (i_le x y) rfl
theorem m21_426 : M21 426 [l0, l1, l2, l3, l4, l5, l6, l7, l8, .val (.int v), l10, l11, l12, l13, l14, l15, l16, l17, l18, l19, l20, l21, l22, l23, l24, l25, l26, l27, l28, l29, l30, l31, l32] st H Q = M21 428 [l0, l1, l2, l3, l4, l5, l6, l7, l8, .val (.int v), l10, l11, l12, l13, l14, l15, l16, l17, l18, l19, l20, l21, l22, l23, l24, l25, l26, l27, l28, l29, l30, l31, l32] (.int v :: st) H Q := w_x at_426 rfl
theorem m21_428 : M21 428 ls st H Q = M21 433 ls st H Q := w_x at_428 rfl
theorem m21_431 : M21 431 [l0, l1, l2, l3, .val (.int v), l5, l6, l7, l8, l9, l10, l11, l12, l13, l14, l15, l16, l17, l18, l19, l20, l21, l22, l23, l24, l25, l26, l27, l28, l29, l30, l31, l32] st H Q = M21 433 [l0, l1, l2, l3, .val (.int v), l5, l6, l7, l8, l9, l10, l11, l12, l13, l14, l15, l16, l17, l18, l19, l20, l21, l22, l23, l24, l25, l26, l27, l28, l29, l30, l31, l32] (.int v :: st) H Q := w_x at_431 rfl
theorem m21_433u : M21 433 [l0, l1, l2, l3, l4, l5, l6, l7, l8, l9, l10, l11, l12, l13, l14, l15, l16, l17, l18, l19, l20, l21, l22, l23, .unset, l25, l26, l27, l28, l29, l30, l31, l32] ((.int v) :: st) H Q = M21 435 [l0, l1, l2, l3, l4, l5, l6, l7, l8, l9, l10, l11, l12, l13, l14, l15, l16, l17, l18, l19, l20, l21, l22, l23, .val (.int v), l25, l26, l27, l28, l29, l30, l31, l32] st H Q := w_st (i := 24) (p := isI) at_433 rfl rfl rfl rfl rfl rfl
theorem m21_433i : M21 433 [l0, l1, l2, l3, l4, l5, l6, l7, l8, l9, l10, l11, l12, l13, l14, l15, l16, l17, l18, l19, l20, l21, l22, l23, .val (.int z), l25, l26, l27, l28, l29, l30, l31, l32] ((.int v) :: st) H Q = M21 435 [l0, l1, l2, l3, l4, l5, l6, l7, l8, l9, l10, l11, l12, l13, l14, l15, l16, l17, l18, l19, l20, l21, l22, l23, .val (.int v), l25, l26, l27, l28, l29, l30, l31, l32] st H Q := w_st (i := 24) (p := isI) at_433 rfl rfl rfl rfl rfl rfl
theorem m21_433r : M21 433 [l0, l1, l2, l3, l4, l5, l6, l7, l8, l9, l10, l11, l12, l13, l14, l15, l16, l17, l18, l19, l20, l21, l22, l23, .val (.ref q), l25, l26, l27, l28, l29, l30, l31, l32] ((.int v) :: st) H Q = M21 435 [l0, l1, l2, l3, l4, l5, l6, l7, l8, l9, l10, l11, l12, l13, l14, l15, l16, l17, l18, l19, l20, l21, l22, l23, .val (.int v), l25, l26, l27, l28, l29, l30, l31, l32] st H Q := w_st (i := 24) (p := isI) at_433 rfl rfl rfl rfl rfl rfl
theorem m21_433g (h : okS l24) : M21 433 [l0, l1, l2, l3, l4, l5, l6, l7, l8, l9, l10, l11, l12, l13, l14, l15, l16, l17, l18, l19, l20, l21, l22, l23, l24, l25, l26, l27, l28, l29, l30, l31, l32] ((.int v) :: st) H Q = M21 435 [l0, l1, l2, l3, l4, l5, l6, l7, l8, l9, l10, l11, l12, l13, l14, l15, l16, l17, l18, l19, l20, l21, l22, l23, .val (.int v), l25, l26, l27, l28, l29, l30, l31, l32] st H Q := by rcases h with rfl | ⟨z, rfl⟩ <;> first | exact m21_433u | exact m21_433i
theorem m21_435 : M21 435 [l0, l1, .val (.ref r), l3, l4, l5, l6, l7, l8, l9, l10, l11, l12, l13, l14, l15, l16, l17, l18, l19, l20, l21, l22, l23, l24, l25, l26, l27, l28, l29, l30, l31, l32] st H Q = M21 436 [l0, l1, .val (.ref r), l3, l4, l5, l6, l7, l8, l9, l10, l11, l12, l13, l14, l15, l16, l17, l18, l19, l20, l21, l22, l23, l24, l25, l26, l27, l28, l29, l30, l31, l32] (.ref r :: st) H Q := w_x at_435 rfl
theorem m21_436 : M21 436 [l0, l1, l2, l3, l4, l5, l6, l7, l8, l9, l10, l11, l12, l13, l14, l15, l16, l17, l18, l19, l20, l21, l22, l23, l24, l25, l26, .val (.int v), l28, l29, l30, l31, l32] st H Q = M21 438 [l0, l1, l2, l3, l4, l5, l6, l7, l8, l9, l10, l11, l12, l13, l14, l15, l16, l17, l18, l19, l20, l21, l22, l23, l24, l25, l26, .val (.int v), l28, l29, l30, l31, l32] (.int v :: st) H Q := w_x at_436 rfl
theorem cr21_26 : vR tables_1 dn y21 26 = some (false, y13, prog_1_method_9_code, 2, (some .int), 1, 35) := vR_of (cR_of (by decide +kernel) rc_13 dn_13 dn_21 (sig := ⟨[.int], some .int⟩) (by decide +kernel) (by decide +kernel) rfl rfl) (by decide +kernel) (by decide +kernel) (by decide +kernel)
theorem m21_438 (a0 : Int32) : M21 438 ls [.int a0, .ref (b + 1)] (put (b + 1) pre s A post) Q = M13 0 [.val (.ref (b + 1)), .val (.int a0)] [] (put (b + 1) pre s A post) (fun v H1 => M21 441 ls (v.toList ++ []) H1 Q) := w_virt (as := [.int a0]) (rest := []) (a := (b + 1)) at_438 cr21_26 put_o rfl rfl (Nat.le_of_ble_eq_true rfl) (by show 2 ≤ 2; omega) rfl
theorem m21_441u : M21 441 [l0, l1, l2, l3, l4, l5, l6, l7, l8, l9, l10, l11, l12, l13, l14, l15, l16, l17, l18, l19, l20, l21, l22, .unset, l24, l25, l26, l27, l28, l29, l30, l31, l32] ((.int v) :: st) H Q = M21 443 [l0, l1, l2, l3, l4, l5, l6, l7, l8, l9, l10, l11, l12, l13, l14, l15, l16, l17, l18, l19, l20, l21, l22, .val (.int v), l24, l25, l26, l27, l28, l29, l30, l31, l32] st H Q := w_st (i := 23) (p := isI) at_441 rfl rfl rfl rfl rfl rfl
theorem m21_441i : M21 441 [l0, l1, l2, l3, l4, l5, l6, l7, l8, l9, l10, l11, l12, l13, l14, l15, l16, l17, l18, l19, l20, l21, l22, .val (.int z), l24, l25, l26, l27, l28, l29, l30, l31, l32] ((.int v) :: st) H Q = M21 443 [l0, l1, l2, l3, l4, l5, l6, l7, l8, l9, l10, l11, l12, l13, l14, l15, l16, l17, l18, l19, l20, l21, l22, .val (.int v), l24, l25, l26, l27, l28, l29, l30, l31, l32] st H Q := w_st (i := 23) (p := isI) at_441 rfl rfl rfl rfl rfl rfl
theorem m21_441r : M21 441 [l0, l1, l2, l3, l4, l5, l6, l7, l8, l9, l10, l11, l12, l13, l14, l15, l16, l17, l18, l19, l20, l21, l22, .val (.ref q), l24, l25, l26, l27, l28, l29, l30, l31, l32] ((.int v) :: st) H Q = M21 443 [l0, l1, l2, l3, l4, l5, l6, l7, l8, l9, l10, l11, l12, l13, l14, l15, l16, l17, l18, l19, l20, l21, l22, .val (.int v), l24, l25, l26, l27, l28, l29, l30, l31, l32] st H Q := w_st (i := 23) (p := isI) at_441 rfl rfl rfl rfl rfl rfl
theorem m21_441g (h : okS l23) : M21 441 [l0, l1, l2, l3, l4, l5, l6, l7, l8, l9, l10, l11, l12, l13, l14, l15, l16, l17, l18, l19, l20, l21, l22, l23, l24, l25, l26, l27, l28, l29, l30, l31, l32] ((.int v) :: st) H Q = M21 443 [l0, l1, l2, l3, l4, l5, l6, l7, l8, l9, l10, l11, l12, l13, l14, l15, l16, l17, l18, l19, l20, l21, l22, .val (.int v), l24, l25, l26, l27, l28, l29, l30, l31, l32] st H Q := by rcases h with rfl | ⟨z, rfl⟩ <;> first | exact m21_441u | exact m21_441i
theorem m21_443 : M21 443 [l0, l1, l2, l3, l4, l5, l6, l7, l8, l9, l10, l11, l12, l13, l14, l15, l16, l17, l18, l19, l20, l21, l22, .val (.int v), l24, l25, l26, l27, l28, l29, l30, l31, l32] st H Q = M21 445 [l0, l1, l2, l3, l4, l5, l6, l7, l8, l9, l10, l11, l12, l13, l14, l15, l16, l17, l18, l19, l20, l21, l22, .val (.int v), l24, l25, l26, l27, l28, l29, l30, l31, l32] (.int v :: st) H Q := w_x at_443 rfl
theorem m21_445 : M21 445 [l0, l1, l2, l3, l4, l5, l6, l7, l8, l9, l10, l11, l12, l13, l14, l15, l16, l17, l18, l19, l20, l21, l22, l23, .val (.int v), l25, l26, l27, l28, l29, l30, l31, l32] st H Q = M21 447 [l0, l1, l2, l3, l4, l5, l6, l7, l8, l9, l10, l11, l12, l13, l14, l15, l16, l17, l18, l19, l20, l21, l22, l23, .val (.int v), l25, l26, l27, l28, l29, l30, l31, l32] (.int v :: st) H Q := w_x at_445 rfl
theorem m21_447 : M21 447 ls (.int y :: .int x :: st) H Q = if x = y then M21 452 ls st H Q else M21 450 ls st H Q := w_icmp at_447 (i_eq x y) rfl
theorem m21_450 : M21 450 ls st H Q = M21 451 ls (.int 0 :: st) H Q := w_con at_450 rfl (by decide)
theorem m21_451 : M21 451 ls (.int z :: st) H Q = Q (some (.int (nar .boolean z))) H := w_iretN at_451 rfl (by simp)
theorem m21_452 : M21 452 [l0, l1, l2, l3, l4, l5, l6, l7, l8, l9, l10, l11, l12, l13, l14, l15, l16, l17, l18, l19, l20, l21, l22, .val (.int v), l24, l25, l26, l27, l28, l29, l30, l31, l32] st H Q = M21 454 [l0, l1, l2, l3, l4, l5, l6, l7, l8, l9, l10, l11, l12, l13, l14, l15, l16, l17, l18, l19, l20, l21, l22, .val (.int v), l24, l25, l26, l27, l28, l29, l30, l31, l32] (.int v :: st) H Q := w_x at_452 rfl
theorem m21_454 : M21 454 [l0, l1, l2, l3, .val (.int v), l5, l6, l7, l8, l9, l10, l11, l12, l13, l14, l15, l16, l17, l18, l19, l20, l21, l22, l23, l24, l25, l26, l27, l28, l29, l30, l31, l32] st H Q = M21 456 [l0, l1, l2, l3, .val (.int v), l5, l6, l7, l8, l9, l10, l11, l12, l13, l14, l15, l16, l17, l18, l19, l20, l21, l22, l23, l24, l25, l26, l27, l28, l29, l30, l31, l32] (.int v :: st) H Q := w_x at_454 rfl
theorem m21_456 : M21 456 ls (.int y :: .int x :: st) H Q = if x = y then M21 459 ls st H Q else M21 469 ls st H Q := w_icmpN at_456 (i_ne x y) rfl
theorem m21_459 : M21 459 ls st H Q = M21 460 ls (.int 1 :: st) H Q := w_con at_459 rfl (by decide)
theorem m21_460i : M21 460 [l0, l1, l2, l3, l4, l5, l6, l7, l8, l9, l10, .val (.int z), l12, l13, l14, l15, l16, l17, l18, l19, l20, l21, l22, l23, l24, l25, l26, l27, l28, l29, l30, l31, l32] ((.int v) :: st) H Q = M21 462 [l0, l1, l2, l3, l4, l5, l6, l7, l8, l9, l10, .val (.int v), l12, l13, l14, l15, l16, l17, l18, l19, l20, l21, l22, l23, l24, l25, l26, l27, l28, l29, l30, l31, l32] st H Q := w_st (i := 11) (p := isI) at_460 rfl rfl rfl rfl rfl rfl
theorem m21_462 : M21 462 [l0, l1, l2, l3, l4, l5, l6, l7, l8, l9, l10, l11, l12, l13, l14, l15, l16, l17, l18, l19, l20, l21, l22, l23, l24, l25, l26, .val (.int v), l28, l29, l30, l31, l32] st H Q = M21 464 [l0, l1, l2, l3, l4, l5, l6, l7, l8, l9, l10, l11, l12, l13, l14, l15, l16, l17, l18, l19, l20, l21, l22, l23, l24, l25, l26, .val (.int v), l28, l29, l30, l31, l32] (.int v :: st) H Q := w_x at_462 rfl
theorem m21_464i : M21 464 [l0, l1, l2, l3, l4, l5, l6, l7, l8, l9, l10, l11, l12, l13, l14, .val (.int z), l16, l17, l18, l19, l20, l21, l22, l23, l24, l25, l26, l27, l28, l29, l30, l31, l32] ((.int v) :: st) H Q = M21 466 [l0, l1, l2, l3, l4, l5, l6, l7, l8, l9, l10, l11, l12, l13, l14, .val (.int v), l16, l17, l18, l19, l20, l21, l22, l23, l24, l25, l26, l27, l28, l29, l30, l31, l32] st H Q := w_st (i := 15) (p := isI) at_464 rfl rfl rfl rfl rfl rfl
theorem m21_466 : M21 466 ls st H Q = M21 467 ls (.int 0 :: st) H Q := w_con at_466 rfl (by decide)
theorem m21_467i : M21 467 [l0, l1, l2, l3, l4, l5, l6, l7, l8, l9, l10, l11, l12, l13, l14, l15, .val (.int z), l17, l18, l19, l20, l21, l22, l23, l24, l25, l26, l27, l28, l29, l30, l31, l32] ((.int v) :: st) H Q = M21 469 [l0, l1, l2, l3, l4, l5, l6, l7, l8, l9, l10, l11, l12, l13, l14, l15, .val (.int v), l17, l18, l19, l20, l21, l22, l23, l24, l25, l26, l27, l28, l29, l30, l31, l32] st H Q := w_st (i := 16) (p := isI) at_467 rfl rfl rfl rfl rfl rfl
theorem m21_469 : M21 469 ls st H Q = M21 628 ls st H Q := w_x at_469 rfl
theorem m21_472 : M21 472 [l0, l1, l2, l3, l4, l5, l6, l7, l8, l9, l10, l11, l12, l13, l14, l15, l16, l17, l18, l19, l20, .val (.int v), l22, l23, l24, l25, l26, l27, l28, l29, l30, l31, l32] st H Q = M21 474 [l0, l1, l2, l3, l4, l5, l6, l7, l8, l9, l10, l11, l12, l13, l14, l15, l16, l17, l18, l19, l20, .val (.int v), l22, l23, l24, l25, l26, l27, l28, l29, l30, l31, l32] (.int v :: st) H Q := w_x at_472 rfl
theorem m21_474 : M21 474 ls st H Q = M21 476 ls (.int 6 :: st) H Q := w_con at_474 rfl (by decide)
theorem m21_476 : M21 476 ls (.int y :: .int x :: st) H Q = if y < x then M21 561 ls st H Q else M21 479 ls st H Q := w_icmp at_476 (i_gt x y) rfl
theorem m21_479 : M21 479 [l0, l1, l2, l3, l4, l5, l6, l7, l8, l9, l10, .val (.int v), l12, l13, l14, l15, l16, l17, l18, l19, l20, l21, l22, l23, l24, l25, l26, l27, l28, l29, l30, l31, l32] st H Q = M21 481 [l0, l1, l2, l3, l4, l5, l6, l7, l8, l9, l10, .val (.int v), l12, l13, l14, l15, l16, l17, l18, l19, l20, l21, l22, l23, l24, l25, l26, l27, l28, l29, l30, l31, l32] (.int v :: st) H Q := w_x at_479 rfl
theorem m21_481 : M21 481 ls (.int x :: st) H Q = if x = 0 then M21 484 ls st H Q else M21 489 ls st H Q := w_ifN at_481 (z_ne x) rfl
theorem m21_484 : M21 484 [l0, l1, l2, l3, l4, .val (.int v), l6, l7, l8, l9, l10, l11, l12, l13, l14, l15, l16, l17, l18, l19, l20, l21, l22, l23, l24, l25, l26, l27, l28, l29, l30, l31, l32] st H Q = M21 486 [l0, l1, l2, l3, l4, .val (.int v), l6, l7, l8, l9, l10, l11, l12, l13, l14, l15, l16, l17, l18, l19, l20, l21, l22, l23, l24, l25, l26, l27, l28, l29, l30, l31, l32] (.int v :: st) H Q := w_x at_484 rfl
theorem m21_486 : M21 486 ls st H Q = M21 529 ls st H Q := w_x at_486 rfl
theorem m21_489 : M21 489 [l0, l1, l2, l3, l4, l5, l6, l7, l8, l9, l10, l11, l12, l13, l14, l15, l16, l17, l18, l19, l20, l21, l22, l23, l24, .val (.int v), l26, l27, l28, l29, l30, l31, l32] st H Q = M21 491 [l0, l1, l2, l3, l4, l5, l6, l7, l8, l9, l10, l11, l12, l13, l14, l15, l16, l17, l18, l19, l20, l21, l22, l23, l24, .val (.int v), l26, l27, l28, l29, l30, l31, l32] (.int v :: st) H Q := w_x at_489 rfl
theorem m21_491 : M21 491 ls (.int x :: st) H Q = if x < 0 then M21 494 ls st H Q else M21 499 ls st H Q := w_ifN at_491 (z_ge x) rfl
theorem m21_494 : M21 494 [l0, l1, l2, l3, l4, l5, .val (.int v), l7, l8, l9, l10, l11, l12, l13, l14, l15, l16, l17, l18, l19, l20, l21, l22, l23, l24, l25, l26, l27, l28, l29, l30, l31, l32] st H Q = M21 496 [l0, l1, l2, l3, l4, l5, .val (.int v), l7, l8, l9, l10, l11, l12, l13, l14, l15, l16, l17, l18, l19, l20, l21, l22, l23, l24, l25, l26, l27, l28, l29, l30, l31, l32] (.int v :: st) H Q := w_x at_494 rfl
theorem m21_496 : M21 496 ls st H Q = M21 529 ls st H Q := w_x at_496 rfl
theorem m21_499 : M21 499 [l0, l1, l2, l3, l4, l5, l6, l7, l8, l9, l10, l11, l12, l13, l14, l15, .val (.int v), l17, l18, l19, l20, l21, l22, l23, l24, l25, l26, l27, l28, l29, l30, l31, l32] st H Q = M21 501 [l0, l1, l2, l3, l4, l5, l6, l7, l8, l9, l10, l11, l12, l13, l14, l15, .val (.int v), l17, l18, l19, l20, l21, l22, l23, l24, l25, l26, l27, l28, l29, l30, l31, l32] (.int v :: st) H Q := w_x at_499 rfl
theorem m21_501 : M21 501 ls st H Q = M21 503 ls (.int 16 :: st) H Q := w_con at_501 rfl (by decide)
theorem m21_503 : M21 503 ls (.int y :: .int x :: st) H Q = if x = y then M21 506 ls st H Q else M21 511 ls st H Q := w_icmpN at_503 (i_ne x y) rfl
theorem m21_506 : M21 506 [l0, l1, l2, l3, l4, l5, l6, .val (.int v), l8, l9, l10, l11, l12, l13, l14, l15, l16, l17, l18, l19, l20, l21, l22, l23, l24, l25, l26, l27, l28, l29, l30, l31, l32] st H Q = M21 508 [l0, l1, l2, l3, l4, l5, l6, .val (.int v), l8, l9, l10, l11, l12, l13, l14, l15, l16, l17, l18, l19, l20, l21, l22, l23, l24, l25, l26, l27, l28, l29, l30, l31, l32] (.int v :: st) H Q := w_x at_506 rfl
theorem m21_508 : M21 508 ls st H Q = M21 529 ls st H Q := w_x at_508 rfl
theorem m21_511 : M21 511 [l0, l1, l2, l3, l4, l5, l6, l7, l8, l9, l10, l11, l12, l13, l14, .val (.int v), l16, l17, l18, l19, l20, l21, l22, l23, l24, l25, l26, l27, l28, l29, l30, l31, l32] st H Q = M21 513 [l0, l1, l2, l3, l4, l5, l6, l7, l8, l9, l10, l11, l12, l13, l14, .val (.int v), l16, l17, l18, l19, l20, l21, l22, l23, l24, l25, l26, l27, l28, l29, l30, l31, l32] (.int v :: st) H Q := w_x at_511 rfl
theorem m21_513 : M21 513 [l0, l1, l2, l3, l4, l5, l6, l7, l8, l9, l10, l11, l12, l13, l14, l15, .val (.int v), l17, l18, l19, l20, l21, l22, l23, l24, l25, l26, l27, l28, l29, l30, l31, l32] st H Q = M21 515 [l0, l1, l2, l3, l4, l5, l6, l7, l8, l9, l10, l11, l12, l13, l14, l15, .val (.int v), l17, l18, l19, l20, l21, l22, l23, l24, l25, l26, l27, l28, l29, l30, l31, l32] (.int v :: st) H Q := w_x at_513 rfl
theorem m21_515 : M21 515 ls (.int y :: .int x :: st) H Q = M21 516 ls (.int (x + y) :: st) H Q := w_x at_515 rfl
theorem m21_516 : M21 516 ls st H Q = M21 519 ls (.int 256 :: st) H Q := w_con at_516 rfl (by decide)
theorem m21_519 : M21 519 ls (.int y :: .int x :: st) H Q = if x = y then M21 522 ls st H Q else M21 527 ls st H Q := w_icmpN at_519 (i_ne x y) rfl
theorem m21_522 : M21 522 [l0, l1, l2, l3, l4, l5, l6, l7, l8, .val (.int v), l10, l11, l12, l13, l14, l15, l16, l17, l18, l19, l20, l21, l22, l23, l24, l25, l26, l27, l28, l29, l30, l31, l32] st H Q = M21 524 [l0, l1, l2, l3, l4, l5, l6, l7, l8, .val (.int v), l10, l11, l12, l13, l14, l15, l16, l17, l18, l19, l20, l21, l22, l23, l24, l25, l26, l27, l28, l29, l30, l31, l32] (.int v :: st) H Q := w_x at_522 rfl
theorem m21_524 : M21 524 ls st H Q = M21 529 ls st H Q := w_x at_524 rfl
theorem m21_527 : M21 527 [l0, l1, l2, l3, .val (.int v), l5, l6, l7, l8, l9, l10, l11, l12, l13, l14, l15, l16, l17, l18, l19, l20, l21, l22, l23, l24, l25, l26, l27, l28, l29, l30, l31, l32] st H Q = M21 529 [l0, l1, l2, l3, .val (.int v), l5, l6, l7, l8, l9, l10, l11, l12, l13, l14, l15, l16, l17, l18, l19, l20, l21, l22, l23, l24, l25, l26, l27, l28, l29, l30, l31, l32] (.int v :: st) H Q := w_x at_527 rfl
theorem m21_529u : M21 529 [l0, l1, l2, l3, l4, l5, l6, l7, l8, l9, l10, l11, l12, l13, l14, l15, l16, l17, l18, l19, l20, l21, l22, l23, .unset, l25, l26, l27, l28, l29, l30, l31, l32] ((.int v) :: st) H Q = M21 531 [l0, l1, l2, l3, l4, l5, l6, l7, l8, l9, l10, l11, l12, l13, l14, l15, l16, l17, l18, l19, l20, l21, l22, l23, .val (.int v), l25, l26, l27, l28, l29, l30, l31, l32] st H Q := w_st (i := 24) (p := isI) at_529 rfl rfl rfl rfl rfl rfl
theorem m21_529i : M21 529 [l0, l1, l2, l3, l4, l5, l6, l7, l8, l9, l10, l11, l12, l13, l14, l15, l16, l17, l18, l19, l20, l21, l22, l23, .val (.int z), l25, l26, l27, l28, l29, l30, l31, l32] ((.int v) :: st) H Q = M21 531 [l0, l1, l2, l3, l4, l5, l6, l7, l8, l9, l10, l11, l12, l13, l14, l15, l16, l17, l18, l19, l20, l21, l22, l23, .val (.int v), l25, l26, l27, l28, l29, l30, l31, l32] st H Q := w_st (i := 24) (p := isI) at_529 rfl rfl rfl rfl rfl rfl
theorem m21_529r : M21 529 [l0, l1, l2, l3, l4, l5, l6, l7, l8, l9, l10, l11, l12, l13, l14, l15, l16, l17, l18, l19, l20, l21, l22, l23, .val (.ref q), l25, l26, l27, l28, l29, l30, l31, l32] ((.int v) :: st) H Q = M21 531 [l0, l1, l2, l3, l4, l5, l6, l7, l8, l9, l10, l11, l12, l13, l14, l15, l16, l17, l18, l19, l20, l21, l22, l23, .val (.int v), l25, l26, l27, l28, l29, l30, l31, l32] st H Q := w_st (i := 24) (p := isI) at_529 rfl rfl rfl rfl rfl rfl
theorem m21_529g (h : okS l24) : M21 529 [l0, l1, l2, l3, l4, l5, l6, l7, l8, l9, l10, l11, l12, l13, l14, l15, l16, l17, l18, l19, l20, l21, l22, l23, l24, l25, l26, l27, l28, l29, l30, l31, l32] ((.int v) :: st) H Q = M21 531 [l0, l1, l2, l3, l4, l5, l6, l7, l8, l9, l10, l11, l12, l13, l14, l15, l16, l17, l18, l19, l20, l21, l22, l23, .val (.int v), l25, l26, l27, l28, l29, l30, l31, l32] st H Q := by rcases h with rfl | ⟨z, rfl⟩ <;> first | exact m21_529u | exact m21_529i
theorem m21_531 : M21 531 [l0, l1, .val (.ref r), l3, l4, l5, l6, l7, l8, l9, l10, l11, l12, l13, l14, l15, l16, l17, l18, l19, l20, l21, l22, l23, l24, l25, l26, l27, l28, l29, l30, l31, l32] st H Q = M21 532 [l0, l1, .val (.ref r), l3, l4, l5, l6, l7, l8, l9, l10, l11, l12, l13, l14, l15, l16, l17, l18, l19, l20, l21, l22, l23, l24, l25, l26, l27, l28, l29, l30, l31, l32] (.ref r :: st) H Q := w_x at_531 rfl
theorem m21_532 : M21 532 [l0, l1, l2, l3, l4, l5, l6, l7, l8, l9, l10, l11, l12, l13, l14, l15, l16, l17, l18, l19, l20, l21, l22, l23, l24, .val (.int v), l26, l27, l28, l29, l30, l31, l32] st H Q = M21 534 [l0, l1, l2, l3, l4, l5, l6, l7, l8, l9, l10, l11, l12, l13, l14, l15, l16, l17, l18, l19, l20, l21, l22, l23, l24, .val (.int v), l26, l27, l28, l29, l30, l31, l32] (.int v :: st) H Q := w_x at_532 rfl
theorem cr21_29 : vR tables_1 dn y21 29 = some (false, y14, prog_1_method_10_code, 2, (some .int), 1, 35) := vR_of (cR_of (by decide +kernel) rc_14 dn_14 dn_21 (sig := ⟨[.int], some .int⟩) (by decide +kernel) (by decide +kernel) rfl rfl) (by decide +kernel) (by decide +kernel) (by decide +kernel)
theorem m21_534 (a0 : Int32) : M21 534 ls [.int a0, .ref (b + 1)] (put (b + 1) pre s A post) Q = M14 0 [.val (.ref (b + 1)), .val (.int a0)] [] (put (b + 1) pre s A post) (fun v H1 => M21 537 ls (v.toList ++ []) H1 Q) := w_virt (as := [.int a0]) (rest := []) (a := (b + 1)) at_534 cr21_29 put_o rfl rfl (Nat.le_of_ble_eq_true rfl) (by show 2 ≤ 2; omega) rfl
theorem m21_537u : M21 537 [l0, l1, l2, l3, l4, l5, l6, l7, l8, l9, l10, l11, l12, l13, l14, l15, l16, l17, l18, l19, l20, l21, l22, .unset, l24, l25, l26, l27, l28, l29, l30, l31, l32] ((.int v) :: st) H Q = M21 539 [l0, l1, l2, l3, l4, l5, l6, l7, l8, l9, l10, l11, l12, l13, l14, l15, l16, l17, l18, l19, l20, l21, l22, .val (.int v), l24, l25, l26, l27, l28, l29, l30, l31, l32] st H Q := w_st (i := 23) (p := isI) at_537 rfl rfl rfl rfl rfl rfl
theorem m21_537i : M21 537 [l0, l1, l2, l3, l4, l5, l6, l7, l8, l9, l10, l11, l12, l13, l14, l15, l16, l17, l18, l19, l20, l21, l22, .val (.int z), l24, l25, l26, l27, l28, l29, l30, l31, l32] ((.int v) :: st) H Q = M21 539 [l0, l1, l2, l3, l4, l5, l6, l7, l8, l9, l10, l11, l12, l13, l14, l15, l16, l17, l18, l19, l20, l21, l22, .val (.int v), l24, l25, l26, l27, l28, l29, l30, l31, l32] st H Q := w_st (i := 23) (p := isI) at_537 rfl rfl rfl rfl rfl rfl
theorem m21_537r : M21 537 [l0, l1, l2, l3, l4, l5, l6, l7, l8, l9, l10, l11, l12, l13, l14, l15, l16, l17, l18, l19, l20, l21, l22, .val (.ref q), l24, l25, l26, l27, l28, l29, l30, l31, l32] ((.int v) :: st) H Q = M21 539 [l0, l1, l2, l3, l4, l5, l6, l7, l8, l9, l10, l11, l12, l13, l14, l15, l16, l17, l18, l19, l20, l21, l22, .val (.int v), l24, l25, l26, l27, l28, l29, l30, l31, l32] st H Q := w_st (i := 23) (p := isI) at_537 rfl rfl rfl rfl rfl rfl
theorem m21_537g (h : okS l23) : M21 537 [l0, l1, l2, l3, l4, l5, l6, l7, l8, l9, l10, l11, l12, l13, l14, l15, l16, l17, l18, l19, l20, l21, l22, l23, l24, l25, l26, l27, l28, l29, l30, l31, l32] ((.int v) :: st) H Q = M21 539 [l0, l1, l2, l3, l4, l5, l6, l7, l8, l9, l10, l11, l12, l13, l14, l15, l16, l17, l18, l19, l20, l21, l22, .val (.int v), l24, l25, l26, l27, l28, l29, l30, l31, l32] st H Q := by rcases h with rfl | ⟨z, rfl⟩ <;> first | exact m21_537u | exact m21_537i
theorem m21_539 : M21 539 [l0, l1, l2, l3, l4, l5, l6, l7, l8, l9, l10, l11, l12, l13, l14, l15, l16, l17, l18, l19, l20, l21, l22, .val (.int v), l24, l25, l26, l27, l28, l29, l30, l31, l32] st H Q = M21 541 [l0, l1, l2, l3, l4, l5, l6, l7, l8, l9, l10, l11, l12, l13, l14, l15, l16, l17, l18, l19, l20, l21, l22, .val (.int v), l24, l25, l26, l27, l28, l29, l30, l31, l32] (.int v :: st) H Q := w_x at_539 rfl
theorem m21_541 : M21 541 [l0, l1, l2, l3, l4, l5, l6, l7, l8, l9, l10, l11, l12, l13, l14, l15, l16, l17, l18, l19, l20, l21, l22, l23, .val (.int v), l25, l26, l27, l28, l29, l30, l31, l32] st H Q = M21 543 [l0, l1, l2, l3, l4, l5, l6, l7, l8, l9, l10, l11, l12, l13, l14, l15, l16, l17, l18, l19, l20, l21, l22, l23, .val (.int v), l25, l26, l27, l28, l29, l30, l31, l32] (.int v :: st) H Q := w_x at_541 rfl
theorem m21_543 : M21 543 ls (.int y :: .int x :: st) H Q = if x = y then M21 548 ls st H Q else M21 546 ls st H Q := w_icmp at_543 (i_eq x y) rfl
theorem m21_546 : M21 546 ls st H Q = M21 547 ls (.int 0 :: st) H Q := w_con at_546 rfl (by decide)
theorem m21_547 : M21 547 ls (.int z :: st) H Q = Q (some (.int (nar .boolean z))) H := w_iretN at_547 rfl (by simp)
theorem m21_548 : M21 548 [l0, l1, l2, l3, l4, l5, l6, l7, l8, l9, l10, l11, l12, l13, l14, l15, l16, l17, l18, l19, l20, l21, l22, .val (.int v), l24, l25, l26, l27, l28, l29, l30, l31, l32] st H Q = M21 550 [l0, l1, l2, l3, l4, l5, l6, l7, l8, l9, l10, l11, l12, l13, l14, l15, l16, l17, l18, l19, l20, l21, l22, .val (.int v), l24, l25, l26, l27, l28, l29, l30, l31, l32] (.int v :: st) H Q := w_x at_548 rfl
theorem m21_550 : M21 550 [l0, l1, l2, l3, .val (.int v), l5, l6, l7, l8, l9, l10, l11, l12, l13, l14, l15, l16, l17, l18, l19, l20, l21, l22, l23, l24, l25, l26, l27, l28, l29, l30, l31, l32] st H Q = M21 552 [l0, l1, l2, l3, .val (.int v), l5, l6, l7, l8, l9, l10, l11, l12, l13, l14, l15, l16, l17, l18, l19, l20, l21, l22, l23, l24, l25, l26, l27, l28, l29, l30, l31, l32] (.int v :: st) H Q := w_x at_550 rfl
theorem m21_552 : M21 552 ls (.int y :: .int x :: st) H Q = if x = y then M21 555 ls st H Q else M21 628 ls st H Q := w_icmpN at_552 (i_ne x y) rfl
theorem m21_555 : M21 555 [l0, l1, l2, l3, l4, l5, l6, l7, l8, l9, l10, l11, l12, l13, l14, l15, .val (.int v), l17, l18, l19, l20, l21, l22, l23, l24, l25, l26, l27, l28, l29, l30, l31, l32] st H Q = M21 558 [l0, l1, l2, l3, l4, l5, l6, l7, l8, l9, l10, l11, l12, l13, l14, l15, .val (.int (v + 1)), l17, l18, l19, l20, l21, l22, l23, l24, l25, l26, l27, l28, l29, l30, l31, l32] st H Q := w_iinc at_555 rfl (by decide) rfl
theorem m21_558 : M21 558 ls st H Q = M21 628 ls st H Q := w_x at_558 rfl
theorem m21_561 : M21 561 [l0, l1, .val (.ref r), l3, l4, l5, l6, l7, l8, l9, l10, l11, l12, l13, l14, l15, l16, l17, l18, l19, l20, l21, l22, l23, l24, l25, l26, l27, l28, l29, l30, l31, l32] st H Q = M21 562 [l0, l1, .val (.ref r), l3, l4, l5, l6, l7, l8, l9, l10, l11, l12, l13, l14, l15, l16, l17, l18, l19, l20, l21, l22, l23, l24, l25, l26, l27, l28, l29, l30, l31, l32] (.ref r :: st) H Q := w_x at_561 rfl
theorem cr21_32 : vR tables_1 dn y21 32 = some (false, y15, prog_1_method_11_code, 3, (some .int), 0, 0) := vR_of (cR_of (by decide +kernel) rc_15 dn_15 dn_21 (sig := ⟨[], some .int⟩) (by decide +kernel) (by decide +kernel) rfl rfl) (by decide +kernel) (by decide +kernel) (by decide +kernel)
theorem m21_562 : M21 562 ls [.ref (b + 1)] (put (b + 1) pre s A post) Q = M15 0 [.val (.ref (b + 1)), .unset, .unset] [] (put (b + 1) pre s A post) (fun v H1 => M21 565 ls (v.toList ++ []) H1 Q) := w_virt (as := []) (rest := []) (a := (b + 1)) at_562 cr21_32 put_o rfl rfl (Nat.le_of_ble_eq_true rfl) (by show 1 ≤ 3; omega) rfl
theorem m21_565u : M21 565 [l0, l1, l2, l3, l4, l5, l6, l7, l8, l9, l10, l11, l12, l13, l14, l15, l16, l17, l18, l19, l20, l21, l22, .unset, l24, l25, l26, l27, l28, l29, l30, l31, l32] ((.int v) :: st) H Q = M21 567 [l0, l1, l2, l3, l4, l5, l6, l7, l8, l9, l10, l11, l12, l13, l14, l15, l16, l17, l18, l19, l20, l21, l22, .val (.int v), l24, l25, l26, l27, l28, l29, l30, l31, l32] st H Q := w_st (i := 23) (p := isI) at_565 rfl rfl rfl rfl rfl rfl
theorem m21_565i : M21 565 [l0, l1, l2, l3, l4, l5, l6, l7, l8, l9, l10, l11, l12, l13, l14, l15, l16, l17, l18, l19, l20, l21, l22, .val (.int z), l24, l25, l26, l27, l28, l29, l30, l31, l32] ((.int v) :: st) H Q = M21 567 [l0, l1, l2, l3, l4, l5, l6, l7, l8, l9, l10, l11, l12, l13, l14, l15, l16, l17, l18, l19, l20, l21, l22, .val (.int v), l24, l25, l26, l27, l28, l29, l30, l31, l32] st H Q := w_st (i := 23) (p := isI) at_565 rfl rfl rfl rfl rfl rfl
theorem m21_565r : M21 565 [l0, l1, l2, l3, l4, l5, l6, l7, l8, l9, l10, l11, l12, l13, l14, l15, l16, l17, l18, l19, l20, l21, l22, .val (.ref q), l24, l25, l26, l27, l28, l29, l30, l31, l32] ((.int v) :: st) H Q = M21 567 [l0, l1, l2, l3, l4, l5, l6, l7, l8, l9, l10, l11, l12, l13, l14, l15, l16, l17, l18, l19, l20, l21, l22, .val (.int v), l24, l25, l26, l27, l28, l29, l30, l31, l32] st H Q := w_st (i := 23) (p := isI) at_565 rfl rfl rfl rfl rfl rfl
theorem m21_565g (h : okS l23) : M21 565 [l0, l1, l2, l3, l4, l5, l6, l7, l8, l9, l10, l11, l12, l13, l14, l15, l16, l17, l18, l19, l20, l21, l22, l23, l24, l25, l26, l27, l28, l29, l30, l31, l32] ((.int v) :: st) H Q = M21 567 [l0, l1, l2, l3, l4, l5, l6, l7, l8, l9, l10, l11, l12, l13, l14, l15, l16, l17, l18, l19, l20, l21, l22, .val (.int v), l24, l25, l26, l27, l28, l29, l30, l31, l32] st H Q := by rcases h with rfl | ⟨z, rfl⟩ <;> first | exact m21_565u | exact m21_565i
theorem m21_567 : M21 567 [l0, l1, l2, l3, l4, l5, l6, l7, l8, l9, l10, .val (.int v), l12, l13, l14, l15, l16, l17, l18, l19, l20, l21, l22, l23, l24, l25, l26, l27, l28, l29, l30, l31, l32] st H Q = M21 569 [l0, l1, l2, l3, l4, l5, l6, l7, l8, l9, l10, .val (.int v), l12, l13, l14, l15, l16, l17, l18, l19, l20, l21, l22, l23, l24, l25, l26, l27, l28, l29, l30, l31, l32] (.int v :: st) H Q := w_x at_567 rfl
theorem m21_569 : M21 569 ls (.int x :: st) H Q = if x = 0 then M21 572 ls st H Q else M21 581 ls st H Q := w_ifN at_569 (z_ne x) rfl
theorem m21_572 : M21 572 [l0, l1, l2, l3, l4, l5, l6, l7, l8, l9, l10, l11, l12, l13, l14, l15, l16, l17, l18, l19, l20, l21, l22, .val (.int v), l24, l25, l26, l27, l28, l29, l30, l31, l32] st H Q = M21 574 [l0, l1, l2, l3, l4, l5, l6, l7, l8, l9, l10, l11, l12, l13, l14, l15, l16, l17, l18, l19, l20, l21, l22, .val (.int v), l24, l25, l26, l27, l28, l29, l30, l31, l32] (.int v :: st) H Q := w_x at_572 rfl
theorem m21_574 : M21 574 [l0, l1, l2, l3, l4, .val (.int v), l6, l7, l8, l9, l10, l11, l12, l13, l14, l15, l16, l17, l18, l19, l20, l21, l22, l23, l24, l25, l26, l27, l28, l29, l30, l31, l32] st H Q = M21 576 [l0, l1, l2, l3, l4, .val (.int v), l6, l7, l8, l9, l10, l11, l12, l13, l14, l15, l16, l17, l18, l19, l20, l21, l22, l23, l24, l25, l26, l27, l28, l29, l30, l31, l32] (.int v :: st) H Q := w_x at_574 rfl
theorem m21_576 : M21 576 ls (.int y :: .int x :: st) H Q = if x = y then M21 628 ls st H Q else M21 579 ls st H Q := w_icmp at_576 (i_eq x y) rfl
theorem m21_579 : M21 579 ls st H Q = M21 580 ls (.int 0 :: st) H Q := w_con at_579 rfl (by decide)
theorem m21_580 : M21 580 ls (.int z :: st) H Q = Q (some (.int (nar .boolean z))) H := w_iretN at_580 rfl (by simp)
theorem m21_581 : M21 581 [l0, l1, .val (.ref r), l3, l4, l5, l6, l7, l8, l9, l10, l11, l12, l13, l14, l15, l16, l17, l18, l19, l20, l21, l22, l23, l24, l25, l26, l27, l28, l29, l30, l31, l32] st H Q = M21 582 [l0, l1, .val (.ref r), l3, l4, l5, l6, l7, l8, l9, l10, l11, l12, l13, l14, l15, l16, l17, l18, l19, l20, l21, l22, l23, l24, l25, l26, l27, l28, l29, l30, l31, l32] (.ref r :: st) H Q := w_x at_581 rfl
theorem m21_582 : M21 582 ls st H Q = M21 583 ls (.int 0 :: st) H Q := w_con at_582 rfl (by decide)
theorem cr21_35 : vR tables_1 dn y21 35 = some (false, y2, prog_1_method_16_code, 2, (some .int), 1, 35) := vR_of (cR_of (by decide +kernel) rc_2 dn_2 dn_21 (sig := ⟨[.int], some .int⟩) (by decide +kernel) (by decide +kernel) rfl rfl) (by decide +kernel) (by decide +kernel) (by decide +kernel)
theorem m21_583 (a0 : Int32) : M21 583 ls [.int a0, .ref (b + 1)] (put (b + 1) pre s A post) Q = M2 0 [.val (.ref (b + 1)), .val (.int a0)] [] (put (b + 1) pre s A post) (fun v H1 => M21 586 ls (v.toList ++ []) H1 Q) := w_virt (as := [.int a0]) (rest := []) (a := (b + 1)) at_583 cr21_35 put_o rfl rfl (Nat.le_of_ble_eq_true rfl) (by show 2 ≤ 2; omega) rfl
theorem m21_586u : M21 586 [l0, l1, l2, l3, l4, l5, l6, l7, l8, l9, l10, l11, l12, l13, l14, l15, l16, l17, l18, l19, l20, l21, l22, l23, l24, l25, l26, .unset, l28, l29, l30, l31, l32] ((.int v) :: st) H Q = M21 588 [l0, l1, l2, l3, l4, l5, l6, l7, l8, l9, l10, l11, l12, l13, l14, l15, l16, l17, l18, l19, l20, l21, l22, l23, l24, l25, l26, .val (.int v), l28, l29, l30, l31, l32] st H Q := w_st (i := 27) (p := isI) at_586 rfl rfl rfl rfl rfl rfl
theorem m21_586i : M21 586 [l0, l1, l2, l3, l4, l5, l6, l7, l8, l9, l10, l11, l12, l13, l14, l15, l16, l17, l18, l19, l20, l21, l22, l23, l24, l25, l26, .val (.int z), l28, l29, l30, l31, l32] ((.int v) :: st) H Q = M21 588 [l0, l1, l2, l3, l4, l5, l6, l7, l8, l9, l10, l11, l12, l13, l14, l15, l16, l17, l18, l19, l20, l21, l22, l23, l24, l25, l26, .val (.int v), l28, l29, l30, l31, l32] st H Q := w_st (i := 27) (p := isI) at_586 rfl rfl rfl rfl rfl rfl
theorem m21_586r : M21 586 [l0, l1, l2, l3, l4, l5, l6, l7, l8, l9, l10, l11, l12, l13, l14, l15, l16, l17, l18, l19, l20, l21, l22, l23, l24, l25, l26, .val (.ref q), l28, l29, l30, l31, l32] ((.int v) :: st) H Q = M21 588 [l0, l1, l2, l3, l4, l5, l6, l7, l8, l9, l10, l11, l12, l13, l14, l15, l16, l17, l18, l19, l20, l21, l22, l23, l24, l25, l26, .val (.int v), l28, l29, l30, l31, l32] st H Q := w_st (i := 27) (p := isI) at_586 rfl rfl rfl rfl rfl rfl
theorem m21_586g (h : okS l27) : M21 586 [l0, l1, l2, l3, l4, l5, l6, l7, l8, l9, l10, l11, l12, l13, l14, l15, l16, l17, l18, l19, l20, l21, l22, l23, l24, l25, l26, l27, l28, l29, l30, l31, l32] ((.int v) :: st) H Q = M21 588 [l0, l1, l2, l3, l4, l5, l6, l7, l8, l9, l10, l11, l12, l13, l14, l15, l16, l17, l18, l19, l20, l21, l22, l23, l24, l25, l26, .val (.int v), l28, l29, l30, l31, l32] st H Q := by rcases h with rfl | ⟨z, rfl⟩ <;> first | exact m21_586u | exact m21_586i
theorem m21_588 : M21 588 [l0, l1, l2, l3, l4, l5, l6, l7, l8, l9, l10, l11, l12, l13, l14, l15, l16, l17, l18, l19, l20, l21, l22, .val (.int v), l24, l25, l26, l27, l28, l29, l30, l31, l32] st H Q = M21 590 [l0, l1, l2, l3, l4, l5, l6, l7, l8, l9, l10, l11, l12, l13, l14, l15, l16, l17, l18, l19, l20, l21, l22, .val (.int v), l24, l25, l26, l27, l28, l29, l30, l31, l32] (.int v :: st) H Q := w_x at_588 rfl
theorem m21_590 : M21 590 ls (.int x :: st) H Q = if x < 0 then M21 603 ls st H Q else M21 593 ls st H Q := w_if at_590 (z_lt x) rfl
theorem m21_593 : M21 593 [l0, l1, l2, l3, l4, l5, l6, l7, l8, l9, l10, l11, l12, l13, l14, l15, l16, l17, l18, l19, l20, l21, l22, l23, l24, l25, l26, .val (.int v), l28, l29, l30, l31, l32] st H Q = M21 595 [l0, l1, l2, l3, l4, l5, l6, l7, l8, l9, l10, l11, l12, l13, l14, l15, l16, l17, l18, l19, l20, l21, l22, l23, l24, l25, l26, .val (.int v), l28, l29, l30, l31, l32] (.int v :: st) H Q := w_x at_593 rfl
theorem m21_595 : M21 595 [l0, l1, l2, l3, l4, l5, l6, l7, l8, l9, l10, l11, l12, l13, l14, l15, l16, l17, .val (.int v), l19, l20, l21, l22, l23, l24, l25, l26, l27, l28, l29, l30, l31, l32] st H Q = M21 597 [l0, l1, l2, l3, l4, l5, l6, l7, l8, l9, l10, l11, l12, l13, l14, l15, l16, l17, .val (.int v), l19, l20, l21, l22, l23, l24, l25, l26, l27, l28, l29, l30, l31, l32] (.int v :: st) H Q := w_x at_595 rfl
theorem m21_597 : M21 597 ls (.int y :: .int x :: st) H Q = M21 598 ls (.int (x - y) :: st) H Q := w_x at_597 rfl
theorem m21_598 : M21 598 [l0, l1, l2, l3, l4, l5, l6, l7, l8, l9, l10, l11, l12, l13, l14, l15, l16, l17, l18, l19, l20, l21, l22, .val (.int v), l24, l25, l26, l27, l28, l29, l30, l31, l32] st H Q = M21 600 [l0, l1, l2, l3, l4, l5, l6, l7, l8, l9, l10, l11, l12, l13, l14, l15, l16, l17, l18, l19, l20, l21, l22, .val (.int v), l24, l25, l26, l27, l28, l29, l30, l31, l32] (.int v :: st) H Q := w_x at_598 rfl
theorem m21_600 : M21 600 ls (.int y :: .int x :: st) H Q = if x = y then M21 605 ls st H Q else M21 603 ls st H Q := w_icmp at_600 (i_eq x y) rfl
theorem m21_603 : M21 603 ls st H Q = M21 604 ls (.int 0 :: st) H Q := w_con at_603 rfl (by decide)
theorem m21_604 : M21 604 ls (.int z :: st) H Q = Q (some (.int (nar .boolean z))) H := w_iretN at_604 rfl (by simp)
theorem m21_605 : M21 605 [l0, l1, l2, l3, l4, l5, l6, l7, l8, l9, l10, l11, l12, l13, l14, l15, l16, .val (.int v), l18, l19, l20, l21, l22, l23, l24, l25, l26, l27, l28, l29, l30, l31, l32] st H Q = M21 607 [l0, l1, l2, l3, l4, l5, l6, l7, l8, l9, l10, l11, l12, l13, l14, l15, l16, .val (.int v), l18, l19, l20, l21, l22, l23, l24, l25, l26, l27, l28, l29, l30, l31, l32] (.int v :: st) H Q := w_x at_605 rfl
theorem m21_607 : M21 607 [l0, l1, l2, l3, l4, l5, l6, l7, l8, l9, l10, l11, l12, l13, l14, l15, .val (.int v), l17, l18, l19, l20, l21, l22, l23, l24, l25, l26, l27, l28, l29, l30, l31, l32] st H Q = M21 609 [l0, l1, l2, l3, l4, l5, l6, l7, l8, l9, l10, l11, l12, l13, l14, l15, .val (.int v), l17, l18, l19, l20, l21, l22, l23, l24, l25, l26, l27, l28, l29, l30, l31, l32] (.int v :: st) H Q := w_x at_607 rfl
theorem m21_609 : M21 609 ls (.int y :: .int x :: st) H Q = M21 610 ls (.int (x + y) :: st) H Q := w_x at_609 rfl
theorem m21_610i : M21 610 [l0, l1, l2, l3, l4, l5, l6, l7, l8, l9, l10, l11, l12, l13, l14, l15, l16, .val (.int z), l18, l19, l20, l21, l22, l23, l24, l25, l26, l27, l28, l29, l30, l31, l32] ((.int v) :: st) H Q = M21 612 [l0, l1, l2, l3, l4, l5, l6, l7, l8, l9, l10, l11, l12, l13, l14, l15, l16, .val (.int v), l18, l19, l20, l21, l22, l23, l24, l25, l26, l27, l28, l29, l30, l31, l32] st H Q := w_st (i := 17) (p := isI) at_610 rfl rfl rfl rfl rfl rfl
theorem m21_612 : M21 612 [l0, l1, l2, l3, l4, l5, l6, l7, l8, l9, l10, l11, l12, l13, l14, l15, l16, l17, l18, l19, l20, l21, l22, l23, l24, l25, l26, .val (.int v), l28, l29, l30, l31, l32] st H Q = M21 614 [l0, l1, l2, l3, l4, l5, l6, l7, l8, l9, l10, l11, l12, l13, l14, l15, l16, l17, l18, l19, l20, l21, l22, l23, l24, l25, l26, .val (.int v), l28, l29, l30, l31, l32] (.int v :: st) H Q := w_x at_612 rfl
theorem m21_614i : M21 614 [l0, l1, l2, l3, l4, l5, l6, l7, l8, l9, l10, l11, l12, l13, l14, l15, l16, l17, .val (.int z), l19, l20, l21, l22, l23, l24, l25, l26, l27, l28, l29, l30, l31, l32] ((.int v) :: st) H Q = M21 616 [l0, l1, l2, l3, l4, l5, l6, l7, l8, l9, l10, l11, l12, l13, l14, l15, l16, l17, .val (.int v), l19, l20, l21, l22, l23, l24, l25, l26, l27, l28, l29, l30, l31, l32] st H Q := w_st (i := 18) (p := isI) at_614 rfl rfl rfl rfl rfl rfl
theorem m21_616 : M21 616 ls st H Q = M21 617 ls (.int 0 :: st) H Q := w_con at_616 rfl (by decide)
theorem m21_617i : M21 617 [l0, l1, l2, l3, l4, l5, l6, l7, l8, l9, l10, .val (.int z), l12, l13, l14, l15, l16, l17, l18, l19, l20, l21, l22, l23, l24, l25, l26, l27, l28, l29, l30, l31, l32] ((.int v) :: st) H Q = M21 619 [l0, l1, l2, l3, l4, l5, l6, l7, l8, l9, l10, .val (.int v), l12, l13, l14, l15, l16, l17, l18, l19, l20, l21, l22, l23, l24, l25, l26, l27, l28, l29, l30, l31, l32] st H Q := w_st (i := 11) (p := isI) at_617 rfl rfl rfl rfl rfl rfl
theorem m21_619 : M21 619 ls st H Q = M21 620 ls (.int (-1) :: st) H Q := w_con at_619 rfl (by decide)
theorem m21_620i : M21 620 [l0, l1, l2, l3, l4, l5, l6, l7, l8, l9, l10, l11, l12, l13, l14, .val (.int z), l16, l17, l18, l19, l20, l21, l22, l23, l24, l25, l26, l27, l28, l29, l30, l31, l32] ((.int v) :: st) H Q = M21 622 [l0, l1, l2, l3, l4, l5, l6, l7, l8, l9, l10, l11, l12, l13, l14, .val (.int v), l16, l17, l18, l19, l20, l21, l22, l23, l24, l25, l26, l27, l28, l29, l30, l31, l32] st H Q := w_st (i := 15) (p := isI) at_620 rfl rfl rfl rfl rfl rfl
theorem m21_622 : M21 622 ls st H Q = M21 623 ls (.int 0 :: st) H Q := w_con at_622 rfl (by decide)
theorem m21_623i : M21 623 [l0, l1, l2, l3, l4, l5, l6, l7, l8, l9, l10, l11, l12, l13, l14, l15, .val (.int z), l17, l18, l19, l20, l21, l22, l23, l24, l25, l26, l27, l28, l29, l30, l31, l32] ((.int v) :: st) H Q = M21 625 [l0, l1, l2, l3, l4, l5, l6, l7, l8, l9, l10, l11, l12, l13, l14, l15, .val (.int v), l17, l18, l19, l20, l21, l22, l23, l24, l25, l26, l27, l28, l29, l30, l31, l32] st H Q := w_st (i := 16) (p := isI) at_623 rfl rfl rfl rfl rfl rfl
theorem m21_625 : M21 625 ls st H Q = M21 626 ls (.int 1 :: st) H Q := w_con at_625 rfl (by decide)
theorem m21_626i : M21 626 [l0, l1, l2, l3, l4, l5, l6, l7, l8, l9, l10, l11, l12, l13, l14, l15, l16, l17, l18, l19, l20, l21, l22, l23, l24, l25, .val (.int z), l27, l28, l29, l30, l31, l32] ((.int v) :: st) H Q = M21 628 [l0, l1, l2, l3, l4, l5, l6, l7, l8, l9, l10, l11, l12, l13, l14, l15, l16, l17, l18, l19, l20, l21, l22, l23, l24, l25, .val (.int v), l27, l28, l29, l30, l31, l32] st H Q := w_st (i := 26) (p := isI) at_626 rfl rfl rfl rfl rfl rfl
theorem m21_628 : M21 628 [l0, l1, .val (.ref r), l3, l4, l5, l6, l7, l8, l9, l10, l11, l12, l13, l14, l15, l16, l17, l18, l19, l20, l21, l22, l23, l24, l25, l26, l27, l28, l29, l30, l31, l32] st H Q = M21 629 [l0, l1, .val (.ref r), l3, l4, l5, l6, l7, l8, l9, l10, l11, l12, l13, l14, l15, l16, l17, l18, l19, l20, l21, l22, l23, l24, l25, l26, l27, l28, l29, l30, l31, l32] (.ref r :: st) H Q := w_x at_628 rfl
theorem m21_629 : M21 629 ls st H Q = M21 631 ls (.int 9 :: st) H Q := w_con at_629 rfl (by decide)
theorem m21_631 (a0 : Int32) : M21 631 ls [.int a0, .ref (b + 1)] (put (b + 1) pre s A post) Q = M2 0 [.val (.ref (b + 1)), .val (.int a0)] [] (put (b + 1) pre s A post) (fun v H1 => M21 634 ls (v.toList ++ []) H1 Q) := w_virt (as := [.int a0]) (rest := []) (a := (b + 1)) at_631 cr21_35 put_o rfl rfl (Nat.le_of_ble_eq_true rfl) (by show 2 ≤ 2; omega) rfl
theorem m21_634 : M21 634 [l0, l1, l2, l3, l4, l5, l6, l7, l8, l9, .val (.int v), l11, l12, l13, l14, l15, l16, l17, l18, l19, l20, l21, l22, l23, l24, l25, l26, l27, l28, l29, l30, l31, l32] st H Q = M21 636 [l0, l1, l2, l3, l4, l5, l6, l7, l8, l9, .val (.int v), l11, l12, l13, l14, l15, l16, l17, l18, l19, l20, l21, l22, l23, l24, l25, l26, l27, l28, l29, l30, l31, l32] (.int v :: st) H Q := w_x at_634 rfl
theorem m21_636 : M21 636 ls (.int x :: st) H Q = if x = 0 then M21 643 ls st H Q else M21 639 ls st H Q := w_if at_636 (z_eq x) rfl
theorem m21_639 : M21 639 ls st H Q = M21 640 ls (.int 1 :: st) H Q := w_con at_639 rfl (by decide)
theorem m21_640 : M21 640 ls st H Q = M21 644 ls st H Q := w_x at_640 rfl
theorem m21_643 : M21 643 ls st H Q = M21 644 ls (.int 0 :: st) H Q := w_con at_643 rfl (by decide)
theorem m21_644 : M21 644 ls (.int y :: .int x :: st) H Q = if x = y then M21 649 ls st H Q else M21 647 ls st H Q := w_icmp at_644 (i_eq x y) rfl
theorem m21_647 : M21 647 ls st H Q = M21 648 ls (.int 0 :: st) H Q := w_con at_647 rfl (by decide)
theorem m21_648 : M21 648 ls (.int z :: st) H Q = Q (some (.int (nar .boolean z))) H := w_iretN at_648 rfl (by simp)
theorem m21_649 : M21 649 [l0, l1, .val (.ref r), l3, l4, l5, l6, l7, l8, l9, l10, l11, l12, l13, l14, l15, l16, l17, l18, l19, l20, l21, l22, l23, l24, l25, l26, l27, l28, l29, l30, l31, l32] st H Q = M21 650 [l0, l1, .val (.ref r), l3, l4, l5, l6, l7, l8, l9, l10, l11, l12, l13, l14, l15, l16, l17, l18, l19, l20, l21, l22, l23, l24, l25, l26, l27, l28, l29, l30, l31, l32] (.ref r :: st) H Q := w_x at_649 rfl
theorem m21_650 : M21 650 ls st H Q = M21 652 ls (.int 6 :: st) H Q := w_con at_650 rfl (by decide)
theorem m21_652 (a0 : Int32) : M21 652 ls [.int a0, .ref (b + 1)] (put (b + 1) pre s A post) Q = M2 0 [.val (.ref (b + 1)), .val (.int a0)] [] (put (b + 1) pre s A post) (fun v H1 => M21 655 ls (v.toList ++ []) H1 Q) := w_virt (as := [.int a0]) (rest := []) (a := (b + 1)) at_652 cr21_35 put_o rfl rfl (Nat.le_of_ble_eq_true rfl) (by show 2 ≤ 2; omega) rfl
theorem m21_655 : M21 655 [l0, l1, l2, l3, l4, l5, l6, l7, l8, l9, l10, l11, .val (.int v), l13, l14, l15, l16, l17, l18, l19, l20, l21, l22, l23, l24, l25, l26, l27, l28, l29, l30, l31, l32] st H Q = M21 657 [l0, l1, l2, l3, l4, l5, l6, l7, l8, l9, l10, l11, .val (.int v), l13, l14, l15, l16, l17, l18, l19, l20, l21, l22, l23, l24, l25, l26, l27, l28, l29, l30, l31, l32] (.int v :: st) H Q := w_x at_655 rfl
theorem m21_657 : M21 657 ls (.int y :: .int x :: st) H Q = if x = y then M21 660 ls st H Q else M21 671 ls st H Q := w_icmpN at_657 (i_ne x y) rfl
theorem m21_660 : M21 660 [l0, l1, .val (.ref r), l3, l4, l5, l6, l7, l8, l9, l10, l11, l12, l13, l14, l15, l16, l17, l18, l19, l20, l21, l22, l23, l24, l25, l26, l27, l28, l29, l30, l31, l32] st H Q = M21 661 [l0, l1, .val (.ref r), l3, l4, l5, l6, l7, l8, l9, l10, l11, l12, l13, l14, l15, l16, l17, l18, l19, l20, l21, l22, l23, l24, l25, l26, l27, l28, l29, l30, l31, l32] (.ref r :: st) H Q := w_x at_660 rfl
theorem m21_661 : M21 661 ls st H Q = M21 663 ls (.int 7 :: st) H Q := w_con at_661 rfl (by decide)
theorem m21_663 (a0 : Int32) : M21 663 ls [.int a0, .ref (b + 1)] (put (b + 1) pre s A post) Q = M2 0 [.val (.ref (b + 1)), .val (.int a0)] [] (put (b + 1) pre s A post) (fun v H1 => M21 666 ls (v.toList ++ []) H1 Q) := w_virt (as := [.int a0]) (rest := []) (a := (b + 1)) at_663 cr21_35 put_o rfl rfl (Nat.le_of_ble_eq_true rfl) (by show 2 ≤ 2; omega) rfl
theorem m21_666 : M21 666 [l0, l1, l2, l3, l4, l5, l6, l7, l8, l9, l10, l11, l12, .val (.int v), l14, l15, l16, l17, l18, l19, l20, l21, l22, l23, l24, l25, l26, l27, l28, l29, l30, l31, l32] st H Q = M21 668 [l0, l1, l2, l3, l4, l5, l6, l7, l8, l9, l10, l11, l12, .val (.int v), l14, l15, l16, l17, l18, l19, l20, l21, l22, l23, l24, l25, l26, l27, l28, l29, l30, l31, l32] (.int v :: st) H Q := w_x at_666 rfl
theorem m21_668 : M21 668 ls (.int y :: .int x :: st) H Q = if x = y then M21 673 ls st H Q else M21 671 ls st H Q := w_icmp at_668 (i_eq x y) rfl
theorem m21_671 : M21 671 ls st H Q = M21 672 ls (.int 0 :: st) H Q := w_con at_671 rfl (by decide)
theorem m21_672 : M21 672 ls (.int z :: st) H Q = Q (some (.int (nar .boolean z))) H := w_iretN at_672 rfl (by simp)
theorem m21_673 : M21 673 [l0, l1, .val (.ref r), l3, l4, l5, l6, l7, l8, l9, l10, l11, l12, l13, l14, l15, l16, l17, l18, l19, l20, l21, l22, l23, l24, l25, l26, l27, l28, l29, l30, l31, l32] st H Q = M21 674 [l0, l1, .val (.ref r), l3, l4, l5, l6, l7, l8, l9, l10, l11, l12, l13, l14, l15, l16, l17, l18, l19, l20, l21, l22, l23, l24, l25, l26, l27, l28, l29, l30, l31, l32] (.ref r :: st) H Q := w_x at_673 rfl
theorem m21_674 : M21 674 ls st H Q = M21 676 ls (.int 8 :: st) H Q := w_con at_674 rfl (by decide)
theorem m21_676 (a0 : Int32) : M21 676 ls [.int a0, .ref (b + 1)] (put (b + 1) pre s A post) Q = M2 0 [.val (.ref (b + 1)), .val (.int a0)] [] (put (b + 1) pre s A post) (fun v H1 => M21 679 ls (v.toList ++ []) H1 Q) := w_virt (as := [.int a0]) (rest := []) (a := (b + 1)) at_676 cr21_35 put_o rfl rfl (Nat.le_of_ble_eq_true rfl) (by show 2 ≤ 2; omega) rfl
theorem m21_679 : M21 679 [l0, l1, l2, l3, l4, l5, l6, l7, l8, l9, l10, l11, l12, l13, .val (.int v), l15, l16, l17, l18, l19, l20, l21, l22, l23, l24, l25, l26, l27, l28, l29, l30, l31, l32] st H Q = M21 681 [l0, l1, l2, l3, l4, l5, l6, l7, l8, l9, l10, l11, l12, l13, .val (.int v), l15, l16, l17, l18, l19, l20, l21, l22, l23, l24, l25, l26, l27, l28, l29, l30, l31, l32] (.int v :: st) H Q := w_x at_679 rfl
theorem m21_681 : M21 681 ls (.int y :: .int x :: st) H Q = if x = y then M21 686 ls st H Q else M21 684 ls st H Q := w_icmp at_681 (i_eq x y) rfl
theorem m21_684 : M21 684 ls st H Q = M21 685 ls (.int 0 :: st) H Q := w_con at_684 rfl (by decide)
theorem m21_685 : M21 685 ls (.int z :: st) H Q = Q (some (.int (nar .boolean z))) H := w_iretN at_685 rfl (by simp)
theorem m21_686 : M21 686 [l0, l1, .val (.ref r), l3, l4, l5, l6, l7, l8, l9, l10, l11, l12, l13, l14, l15, l16, l17, l18, l19, l20, l21, l22, l23, l24, l25, l26, l27, l28, l29, l30, l31, l32] st H Q = M21 687 [l0, l1, .val (.ref r), l3, l4, l5, l6, l7, l8, l9, l10, l11, l12, l13, l14, l15, l16, l17, l18, l19, l20, l21, l22, l23, l24, l25, l26, l27, l28, l29, l30, l31, l32] (.ref r :: st) H Q := w_x at_686 rfl
theorem m21_687 : M21 687 ls st H Q = M21 689 ls (.int 10 :: st) H Q := w_con at_687 rfl (by decide)
theorem m21_689 (a0 : Int32) : M21 689 ls [.int a0, .ref (b + 1)] (put (b + 1) pre s A post) Q = M2 0 [.val (.ref (b + 1)), .val (.int a0)] [] (put (b + 1) pre s A post) (fun v H1 => M21 692 ls (v.toList ++ []) H1 Q) := w_virt (as := [.int a0]) (rest := []) (a := (b + 1)) at_689 cr21_35 put_o rfl rfl (Nat.le_of_ble_eq_true rfl) (by show 2 ≤ 2; omega) rfl
theorem m21_692 : M21 692 [l0, l1, l2, l3, l4, l5, l6, l7, l8, l9, l10, .val (.int v), l12, l13, l14, l15, l16, l17, l18, l19, l20, l21, l22, l23, l24, l25, l26, l27, l28, l29, l30, l31, l32] st H Q = M21 694 [l0, l1, l2, l3, l4, l5, l6, l7, l8, l9, l10, .val (.int v), l12, l13, l14, l15, l16, l17, l18, l19, l20, l21, l22, l23, l24, l25, l26, l27, l28, l29, l30, l31, l32] (.int v :: st) H Q := w_x at_692 rfl
theorem m21_694 : M21 694 ls (.int x :: st) H Q = if x = 0 then M21 701 ls st H Q else M21 697 ls st H Q := w_if at_694 (z_eq x) rfl
theorem m21_697 : M21 697 ls st H Q = M21 698 ls (.int 1 :: st) H Q := w_con at_697 rfl (by decide)
theorem m21_698 : M21 698 ls st H Q = M21 702 ls st H Q := w_x at_698 rfl
theorem m21_701 : M21 701 ls st H Q = M21 702 ls (.int 0 :: st) H Q := w_con at_701 rfl (by decide)
theorem m21_702 : M21 702 ls (.int y :: .int x :: st) H Q = if x = y then M21 707 ls st H Q else M21 705 ls st H Q := w_icmp at_702 (i_eq x y) rfl
theorem m21_705 : M21 705 ls st H Q = M21 706 ls (.int 0 :: st) H Q := w_con at_705 rfl (by decide)
theorem m21_706 : M21 706 ls (.int z :: st) H Q = Q (some (.int (nar .boolean z))) H := w_iretN at_706 rfl (by simp)
theorem m21_707 : M21 707 [l0, l1, .val (.ref r), l3, l4, l5, l6, l7, l8, l9, l10, l11, l12, l13, l14, l15, l16, l17, l18, l19, l20, l21, l22, l23, l24, l25, l26, l27, l28, l29, l30, l31, l32] st H Q = M21 708 [l0, l1, .val (.ref r), l3, l4, l5, l6, l7, l8, l9, l10, l11, l12, l13, l14, l15, l16, l17, l18, l19, l20, l21, l22, l23, l24, l25, l26, l27, l28, l29, l30, l31, l32] (.ref r :: st) H Q := w_x at_707 rfl
theorem m21_708 : M21 708 ls st H Q = M21 710 ls (.int 11 :: st) H Q := w_con at_708 rfl (by decide)
theorem m21_710 (a0 : Int32) : M21 710 ls [.int a0, .ref (b + 1)] (put (b + 1) pre s A post) Q = M2 0 [.val (.ref (b + 1)), .val (.int a0)] [] (put (b + 1) pre s A post) (fun v H1 => M21 713 ls (v.toList ++ []) H1 Q) := w_virt (as := [.int a0]) (rest := []) (a := (b + 1)) at_710 cr21_35 put_o rfl rfl (Nat.le_of_ble_eq_true rfl) (by show 2 ≤ 2; omega) rfl
theorem m21_713 : M21 713 [l0, l1, l2, l3, l4, l5, l6, l7, l8, l9, l10, l11, l12, l13, l14, .val (.int v), l16, l17, l18, l19, l20, l21, l22, l23, l24, l25, l26, l27, l28, l29, l30, l31, l32] st H Q = M21 715 [l0, l1, l2, l3, l4, l5, l6, l7, l8, l9, l10, l11, l12, l13, l14, .val (.int v), l16, l17, l18, l19, l20, l21, l22, l23, l24, l25, l26, l27, l28, l29, l30, l31, l32] (.int v :: st) H Q := w_x at_713 rfl
theorem m21_715 : M21 715 ls (.int y :: .int x :: st) H Q = if x = y then M21 718 ls st H Q else M21 729 ls st H Q := w_icmpN at_715 (i_ne x y) rfl
theorem m21_718 : M21 718 [l0, l1, .val (.ref r), l3, l4, l5, l6, l7, l8, l9, l10, l11, l12, l13, l14, l15, l16, l17, l18, l19, l20, l21, l22, l23, l24, l25, l26, l27, l28, l29, l30, l31, l32] st H Q = M21 719 [l0, l1, .val (.ref r), l3, l4, l5, l6, l7, l8, l9, l10, l11, l12, l13, l14, l15, l16, l17, l18, l19, l20, l21, l22, l23, l24, l25, l26, l27, l28, l29, l30, l31, l32] (.ref r :: st) H Q := w_x at_718 rfl
theorem m21_719 : M21 719 ls st H Q = M21 721 ls (.int 12 :: st) H Q := w_con at_719 rfl (by decide)
theorem m21_721 (a0 : Int32) : M21 721 ls [.int a0, .ref (b + 1)] (put (b + 1) pre s A post) Q = M2 0 [.val (.ref (b + 1)), .val (.int a0)] [] (put (b + 1) pre s A post) (fun v H1 => M21 724 ls (v.toList ++ []) H1 Q) := w_virt (as := [.int a0]) (rest := []) (a := (b + 1)) at_721 cr21_35 put_o rfl rfl (Nat.le_of_ble_eq_true rfl) (by show 2 ≤ 2; omega) rfl
theorem m21_724 : M21 724 [l0, l1, l2, l3, l4, l5, l6, l7, l8, l9, l10, l11, l12, l13, l14, l15, .val (.int v), l17, l18, l19, l20, l21, l22, l23, l24, l25, l26, l27, l28, l29, l30, l31, l32] st H Q = M21 726 [l0, l1, l2, l3, l4, l5, l6, l7, l8, l9, l10, l11, l12, l13, l14, l15, .val (.int v), l17, l18, l19, l20, l21, l22, l23, l24, l25, l26, l27, l28, l29, l30, l31, l32] (.int v :: st) H Q := w_x at_724 rfl
theorem m21_726 : M21 726 ls (.int y :: .int x :: st) H Q = if x = y then M21 731 ls st H Q else M21 729 ls st H Q := w_icmp at_726 (i_eq x y) rfl
theorem m21_729 : M21 729 ls st H Q = M21 730 ls (.int 0 :: st) H Q := w_con at_729 rfl (by decide)
theorem m21_730 : M21 730 ls (.int z :: st) H Q = Q (some (.int (nar .boolean z))) H := w_iretN at_730 rfl (by simp)
theorem m21_731 : M21 731 [l0, l1, .val (.ref r), l3, l4, l5, l6, l7, l8, l9, l10, l11, l12, l13, l14, l15, l16, l17, l18, l19, l20, l21, l22, l23, l24, l25, l26, l27, l28, l29, l30, l31, l32] st H Q = M21 732 [l0, l1, .val (.ref r), l3, l4, l5, l6, l7, l8, l9, l10, l11, l12, l13, l14, l15, l16, l17, l18, l19, l20, l21, l22, l23, l24, l25, l26, l27, l28, l29, l30, l31, l32] (.ref r :: st) H Q := w_x at_731 rfl
theorem m21_732 : M21 732 ls st H Q = M21 733 ls (.int 0 :: st) H Q := w_con at_732 rfl (by decide)
theorem m21_733 (a0 : Int32) : M21 733 ls [.int a0, .ref (b + 1)] (put (b + 1) pre s A post) Q = M2 0 [.val (.ref (b + 1)), .val (.int a0)] [] (put (b + 1) pre s A post) (fun v H1 => M21 736 ls (v.toList ++ []) H1 Q) := w_virt (as := [.int a0]) (rest := []) (a := (b + 1)) at_733 cr21_35 put_o rfl rfl (Nat.le_of_ble_eq_true rfl) (by show 2 ≤ 2; omega) rfl
theorem m21_736 : M21 736 [l0, l1, l2, l3, l4, l5, l6, l7, l8, l9, l10, l11, l12, l13, l14, l15, l16, l17, .val (.int v), l19, l20, l21, l22, l23, l24, l25, l26, l27, l28, l29, l30, l31, l32] st H Q = M21 738 [l0, l1, l2, l3, l4, l5, l6, l7, l8, l9, l10, l11, l12, l13, l14, l15, l16, l17, .val (.int v), l19, l20, l21, l22, l23, l24, l25, l26, l27, l28, l29, l30, l31, l32] (.int v :: st) H Q := w_x at_736 rfl
theorem m21_738 : M21 738 ls (.int y :: .int x :: st) H Q = if x = y then M21 741 ls st H Q else M21 751 ls st H Q := w_icmpN at_738 (i_ne x y) rfl
theorem m21_741 : M21 741 [l0, l1, .val (.ref r), l3, l4, l5, l6, l7, l8, l9, l10, l11, l12, l13, l14, l15, l16, l17, l18, l19, l20, l21, l22, l23, l24, l25, l26, l27, l28, l29, l30, l31, l32] st H Q = M21 742 [l0, l1, .val (.ref r), l3, l4, l5, l6, l7, l8, l9, l10, l11, l12, l13, l14, l15, l16, l17, l18, l19, l20, l21, l22, l23, l24, l25, l26, l27, l28, l29, l30, l31, l32] (.ref r :: st) H Q := w_x at_741 rfl
theorem m21_742 : M21 742 ls st H Q = M21 744 ls (.int 14 :: st) H Q := w_con at_742 rfl (by decide)
theorem m21_744 (a0 : Int32) : M21 744 ls [.int a0, .ref (b + 1)] (put (b + 1) pre s A post) Q = M2 0 [.val (.ref (b + 1)), .val (.int a0)] [] (put (b + 1) pre s A post) (fun v H1 => M21 747 ls (v.toList ++ []) H1 Q) := w_virt (as := [.int a0]) (rest := []) (a := (b + 1)) at_744 cr21_35 put_o rfl rfl (Nat.le_of_ble_eq_true rfl) (by show 2 ≤ 2; omega) rfl
theorem m21_747 : M21 747 [l0, l1, l2, .val (.int v), l4, l5, l6, l7, l8, l9, l10, l11, l12, l13, l14, l15, l16, l17, l18, l19, l20, l21, l22, l23, l24, l25, l26, l27, l28, l29, l30, l31, l32] st H Q = M21 748 [l0, l1, l2, .val (.int v), l4, l5, l6, l7, l8, l9, l10, l11, l12, l13, l14, l15, l16, l17, l18, l19, l20, l21, l22, l23, l24, l25, l26, l27, l28, l29, l30, l31, l32] (.int v :: st) H Q := w_x at_747 rfl
theorem m21_748 : M21 748 ls (.int y :: .int x :: st) H Q = if x = y then M21 753 ls st H Q else M21 751 ls st H Q := w_icmp at_748 (i_eq x y) rfl
theorem m21_751 : M21 751 ls st H Q = M21 752 ls (.int 0 :: st) H Q := w_con at_751 rfl (by decide)
theorem m21_752 : M21 752 ls (.int z :: st) H Q = Q (some (.int (nar .boolean z))) H := w_iretN at_752 rfl (by simp)
theorem m21_753 : M21 753 [l0, l1, .val (.ref r), l3, l4, l5, l6, l7, l8, l9, l10, l11, l12, l13, l14, l15, l16, l17, l18, l19, l20, l21, l22, l23, l24, l25, l26, l27, l28, l29, l30, l31, l32] st H Q = M21 754 [l0, l1, .val (.ref r), l3, l4, l5, l6, l7, l8, l9, l10, l11, l12, l13, l14, l15, l16, l17, l18, l19, l20, l21, l22, l23, l24, l25, l26, l27, l28, l29, l30, l31, l32] (.ref r :: st) H Q := w_x at_753 rfl
theorem m21_754 : M21 754 ls st H Q = M21 755 ls (.int 3 :: st) H Q := w_con at_754 rfl (by decide)
theorem m21_755 (a0 : Int32) : M21 755 ls [.int a0, .ref (b + 1)] (put (b + 1) pre s A post) Q = M2 0 [.val (.ref (b + 1)), .val (.int a0)] [] (put (b + 1) pre s A post) (fun v H1 => M21 758 ls (v.toList ++ []) H1 Q) := w_virt (as := [.int a0]) (rest := []) (a := (b + 1)) at_755 cr21_35 put_o rfl rfl (Nat.le_of_ble_eq_true rfl) (by show 2 ≤ 2; omega) rfl
theorem m21_758u : M21 758 [l0, l1, l2, l3, l4, l5, l6, l7, l8, l9, l10, l11, l12, l13, l14, l15, l16, l17, l18, l19, l20, l21, l22, l23, l24, l25, l26, .unset, l28, l29, l30, l31, l32] ((.int v) :: st) H Q = M21 760 [l0, l1, l2, l3, l4, l5, l6, l7, l8, l9, l10, l11, l12, l13, l14, l15, l16, l17, l18, l19, l20, l21, l22, l23, l24, l25, l26, .val (.int v), l28, l29, l30, l31, l32] st H Q := w_st (i := 27) (p := isI) at_758 rfl rfl rfl rfl rfl rfl
theorem m21_758i : M21 758 [l0, l1, l2, l3, l4, l5, l6, l7, l8, l9, l10, l11, l12, l13, l14, l15, l16, l17, l18, l19, l20, l21, l22, l23, l24, l25, l26, .val (.int z), l28, l29, l30, l31, l32] ((.int v) :: st) H Q = M21 760 [l0, l1, l2, l3, l4, l5, l6, l7, l8, l9, l10, l11, l12, l13, l14, l15, l16, l17, l18, l19, l20, l21, l22, l23, l24, l25, l26, .val (.int v), l28, l29, l30, l31, l32] st H Q := w_st (i := 27) (p := isI) at_758 rfl rfl rfl rfl rfl rfl
theorem m21_758r : M21 758 [l0, l1, l2, l3, l4, l5, l6, l7, l8, l9, l10, l11, l12, l13, l14, l15, l16, l17, l18, l19, l20, l21, l22, l23, l24, l25, l26, .val (.ref q), l28, l29, l30, l31, l32] ((.int v) :: st) H Q = M21 760 [l0, l1, l2, l3, l4, l5, l6, l7, l8, l9, l10, l11, l12, l13, l14, l15, l16, l17, l18, l19, l20, l21, l22, l23, l24, l25, l26, .val (.int v), l28, l29, l30, l31, l32] st H Q := w_st (i := 27) (p := isI) at_758 rfl rfl rfl rfl rfl rfl
theorem m21_758g (h : okS l27) : M21 758 [l0, l1, l2, l3, l4, l5, l6, l7, l8, l9, l10, l11, l12, l13, l14, l15, l16, l17, l18, l19, l20, l21, l22, l23, l24, l25, l26, l27, l28, l29, l30, l31, l32] ((.int v) :: st) H Q = M21 760 [l0, l1, l2, l3, l4, l5, l6, l7, l8, l9, l10, l11, l12, l13, l14, l15, l16, l17, l18, l19, l20, l21, l22, l23, l24, l25, l26, .val (.int v), l28, l29, l30, l31, l32] st H Q := by rcases h with rfl | ⟨z, rfl⟩ <;> first | exact m21_758u | exact m21_758i
theorem m21_760 : M21 760 [l0, l1, .val (.ref r), l3, l4, l5, l6, l7, l8, l9, l10, l11, l12, l13, l14, l15, l16, l17, l18, l19, l20, l21, l22, l23, l24, l25, l26, l27, l28, l29, l30, l31, l32] st H Q = M21 761 [l0, l1, .val (.ref r), l3, l4, l5, l6, l7, l8, l9, l10, l11, l12, l13, l14, l15, l16, l17, l18, l19, l20, l21, l22, l23, l24, l25, l26, l27, l28, l29, l30, l31, l32] (.ref r :: st) H Q := w_x at_760 rfl
theorem m21_761 : M21 761 ls st H Q = M21 762 ls (.int 2 :: st) H Q := w_con at_761 rfl (by decide)
theorem m21_762 (a0 : Int32) : M21 762 ls [.int a0, .ref (b + 1)] (put (b + 1) pre s A post) Q = M2 0 [.val (.ref (b + 1)), .val (.int a0)] [] (put (b + 1) pre s A post) (fun v H1 => M21 765 ls (v.toList ++ []) H1 Q) := w_virt (as := [.int a0]) (rest := []) (a := (b + 1)) at_762 cr21_35 put_o rfl rfl (Nat.le_of_ble_eq_true rfl) (by show 2 ≤ 2; omega) rfl
theorem m21_765u : M21 765 [l0, l1, l2, l3, l4, l5, l6, l7, l8, l9, l10, l11, l12, l13, l14, l15, l16, l17, l18, l19, l20, l21, l22, l23, l24, l25, l26, l27, .unset, l29, l30, l31, l32] ((.int v) :: st) H Q = M21 767 [l0, l1, l2, l3, l4, l5, l6, l7, l8, l9, l10, l11, l12, l13, l14, l15, l16, l17, l18, l19, l20, l21, l22, l23, l24, l25, l26, l27, .val (.int v), l29, l30, l31, l32] st H Q := w_st (i := 28) (p := isI) at_765 rfl rfl rfl rfl rfl rfl
theorem m21_765i : M21 765 [l0, l1, l2, l3, l4, l5, l6, l7, l8, l9, l10, l11, l12, l13, l14, l15, l16, l17, l18, l19, l20, l21, l22, l23, l24, l25, l26, l27, .val (.int z), l29, l30, l31, l32] ((.int v) :: st) H Q = M21 767 [l0, l1, l2, l3, l4, l5, l6, l7, l8, l9, l10, l11, l12, l13, l14, l15, l16, l17, l18, l19, l20, l21, l22, l23, l24, l25, l26, l27, .val (.int v), l29, l30, l31, l32] st H Q := w_st (i := 28) (p := isI) at_765 rfl rfl rfl rfl rfl rfl
theorem m21_765r : M21 765 [l0, l1, l2, l3, l4, l5, l6, l7, l8, l9, l10, l11, l12, l13, l14, l15, l16, l17, l18, l19, l20, l21, l22, l23, l24, l25, l26, l27, .val (.ref q), l29, l30, l31, l32] ((.int v) :: st) H Q = M21 767 [l0, l1, l2, l3, l4, l5, l6, l7, l8, l9, l10, l11, l12, l13, l14, l15, l16, l17, l18, l19, l20, l21, l22, l23, l24, l25, l26, l27, .val (.int v), l29, l30, l31, l32] st H Q := w_st (i := 28) (p := isI) at_765 rfl rfl rfl rfl rfl rfl
theorem m21_765g (h : okS l28) : M21 765 [l0, l1, l2, l3, l4, l5, l6, l7, l8, l9, l10, l11, l12, l13, l14, l15, l16, l17, l18, l19, l20, l21, l22, l23, l24, l25, l26, l27, l28, l29, l30, l31, l32] ((.int v) :: st) H Q = M21 767 [l0, l1, l2, l3, l4, l5, l6, l7, l8, l9, l10, l11, l12, l13, l14, l15, l16, l17, l18, l19, l20, l21, l22, l23, l24, l25, l26, l27, .val (.int v), l29, l30, l31, l32] st H Q := by rcases h with rfl | ⟨z, rfl⟩ <;> first | exact m21_765u | exact m21_765i
theorem m21_767 : M21 767 [l0, l1, .val (.ref r), l3, l4, l5, l6, l7, l8, l9, l10, l11, l12, l13, l14, l15, l16, l17, l18, l19, l20, l21, l22, l23, l24, l25, l26, l27, l28, l29, l30, l31, l32] st H Q = M21 768 [l0, l1, .val (.ref r), l3, l4, l5, l6, l7, l8, l9, l10, l11, l12, l13, l14, l15, l16, l17, l18, l19, l20, l21, l22, l23, l24, l25, l26, l27, l28, l29, l30, l31, l32] (.ref r :: st) H Q := w_x at_767 rfl
theorem m21_768 : M21 768 ls st H Q = M21 769 ls (.int 4 :: st) H Q := w_con at_768 rfl (by decide)
theorem m21_769 (a0 : Int32) : M21 769 ls [.int a0, .ref (b + 1)] (put (b + 1) pre s A post) Q = M2 0 [.val (.ref (b + 1)), .val (.int a0)] [] (put (b + 1) pre s A post) (fun v H1 => M21 772 ls (v.toList ++ []) H1 Q) := w_virt (as := [.int a0]) (rest := []) (a := (b + 1)) at_769 cr21_35 put_o rfl rfl (Nat.le_of_ble_eq_true rfl) (by show 2 ≤ 2; omega) rfl
theorem m21_772u : M21 772 [l0, l1, l2, l3, l4, l5, l6, l7, l8, l9, l10, l11, l12, l13, l14, l15, l16, l17, l18, l19, l20, l21, l22, l23, l24, l25, l26, l27, l28, .unset, l30, l31, l32] ((.int v) :: st) H Q = M21 774 [l0, l1, l2, l3, l4, l5, l6, l7, l8, l9, l10, l11, l12, l13, l14, l15, l16, l17, l18, l19, l20, l21, l22, l23, l24, l25, l26, l27, l28, .val (.int v), l30, l31, l32] st H Q := w_st (i := 29) (p := isI) at_772 rfl rfl rfl rfl rfl rfl
theorem m21_772i : M21 772 [l0, l1, l2, l3, l4, l5, l6, l7, l8, l9, l10, l11, l12, l13, l14, l15, l16, l17, l18, l19, l20, l21, l22, l23, l24, l25, l26, l27, l28, .val (.int z), l30, l31, l32] ((.int v) :: st) H Q = M21 774 [l0, l1, l2, l3, l4, l5, l6, l7, l8, l9, l10, l11, l12, l13, l14, l15, l16, l17, l18, l19, l20, l21, l22, l23, l24, l25, l26, l27, l28, .val (.int v), l30, l31, l32] st H Q := w_st (i := 29) (p := isI) at_772 rfl rfl rfl rfl rfl rfl
theorem m21_772r : M21 772 [l0, l1, l2, l3, l4, l5, l6, l7, l8, l9, l10, l11, l12, l13, l14, l15, l16, l17, l18, l19, l20, l21, l22, l23, l24, l25, l26, l27, l28, .val (.ref q), l30, l31, l32] ((.int v) :: st) H Q = M21 774 [l0, l1, l2, l3, l4, l5, l6, l7, l8, l9, l10, l11, l12, l13, l14, l15, l16, l17, l18, l19, l20, l21, l22, l23, l24, l25, l26, l27, l28, .val (.int v), l30, l31, l32] st H Q := w_st (i := 29) (p := isI) at_772 rfl rfl rfl rfl rfl rfl
theorem m21_772g (h : okS l29) : M21 772 [l0, l1, l2, l3, l4, l5, l6, l7, l8, l9, l10, l11, l12, l13, l14, l15, l16, l17, l18, l19, l20, l21, l22, l23, l24, l25, l26, l27, l28, l29, l30, l31, l32] ((.int v) :: st) H Q = M21 774 [l0, l1, l2, l3, l4, l5, l6, l7, l8, l9, l10, l11, l12, l13, l14, l15, l16, l17, l18, l19, l20, l21, l22, l23, l24, l25, l26, l27, l28, .val (.int v), l30, l31, l32] st H Q := by rcases h with rfl | ⟨z, rfl⟩ <;> first | exact m21_772u | exact m21_772i
theorem m21_774 : M21 774 [l0, l1, .val (.ref r), l3, l4, l5, l6, l7, l8, l9, l10, l11, l12, l13, l14, l15, l16, l17, l18, l19, l20, l21, l22, l23, l24, l25, l26, l27, l28, l29, l30, l31, l32] st H Q = M21 775 [l0, l1, .val (.ref r), l3, l4, l5, l6, l7, l8, l9, l10, l11, l12, l13, l14, l15, l16, l17, l18, l19, l20, l21, l22, l23, l24, l25, l26, l27, l28, l29, l30, l31, l32] (.ref r :: st) H Q := w_x at_774 rfl
theorem m21_775 : M21 775 ls st H Q = M21 776 ls (.int 1 :: st) H Q := w_con at_775 rfl (by decide)
theorem m21_776 (a0 : Int32) : M21 776 ls [.int a0, .ref (b + 1)] (put (b + 1) pre s A post) Q = M2 0 [.val (.ref (b + 1)), .val (.int a0)] [] (put (b + 1) pre s A post) (fun v H1 => M21 779 ls (v.toList ++ []) H1 Q) := w_virt (as := [.int a0]) (rest := []) (a := (b + 1)) at_776 cr21_35 put_o rfl rfl (Nat.le_of_ble_eq_true rfl) (by show 2 ≤ 2; omega) rfl
theorem m21_779u : M21 779 [l0, l1, l2, l3, l4, l5, l6, l7, l8, l9, l10, l11, l12, l13, l14, l15, l16, l17, l18, l19, l20, l21, l22, l23, l24, l25, l26, l27, l28, l29, .unset, l31, l32] ((.int v) :: st) H Q = M21 781 [l0, l1, l2, l3, l4, l5, l6, l7, l8, l9, l10, l11, l12, l13, l14, l15, l16, l17, l18, l19, l20, l21, l22, l23, l24, l25, l26, l27, l28, l29, .val (.int v), l31, l32] st H Q := w_st (i := 30) (p := isI) at_779 rfl rfl rfl rfl rfl rfl
theorem m21_779i : M21 779 [l0, l1, l2, l3, l4, l5, l6, l7, l8, l9, l10, l11, l12, l13, l14, l15, l16, l17, l18, l19, l20, l21, l22, l23, l24, l25, l26, l27, l28, l29, .val (.int z), l31, l32] ((.int v) :: st) H Q = M21 781 [l0, l1, l2, l3, l4, l5, l6, l7, l8, l9, l10, l11, l12, l13, l14, l15, l16, l17, l18, l19, l20, l21, l22, l23, l24, l25, l26, l27, l28, l29, .val (.int v), l31, l32] st H Q := w_st (i := 30) (p := isI) at_779 rfl rfl rfl rfl rfl rfl
theorem m21_779r : M21 779 [l0, l1, l2, l3, l4, l5, l6, l7, l8, l9, l10, l11, l12, l13, l14, l15, l16, l17, l18, l19, l20, l21, l22, l23, l24, l25, l26, l27, l28, l29, .val (.ref q), l31, l32] ((.int v) :: st) H Q = M21 781 [l0, l1, l2, l3, l4, l5, l6, l7, l8, l9, l10, l11, l12, l13, l14, l15, l16, l17, l18, l19, l20, l21, l22, l23, l24, l25, l26, l27, l28, l29, .val (.int v), l31, l32] st H Q := w_st (i := 30) (p := isI) at_779 rfl rfl rfl rfl rfl rfl
theorem m21_779g (h : okS l30) : M21 779 [l0, l1, l2, l3, l4, l5, l6, l7, l8, l9, l10, l11, l12, l13, l14, l15, l16, l17, l18, l19, l20, l21, l22, l23, l24, l25, l26, l27, l28, l29, l30, l31, l32] ((.int v) :: st) H Q = M21 781 [l0, l1, l2, l3, l4, l5, l6, l7, l8, l9, l10, l11, l12, l13, l14, l15, l16, l17, l18, l19, l20, l21, l22, l23, l24, l25, l26, l27, l28, l29, .val (.int v), l31, l32] st H Q := by rcases h with rfl | ⟨z, rfl⟩ <;> first | exact m21_779u | exact m21_779i
theorem m21_781 : M21 781 [l0, l1, .val (.ref r), l3, l4, l5, l6, l7, l8, l9, l10, l11, l12, l13, l14, l15, l16, l17, l18, l19, l20, l21, l22, l23, l24, l25, l26, l27, l28, l29, l30, l31, l32] st H Q = M21 782 [l0, l1, .val (.ref r), l3, l4, l5, l6, l7, l8, l9, l10, l11, l12, l13, l14, l15, l16, l17, l18, l19, l20, l21, l22, l23, l24, l25, l26, l27, l28, l29, l30, l31, l32] (.ref r :: st) H Q := w_x at_781 rfl
theorem m21_782 : M21 782 ls st H Q = M21 784 ls (.int 13 :: st) H Q := w_con at_782 rfl (by decide)
theorem m21_784 (a0 : Int32) : M21 784 ls [.int a0, .ref (b + 1)] (put (b + 1) pre s A post) Q = M2 0 [.val (.ref (b + 1)), .val (.int a0)] [] (put (b + 1) pre s A post) (fun v H1 => M21 787 ls (v.toList ++ []) H1 Q) := w_virt (as := [.int a0]) (rest := []) (a := (b + 1)) at_784 cr21_35 put_o rfl rfl (Nat.le_of_ble_eq_true rfl) (by show 2 ≤ 2; omega) rfl
theorem m21_787u : M21 787 [l0, l1, l2, l3, l4, l5, l6, l7, l8, l9, l10, l11, l12, l13, l14, l15, l16, l17, l18, l19, l20, l21, l22, l23, l24, l25, l26, l27, l28, l29, l30, .unset, l32] ((.int v) :: st) H Q = M21 789 [l0, l1, l2, l3, l4, l5, l6, l7, l8, l9, l10, l11, l12, l13, l14, l15, l16, l17, l18, l19, l20, l21, l22, l23, l24, l25, l26, l27, l28, l29, l30, .val (.int v), l32] st H Q := w_st (i := 31) (p := isI) at_787 rfl rfl rfl rfl rfl rfl
theorem m21_787i : M21 787 [l0, l1, l2, l3, l4, l5, l6, l7, l8, l9, l10, l11, l12, l13, l14, l15, l16, l17, l18, l19, l20, l21, l22, l23, l24, l25, l26, l27, l28, l29, l30, .val (.int z), l32] ((.int v) :: st) H Q = M21 789 [l0, l1, l2, l3, l4, l5, l6, l7, l8, l9, l10, l11, l12, l13, l14, l15, l16, l17, l18, l19, l20, l21, l22, l23, l24, l25, l26, l27, l28, l29, l30, .val (.int v), l32] st H Q := w_st (i := 31) (p := isI) at_787 rfl rfl rfl rfl rfl rfl
theorem m21_787r : M21 787 [l0, l1, l2, l3, l4, l5, l6, l7, l8, l9, l10, l11, l12, l13, l14, l15, l16, l17, l18, l19, l20, l21, l22, l23, l24, l25, l26, l27, l28, l29, l30, .val (.ref q), l32] ((.int v) :: st) H Q = M21 789 [l0, l1, l2, l3, l4, l5, l6, l7, l8, l9, l10, l11, l12, l13, l14, l15, l16, l17, l18, l19, l20, l21, l22, l23, l24, l25, l26, l27, l28, l29, l30, .val (.int v), l32] st H Q := w_st (i := 31) (p := isI) at_787 rfl rfl rfl rfl rfl rfl
theorem m21_787g (h : okS l31) : M21 787 [l0, l1, l2, l3, l4, l5, l6, l7, l8, l9, l10, l11, l12, l13, l14, l15, l16, l17, l18, l19, l20, l21, l22, l23, l24, l25, l26, l27, l28, l29, l30, l31, l32] ((.int v) :: st) H Q = M21 789 [l0, l1, l2, l3, l4, l5, l6, l7, l8, l9, l10, l11, l12, l13, l14, l15, l16, l17, l18, l19, l20, l21, l22, l23, l24, l25, l26, l27, l28, l29, l30, .val (.int v), l32] st H Q := by rcases h with rfl | ⟨z, rfl⟩ <;> first | exact m21_787u | exact m21_787i
theorem m21_789 : M21 789 [l0, l1, l2, l3, l4, l5, l6, l7, l8, l9, l10, l11, l12, l13, l14, l15, l16, l17, l18, l19, l20, l21, l22, l23, l24, l25, l26, .val (.int v), l28, l29, l30, l31, l32] st H Q = M21 791 [l0, l1, l2, l3, l4, l5, l6, l7, l8, l9, l10, l11, l12, l13, l14, l15, l16, l17, l18, l19, l20, l21, l22, l23, l24, l25, l26, .val (.int v), l28, l29, l30, l31, l32] (.int v :: st) H Q := w_x at_789 rfl
theorem m21_791 : M21 791 [l0, l1, l2, l3, l4, l5, l6, l7, l8, l9, l10, l11, l12, l13, l14, l15, l16, l17, l18, l19, l20, l21, l22, l23, l24, l25, l26, l27, .val (.int v), l29, l30, l31, l32] st H Q = M21 793 [l0, l1, l2, l3, l4, l5, l6, l7, l8, l9, l10, l11, l12, l13, l14, l15, l16, l17, l18, l19, l20, l21, l22, l23, l24, l25, l26, l27, .val (.int v), l29, l30, l31, l32] (.int v :: st) H Q := w_x at_791 rfl
theorem m21_793 : M21 793 ls (.int y :: .int x :: st) H Q = M21 794 ls (.int (x + y) :: st) H Q := w_x at_793 rfl
theorem m21_794 : M21 794 [l0, l1, l2, l3, l4, l5, l6, l7, l8, l9, l10, l11, l12, l13, l14, l15, l16, l17, l18, l19, l20, l21, l22, l23, l24, l25, l26, l27, l28, .val (.int v), l30, l31, l32] st H Q = M21 796 [l0, l1, l2, l3, l4, l5, l6, l7, l8, l9, l10, l11, l12, l13, l14, l15, l16, l17, l18, l19, l20, l21, l22, l23, l24, l25, l26, l27, l28, .val (.int v), l30, l31, l32] (.int v :: st) H Q := w_x at_794 rfl
theorem m21_796 : M21 796 ls (.int y :: .int x :: st) H Q = M21 797 ls (.int (x + y) :: st) H Q := w_x at_796 rfl
theorem m21_797 : M21 797 [l0, l1, l2, l3, l4, l5, l6, l7, l8, l9, l10, l11, l12, l13, l14, l15, l16, l17, .val (.int v), l19, l20, l21, l22, l23, l24, l25, l26, l27, l28, l29, l30, l31, l32] st H Q = M21 799 [l0, l1, l2, l3, l4, l5, l6, l7, l8, l9, l10, l11, l12, l13, l14, l15, l16, l17, .val (.int v), l19, l20, l21, l22, l23, l24, l25, l26, l27, l28, l29, l30, l31, l32] (.int v :: st) H Q := w_x at_797 rfl
theorem m21_799 : M21 799 ls (.int y :: .int x :: st) H Q = M21 800 ls (.int (x + y) :: st) H Q := w_x at_799 rfl
theorem m21_800 : M21 800 [l0, l1, l2, l3, l4, l5, l6, l7, l8, l9, l10, l11, l12, l13, l14, l15, l16, l17, l18, l19, l20, l21, l22, l23, l24, l25, l26, l27, l28, l29, .val (.int v), l31, l32] st H Q = M21 802 [l0, l1, l2, l3, l4, l5, l6, l7, l8, l9, l10, l11, l12, l13, l14, l15, l16, l17, l18, l19, l20, l21, l22, l23, l24, l25, l26, l27, l28, l29, .val (.int v), l31, l32] (.int v :: st) H Q := w_x at_800 rfl
theorem m21_802 : M21 802 ls (.int y :: .int x :: st) H Q = M21 803 ls (.int (x + y) :: st) H Q := w_x at_802 rfl
theorem m21_803 : M21 803 [l0, l1, l2, l3, l4, l5, l6, l7, l8, l9, l10, l11, l12, l13, l14, l15, l16, .val (.int v), l18, l19, l20, l21, l22, l23, l24, l25, l26, l27, l28, l29, l30, l31, l32] st H Q = M21 805 [l0, l1, l2, l3, l4, l5, l6, l7, l8, l9, l10, l11, l12, l13, l14, l15, l16, .val (.int v), l18, l19, l20, l21, l22, l23, l24, l25, l26, l27, l28, l29, l30, l31, l32] (.int v :: st) H Q := w_x at_803 rfl
theorem m21_805 : M21 805 ls (.int y :: .int x :: st) H Q = if x = y then M21 810 ls st H Q else M21 808 ls st H Q := w_icmp at_805 (i_eq x y) rfl
theorem m21_808 : M21 808 ls st H Q = M21 809 ls (.int 0 :: st) H Q := w_con at_808 rfl (by decide)
theorem m21_809 : M21 809 ls (.int z :: st) H Q = Q (some (.int (nar .boolean z))) H := w_iretN at_809 rfl (by simp)
theorem m21_810 : M21 810 [l0, l1, l2, l3, l4, l5, l6, l7, l8, l9, l10, l11, l12, l13, l14, l15, l16, l17, l18, l19, l20, l21, l22, l23, l24, l25, l26, l27, .val (.int v), l29, l30, l31, l32] st H Q = M21 812 [l0, l1, l2, l3, l4, l5, l6, l7, l8, l9, l10, l11, l12, l13, l14, l15, l16, l17, l18, l19, l20, l21, l22, l23, l24, l25, l26, l27, .val (.int v), l29, l30, l31, l32] (.int v :: st) H Q := w_x at_810 rfl
theorem m21_812 : M21 812 ls (.int x :: st) H Q = if x = 0 then M21 815 ls st H Q else M21 819 ls st H Q := w_ifN at_812 (z_ne x) rfl
theorem m21_815 : M21 815 ls st H Q = M21 816 ls (.int 1 :: st) H Q := w_con at_815 rfl (by decide)
theorem m21_816 : M21 816 ls st H Q = M21 820 ls st H Q := w_x at_816 rfl
theorem m21_819 : M21 819 ls st H Q = M21 820 ls (.int 0 :: st) H Q := w_con at_819 rfl (by decide)
theorem m21_820 : M21 820 [l0, l1, l2, l3, l4, l5, l6, l7, l8, l9, l10, l11, l12, l13, l14, l15, l16, l17, l18, l19, l20, l21, l22, l23, l24, l25, l26, l27, l28, l29, l30, .val (.int v), l32] st H Q = M21 822 [l0, l1, l2, l3, l4, l5, l6, l7, l8, l9, l10, l11, l12, l13, l14, l15, l16, l17, l18, l19, l20, l21, l22, l23, l24, l25, l26, l27, l28, l29, l30, .val (.int v), l32] (.int v :: st) H Q := w_x at_820 rfl
theorem m21_822 : M21 822 ls st H Q = M21 823 ls (.int (-1) :: st) H Q := w_con at_822 rfl (by decide)
theorem m21_823 : M21 823 ls (.int y :: .int x :: st) H Q = if x = y then M21 826 ls st H Q else M21 830 ls st H Q := w_icmpN at_823 (i_ne x y) rfl
theorem m21_826 : M21 826 ls st H Q = M21 827 ls (.int 1 :: st) H Q := w_con at_826 rfl (by decide)
theorem m21_827 : M21 827 ls st H Q = M21 831 ls st H Q := w_x at_827 rfl
theorem m21_830 : M21 830 ls st H Q = M21 831 ls (.int 0 :: st) H Q := w_con at_830 rfl (by decide)
theorem m21_831 : M21 831 ls (.int y :: .int x :: st) H Q = if x = y then M21 834 ls st H Q else M21 848 ls st H Q := w_icmpN at_831 (i_ne x y) rfl
theorem m21_834 : M21 834 [l0, l1, l2, l3, l4, l5, l6, l7, l8, l9, l10, l11, l12, l13, l14, l15, l16, l17, l18, l19, l20, l21, l22, l23, l24, l25, l26, l27, l28, l29, l30, .val (.int v), l32] st H Q = M21 836 [l0, l1, l2, l3, l4, l5, l6, l7, l8, l9, l10, l11, l12, l13, l14, l15, l16, l17, l18, l19, l20, l21, l22, l23, l24, l25, l26, l27, l28, l29, l30, .val (.int v), l32] (.int v :: st) H Q := w_x at_834 rfl
theorem m21_836 : M21 836 ls st H Q = M21 837 ls (.int (-1) :: st) H Q := w_con at_836 rfl (by decide)
theorem m21_837 : M21 837 ls (.int y :: .int x :: st) H Q = if x < y then M21 848 ls st H Q else M21 840 ls st H Q := w_icmp at_837 (i_lt x y) rfl
theorem m21_840 : M21 840 [l0, l1, l2, l3, l4, l5, l6, l7, l8, l9, l10, l11, l12, l13, l14, l15, l16, l17, l18, l19, l20, l21, l22, l23, l24, l25, l26, l27, l28, l29, l30, .val (.int v), l32] st H Q = M21 842 [l0, l1, l2, l3, l4, l5, l6, l7, l8, l9, l10, l11, l12, l13, l14, l15, l16, l17, l18, l19, l20, l21, l22, l23, l24, l25, l26, l27, l28, l29, l30, .val (.int v), l32] (.int v :: st) H Q := w_x at_840 rfl
theorem m21_842 : M21 842 ls st H Q = M21 845 ls (.int 255 :: st) H Q := w_con at_842 rfl (by decide)
theorem m21_845 : M21 845 ls (.int y :: .int x :: st) H Q = if y < x then M21 848 ls st H Q else M21 850 ls st H Q := w_icmpN at_845 (i_le x y) rfl
theorem m21_848 : M21 848 ls st H Q = M21 849 ls (.int 0 :: st) H Q := w_con at_848 rfl (by decide)
theorem m21_849 : M21 849 ls (.int z :: st) H Q = Q (some (.int (nar .boolean z))) H := w_iretN at_849 rfl (by simp)
theorem m21_850 : M21 850 [l0, l1, .val (.ref r), l3, l4, l5, l6, l7, l8, l9, l10, l11, l12, l13, l14, l15, l16, l17, l18, l19, l20, l21, l22, l23, l24, l25, l26, l27, l28, l29, l30, l31, l32] st H Q = M21 851 [l0, l1, .val (.ref r), l3, l4, l5, l6, l7, l8, l9, l10, l11, l12, l13, l14, l15, l16, l17, l18, l19, l20, l21, l22, l23, l24, l25, l26, l27, l28, l29, l30, l31, l32] (.ref r :: st) H Q := w_x at_850 rfl
theorem m21_851 : M21 851 ls st H Q = M21 852 ls (.int 5 :: st) H Q := w_con at_851 rfl (by decide)
theorem m21_852 (a0 : Int32) : M21 852 ls [.int a0, .ref (b + 1)] (put (b + 1) pre s A post) Q = M2 0 [.val (.ref (b + 1)), .val (.int a0)] [] (put (b + 1) pre s A post) (fun v H1 => M21 855 ls (v.toList ++ []) H1 Q) := w_virt (as := [.int a0]) (rest := []) (a := (b + 1)) at_852 cr21_35 put_o rfl rfl (Nat.le_of_ble_eq_true rfl) (by show 2 ≤ 2; omega) rfl
theorem m21_855u : M21 855 [l0, l1, l2, l3, l4, l5, l6, l7, l8, l9, l10, l11, l12, l13, l14, l15, l16, l17, l18, l19, l20, l21, l22, l23, l24, l25, l26, l27, l28, l29, l30, l31, .unset] ((.int v) :: st) H Q = M21 857 [l0, l1, l2, l3, l4, l5, l6, l7, l8, l9, l10, l11, l12, l13, l14, l15, l16, l17, l18, l19, l20, l21, l22, l23, l24, l25, l26, l27, l28, l29, l30, l31, .val (.int v)] st H Q := w_st (i := 32) (p := isI) at_855 rfl rfl rfl rfl rfl rfl
theorem m21_855i : M21 855 [l0, l1, l2, l3, l4, l5, l6, l7, l8, l9, l10, l11, l12, l13, l14, l15, l16, l17, l18, l19, l20, l21, l22, l23, l24, l25, l26, l27, l28, l29, l30, l31, .val (.int z)] ((.int v) :: st) H Q = M21 857 [l0, l1, l2, l3, l4, l5, l6, l7, l8, l9, l10, l11, l12, l13, l14, l15, l16, l17, l18, l19, l20, l21, l22, l23, l24, l25, l26, l27, l28, l29, l30, l31, .val (.int v)] st H Q := w_st (i := 32) (p := isI) at_855 rfl rfl rfl rfl rfl rfl
theorem m21_855r : M21 855 [l0, l1, l2, l3, l4, l5, l6, l7, l8, l9, l10, l11, l12, l13, l14, l15, l16, l17, l18, l19, l20, l21, l22, l23, l24, l25, l26, l27, l28, l29, l30, l31, .val (.ref q)] ((.int v) :: st) H Q = M21 857 [l0, l1, l2, l3, l4, l5, l6, l7, l8, l9, l10, l11, l12, l13, l14, l15, l16, l17, l18, l19, l20, l21, l22, l23, l24, l25, l26, l27, l28, l29, l30, l31, .val (.int v)] st H Q := w_st (i := 32) (p := isI) at_855 rfl rfl rfl rfl rfl rfl
theorem m21_855g (h : okS l32) : M21 855 [l0, l1, l2, l3, l4, l5, l6, l7, l8, l9, l10, l11, l12, l13, l14, l15, l16, l17, l18, l19, l20, l21, l22, l23, l24, l25, l26, l27, l28, l29, l30, l31, l32] ((.int v) :: st) H Q = M21 857 [l0, l1, l2, l3, l4, l5, l6, l7, l8, l9, l10, l11, l12, l13, l14, l15, l16, l17, l18, l19, l20, l21, l22, l23, l24, l25, l26, l27, l28, l29, l30, l31, .val (.int v)] st H Q := by rcases h with rfl | ⟨z, rfl⟩ <;> first | exact m21_855u | exact m21_855i
theorem m21_857 : M21 857 [l0, l1, l2, l3, l4, l5, l6, l7, l8, l9, l10, l11, l12, l13, l14, l15, l16, l17, l18, l19, l20, l21, l22, l23, l24, l25, .val (.int v), l27, l28, l29, l30, l31, l32] st H Q = M21 859 [l0, l1, l2, l3, l4, l5, l6, l7, l8, l9, l10, l11, l12, l13, l14, l15, l16, l17, l18, l19, l20, l21, l22, l23, l24, l25, .val (.int v), l27, l28, l29, l30, l31, l32] (.int v :: st) H Q := w_x at_857 rfl
theorem m21_859 : M21 859 ls (.int x :: st) H Q = if x = 0 then M21 872 ls st H Q else M21 862 ls st H Q := w_if at_859 (z_eq x) rfl
theorem m21_862 : M21 862 [l0, l1, l2, l3, l4, l5, l6, l7, l8, l9, l10, l11, l12, l13, l14, l15, l16, l17, l18, l19, l20, l21, l22, l23, l24, l25, l26, l27, l28, l29, l30, l31, .val (.int v)] st H Q = M21 864 [l0, l1, l2, l3, l4, l5, l6, l7, l8, l9, l10, l11, l12, l13, l14, l15, l16, l17, l18, l19, l20, l21, l22, l23, l24, l25, l26, l27, l28, l29, l30, l31, .val (.int v)] (.int v :: st) H Q := w_x at_862 rfl
theorem m21_864 : M21 864 [l0, l1, l2, l3, l4, l5, l6, l7, l8, l9, l10, l11, l12, l13, l14, l15, l16, l17, l18, .val (.int v), l20, l21, l22, l23, l24, l25, l26, l27, l28, l29, l30, l31, l32] st H Q = M21 866 [l0, l1, l2, l3, l4, l5, l6, l7, l8, l9, l10, l11, l12, l13, l14, l15, l16, l17, l18, .val (.int v), l20, l21, l22, l23, l24, l25, l26, l27, l28, l29, l30, l31, l32] (.int v :: st) H Q := w_x at_864 rfl
theorem m21_866 : M21 866 ls (.int y :: .int x :: st) H Q = if x < y then M21 869 ls st H Q else M21 881 ls st H Q := w_icmpN at_866 (i_ge x y) rfl
theorem m21_869 : M21 869 ls st H Q = M21 879 ls st H Q := w_x at_869 rfl
theorem m21_872 : M21 872 [l0, l1, l2, l3, l4, l5, l6, l7, l8, l9, l10, l11, l12, l13, l14, l15, l16, l17, l18, l19, l20, l21, l22, l23, l24, l25, l26, l27, l28, l29, l30, l31, .val (.int v)] st H Q = M21 874 [l0, l1, l2, l3, l4, l5, l6, l7, l8, l9, l10, l11, l12, l13, l14, l15, l16, l17, l18, l19, l20, l21, l22, l23, l24, l25, l26, l27, l28, l29, l30, l31, .val (.int v)] (.int v :: st) H Q := w_x at_872 rfl
theorem m21_874 : M21 874 [l0, l1, l2, l3, l4, l5, l6, l7, l8, l9, l10, l11, l12, l13, l14, l15, l16, l17, l18, .val (.int v), l20, l21, l22, l23, l24, l25, l26, l27, l28, l29, l30, l31, l32] st H Q = M21 876 [l0, l1, l2, l3, l4, l5, l6, l7, l8, l9, l10, l11, l12, l13, l14, l15, l16, l17, l18, .val (.int v), l20, l21, l22, l23, l24, l25, l26, l27, l28, l29, l30, l31, l32] (.int v :: st) H Q := w_x at_874 rfl
theorem m21_876 : M21 876 ls (.int y :: .int x :: st) H Q = if x = y then M21 881 ls st H Q else M21 879 ls st H Q := w_icmp at_876 (i_eq x y) rfl
theorem m21_879 : M21 879 ls st H Q = M21 880 ls (.int 0 :: st) H Q := w_con at_879 rfl (by decide)
theorem m21_880 : M21 880 ls (.int z :: st) H Q = Q (some (.int (nar .boolean z))) H := w_iretN at_880 rfl (by simp)
theorem m21_881 : M21 881 [l0, l1, l2, l3, l4, l5, l6, l7, l8, l9, l10, l11, l12, l13, l14, l15, l16, l17, l18, l19, l20, l21, l22, l23, l24, l25, l26, l27, l28, l29, l30, l31, .val (.int v)] st H Q = M21 883 [l0, l1, l2, l3, l4, l5, l6, l7, l8, l9, l10, l11, l12, l13, l14, l15, l16, l17, l18, l19, l20, l21, l22, l23, l24, l25, l26, l27, l28, l29, l30, l31, .val (.int v)] (.int v :: st) H Q := w_x at_881 rfl
theorem m21_883i : M21 883 [l0, l1, l2, l3, l4, l5, l6, l7, l8, l9, l10, l11, l12, l13, l14, l15, l16, l17, l18, .val (.int z), l20, l21, l22, l23, l24, l25, l26, l27, l28, l29, l30, l31, l32] ((.int v) :: st) H Q = M21 885 [l0, l1, l2, l3, l4, l5, l6, l7, l8, l9, l10, l11, l12, l13, l14, l15, l16, l17, l18, .val (.int v), l20, l21, l22, l23, l24, l25, l26, l27, l28, l29, l30, l31, l32] st H Q := w_st (i := 19) (p := isI) at_883 rfl rfl rfl rfl rfl rfl
theorem m21_885 : M21 885 [l0, l1, l2, l3, l4, l5, l6, l7, l8, l9, l10, l11, l12, l13, l14, l15, l16, l17, l18, l19, .val (.int v), l21, l22, l23, l24, l25, l26, l27, l28, l29, l30, l31, l32] st H Q = M21 888 [l0, l1, l2, l3, l4, l5, l6, l7, l8, l9, l10, l11, l12, l13, l14, l15, l16, l17, l18, l19, .val (.int (v + 2)), l21, l22, l23, l24, l25, l26, l27, l28, l29, l30, l31, l32] st H Q := w_iinc at_885 rfl (by decide) rfl
theorem m21_888 : M21 888 ls st H Q = M21 105 ls st H Q := w_x at_888 rfl
theorem m21_891 : M21 891 ls st H Q = M21 892 ls (.int 1 :: st) H Q := w_con at_891 rfl (by decide)
theorem m21_892 : M21 892 ls (.int z :: st) H Q = Q (some (.int (nar .boolean z))) H := w_iretN at_892 rfl (by simp)
theorem pf0_7 : pfR tables_1 y0.cls y0.name 7 = some ("StreamSigScanner", 0, .array .int) := by decide +kernel
theorem m0_4a (hH : H.length = b) (hk : 1 ≤ b) {vs : List Value} {r : AHeap} (hj : 0 < vs.length) : M0 4 (.val (.ref b) :: [l1, l2]) [] (H ++ (.object "StreamSigScanner", vs) :: r) Q = M0 12 (.val (.ref b) :: [l1, l2]) [] (H ++ (.object "StreamSigScanner", vs.set 0 (.ref (b + (r.length + 1)))) :: (r ++ [(.array .int, List.replicate 64 (.int 0))])) Q := w_iarr (n := 64) rfl hH hk (show decode kb0 4 = .ok (.aload_n 0, 1) from by decide +kernel) rfl (show decode kb0 5 = .ok (.bipush 64, 2) from by decide +kernel) (fun _ => rfl) (by decide) (show decode kb0 7 = .ok (.newarray .int, 2) from by decide +kernel) rfl (by decide +kernel) (by decide) (by decide) rfl (show decode kb0 9 = .ok (.putfield 7, 3) from by decide +kernel) pf0_7 hj
theorem pf0_13 : pfR tables_1 y0.cls y0.name 13 = some ("StreamSigScanner", 1, .array .int) := by decide +kernel
theorem m0_12a (hH : H.length = b) (hk : 1 ≤ b) {vs : List Value} {r : AHeap} (hj : 1 < vs.length) : M0 12 (.val (.ref b) :: [l1, l2]) [] (H ++ (.object "StreamSigScanner", vs) :: r) Q = M0 20 (.val (.ref b) :: [l1, l2]) [] (H ++ (.object "StreamSigScanner", vs.set 1 (.ref (b + (r.length + 1)))) :: (r ++ [(.array .int, List.replicate 16 (.int 0))])) Q := w_iarr (n := 16) rfl hH hk (show decode kb0 12 = .ok (.aload_n 0, 1) from by decide +kernel) rfl (show decode kb0 13 = .ok (.bipush 16, 2) from by decide +kernel) (fun _ => rfl) (by decide) (show decode kb0 15 = .ok (.newarray .int, 2) from by decide +kernel) rfl (by decide +kernel) (by decide) (by decide) rfl (show decode kb0 17 = .ok (.putfield 13, 3) from by decide +kernel) pf0_13 hj
theorem pf0_16 : pfR tables_1 y0.cls y0.name 16 = some ("StreamSigScanner", 2, .array .int) := by decide +kernel
theorem m0_20a (hH : H.length = b) (hk : 1 ≤ b) {vs : List Value} {r : AHeap} (hj : 2 < vs.length) : M0 20 (.val (.ref b) :: [l1, l2]) [] (H ++ (.object "StreamSigScanner", vs) :: r) Q = M0 28 (.val (.ref b) :: [l1, l2]) [] (H ++ (.object "StreamSigScanner", vs.set 2 (.ref (b + (r.length + 1)))) :: (r ++ [(.array .int, List.replicate 16 (.int 0))])) Q := w_iarr (n := 16) rfl hH hk (show decode kb0 20 = .ok (.aload_n 0, 1) from by decide +kernel) rfl (show decode kb0 21 = .ok (.bipush 16, 2) from by decide +kernel) (fun _ => rfl) (by decide) (show decode kb0 23 = .ok (.newarray .int, 2) from by decide +kernel) rfl (by decide +kernel) (by decide) (by decide) rfl (show decode kb0 25 = .ok (.putfield 16, 3) from by decide +kernel) pf0_16 hj
theorem pf0_19 : pfR tables_1 y0.cls y0.name 19 = some ("StreamSigScanner", 3, .array .int) := by decide +kernel
theorem m0_28a (hH : H.length = b) (hk : 1 ≤ b) {vs : List Value} {r : AHeap} (hj : 3 < vs.length) : M0 28 (.val (.ref b) :: [l1, l2]) [] (H ++ (.object "StreamSigScanner", vs) :: r) Q = M0 37 (.val (.ref b) :: [l1, l2]) [] (H ++ (.object "StreamSigScanner", vs.set 3 (.ref (b + (r.length + 1)))) :: (r ++ [(.array .int, List.replicate 16640 (.int 0))])) Q := w_iarr (n := 16640) rfl hH hk (show decode kb0 28 = .ok (.aload_n 0, 1) from by decide +kernel) rfl (show decode kb0 29 = .ok (.sipush 16640, 3) from by decide +kernel) (fun _ => rfl) (by decide) (show decode kb0 32 = .ok (.newarray .int, 2) from by decide +kernel) rfl (by decide +kernel) (by decide) (by decide) rfl (show decode kb0 34 = .ok (.putfield 19, 3) from by decide +kernel) pf0_19 hj
theorem pf0_22 : pfR tables_1 y0.cls y0.name 22 = some ("StreamSigScanner", 4, .array .int) := by decide +kernel
theorem m0_37a (hH : H.length = b) (hk : 1 ≤ b) {vs : List Value} {r : AHeap} (hj : 4 < vs.length) : M0 37 (.val (.ref b) :: [l1, l2]) [] (H ++ (.object "StreamSigScanner", vs) :: r) Q = M0 45 (.val (.ref b) :: [l1, l2]) [] (H ++ (.object "StreamSigScanner", vs.set 4 (.ref (b + (r.length + 1)))) :: (r ++ [(.array .int, List.replicate 65 (.int 0))])) Q := w_iarr (n := 65) rfl hH hk (show decode kb0 37 = .ok (.aload_n 0, 1) from by decide +kernel) rfl (show decode kb0 38 = .ok (.bipush 65, 2) from by decide +kernel) (fun _ => rfl) (by decide) (show decode kb0 40 = .ok (.newarray .int, 2) from by decide +kernel) rfl (by decide +kernel) (by decide) (by decide) rfl (show decode kb0 42 = .ok (.putfield 22, 3) from by decide +kernel) pf0_22 hj
theorem pf0_25 : pfR tables_1 y0.cls y0.name 25 = some ("StreamSigScanner", 5, .array .int) := by decide +kernel
theorem m0_45a (hH : H.length = b) (hk : 1 ≤ b) {vs : List Value} {r : AHeap} (hj : 5 < vs.length) : M0 45 (.val (.ref b) :: [l1, l2]) [] (H ++ (.object "StreamSigScanner", vs) :: r) Q = M0 53 (.val (.ref b) :: [l1, l2]) [] (H ++ (.object "StreamSigScanner", vs.set 5 (.ref (b + (r.length + 1)))) :: (r ++ [(.array .int, List.replicate 65 (.int 0))])) Q := w_iarr (n := 65) rfl hH hk (show decode kb0 45 = .ok (.aload_n 0, 1) from by decide +kernel) rfl (show decode kb0 46 = .ok (.bipush 65, 2) from by decide +kernel) (fun _ => rfl) (by decide) (show decode kb0 48 = .ok (.newarray .int, 2) from by decide +kernel) rfl (by decide +kernel) (by decide) (by decide) rfl (show decode kb0 50 = .ok (.putfield 25, 3) from by decide +kernel) pf0_25 hj
theorem pf0_28 : pfR tables_1 y0.cls y0.name 28 = some ("StreamSigScanner", 6, .array .int) := by decide +kernel
theorem m0_53a (hH : H.length = b) (hk : 1 ≤ b) {vs : List Value} {r : AHeap} (hj : 6 < vs.length) : M0 53 (.val (.ref b) :: [l1, l2]) [] (H ++ (.object "StreamSigScanner", vs) :: r) Q = M0 61 (.val (.ref b) :: [l1, l2]) [] (H ++ (.object "StreamSigScanner", vs.set 6 (.ref (b + (r.length + 1)))) :: (r ++ [(.array .int, List.replicate 65 (.int 0))])) Q := w_iarr (n := 65) rfl hH hk (show decode kb0 53 = .ok (.aload_n 0, 1) from by decide +kernel) rfl (show decode kb0 54 = .ok (.bipush 65, 2) from by decide +kernel) (fun _ => rfl) (by decide) (show decode kb0 56 = .ok (.newarray .int, 2) from by decide +kernel) rfl (by decide +kernel) (by decide) (by decide) rfl (show decode kb0 58 = .ok (.putfield 28, 3) from by decide +kernel) pf0_28 hj
theorem pf0_31 : pfR tables_1 y0.cls y0.name 31 = some ("StreamSigScanner", 7, .array .boolean) := by decide +kernel
theorem m0_61a (hH : H.length = b) (hk : 1 ≤ b) {vs : List Value} {r : AHeap} (hj : 7 < vs.length) : M0 61 (.val (.ref b) :: [l1, l2]) [] (H ++ (.object "StreamSigScanner", vs) :: r) Q = M0 70 (.val (.ref b) :: [l1, l2]) [] (H ++ (.object "StreamSigScanner", vs.set 7 (.ref (b + (r.length + 1)))) :: (r ++ [(.array .boolean, List.replicate 256 (.int 0))])) Q := w_iarr (n := 256) rfl hH hk (show decode kb0 61 = .ok (.aload_n 0, 1) from by decide +kernel) rfl (show decode kb0 62 = .ok (.sipush 256, 3) from by decide +kernel) (fun _ => rfl) (by decide) (show decode kb0 65 = .ok (.newarray .boolean, 2) from by decide +kernel) rfl (by decide +kernel) (by decide) (by decide) rfl (show decode kb0 67 = .ok (.putfield 31, 3) from by decide +kernel) pf0_31 hj
theorem pf0_35 : pfR tables_1 y0.cls y0.name 35 = some ("StreamSigScanner", 8, .array .int) := by decide +kernel
theorem m0_70a (hH : H.length = b) (hk : 1 ≤ b) {vs : List Value} {r : AHeap} (hj : 8 < vs.length) : M0 70 (.val (.ref b) :: [l1, l2]) [] (H ++ (.object "StreamSigScanner", vs) :: r) Q = M0 79 (.val (.ref b) :: [l1, l2]) [] (H ++ (.object "StreamSigScanner", vs.set 8 (.ref (b + (r.length + 1)))) :: (r ++ [(.array .int, List.replicate 256 (.int 0))])) Q := w_iarr (n := 256) rfl hH hk (show decode kb0 70 = .ok (.aload_n 0, 1) from by decide +kernel) rfl (show decode kb0 71 = .ok (.sipush 256, 3) from by decide +kernel) (fun _ => rfl) (by decide) (show decode kb0 74 = .ok (.newarray .int, 2) from by decide +kernel) rfl (by decide +kernel) (by decide) (by decide) rfl (show decode kb0 76 = .ok (.putfield 35, 3) from by decide +kernel) pf0_35 hj
theorem pf0_38 : pfR tables_1 y0.cls y0.name 38 = some ("StreamSigScanner", 9, .array .int) := by decide +kernel
theorem m0_79a (hH : H.length = b) (hk : 1 ≤ b) {vs : List Value} {r : AHeap} (hj : 9 < vs.length) : M0 79 (.val (.ref b) :: [l1, l2]) [] (H ++ (.object "StreamSigScanner", vs) :: r) Q = M0 87 (.val (.ref b) :: [l1, l2]) [] (H ++ (.object "StreamSigScanner", vs.set 9 (.ref (b + (r.length + 1)))) :: (r ++ [(.array .int, List.replicate 16 (.int 0))])) Q := w_iarr (n := 16) rfl hH hk (show decode kb0 79 = .ok (.aload_n 0, 1) from by decide +kernel) rfl (show decode kb0 80 = .ok (.bipush 16, 2) from by decide +kernel) (fun _ => rfl) (by decide) (show decode kb0 82 = .ok (.newarray .int, 2) from by decide +kernel) rfl (by decide +kernel) (by decide) (by decide) rfl (show decode kb0 84 = .ok (.putfield 38, 3) from by decide +kernel) pf0_38 hj
theorem pf0_41 : pfR tables_1 y0.cls y0.name 41 = some ("StreamSigScanner", 10, .array .int) := by decide +kernel
theorem m0_87a (hH : H.length = b) (hk : 1 ≤ b) {vs : List Value} {r : AHeap} (hj : 10 < vs.length) : M0 87 (.val (.ref b) :: [l1, l2]) [] (H ++ (.object "StreamSigScanner", vs) :: r) Q = M0 95 (.val (.ref b) :: [l1, l2]) [] (H ++ (.object "StreamSigScanner", vs.set 10 (.ref (b + (r.length + 1)))) :: (r ++ [(.array .int, List.replicate 64 (.int 0))])) Q := w_iarr (n := 64) rfl hH hk (show decode kb0 87 = .ok (.aload_n 0, 1) from by decide +kernel) rfl (show decode kb0 88 = .ok (.bipush 64, 2) from by decide +kernel) (fun _ => rfl) (by decide) (show decode kb0 90 = .ok (.newarray .int, 2) from by decide +kernel) rfl (by decide +kernel) (by decide) (by decide) rfl (show decode kb0 92 = .ok (.putfield 41, 3) from by decide +kernel) pf0_41 hj
theorem pf0_44 : pfR tables_1 y0.cls y0.name 44 = some ("StreamSigScanner", 11, .array .int) := by decide +kernel
theorem m0_95a (hH : H.length = b) (hk : 1 ≤ b) {vs : List Value} {r : AHeap} (hj : 11 < vs.length) : M0 95 (.val (.ref b) :: [l1, l2]) [] (H ++ (.object "StreamSigScanner", vs) :: r) Q = M0 103 (.val (.ref b) :: [l1, l2]) [] (H ++ (.object "StreamSigScanner", vs.set 11 (.ref (b + (r.length + 1)))) :: (r ++ [(.array .int, List.replicate 64 (.int 0))])) Q := w_iarr (n := 64) rfl hH hk (show decode kb0 95 = .ok (.aload_n 0, 1) from by decide +kernel) rfl (show decode kb0 96 = .ok (.bipush 64, 2) from by decide +kernel) (fun _ => rfl) (by decide) (show decode kb0 98 = .ok (.newarray .int, 2) from by decide +kernel) rfl (by decide +kernel) (by decide) (by decide) rfl (show decode kb0 100 = .ok (.putfield 44, 3) from by decide +kernel) pf0_44 hj
def A0 : Nat → List Int32
  | 0 => List.replicate 64 0
  | 1 => List.replicate 16 0
  | 2 => List.replicate 16 0
  | 3 => List.replicate 16640 0
  | 4 => List.replicate 65 0
  | 5 => List.replicate 65 0
  | 6 => List.replicate 65 0
  | 7 => List.replicate 256 0
  | 8 => List.replicate 256 0
  | 9 => List.replicate 16 0
  | 10 => List.replicate 64 0
  | 11 => List.replicate 64 0
  | _ => []
theorem A0l_0 : (A0 0).length = 64 := List.length_replicate
theorem A0g_0 (j : Int32) : getA (A0 0) j = 0 := getA_rep _ _
theorem A0l_1 : (A0 1).length = 16 := List.length_replicate
theorem A0g_1 (j : Int32) : getA (A0 1) j = 0 := getA_rep _ _
theorem A0l_2 : (A0 2).length = 16 := List.length_replicate
theorem A0g_2 (j : Int32) : getA (A0 2) j = 0 := getA_rep _ _
theorem A0l_3 : (A0 3).length = 16640 := List.length_replicate
theorem A0g_3 (j : Int32) : getA (A0 3) j = 0 := getA_rep _ _
theorem A0l_4 : (A0 4).length = 65 := List.length_replicate
theorem A0g_4 (j : Int32) : getA (A0 4) j = 0 := getA_rep _ _
theorem A0l_5 : (A0 5).length = 65 := List.length_replicate
theorem A0g_5 (j : Int32) : getA (A0 5) j = 0 := getA_rep _ _
theorem A0l_6 : (A0 6).length = 65 := List.length_replicate
theorem A0g_6 (j : Int32) : getA (A0 6) j = 0 := getA_rep _ _
theorem A0l_7 : (A0 7).length = 256 := List.length_replicate
theorem A0g_7 (j : Int32) : getA (A0 7) j = 0 := getA_rep _ _
theorem A0l_8 : (A0 8).length = 256 := List.length_replicate
theorem A0g_8 (j : Int32) : getA (A0 8) j = 0 := getA_rep _ _
theorem A0l_9 : (A0 9).length = 16 := List.length_replicate
theorem A0g_9 (j : Int32) : getA (A0 9) j = 0 := getA_rep _ _
theorem A0l_10 : (A0 10).length = 64 := List.length_replicate
theorem A0g_10 (j : Int32) : getA (A0 10) j = 0 := getA_rep _ _
theorem A0l_11 : (A0 11).length = 64 := List.length_replicate
theorem A0g_11 (j : Int32) : getA (A0 11) j = 0 := getA_rep _ _
theorem own_ctor0 (hb : pre.length = b) (hk : 1 ≤ b) : M0 0 (.val (.ref b) :: [l1, l2]) [] (pre ++ [(.object "StreamSigScanner", D0)]) Q = M0 103 (.val (.ref b) :: [l1, l2]) [] (put b pre (fun _ => 0) A0 []) Q := by
  rw [m0_0, m0_1, m0_4a hb hk (by (repeat rw [List.length_set]); exact Nat.le_of_ble_eq_true rfl), m0_12a hb hk (by (repeat rw [List.length_set]); exact Nat.le_of_ble_eq_true rfl), m0_20a hb hk (by (repeat rw [List.length_set]); exact Nat.le_of_ble_eq_true rfl), m0_28a hb hk (by (repeat rw [List.length_set]); exact Nat.le_of_ble_eq_true rfl), m0_37a hb hk (by (repeat rw [List.length_set]); exact Nat.le_of_ble_eq_true rfl), m0_45a hb hk (by (repeat rw [List.length_set]); exact Nat.le_of_ble_eq_true rfl), m0_53a hb hk (by (repeat rw [List.length_set]); exact Nat.le_of_ble_eq_true rfl), m0_61a hb hk (by (repeat rw [List.length_set]); exact Nat.le_of_ble_eq_true rfl), m0_70a hb hk (by (repeat rw [List.length_set]); exact Nat.le_of_ble_eq_true rfl), m0_79a hb hk (by (repeat rw [List.length_set]); exact Nat.le_of_ble_eq_true rfl), m0_87a hb hk (by (repeat rw [List.length_set]); exact Nat.le_of_ble_eq_true rfl), m0_95a hb hk (by (repeat rw [List.length_set]); exact Nat.le_of_ble_eq_true rfl)]
  simp only [put, pad_eq hb, objv, D0, A0, List.map_replicate, List.set_cons_succ, List.set_cons_zero, List.nil_append, List.cons_append, List.length_cons, List.length_nil, List.append_nil]
end Rules
/- methods: 0=StreamSigScanner.<init>(I)V; 1=StreamSigScanner.endSig()I; 2=StreamSigScanner.stat(I)I; 3=StreamSigScanner.flag(Z)I; 4=StreamSigScanner.addSigByte(I)I; 5=StreamSigScanner.isByte(I)Z; 6=StreamSigScanner.compile()I; 7=StreamSigScanner.sigLength(I)I; 8=StreamSigScanner.validSig(I)Z; 9=StreamSigScanner.buildTrie()V; 10=StreamSigScanner.clearAutomaton()V; 11=StreamSigScanner.insertSig(I)V; 12=StreamSigScanner.buildAutomaton()V; 13=StreamSigScanner.openSegment(I)I; 14=StreamSigScanner.segByte(I)I; 15=StreamSigScanner.closeSegment()I; 16=StreamSigScanner.isOffset(I)Z; 17=StreamSigScanner.advanceDelivered()V; 18=StreamSigScanner.absorbByte(III)V; 19=StreamSigScanner.feed(II)V; 20=StreamSigScanner.recordMatch(II)V; 21=StreamSigScannerL6.law([I)Z -/
def LN (A : Nat → List Int32) : Prop := ∀ i, (A i).length = (A0 i).length
theorem LN_ou {A : Nat → List Int32} {j : Nat} {l : List Int32} (h : LN A) (hl : l.length = (A0 j).length) : LN (ou A j l) := len_ou h hl
theorem in_lt {A : Nat → List Int32} {k : Nat} {j n : Int32} (h : LN A) (hk : ((A0 k).length : Int) = n.toInt) (h0 : ¬ j < 0) (h1 : j < n) : inB j (A k) := inB_lt (by rw [h k]; exact hk) h0 h1
theorem l3 : ((A0 3).length : Int) = (16640 : Int32).toInt := by rw [A0l_3]; rfl
theorem l4 : ((A0 4).length : Int) = (65 : Int32).toInt := by rw [A0l_4]; rfl
theorem l5 : ((A0 5).length : Int) = (65 : Int32).toInt := by rw [A0l_5]; rfl
theorem l6 : ((A0 6).length : Int) = (65 : Int32).toInt := by rw [A0l_6]; rfl
theorem l0 : ((A0 0).length : Int) = (64 : Int32).toInt := by rw [A0l_0]; rfl
theorem l1 : ((A0 1).length : Int) = (16 : Int32).toInt := by rw [A0l_1]; rfl
theorem l2' : ((A0 2).length : Int) = (16 : Int32).toInt := by rw [A0l_2]; rfl
theorem l7 : ((A0 7).length : Int) = (256 : Int32).toInt := by rw [A0l_7]; rfl
theorem l8 : ((A0 8).length : Int) = (256 : Int32).toInt := by rw [A0l_8]; rfl
theorem l9 : ((A0 9).length : Int) = (16 : Int32).toInt := by rw [A0l_9]; rfl
theorem l10 : ((A0 10).length : Int) = (64 : Int32).toInt := by rw [A0l_10]; rfl
theorem l11 : ((A0 11).length : Int) = (64 : Int32).toInt := by rw [A0l_11]; rfl
theorem i_16640 : (16640 : Int32).toInt = 16640 := rfl
theorem i_65 : (65 : Int32).toInt = 65 := rfl
theorem i_64 : (64 : Int32).toInt = 64 := rfl
theorem i_16 : (16 : Int32).toInt = 16 := rfl
theorem i_256 : (256 : Int32).toInt = 256 := rfl
theorem i_255 : (255 : Int32).toInt = 255 := rfl
section Scan
variable {pre : AHeap} {Q : Option Value → AHeap → Prop}
theorem c10b {s : Nat → Int32} (hQ : ∀ A', LN A' → Q none (put 1 pre s A' [])) : ∀ (n : Nat) (i : Int32) (A : Nat → List Int32), LN A → ¬ i < 0 → i.toInt + n = 65 → M10 24 [.val (.ref 1), .val (.int i)] [] (put 1 pre s A []) Q := by
  intro n
  induction n with
  | zero =>
    intro i A h h0 e
    have hge : ¬ i < 65 := by rw [lt_i, i_65]; omega
    rw [m10_24]
    simp [hge, m10_0, m10_1u, m10_3, m10_6, m10_9, m10_10, m10_13, m10_14, m10_15, m10_16, m10_19, m10_22, m10_23i, m10_25, m10_27, m10_30, m10_31, m10_34, m10_35, m10_36, m10_37, m10_38, m10_41, m10_42, m10_43, m10_44, m10_45, m10_48, m10_49, m10_50, m10_51, m10_54, m10_57, nb0, nb1, ou_a, Option.toList_some, Option.toList_none, List.nil_append, List.cons_append]
    exact hQ A h
  | succ n ih =>
    intro i A h h0 e
    have hlt : i < 65 := by rw [lt_i, i_65]; omega
    have k4 := in_lt h l4 h0 hlt
    have k5 := in_lt h l5 h0 hlt
    have k6 := in_lt h l6 h0 hlt
    rw [m10_24]
    simp [hlt, k4, k5, k6, m10_0, m10_1u, m10_3, m10_6, m10_9, m10_10, m10_13, m10_14, m10_15, m10_16, m10_19, m10_22, m10_23i, m10_25, m10_27, m10_30, m10_31, m10_34, m10_35, m10_36, m10_37, m10_38, m10_41, m10_42, m10_43, m10_44, m10_45, m10_48, m10_49, m10_50, m10_51, m10_54, m10_57, nb0, nb1, ou_a, Option.toList_some, Option.toList_none, List.nil_append, List.cons_append]
    exact ih _ _ (by (repeat refine LN_ou ?_ (by simp only [setA_len]; exact h _)); exact h) (succ_nn h0 (by omega)) (by rw [add1_i (by omega)]; omega)
theorem c10a {s : Nat → Int32} (hQ : ∀ A', LN A' → Q none (put 1 pre s A' [])) : ∀ (n : Nat) (i : Int32) (A : Nat → List Int32), LN A → ¬ i < 0 → i.toInt + n = 16640 → M10 2 [.val (.ref 1), .val (.int i)] [] (put 1 pre s A []) Q := by
  intro n
  induction n with
  | zero =>
    intro i A h h0 e
    have hge : ¬ i < 16640 := by rw [lt_i, i_16640]; omega
    rw [m10_2]
    simp [hge, m10_0, m10_1u, m10_3, m10_6, m10_9, m10_10, m10_13, m10_14, m10_15, m10_16, m10_19, m10_22, m10_23i, m10_25, m10_27, m10_30, m10_31, m10_34, m10_35, m10_36, m10_37, m10_38, m10_41, m10_42, m10_43, m10_44, m10_45, m10_48, m10_49, m10_50, m10_51, m10_54, m10_57, nb0, nb1, ou_a, Option.toList_some, Option.toList_none, List.nil_append, List.cons_append]
    exact c10b hQ 65 0 A h (by decide) rfl
  | succ n ih =>
    intro i A h h0 e
    have hlt : i < 16640 := by rw [lt_i, i_16640]; omega
    have k3 := in_lt h l3 h0 hlt
    rw [m10_2]
    simp [hlt, k3, m10_0, m10_1u, m10_3, m10_6, m10_9, m10_10, m10_13, m10_14, m10_15, m10_16, m10_19, m10_22, m10_23i, m10_25, m10_27, m10_30, m10_31, m10_34, m10_35, m10_36, m10_37, m10_38, m10_41, m10_42, m10_43, m10_44, m10_45, m10_48, m10_49, m10_50, m10_51, m10_54, m10_57, nb0, nb1, ou_a, Option.toList_some, Option.toList_none, List.nil_append, List.cons_append]
    exact ih _ _ (by (repeat refine LN_ou ?_ (by simp only [setA_len]; exact h _)); exact h) (succ_nn h0 (by omega)) (by rw [add1_i (by omega)]; omega)
theorem c10 {s : Nat → Int32} {A : Nat → List Int32} (h : LN A) (hQ : ∀ A', LN A' → Q none (put 1 pre s A' [])) : M10 0 [.val (.ref 1), .unset] [] (put 1 pre s A []) Q := by
  simp [m10_0, m10_1u, m10_3, m10_6, m10_9, m10_10, m10_13, m10_14, m10_15, m10_16, m10_19, m10_22, m10_23i, m10_25, m10_27, m10_30, m10_31, m10_34, m10_35, m10_36, m10_37, m10_38, m10_41, m10_42, m10_43, m10_44, m10_45, m10_48, m10_49, m10_50, m10_51, m10_54, m10_57, nb0, nb1, ou_a, Option.toList_some, Option.toList_none, List.nil_append, List.cons_append]
  exact c10a hQ 16640 0 A h (by decide) rfl
theorem c11e {sg st ln cur j : Int32} {k6 k7 : Slot} {s : Nat → Int32} {A : Nat → List Int32} (h : LN A) (hQ : ∀ A', LN A' → Q none (put 1 pre s A' [])) : M11 149 [.val (.ref 1), .val (.int sg), .val (.int st), .val (.int ln), .val (.int cur), .val (.int j), k6, k7] [] (put 1 pre s A []) Q := by
  by_cases a1 : cur < 0
  · simp [a1, m11_0, m11_1, m11_4, m11_5, m11_7, m11_10, m11_11, m11_12, m11_15, m11_16, m11_17u, m11_18, m11_19, m11_22, m11_23, m11_24u, m11_25, m11_26u, m11_28, m11_29u, m11_33, m11_34, m11_37, m11_39, m11_41, m11_44, m11_45, m11_47, m11_48u, m11_48i, m11_48r, m11_48g, m11_50, m11_52, m11_55, m11_57, m11_59, m11_62, m11_63, m11_65, m11_68, m11_69, m11_70, m11_73, m11_75, m11_76, m11_77u, m11_77i, m11_77r, m11_77g, m11_79, m11_81, m11_84, m11_86, m11_89, m11_92, m11_93, m11_94, m11_97, m11_99, m11_100, m11_103, m11_104, m11_107, m11_109, m11_112, m11_113, m11_114, m11_117, m11_119, m11_120, m11_123, m11_124, m11_125, m11_126, m11_129, m11_130, m11_131, m11_134, m11_135, m11_138, m11_140, m11_141i, m11_143, m11_146, m11_149, m11_151, m11_154, m11_156, m11_158, m11_161, m11_162, m11_165, m11_167, m11_168, m11_169, m11_170, m11_171, m11_172, m11_173, m11_174, nb0, nb1, ou_a, Option.toList_some, Option.toList_none, List.nil_append, List.cons_append]
    exact hQ A h
  by_cases a2 : cur < 65
  · have k := in_lt h l5 a1 a2
    simp [a1, a2, k, m11_0, m11_1, m11_4, m11_5, m11_7, m11_10, m11_11, m11_12, m11_15, m11_16, m11_17u, m11_18, m11_19, m11_22, m11_23, m11_24u, m11_25, m11_26u, m11_28, m11_29u, m11_33, m11_34, m11_37, m11_39, m11_41, m11_44, m11_45, m11_47, m11_48u, m11_48i, m11_48r, m11_48g, m11_50, m11_52, m11_55, m11_57, m11_59, m11_62, m11_63, m11_65, m11_68, m11_69, m11_70, m11_73, m11_75, m11_76, m11_77u, m11_77i, m11_77r, m11_77g, m11_79, m11_81, m11_84, m11_86, m11_89, m11_92, m11_93, m11_94, m11_97, m11_99, m11_100, m11_103, m11_104, m11_107, m11_109, m11_112, m11_113, m11_114, m11_117, m11_119, m11_120, m11_123, m11_124, m11_125, m11_126, m11_129, m11_130, m11_131, m11_134, m11_135, m11_138, m11_140, m11_141i, m11_143, m11_146, m11_149, m11_151, m11_154, m11_156, m11_158, m11_161, m11_162, m11_165, m11_167, m11_168, m11_169, m11_170, m11_171, m11_172, m11_173, m11_174, nb0, nb1, ou_a, Option.toList_some, Option.toList_none, List.nil_append, List.cons_append]
    exact hQ _ (by (repeat refine LN_ou ?_ (by simp only [setA_len]; exact h _)); exact h)
  · simp [a1, a2, m11_0, m11_1, m11_4, m11_5, m11_7, m11_10, m11_11, m11_12, m11_15, m11_16, m11_17u, m11_18, m11_19, m11_22, m11_23, m11_24u, m11_25, m11_26u, m11_28, m11_29u, m11_33, m11_34, m11_37, m11_39, m11_41, m11_44, m11_45, m11_47, m11_48u, m11_48i, m11_48r, m11_48g, m11_50, m11_52, m11_55, m11_57, m11_59, m11_62, m11_63, m11_65, m11_68, m11_69, m11_70, m11_73, m11_75, m11_76, m11_77u, m11_77i, m11_77r, m11_77g, m11_79, m11_81, m11_84, m11_86, m11_89, m11_92, m11_93, m11_94, m11_97, m11_99, m11_100, m11_103, m11_104, m11_107, m11_109, m11_112, m11_113, m11_114, m11_117, m11_119, m11_120, m11_123, m11_124, m11_125, m11_126, m11_129, m11_130, m11_131, m11_134, m11_135, m11_138, m11_140, m11_141i, m11_143, m11_146, m11_149, m11_151, m11_154, m11_156, m11_158, m11_161, m11_162, m11_165, m11_167, m11_168, m11_169, m11_170, m11_171, m11_172, m11_173, m11_174, nb0, nb1, ou_a, Option.toList_some, Option.toList_none, List.nil_append, List.cons_append]
    exact hQ A h
theorem c11a {sg st ln : Int32} {s0 : Nat → Int32} (hQ : ∀ s' A', LN A' → (∀ i, i ≠ 5 → s' i = s0 i) → Q none (put 1 pre s' A' [])) : ∀ (n : Nat) (j cur : Int32) (k6 k7 : Slot) (s : Nat → Int32) (A : Nat → List Int32), LN A → (∀ i, i ≠ 5 → s i = s0 i) → okS k6 → okS k7 → ¬ j < 0 → j.toInt + n = 16 →
    M11 31 [.val (.ref 1), .val (.int sg), .val (.int st), .val (.int ln), .val (.int cur), .val (.int j), k6, k7] [] (put 1 pre s A []) Q := by
  intro n
  induction n with
  | zero =>
    intro j cur k6 k7 s A h hs o6 o7 h0 e
    have hge : ¬ j < 16 := by rw [lt_i, i_16]; omega
    rw [m11_31]
    by_cases b1 : j < ln
    · simp [hge, b1, m11_0, m11_1, m11_4, m11_5, m11_7, m11_10, m11_11, m11_12, m11_15, m11_16, m11_17u, m11_18, m11_19, m11_22, m11_23, m11_24u, m11_25, m11_26u, m11_28, m11_29u, m11_33, m11_34, m11_37, m11_39, m11_41, m11_44, m11_45, m11_47, m11_48u, m11_48i, m11_48r, m11_48g, m11_50, m11_52, m11_55, m11_57, m11_59, m11_62, m11_63, m11_65, m11_68, m11_69, m11_70, m11_73, m11_75, m11_76, m11_77u, m11_77i, m11_77r, m11_77g, m11_79, m11_81, m11_84, m11_86, m11_89, m11_92, m11_93, m11_94, m11_97, m11_99, m11_100, m11_103, m11_104, m11_107, m11_109, m11_112, m11_113, m11_114, m11_117, m11_119, m11_120, m11_123, m11_124, m11_125, m11_126, m11_129, m11_130, m11_131, m11_134, m11_135, m11_138, m11_140, m11_141i, m11_143, m11_146, m11_151, m11_154, m11_156, m11_158, m11_161, m11_162, m11_165, m11_167, m11_168, m11_169, m11_170, m11_171, m11_172, m11_173, m11_174, nb0, nb1, ou_a, Option.toList_some, Option.toList_none, List.nil_append, List.cons_append]
      exact c11e h (fun A' h' => hQ s A' h' hs)
    · simp [b1, m11_0, m11_1, m11_4, m11_5, m11_7, m11_10, m11_11, m11_12, m11_15, m11_16, m11_17u, m11_18, m11_19, m11_22, m11_23, m11_24u, m11_25, m11_26u, m11_28, m11_29u, m11_33, m11_34, m11_37, m11_39, m11_41, m11_44, m11_45, m11_47, m11_48u, m11_48i, m11_48r, m11_48g, m11_50, m11_52, m11_55, m11_57, m11_59, m11_62, m11_63, m11_65, m11_68, m11_69, m11_70, m11_73, m11_75, m11_76, m11_77u, m11_77i, m11_77r, m11_77g, m11_79, m11_81, m11_84, m11_86, m11_89, m11_92, m11_93, m11_94, m11_97, m11_99, m11_100, m11_103, m11_104, m11_107, m11_109, m11_112, m11_113, m11_114, m11_117, m11_119, m11_120, m11_123, m11_124, m11_125, m11_126, m11_129, m11_130, m11_131, m11_134, m11_135, m11_138, m11_140, m11_141i, m11_143, m11_146, m11_151, m11_154, m11_156, m11_158, m11_161, m11_162, m11_165, m11_167, m11_168, m11_169, m11_170, m11_171, m11_172, m11_173, m11_174, nb0, nb1, ou_a, Option.toList_some, Option.toList_none, List.nil_append, List.cons_append]
      exact c11e h (fun A' h' => hQ s A' h' hs)
  | succ n ih =>
    intro j cur k6 k7 s A h hs o6 o7 h0 e
    have hlt : j < 16 := by rw [lt_i, i_16]; omega
    have e1 := add1_i (a := j) (by omega)
    have n1 := succ_nn h0 (by omega)
    have fin : ∀ (v : Int32), ∀ i, i ≠ 5 → (ou s 5 v) i = s0 i := fun v i hi => by rw [ou_a, if_neg hi]; exact hs i hi
    rw [m11_31]
    by_cases b1 : j < ln
    · by_cases b2 : st + j < 0
      · simp [hlt, b1, b2, o6, o7, m11_0, m11_1, m11_4, m11_5, m11_7, m11_10, m11_11, m11_12, m11_15, m11_16, m11_17u, m11_18, m11_19, m11_22, m11_23, m11_24u, m11_25, m11_26u, m11_28, m11_29u, m11_33, m11_34, m11_37, m11_39, m11_41, m11_44, m11_45, m11_47, m11_48u, m11_48i, m11_48r, m11_48g, m11_50, m11_52, m11_55, m11_57, m11_59, m11_62, m11_63, m11_65, m11_68, m11_69, m11_70, m11_73, m11_75, m11_76, m11_77u, m11_77i, m11_77r, m11_77g, m11_79, m11_81, m11_84, m11_86, m11_89, m11_92, m11_93, m11_94, m11_97, m11_99, m11_100, m11_103, m11_104, m11_107, m11_109, m11_112, m11_113, m11_114, m11_117, m11_119, m11_120, m11_123, m11_124, m11_125, m11_126, m11_129, m11_130, m11_131, m11_134, m11_135, m11_138, m11_140, m11_141i, m11_143, m11_146, m11_151, m11_154, m11_156, m11_158, m11_161, m11_162, m11_165, m11_167, m11_168, m11_169, m11_170, m11_171, m11_172, m11_173, m11_174, nb0, nb1, ou_a, Option.toList_some, Option.toList_none, List.nil_append, List.cons_append]
        exact hQ s A h hs
      by_cases b3 : st + j < 64
      · have k0 := in_lt h l0 b2 b3
        by_cases b4 : cur * 256 + getA (A 0) (st + j) < 0
        · simp [hlt, b1, b2, b3, b4, k0, o6, o7, m11_0, m11_1, m11_4, m11_5, m11_7, m11_10, m11_11, m11_12, m11_15, m11_16, m11_17u, m11_18, m11_19, m11_22, m11_23, m11_24u, m11_25, m11_26u, m11_28, m11_29u, m11_33, m11_34, m11_37, m11_39, m11_41, m11_44, m11_45, m11_47, m11_48u, m11_48i, m11_48r, m11_48g, m11_50, m11_52, m11_55, m11_57, m11_59, m11_62, m11_63, m11_65, m11_68, m11_69, m11_70, m11_73, m11_75, m11_76, m11_77u, m11_77i, m11_77r, m11_77g, m11_79, m11_81, m11_84, m11_86, m11_89, m11_92, m11_93, m11_94, m11_97, m11_99, m11_100, m11_103, m11_104, m11_107, m11_109, m11_112, m11_113, m11_114, m11_117, m11_119, m11_120, m11_123, m11_124, m11_125, m11_126, m11_129, m11_130, m11_131, m11_134, m11_135, m11_138, m11_140, m11_141i, m11_143, m11_146, m11_151, m11_154, m11_156, m11_158, m11_161, m11_162, m11_165, m11_167, m11_168, m11_169, m11_170, m11_171, m11_172, m11_173, m11_174, nb0, nb1, ou_a, Option.toList_some, Option.toList_none, List.nil_append, List.cons_append]
          exact hQ s A h hs
        by_cases b5 : cur * 256 + getA (A 0) (st + j) < 16640
        · have k3 := in_lt h l3 b4 b5
          by_cases b6 : getA (A 3) (cur * 256 + getA (A 0) (st + j)) = 0
          · by_cases b7 : s 5 < 65
            · simp [hlt, b1, b2, b3, b4, b5, b6, b7, k0, k3, inB_set, o6, o7, m11_0, m11_1, m11_4, m11_5, m11_7, m11_10, m11_11, m11_12, m11_15, m11_16, m11_17u, m11_18, m11_19, m11_22, m11_23, m11_24u, m11_25, m11_26u, m11_28, m11_29u, m11_33, m11_34, m11_37, m11_39, m11_41, m11_44, m11_45, m11_47, m11_48u, m11_48i, m11_48r, m11_48g, m11_50, m11_52, m11_55, m11_57, m11_59, m11_62, m11_63, m11_65, m11_68, m11_69, m11_70, m11_73, m11_75, m11_76, m11_77u, m11_77i, m11_77r, m11_77g, m11_79, m11_81, m11_84, m11_86, m11_89, m11_92, m11_93, m11_94, m11_97, m11_99, m11_100, m11_103, m11_104, m11_107, m11_109, m11_112, m11_113, m11_114, m11_117, m11_119, m11_120, m11_123, m11_124, m11_125, m11_126, m11_129, m11_130, m11_131, m11_134, m11_135, m11_138, m11_140, m11_141i, m11_143, m11_146, m11_151, m11_154, m11_156, m11_158, m11_161, m11_162, m11_165, m11_167, m11_168, m11_169, m11_170, m11_171, m11_172, m11_173, m11_174, nb0, nb1, ou_a, Option.toList_some, Option.toList_none, List.nil_append, List.cons_append]
              exact ih _ _ _ _ _ _ (by (repeat refine LN_ou ?_ (by simp only [setA_len]; exact h _)); exact h) (fin _) (okS_i _) (okS_i _) n1 (by rw [e1]; omega)
            · simp [hlt, b1, b2, b3, b4, b5, b6, b7, k0, k3, o6, o7, m11_0, m11_1, m11_4, m11_5, m11_7, m11_10, m11_11, m11_12, m11_15, m11_16, m11_17u, m11_18, m11_19, m11_22, m11_23, m11_24u, m11_25, m11_26u, m11_28, m11_29u, m11_33, m11_34, m11_37, m11_39, m11_41, m11_44, m11_45, m11_47, m11_48u, m11_48i, m11_48r, m11_48g, m11_50, m11_52, m11_55, m11_57, m11_59, m11_62, m11_63, m11_65, m11_68, m11_69, m11_70, m11_73, m11_75, m11_76, m11_77u, m11_77i, m11_77r, m11_77g, m11_79, m11_81, m11_84, m11_86, m11_89, m11_92, m11_93, m11_94, m11_97, m11_99, m11_100, m11_103, m11_104, m11_107, m11_109, m11_112, m11_113, m11_114, m11_117, m11_119, m11_120, m11_123, m11_124, m11_125, m11_126, m11_129, m11_130, m11_131, m11_134, m11_135, m11_138, m11_140, m11_141i, m11_143, m11_146, m11_151, m11_154, m11_156, m11_158, m11_161, m11_162, m11_165, m11_167, m11_168, m11_169, m11_170, m11_171, m11_172, m11_173, m11_174, nb0, nb1, ou_a, Option.toList_some, Option.toList_none, List.nil_append, List.cons_append]
              exact hQ s A h hs
          · simp [hlt, b1, b2, b3, b4, b5, b6, k0, k3, o6, o7, m11_0, m11_1, m11_4, m11_5, m11_7, m11_10, m11_11, m11_12, m11_15, m11_16, m11_17u, m11_18, m11_19, m11_22, m11_23, m11_24u, m11_25, m11_26u, m11_28, m11_29u, m11_33, m11_34, m11_37, m11_39, m11_41, m11_44, m11_45, m11_47, m11_48u, m11_48i, m11_48r, m11_48g, m11_50, m11_52, m11_55, m11_57, m11_59, m11_62, m11_63, m11_65, m11_68, m11_69, m11_70, m11_73, m11_75, m11_76, m11_77u, m11_77i, m11_77r, m11_77g, m11_79, m11_81, m11_84, m11_86, m11_89, m11_92, m11_93, m11_94, m11_97, m11_99, m11_100, m11_103, m11_104, m11_107, m11_109, m11_112, m11_113, m11_114, m11_117, m11_119, m11_120, m11_123, m11_124, m11_125, m11_126, m11_129, m11_130, m11_131, m11_134, m11_135, m11_138, m11_140, m11_141i, m11_143, m11_146, m11_151, m11_154, m11_156, m11_158, m11_161, m11_162, m11_165, m11_167, m11_168, m11_169, m11_170, m11_171, m11_172, m11_173, m11_174, nb0, nb1, ou_a, Option.toList_some, Option.toList_none, List.nil_append, List.cons_append]
            exact ih _ _ _ _ _ _ h hs (okS_i _) (okS_i _) n1 (by rw [e1]; omega)
        · simp [hlt, b1, b2, b3, b4, b5, k0, o6, o7, m11_0, m11_1, m11_4, m11_5, m11_7, m11_10, m11_11, m11_12, m11_15, m11_16, m11_17u, m11_18, m11_19, m11_22, m11_23, m11_24u, m11_25, m11_26u, m11_28, m11_29u, m11_33, m11_34, m11_37, m11_39, m11_41, m11_44, m11_45, m11_47, m11_48u, m11_48i, m11_48r, m11_48g, m11_50, m11_52, m11_55, m11_57, m11_59, m11_62, m11_63, m11_65, m11_68, m11_69, m11_70, m11_73, m11_75, m11_76, m11_77u, m11_77i, m11_77r, m11_77g, m11_79, m11_81, m11_84, m11_86, m11_89, m11_92, m11_93, m11_94, m11_97, m11_99, m11_100, m11_103, m11_104, m11_107, m11_109, m11_112, m11_113, m11_114, m11_117, m11_119, m11_120, m11_123, m11_124, m11_125, m11_126, m11_129, m11_130, m11_131, m11_134, m11_135, m11_138, m11_140, m11_141i, m11_143, m11_146, m11_151, m11_154, m11_156, m11_158, m11_161, m11_162, m11_165, m11_167, m11_168, m11_169, m11_170, m11_171, m11_172, m11_173, m11_174, nb0, nb1, ou_a, Option.toList_some, Option.toList_none, List.nil_append, List.cons_append]
          exact hQ s A h hs
      · simp [hlt, b1, b2, b3, o6, o7, m11_0, m11_1, m11_4, m11_5, m11_7, m11_10, m11_11, m11_12, m11_15, m11_16, m11_17u, m11_18, m11_19, m11_22, m11_23, m11_24u, m11_25, m11_26u, m11_28, m11_29u, m11_33, m11_34, m11_37, m11_39, m11_41, m11_44, m11_45, m11_47, m11_48u, m11_48i, m11_48r, m11_48g, m11_50, m11_52, m11_55, m11_57, m11_59, m11_62, m11_63, m11_65, m11_68, m11_69, m11_70, m11_73, m11_75, m11_76, m11_77u, m11_77i, m11_77r, m11_77g, m11_79, m11_81, m11_84, m11_86, m11_89, m11_92, m11_93, m11_94, m11_97, m11_99, m11_100, m11_103, m11_104, m11_107, m11_109, m11_112, m11_113, m11_114, m11_117, m11_119, m11_120, m11_123, m11_124, m11_125, m11_126, m11_129, m11_130, m11_131, m11_134, m11_135, m11_138, m11_140, m11_141i, m11_143, m11_146, m11_151, m11_154, m11_156, m11_158, m11_161, m11_162, m11_165, m11_167, m11_168, m11_169, m11_170, m11_171, m11_172, m11_173, m11_174, nb0, nb1, ou_a, Option.toList_some, Option.toList_none, List.nil_append, List.cons_append]
        exact hQ s A h hs
    · simp [b1, m11_0, m11_1, m11_4, m11_5, m11_7, m11_10, m11_11, m11_12, m11_15, m11_16, m11_17u, m11_18, m11_19, m11_22, m11_23, m11_24u, m11_25, m11_26u, m11_28, m11_29u, m11_33, m11_34, m11_37, m11_39, m11_41, m11_44, m11_45, m11_47, m11_48u, m11_48i, m11_48r, m11_48g, m11_50, m11_52, m11_55, m11_57, m11_59, m11_62, m11_63, m11_65, m11_68, m11_69, m11_70, m11_73, m11_75, m11_76, m11_77u, m11_77i, m11_77r, m11_77g, m11_79, m11_81, m11_84, m11_86, m11_89, m11_92, m11_93, m11_94, m11_97, m11_99, m11_100, m11_103, m11_104, m11_107, m11_109, m11_112, m11_113, m11_114, m11_117, m11_119, m11_120, m11_123, m11_124, m11_125, m11_126, m11_129, m11_130, m11_131, m11_134, m11_135, m11_138, m11_140, m11_141i, m11_143, m11_146, m11_151, m11_154, m11_156, m11_158, m11_161, m11_162, m11_165, m11_167, m11_168, m11_169, m11_170, m11_171, m11_172, m11_173, m11_174, nb0, nb1, ou_a, Option.toList_some, Option.toList_none, List.nil_append, List.cons_append]
      exact c11e h (fun A' h' => hQ s A' h' hs)
theorem c11 {sg : Int32} {s : Nat → Int32} {A : Nat → List Int32} (h : LN A) (hQ : ∀ s' A', LN A' → (∀ i, i ≠ 5 → s' i = s i) → Q none (put 1 pre s' A' [])) : M11 0 [.val (.ref 1), .val (.int sg), .unset, .unset, .unset, .unset, .unset, .unset] [] (put 1 pre s A []) Q := by
  by_cases a1 : sg < 0
  · simp [a1, m11_0, m11_1, m11_4, m11_5, m11_7, m11_10, m11_11, m11_12, m11_15, m11_16, m11_17u, m11_18, m11_19, m11_22, m11_23, m11_24u, m11_25, m11_26u, m11_28, m11_29u, m11_33, m11_34, m11_37, m11_39, m11_41, m11_44, m11_45, m11_47, m11_48u, m11_48i, m11_48r, m11_48g, m11_50, m11_52, m11_55, m11_57, m11_59, m11_62, m11_63, m11_65, m11_68, m11_69, m11_70, m11_73, m11_75, m11_76, m11_77u, m11_77i, m11_77r, m11_77g, m11_79, m11_81, m11_84, m11_86, m11_89, m11_92, m11_93, m11_94, m11_97, m11_99, m11_100, m11_103, m11_104, m11_107, m11_109, m11_112, m11_113, m11_114, m11_117, m11_119, m11_120, m11_123, m11_124, m11_125, m11_126, m11_129, m11_130, m11_131, m11_134, m11_135, m11_138, m11_140, m11_141i, m11_143, m11_146, m11_149, m11_151, m11_154, m11_156, m11_158, m11_161, m11_162, m11_165, m11_167, m11_168, m11_169, m11_170, m11_171, m11_172, m11_173, m11_174, nb0, nb1, ou_a, Option.toList_some, Option.toList_none, List.nil_append, List.cons_append]
    exact hQ s A h (fun _ _ => rfl)
  by_cases a2 : sg < 16
  · have k1 := in_lt h l1 a1 a2
    have k2 := in_lt h l2' a1 a2
    simp [a1, a2, k1, k2, m11_0, m11_1, m11_4, m11_5, m11_7, m11_10, m11_11, m11_12, m11_15, m11_16, m11_17u, m11_18, m11_19, m11_22, m11_23, m11_24u, m11_25, m11_26u, m11_28, m11_29u, m11_33, m11_34, m11_37, m11_39, m11_41, m11_44, m11_45, m11_47, m11_48u, m11_48i, m11_48r, m11_48g, m11_50, m11_52, m11_55, m11_57, m11_59, m11_62, m11_63, m11_65, m11_68, m11_69, m11_70, m11_73, m11_75, m11_76, m11_77u, m11_77i, m11_77r, m11_77g, m11_79, m11_81, m11_84, m11_86, m11_89, m11_92, m11_93, m11_94, m11_97, m11_99, m11_100, m11_103, m11_104, m11_107, m11_109, m11_112, m11_113, m11_114, m11_117, m11_119, m11_120, m11_123, m11_124, m11_125, m11_126, m11_129, m11_130, m11_131, m11_134, m11_135, m11_138, m11_140, m11_141i, m11_143, m11_146, m11_149, m11_151, m11_154, m11_156, m11_158, m11_161, m11_162, m11_165, m11_167, m11_168, m11_169, m11_170, m11_171, m11_172, m11_173, m11_174, nb0, nb1, ou_a, Option.toList_some, Option.toList_none, List.nil_append, List.cons_append]
    exact c11a hQ 16 0 0 _ _ s A h (fun _ _ => rfl) okS_u okS_u (by decide) rfl
  · simp [a1, a2, m11_0, m11_1, m11_4, m11_5, m11_7, m11_10, m11_11, m11_12, m11_15, m11_16, m11_17u, m11_18, m11_19, m11_22, m11_23, m11_24u, m11_25, m11_26u, m11_28, m11_29u, m11_33, m11_34, m11_37, m11_39, m11_41, m11_44, m11_45, m11_47, m11_48u, m11_48i, m11_48r, m11_48g, m11_50, m11_52, m11_55, m11_57, m11_59, m11_62, m11_63, m11_65, m11_68, m11_69, m11_70, m11_73, m11_75, m11_76, m11_77u, m11_77i, m11_77r, m11_77g, m11_79, m11_81, m11_84, m11_86, m11_89, m11_92, m11_93, m11_94, m11_97, m11_99, m11_100, m11_103, m11_104, m11_107, m11_109, m11_112, m11_113, m11_114, m11_117, m11_119, m11_120, m11_123, m11_124, m11_125, m11_126, m11_129, m11_130, m11_131, m11_134, m11_135, m11_138, m11_140, m11_141i, m11_143, m11_146, m11_149, m11_151, m11_154, m11_156, m11_158, m11_161, m11_162, m11_165, m11_167, m11_168, m11_169, m11_170, m11_171, m11_172, m11_173, m11_174, nb0, nb1, ou_a, Option.toList_some, Option.toList_none, List.nil_append, List.cons_append]
    exact hQ s A h (fun _ _ => rfl)
theorem c9a {s0 : Nat → Int32} (hQ : ∀ s' A', LN A' → (∀ i, i ≠ 5 → s' i = s0 i) → Q none (put 1 pre s' A' [])) : ∀ (n : Nat) (i : Int32) (s : Nat → Int32) (A : Nat → List Int32), LN A → (∀ i, i ≠ 5 → s i = s0 i) → ¬ i < 0 → i.toInt + n = 16 → M9 11 [.val (.ref 1), .val (.int i)] [] (put 1 pre s A []) Q := by
  intro n
  induction n with
  | zero =>
    intro i s A h hs h0 e
    have hge : ¬ i < 16 := by rw [lt_i, i_16]; omega
    rw [m9_11]
    by_cases b1 : i < s 2 <;>
    · simp [hge, b1, m9_0, m9_1, m9_4, m9_5, m9_6, m9_9, m9_10u, m9_12, m9_13, m9_16, m9_19, m9_20, m9_22, m9_25, m9_26, m9_27, m9_30, m9_33, m9_36, nb0, nb1, ou_a, Option.toList_some, Option.toList_none, List.nil_append, List.cons_append]
      exact hQ s A h hs
  | succ n ih =>
    intro i s A h hs h0 e
    have hlt : i < 16 := by rw [lt_i, i_16]; omega
    rw [m9_11]
    by_cases b1 : i < s 2
    · simp [hlt, b1, m9_0, m9_1, m9_4, m9_5, m9_6, m9_9, m9_10u, m9_12, m9_13, m9_16, m9_19, m9_20, m9_22, m9_25, m9_26, m9_27, m9_30, m9_33, m9_36, nb0, nb1, ou_a, Option.toList_some, Option.toList_none, List.nil_append, List.cons_append]
      refine c11 h (fun s' A' h' hs' => ?_)
      simp [m9_0, m9_1, m9_4, m9_5, m9_6, m9_9, m9_10u, m9_12, m9_13, m9_16, m9_19, m9_20, m9_22, m9_25, m9_26, m9_27, m9_30, m9_33, m9_36, nb0, nb1, ou_a, Option.toList_some, Option.toList_none, List.nil_append, List.cons_append]
      exact ih _ _ _ h' (fun i hi => (hs' i hi).trans (hs i hi)) (succ_nn h0 (by omega)) (by rw [add1_i (by omega)]; omega)
    · simp [b1, m9_0, m9_1, m9_4, m9_5, m9_6, m9_9, m9_10u, m9_12, m9_13, m9_16, m9_19, m9_20, m9_22, m9_25, m9_26, m9_27, m9_30, m9_33, m9_36, nb0, nb1, ou_a, Option.toList_some, Option.toList_none, List.nil_append, List.cons_append]
      exact hQ s A h hs
theorem c9 {s : Nat → Int32} {A : Nat → List Int32} (h : LN A) (hQ : ∀ s' A', LN A' → (∀ i, i ≠ 5 → s' i = s i) → Q none (put 1 pre s' A' [])) : M9 0 [.val (.ref 1), .unset] [] (put 1 pre s A []) Q := by
  simp [m9_0, m9_1, m9_4, m9_5, m9_6, m9_9, m9_10u, m9_12, m9_13, m9_16, m9_19, m9_20, m9_22, m9_25, m9_26, m9_27, m9_30, m9_33, m9_36, nb0, nb1, ou_a, Option.toList_some, Option.toList_none, List.nil_append, List.cons_append]
  refine c10 h (fun A' h' => ?_)
  simp [m9_0, m9_1, m9_4, m9_5, m9_6, m9_9, m9_10u, m9_12, m9_13, m9_16, m9_19, m9_20, m9_22, m9_25, m9_26, m9_27, m9_30, m9_33, m9_36, nb0, nb1, ou_a, Option.toList_some, Option.toList_none, List.nil_append, List.cons_append]
  exact c9a (s0 := s) hQ 16 0 _ _ h' (fun i hi => by rw [ou_a, if_neg hi]) (by decide) rfl
theorem idx256 {u c : Int32} (u0 : ¬ u < 0) (u1 : u < 65) (c0 : ¬ c < 0) (c1 : c < 256) : ¬ u * 256 + c < 0 ∧ u * 256 + c < 16640 := by
  rw [nn_i] at *
  rw [lt_i, i_65] at u1
  rw [lt_i, i_256] at c1
  have e1 : (u * 256).toInt = u.toInt * 256 := by
    have := mul_i (a := u) (b := 256) (by rw [i_256]; omega) (by rw [i_256]; omega)
    rw [this, i_256]
  have e2 : (u * 256 + c).toInt = u.toInt * 256 + c.toInt := by
    have := add_i (a := u * 256) (b := c) (by rw [e1]; omega) (by rw [e1]; omega)
    rw [this, e1]
  rw [lt_i, e2, i_16640]
  omega
theorem pos_nn {a : Int32} (h : 0 < a) : ¬ a < 0 := by rw [nn_i]; rw [lt_i, i_0] at h; omega
set_option maxRecDepth 1000000 in
set_option maxHeartbeats 20000000 in
theorem c12c {u f hd : Int32} {s : Nat → Int32} (u1 : 0 < u) (u2 : u < 65) (f1 : ¬ f < 0) (f2 : f < 65) (hQ : ∀ (tl cc : Int32) (k6 k7 k8 : Slot) A', LN A' → okS k6 → okS k7 → okS k8 → ¬ tl < 0 → tl.toInt ≤ 65 → M12 59 [.val (.ref 1), .val (.int tl), .val (.int hd), .val (.int u), .val (.int f), .val (.int cc), k6, k7, k8] [] (put 1 pre s A' []) Q) :
    ∀ (n : Nat) (c tl : Int32) (k6 k7 k8 : Slot) (A : Nat → List Int32), LN A → okS k6 → okS k7 → okS k8 → ¬ tl < 0 → tl.toInt ≤ 65 → ¬ c < 0 → c.toInt + n = 256 →
    M12 135 [.val (.ref 1), .val (.int tl), .val (.int hd), .val (.int u), .val (.int f), .val (.int c), k6, k7, k8] [] (put 1 pre s A []) Q := by
  intro n
  induction n with
  | zero =>
    intro c tl k6 k7 k8 A h o6 o7 o8 t0 t1 h0 e
    have hge : ¬ c < 256 := by rw [lt_i, i_256]; omega
    rw [m12_135]
    simp [hge, m12_0, m12_1u, m12_2, m12_3u, m12_5, m12_8, m12_11, m12_12, m12_15, m12_16, m12_17u, m12_17i, m12_17r, m12_17g, m12_18, m12_19, m12_22, m12_23, m12_25, m12_28, m12_29, m12_31, m12_34, m12_35, m12_38, m12_39, m12_40, m12_41, m12_42, m12_45, m12_46, m12_47, m12_48, m12_51, m12_54, m12_57, m12_58i, m12_60, m12_61, m12_64, m12_65, m12_67, m12_70, m12_71, m12_74, m12_75, m12_76u, m12_76i, m12_76r, m12_76g, m12_77, m12_80, m12_81, m12_84, m12_85, m12_87, m12_90, m12_93, m12_94, m12_97, m12_98, m12_99u, m12_99i, m12_99r, m12_99g, m12_101, m12_103, m12_106, m12_108, m12_110, m12_113, m12_114i, m12_116, m12_117, m12_120, m12_121, m12_122, m12_123, m12_124, m12_127, m12_129, m12_130, m12_131, m12_132, m12_133u, m12_133i, m12_133r, m12_133g, m12_137, m12_140, m12_143, m12_144, m12_147, m12_148, m12_150, m12_151u, m12_151i, m12_151r, m12_151g, m12_153, m12_154, m12_157, m12_159, m12_162, m12_163, m12_165, m12_166, m12_167u, m12_167i, m12_167r, m12_167g, m12_169, m12_170, m12_173, m12_175, m12_176u, m12_176i, m12_176r, m12_176g, m12_178, m12_180, m12_183, m12_185, m12_187, m12_190, m12_191, m12_194, m12_196, m12_198, m12_199, m12_200, m12_202, m12_205, m12_206, m12_209, m12_210, m12_212, m12_213, m12_216, m12_219, m12_220, m12_223, m12_225, m12_227, m12_228, m12_231, m12_234, m12_237, nb0, nb1, ou_a, Option.toList_some, Option.toList_none, List.nil_append, List.cons_append]
    exact hQ _ _ _ _ _ _ h o6 o7 o8 t0 t1
  | succ n ih =>
    intro c tl k6 k7 k8 A h o6 o7 o8 t0 t1 h0 e
    have hlt : c < 256 := by rw [lt_i, i_256]; omega
    have iu := idx256 (pos_nn u1) u2 h0 hlt
    have jf := idx256 f1 f2 h0 hlt
    have ku := in_lt h l3 iu.1 iu.2
    have kf := in_lt h l3 jf.1 jf.2
    have e1 := add1_i (a := c) (by omega)
    have n1 := succ_nn h0 (by omega)
    rw [m12_135]
    by_cases b1 : 0 < getA (A 3) (u * 256 + c)
    · by_cases b2 : getA (A 3) (u * 256 + c) < 65
      · have kv := in_lt h l4 (pos_nn b1) b2
        by_cases b3 : tl < 65
        · have kt := in_lt h l6 t0 b3
          have q := b3
          rw [lt_i, i_65] at q
          simp [hlt, b1, b2, b3, ku, kf, kv, kt, o6, o7, o8, m12_0, m12_1u, m12_2, m12_3u, m12_5, m12_8, m12_11, m12_12, m12_15, m12_16, m12_17u, m12_17i, m12_17r, m12_17g, m12_18, m12_19, m12_22, m12_23, m12_25, m12_28, m12_29, m12_31, m12_34, m12_35, m12_38, m12_39, m12_40, m12_41, m12_42, m12_45, m12_46, m12_47, m12_48, m12_51, m12_54, m12_57, m12_58i, m12_60, m12_61, m12_64, m12_65, m12_67, m12_70, m12_71, m12_74, m12_75, m12_76u, m12_76i, m12_76r, m12_76g, m12_77, m12_80, m12_81, m12_84, m12_85, m12_87, m12_90, m12_93, m12_94, m12_97, m12_98, m12_99u, m12_99i, m12_99r, m12_99g, m12_101, m12_103, m12_106, m12_108, m12_110, m12_113, m12_114i, m12_116, m12_117, m12_120, m12_121, m12_122, m12_123, m12_124, m12_127, m12_129, m12_130, m12_131, m12_132, m12_133u, m12_133i, m12_133r, m12_133g, m12_137, m12_140, m12_143, m12_144, m12_147, m12_148, m12_150, m12_151u, m12_151i, m12_151r, m12_151g, m12_153, m12_154, m12_157, m12_159, m12_162, m12_163, m12_165, m12_166, m12_167u, m12_167i, m12_167r, m12_167g, m12_169, m12_170, m12_173, m12_175, m12_176u, m12_176i, m12_176r, m12_176g, m12_178, m12_180, m12_183, m12_185, m12_187, m12_190, m12_191, m12_194, m12_196, m12_198, m12_199, m12_200, m12_202, m12_205, m12_206, m12_209, m12_210, m12_212, m12_213, m12_216, m12_219, m12_220, m12_223, m12_225, m12_227, m12_228, m12_231, m12_234, m12_237, nb0, nb1, ou_a, Option.toList_some, Option.toList_none, List.nil_append, List.cons_append]
          exact ih _ _ _ _ _ _ (by (repeat refine LN_ou ?_ (by simp only [setA_len]; exact h _)); exact h) (okS_i _) (okS_i _) (okS_i _) (succ_nn t0 (by omega)) (by rw [add1_i (by omega)]; omega) n1 (by rw [e1]; omega)
        · simp [hlt, b1, b2, b3, ku, kf, kv, o6, o7, o8, m12_0, m12_1u, m12_2, m12_3u, m12_5, m12_8, m12_11, m12_12, m12_15, m12_16, m12_17u, m12_17i, m12_17r, m12_17g, m12_18, m12_19, m12_22, m12_23, m12_25, m12_28, m12_29, m12_31, m12_34, m12_35, m12_38, m12_39, m12_40, m12_41, m12_42, m12_45, m12_46, m12_47, m12_48, m12_51, m12_54, m12_57, m12_58i, m12_60, m12_61, m12_64, m12_65, m12_67, m12_70, m12_71, m12_74, m12_75, m12_76u, m12_76i, m12_76r, m12_76g, m12_77, m12_80, m12_81, m12_84, m12_85, m12_87, m12_90, m12_93, m12_94, m12_97, m12_98, m12_99u, m12_99i, m12_99r, m12_99g, m12_101, m12_103, m12_106, m12_108, m12_110, m12_113, m12_114i, m12_116, m12_117, m12_120, m12_121, m12_122, m12_123, m12_124, m12_127, m12_129, m12_130, m12_131, m12_132, m12_133u, m12_133i, m12_133r, m12_133g, m12_137, m12_140, m12_143, m12_144, m12_147, m12_148, m12_150, m12_151u, m12_151i, m12_151r, m12_151g, m12_153, m12_154, m12_157, m12_159, m12_162, m12_163, m12_165, m12_166, m12_167u, m12_167i, m12_167r, m12_167g, m12_169, m12_170, m12_173, m12_175, m12_176u, m12_176i, m12_176r, m12_176g, m12_178, m12_180, m12_183, m12_185, m12_187, m12_190, m12_191, m12_194, m12_196, m12_198, m12_199, m12_200, m12_202, m12_205, m12_206, m12_209, m12_210, m12_212, m12_213, m12_216, m12_219, m12_220, m12_223, m12_225, m12_227, m12_228, m12_231, m12_234, m12_237, nb0, nb1, ou_a, Option.toList_some, Option.toList_none, List.nil_append, List.cons_append]
          exact ih _ _ _ _ _ _ (by (repeat refine LN_ou ?_ (by simp only [setA_len]; exact h _)); exact h) (okS_i _) (okS_i _) (okS_i _) t0 t1 n1 (by rw [e1]; omega)
      · simp [hlt, b1, b2, ku, kf, o6, o7, o8, m12_0, m12_1u, m12_2, m12_3u, m12_5, m12_8, m12_11, m12_12, m12_15, m12_16, m12_17u, m12_17i, m12_17r, m12_17g, m12_18, m12_19, m12_22, m12_23, m12_25, m12_28, m12_29, m12_31, m12_34, m12_35, m12_38, m12_39, m12_40, m12_41, m12_42, m12_45, m12_46, m12_47, m12_48, m12_51, m12_54, m12_57, m12_58i, m12_60, m12_61, m12_64, m12_65, m12_67, m12_70, m12_71, m12_74, m12_75, m12_76u, m12_76i, m12_76r, m12_76g, m12_77, m12_80, m12_81, m12_84, m12_85, m12_87, m12_90, m12_93, m12_94, m12_97, m12_98, m12_99u, m12_99i, m12_99r, m12_99g, m12_101, m12_103, m12_106, m12_108, m12_110, m12_113, m12_114i, m12_116, m12_117, m12_120, m12_121, m12_122, m12_123, m12_124, m12_127, m12_129, m12_130, m12_131, m12_132, m12_133u, m12_133i, m12_133r, m12_133g, m12_137, m12_140, m12_143, m12_144, m12_147, m12_148, m12_150, m12_151u, m12_151i, m12_151r, m12_151g, m12_153, m12_154, m12_157, m12_159, m12_162, m12_163, m12_165, m12_166, m12_167u, m12_167i, m12_167r, m12_167g, m12_169, m12_170, m12_173, m12_175, m12_176u, m12_176i, m12_176r, m12_176g, m12_178, m12_180, m12_183, m12_185, m12_187, m12_190, m12_191, m12_194, m12_196, m12_198, m12_199, m12_200, m12_202, m12_205, m12_206, m12_209, m12_210, m12_212, m12_213, m12_216, m12_219, m12_220, m12_223, m12_225, m12_227, m12_228, m12_231, m12_234, m12_237, nb0, nb1, ou_a, Option.toList_some, Option.toList_none, List.nil_append, List.cons_append]
        exact ih _ _ _ _ _ _ (by (repeat refine LN_ou ?_ (by simp only [setA_len]; exact h _)); exact h) (okS_i _) (okS_i _) (okS_i _) t0 t1 n1 (by rw [e1]; omega)
    · simp [hlt, b1, ku, kf, o6, o7, o8, m12_0, m12_1u, m12_2, m12_3u, m12_5, m12_8, m12_11, m12_12, m12_15, m12_16, m12_17u, m12_17i, m12_17r, m12_17g, m12_18, m12_19, m12_22, m12_23, m12_25, m12_28, m12_29, m12_31, m12_34, m12_35, m12_38, m12_39, m12_40, m12_41, m12_42, m12_45, m12_46, m12_47, m12_48, m12_51, m12_54, m12_57, m12_58i, m12_60, m12_61, m12_64, m12_65, m12_67, m12_70, m12_71, m12_74, m12_75, m12_76u, m12_76i, m12_76r, m12_76g, m12_77, m12_80, m12_81, m12_84, m12_85, m12_87, m12_90, m12_93, m12_94, m12_97, m12_98, m12_99u, m12_99i, m12_99r, m12_99g, m12_101, m12_103, m12_106, m12_108, m12_110, m12_113, m12_114i, m12_116, m12_117, m12_120, m12_121, m12_122, m12_123, m12_124, m12_127, m12_129, m12_130, m12_131, m12_132, m12_133u, m12_133i, m12_133r, m12_133g, m12_137, m12_140, m12_143, m12_144, m12_147, m12_148, m12_150, m12_151u, m12_151i, m12_151r, m12_151g, m12_153, m12_154, m12_157, m12_159, m12_162, m12_163, m12_165, m12_166, m12_167u, m12_167i, m12_167r, m12_167g, m12_169, m12_170, m12_173, m12_175, m12_176u, m12_176i, m12_176r, m12_176g, m12_178, m12_180, m12_183, m12_185, m12_187, m12_190, m12_191, m12_194, m12_196, m12_198, m12_199, m12_200, m12_202, m12_205, m12_206, m12_209, m12_210, m12_212, m12_213, m12_216, m12_219, m12_220, m12_223, m12_225, m12_227, m12_228, m12_231, m12_234, m12_237, nb0, nb1, ou_a, Option.toList_some, Option.toList_none, List.nil_append, List.cons_append]
      exact ih _ _ _ _ _ _ (by (repeat refine LN_ou ?_ (by simp only [setA_len]; exact h _)); exact h) (okS_i _) (okS_i _) (okS_i _) t0 t1 n1 (by rw [e1]; omega)
set_option maxRecDepth 1000000 in
set_option maxHeartbeats 20000000 in
theorem c12b {s : Nat → Int32} (hQ : ∀ A', LN A' → Q none (put 1 pre s A' [])) :
    ∀ (n : Nat) (hd tl : Int32) (k3 k4 k5 k6 k7 k8 : Slot) (A : Nat → List Int32), LN A → okS k3 → okS k4 → okS k5 → okS k6 → okS k7 → okS k8 → ¬ tl < 0 → tl.toInt ≤ 65 → ¬ hd < 0 → hd.toInt + n = 65 →
    M12 59 [.val (.ref 1), .val (.int tl), .val (.int hd), k3, k4, k5, k6, k7, k8] [] (put 1 pre s A []) Q := by
  intro n
  induction n with
  | zero =>
    intro hd tl k3 k4 k5 k6 k7 k8 A h o3 o4 o5 o6 o7 o8 t0 t1 h0 e
    have hge : ¬ hd < 65 := by rw [lt_i, i_65]; omega
    rw [m12_59]
    by_cases b1 : hd < tl <;>
    · simp [hge, b1, m12_0, m12_1u, m12_2, m12_3u, m12_5, m12_8, m12_11, m12_12, m12_15, m12_16, m12_17u, m12_17i, m12_17r, m12_17g, m12_18, m12_19, m12_22, m12_23, m12_25, m12_28, m12_29, m12_31, m12_34, m12_35, m12_38, m12_39, m12_40, m12_41, m12_42, m12_45, m12_46, m12_47, m12_48, m12_51, m12_54, m12_57, m12_58i, m12_60, m12_61, m12_64, m12_65, m12_67, m12_70, m12_71, m12_74, m12_75, m12_76u, m12_76i, m12_76r, m12_76g, m12_77, m12_80, m12_81, m12_84, m12_85, m12_87, m12_90, m12_93, m12_94, m12_97, m12_98, m12_99u, m12_99i, m12_99r, m12_99g, m12_101, m12_103, m12_106, m12_108, m12_110, m12_113, m12_114i, m12_116, m12_117, m12_120, m12_121, m12_122, m12_123, m12_124, m12_127, m12_129, m12_130, m12_131, m12_132, m12_133u, m12_133i, m12_133r, m12_133g, m12_137, m12_140, m12_143, m12_144, m12_147, m12_148, m12_150, m12_151u, m12_151i, m12_151r, m12_151g, m12_153, m12_154, m12_157, m12_159, m12_162, m12_163, m12_165, m12_166, m12_167u, m12_167i, m12_167r, m12_167g, m12_169, m12_170, m12_173, m12_175, m12_176u, m12_176i, m12_176r, m12_176g, m12_178, m12_180, m12_183, m12_185, m12_187, m12_190, m12_191, m12_194, m12_196, m12_198, m12_199, m12_200, m12_202, m12_205, m12_206, m12_209, m12_210, m12_212, m12_213, m12_216, m12_219, m12_220, m12_223, m12_225, m12_227, m12_228, m12_231, m12_234, m12_237, nb0, nb1, ou_a, Option.toList_some, Option.toList_none, List.nil_append, List.cons_append]
      exact hQ A h
  | succ n ih =>
    intro hd tl k3 k4 k5 k6 k7 k8 A h o3 o4 o5 o6 o7 o8 t0 t1 h0 e
    have hlt : hd < 65 := by rw [lt_i, i_65]; omega
    have kq := in_lt h l6 h0 hlt
    have e1 := add1_i (a := hd) (by omega)
    have n1 := succ_nn h0 (by omega)
    rw [m12_59]
    by_cases b1 : hd < tl
    · by_cases b2 : 0 < getA (A 6) hd
      · by_cases b3 : getA (A 6) hd < 65
        · have ku4 := in_lt h l4 (pos_nn b2) b3
          have ku5 := in_lt h l5 (pos_nn b2) b3
          have z0 : inB 0 (A 5) := in_lt h l5 (by decide) (by decide)
          by_cases b4 : getA (A 4) (getA (A 6) hd) < 0
          · simp [hlt, b1, b2, b3, b4, kq, ku4, ku5, z0, o3, o4, o5, m12_0, m12_1u, m12_2, m12_3u, m12_5, m12_8, m12_11, m12_12, m12_15, m12_16, m12_17u, m12_17i, m12_17r, m12_17g, m12_18, m12_19, m12_22, m12_23, m12_25, m12_28, m12_29, m12_31, m12_34, m12_35, m12_38, m12_39, m12_40, m12_41, m12_42, m12_45, m12_46, m12_47, m12_48, m12_51, m12_54, m12_57, m12_58i, m12_60, m12_61, m12_64, m12_65, m12_67, m12_70, m12_71, m12_74, m12_75, m12_76u, m12_76i, m12_76r, m12_76g, m12_77, m12_80, m12_81, m12_84, m12_85, m12_87, m12_90, m12_93, m12_94, m12_97, m12_98, m12_99u, m12_99i, m12_99r, m12_99g, m12_101, m12_103, m12_106, m12_108, m12_110, m12_113, m12_114i, m12_116, m12_117, m12_120, m12_121, m12_122, m12_123, m12_124, m12_127, m12_129, m12_130, m12_131, m12_132, m12_133u, m12_133i, m12_133r, m12_133g, m12_137, m12_140, m12_143, m12_144, m12_147, m12_148, m12_150, m12_151u, m12_151i, m12_151r, m12_151g, m12_153, m12_154, m12_157, m12_159, m12_162, m12_163, m12_165, m12_166, m12_167u, m12_167i, m12_167r, m12_167g, m12_169, m12_170, m12_173, m12_175, m12_176u, m12_176i, m12_176r, m12_176g, m12_178, m12_180, m12_183, m12_185, m12_187, m12_190, m12_191, m12_194, m12_196, m12_198, m12_199, m12_200, m12_202, m12_205, m12_206, m12_209, m12_210, m12_212, m12_213, m12_216, m12_219, m12_220, m12_223, m12_225, m12_227, m12_228, m12_231, m12_234, m12_237, nb0, nb1, ou_a, Option.toList_some, Option.toList_none, List.nil_append, List.cons_append]
            exact c12c b2 b3 (by decide) (by decide) (fun tl' cc k6 k7 k8 A' h' p6 p7 p8 t0' t1' => ih _ _ _ _ _ _ _ _ _ h' (okS_i _) (okS_i _) (okS_i _) p6 p7 p8 t0' t1' n1 (by rw [e1]; omega)) 256 0 tl _ _ _ _ (by (repeat refine LN_ou ?_ (by simp only [setA_len]; exact h _)); exact h) o6 o7 o8 t0 t1 (by decide) rfl
          by_cases b5 : getA (A 4) (getA (A 6) hd) < 65
          · have kf5 := in_lt h l5 b4 b5
            simp [hlt, b1, b2, b3, b4, b5, kq, ku4, ku5, kf5, o3, o4, o5, m12_0, m12_1u, m12_2, m12_3u, m12_5, m12_8, m12_11, m12_12, m12_15, m12_16, m12_17u, m12_17i, m12_17r, m12_17g, m12_18, m12_19, m12_22, m12_23, m12_25, m12_28, m12_29, m12_31, m12_34, m12_35, m12_38, m12_39, m12_40, m12_41, m12_42, m12_45, m12_46, m12_47, m12_48, m12_51, m12_54, m12_57, m12_58i, m12_60, m12_61, m12_64, m12_65, m12_67, m12_70, m12_71, m12_74, m12_75, m12_76u, m12_76i, m12_76r, m12_76g, m12_77, m12_80, m12_81, m12_84, m12_85, m12_87, m12_90, m12_93, m12_94, m12_97, m12_98, m12_99u, m12_99i, m12_99r, m12_99g, m12_101, m12_103, m12_106, m12_108, m12_110, m12_113, m12_114i, m12_116, m12_117, m12_120, m12_121, m12_122, m12_123, m12_124, m12_127, m12_129, m12_130, m12_131, m12_132, m12_133u, m12_133i, m12_133r, m12_133g, m12_137, m12_140, m12_143, m12_144, m12_147, m12_148, m12_150, m12_151u, m12_151i, m12_151r, m12_151g, m12_153, m12_154, m12_157, m12_159, m12_162, m12_163, m12_165, m12_166, m12_167u, m12_167i, m12_167r, m12_167g, m12_169, m12_170, m12_173, m12_175, m12_176u, m12_176i, m12_176r, m12_176g, m12_178, m12_180, m12_183, m12_185, m12_187, m12_190, m12_191, m12_194, m12_196, m12_198, m12_199, m12_200, m12_202, m12_205, m12_206, m12_209, m12_210, m12_212, m12_213, m12_216, m12_219, m12_220, m12_223, m12_225, m12_227, m12_228, m12_231, m12_234, m12_237, nb0, nb1, ou_a, Option.toList_some, Option.toList_none, List.nil_append, List.cons_append]
            exact c12c b2 b3 b4 b5 (fun tl' cc k6 k7 k8 A' h' p6 p7 p8 t0' t1' => ih _ _ _ _ _ _ _ _ _ h' (okS_i _) (okS_i _) (okS_i _) p6 p7 p8 t0' t1' n1 (by rw [e1]; omega)) 256 0 tl _ _ _ _ (by (repeat refine LN_ou ?_ (by simp only [setA_len]; exact h _)); exact h) o6 o7 o8 t0 t1 (by decide) rfl
          · simp [hlt, b1, b2, b3, b4, b5, kq, ku4, ku5, z0, o3, o4, o5, m12_0, m12_1u, m12_2, m12_3u, m12_5, m12_8, m12_11, m12_12, m12_15, m12_16, m12_17u, m12_17i, m12_17r, m12_17g, m12_18, m12_19, m12_22, m12_23, m12_25, m12_28, m12_29, m12_31, m12_34, m12_35, m12_38, m12_39, m12_40, m12_41, m12_42, m12_45, m12_46, m12_47, m12_48, m12_51, m12_54, m12_57, m12_58i, m12_60, m12_61, m12_64, m12_65, m12_67, m12_70, m12_71, m12_74, m12_75, m12_76u, m12_76i, m12_76r, m12_76g, m12_77, m12_80, m12_81, m12_84, m12_85, m12_87, m12_90, m12_93, m12_94, m12_97, m12_98, m12_99u, m12_99i, m12_99r, m12_99g, m12_101, m12_103, m12_106, m12_108, m12_110, m12_113, m12_114i, m12_116, m12_117, m12_120, m12_121, m12_122, m12_123, m12_124, m12_127, m12_129, m12_130, m12_131, m12_132, m12_133u, m12_133i, m12_133r, m12_133g, m12_137, m12_140, m12_143, m12_144, m12_147, m12_148, m12_150, m12_151u, m12_151i, m12_151r, m12_151g, m12_153, m12_154, m12_157, m12_159, m12_162, m12_163, m12_165, m12_166, m12_167u, m12_167i, m12_167r, m12_167g, m12_169, m12_170, m12_173, m12_175, m12_176u, m12_176i, m12_176r, m12_176g, m12_178, m12_180, m12_183, m12_185, m12_187, m12_190, m12_191, m12_194, m12_196, m12_198, m12_199, m12_200, m12_202, m12_205, m12_206, m12_209, m12_210, m12_212, m12_213, m12_216, m12_219, m12_220, m12_223, m12_225, m12_227, m12_228, m12_231, m12_234, m12_237, nb0, nb1, ou_a, Option.toList_some, Option.toList_none, List.nil_append, List.cons_append]
            exact c12c b2 b3 (by decide) (by decide) (fun tl' cc k6 k7 k8 A' h' p6 p7 p8 t0' t1' => ih _ _ _ _ _ _ _ _ _ h' (okS_i _) (okS_i _) (okS_i _) p6 p7 p8 t0' t1' n1 (by rw [e1]; omega)) 256 0 tl _ _ _ _ (by (repeat refine LN_ou ?_ (by simp only [setA_len]; exact h _)); exact h) o6 o7 o8 t0 t1 (by decide) rfl
        · simp [hlt, b1, b2, b3, kq, o3, m12_0, m12_1u, m12_2, m12_3u, m12_5, m12_8, m12_11, m12_12, m12_15, m12_16, m12_17u, m12_17i, m12_17r, m12_17g, m12_18, m12_19, m12_22, m12_23, m12_25, m12_28, m12_29, m12_31, m12_34, m12_35, m12_38, m12_39, m12_40, m12_41, m12_42, m12_45, m12_46, m12_47, m12_48, m12_51, m12_54, m12_57, m12_58i, m12_60, m12_61, m12_64, m12_65, m12_67, m12_70, m12_71, m12_74, m12_75, m12_76u, m12_76i, m12_76r, m12_76g, m12_77, m12_80, m12_81, m12_84, m12_85, m12_87, m12_90, m12_93, m12_94, m12_97, m12_98, m12_99u, m12_99i, m12_99r, m12_99g, m12_101, m12_103, m12_106, m12_108, m12_110, m12_113, m12_114i, m12_116, m12_117, m12_120, m12_121, m12_122, m12_123, m12_124, m12_127, m12_129, m12_130, m12_131, m12_132, m12_133u, m12_133i, m12_133r, m12_133g, m12_137, m12_140, m12_143, m12_144, m12_147, m12_148, m12_150, m12_151u, m12_151i, m12_151r, m12_151g, m12_153, m12_154, m12_157, m12_159, m12_162, m12_163, m12_165, m12_166, m12_167u, m12_167i, m12_167r, m12_167g, m12_169, m12_170, m12_173, m12_175, m12_176u, m12_176i, m12_176r, m12_176g, m12_178, m12_180, m12_183, m12_185, m12_187, m12_190, m12_191, m12_194, m12_196, m12_198, m12_199, m12_200, m12_202, m12_205, m12_206, m12_209, m12_210, m12_212, m12_213, m12_216, m12_219, m12_220, m12_223, m12_225, m12_227, m12_228, m12_231, m12_234, m12_237, nb0, nb1, ou_a, Option.toList_some, Option.toList_none, List.nil_append, List.cons_append]
          exact ih _ _ _ _ _ _ _ _ _ h (okS_i _) o4 o5 o6 o7 o8 t0 t1 n1 (by rw [e1]; omega)
      · simp [hlt, b1, b2, kq, o3, m12_0, m12_1u, m12_2, m12_3u, m12_5, m12_8, m12_11, m12_12, m12_15, m12_16, m12_17u, m12_17i, m12_17r, m12_17g, m12_18, m12_19, m12_22, m12_23, m12_25, m12_28, m12_29, m12_31, m12_34, m12_35, m12_38, m12_39, m12_40, m12_41, m12_42, m12_45, m12_46, m12_47, m12_48, m12_51, m12_54, m12_57, m12_58i, m12_60, m12_61, m12_64, m12_65, m12_67, m12_70, m12_71, m12_74, m12_75, m12_76u, m12_76i, m12_76r, m12_76g, m12_77, m12_80, m12_81, m12_84, m12_85, m12_87, m12_90, m12_93, m12_94, m12_97, m12_98, m12_99u, m12_99i, m12_99r, m12_99g, m12_101, m12_103, m12_106, m12_108, m12_110, m12_113, m12_114i, m12_116, m12_117, m12_120, m12_121, m12_122, m12_123, m12_124, m12_127, m12_129, m12_130, m12_131, m12_132, m12_133u, m12_133i, m12_133r, m12_133g, m12_137, m12_140, m12_143, m12_144, m12_147, m12_148, m12_150, m12_151u, m12_151i, m12_151r, m12_151g, m12_153, m12_154, m12_157, m12_159, m12_162, m12_163, m12_165, m12_166, m12_167u, m12_167i, m12_167r, m12_167g, m12_169, m12_170, m12_173, m12_175, m12_176u, m12_176i, m12_176r, m12_176g, m12_178, m12_180, m12_183, m12_185, m12_187, m12_190, m12_191, m12_194, m12_196, m12_198, m12_199, m12_200, m12_202, m12_205, m12_206, m12_209, m12_210, m12_212, m12_213, m12_216, m12_219, m12_220, m12_223, m12_225, m12_227, m12_228, m12_231, m12_234, m12_237, nb0, nb1, ou_a, Option.toList_some, Option.toList_none, List.nil_append, List.cons_append]
        exact ih _ _ _ _ _ _ _ _ _ h (okS_i _) o4 o5 o6 o7 o8 t0 t1 n1 (by rw [e1]; omega)
    · simp [b1, m12_0, m12_1u, m12_2, m12_3u, m12_5, m12_8, m12_11, m12_12, m12_15, m12_16, m12_17u, m12_17i, m12_17r, m12_17g, m12_18, m12_19, m12_22, m12_23, m12_25, m12_28, m12_29, m12_31, m12_34, m12_35, m12_38, m12_39, m12_40, m12_41, m12_42, m12_45, m12_46, m12_47, m12_48, m12_51, m12_54, m12_57, m12_58i, m12_60, m12_61, m12_64, m12_65, m12_67, m12_70, m12_71, m12_74, m12_75, m12_76u, m12_76i, m12_76r, m12_76g, m12_77, m12_80, m12_81, m12_84, m12_85, m12_87, m12_90, m12_93, m12_94, m12_97, m12_98, m12_99u, m12_99i, m12_99r, m12_99g, m12_101, m12_103, m12_106, m12_108, m12_110, m12_113, m12_114i, m12_116, m12_117, m12_120, m12_121, m12_122, m12_123, m12_124, m12_127, m12_129, m12_130, m12_131, m12_132, m12_133u, m12_133i, m12_133r, m12_133g, m12_137, m12_140, m12_143, m12_144, m12_147, m12_148, m12_150, m12_151u, m12_151i, m12_151r, m12_151g, m12_153, m12_154, m12_157, m12_159, m12_162, m12_163, m12_165, m12_166, m12_167u, m12_167i, m12_167r, m12_167g, m12_169, m12_170, m12_173, m12_175, m12_176u, m12_176i, m12_176r, m12_176g, m12_178, m12_180, m12_183, m12_185, m12_187, m12_190, m12_191, m12_194, m12_196, m12_198, m12_199, m12_200, m12_202, m12_205, m12_206, m12_209, m12_210, m12_212, m12_213, m12_216, m12_219, m12_220, m12_223, m12_225, m12_227, m12_228, m12_231, m12_234, m12_237, nb0, nb1, ou_a, Option.toList_some, Option.toList_none, List.nil_append, List.cons_append]
      exact hQ A h
set_option maxRecDepth 1000000 in
set_option maxHeartbeats 20000000 in
theorem c12a {s : Nat → Int32} (hQ : ∀ A', LN A' → Q none (put 1 pre s A' [])) :
    ∀ (n : Nat) (c tl : Int32) (k3 : Slot) (A : Nat → List Int32), LN A → okS k3 → ¬ tl < 0 → tl.toInt ≤ 65 → ¬ c < 0 → c.toInt + n = 256 →
    M12 4 [.val (.ref 1), .val (.int tl), .val (.int c), k3, .unset, .unset, .unset, .unset, .unset] [] (put 1 pre s A []) Q := by
  intro n
  induction n with
  | zero =>
    intro c tl k3 A h o3 t0 t1 h0 e
    have hge : ¬ c < 256 := by rw [lt_i, i_256]; omega
    rw [m12_4]
    simp [hge, m12_0, m12_1u, m12_2, m12_3u, m12_5, m12_8, m12_11, m12_12, m12_15, m12_16, m12_17u, m12_17i, m12_17r, m12_17g, m12_18, m12_19, m12_22, m12_23, m12_25, m12_28, m12_29, m12_31, m12_34, m12_35, m12_38, m12_39, m12_40, m12_41, m12_42, m12_45, m12_46, m12_47, m12_48, m12_51, m12_54, m12_57, m12_58i, m12_60, m12_61, m12_64, m12_65, m12_67, m12_70, m12_71, m12_74, m12_75, m12_76u, m12_76i, m12_76r, m12_76g, m12_77, m12_80, m12_81, m12_84, m12_85, m12_87, m12_90, m12_93, m12_94, m12_97, m12_98, m12_99u, m12_99i, m12_99r, m12_99g, m12_101, m12_103, m12_106, m12_108, m12_110, m12_113, m12_114i, m12_116, m12_117, m12_120, m12_121, m12_122, m12_123, m12_124, m12_127, m12_129, m12_130, m12_131, m12_132, m12_133u, m12_133i, m12_133r, m12_133g, m12_137, m12_140, m12_143, m12_144, m12_147, m12_148, m12_150, m12_151u, m12_151i, m12_151r, m12_151g, m12_153, m12_154, m12_157, m12_159, m12_162, m12_163, m12_165, m12_166, m12_167u, m12_167i, m12_167r, m12_167g, m12_169, m12_170, m12_173, m12_175, m12_176u, m12_176i, m12_176r, m12_176g, m12_178, m12_180, m12_183, m12_185, m12_187, m12_190, m12_191, m12_194, m12_196, m12_198, m12_199, m12_200, m12_202, m12_205, m12_206, m12_209, m12_210, m12_212, m12_213, m12_216, m12_219, m12_220, m12_223, m12_225, m12_227, m12_228, m12_231, m12_234, m12_237, nb0, nb1, ou_a, Option.toList_some, Option.toList_none, List.nil_append, List.cons_append]
    exact c12b hQ 65 0 tl _ _ _ _ _ _ A h o3 okS_u okS_u okS_u okS_u okS_u t0 t1 (by decide) rfl
  | succ n ih =>
    intro c tl k3 A h o3 t0 t1 h0 e
    have hlt : c < 256 := by rw [lt_i, i_256]; omega
    have c2 : c < 16640 := by rw [lt_i, i_16640]; omega
    have kc := in_lt h l3 h0 c2
    have e1 := add1_i (a := c) (by omega)
    have n1 := succ_nn h0 (by omega)
    rw [m12_4]
    by_cases b1 : 0 < getA (A 3) c
    · by_cases b2 : getA (A 3) c < 65
      · by_cases b3 : tl < 65
        · have kv := in_lt h l4 (pos_nn b1) b2
          have kt := in_lt h l6 t0 b3
          have q := b3
          rw [lt_i, i_65] at q
          simp [hlt, b1, b2, b3, kc, kv, kt, o3, m12_0, m12_1u, m12_2, m12_3u, m12_5, m12_8, m12_11, m12_12, m12_15, m12_16, m12_17u, m12_17i, m12_17r, m12_17g, m12_18, m12_19, m12_22, m12_23, m12_25, m12_28, m12_29, m12_31, m12_34, m12_35, m12_38, m12_39, m12_40, m12_41, m12_42, m12_45, m12_46, m12_47, m12_48, m12_51, m12_54, m12_57, m12_58i, m12_60, m12_61, m12_64, m12_65, m12_67, m12_70, m12_71, m12_74, m12_75, m12_76u, m12_76i, m12_76r, m12_76g, m12_77, m12_80, m12_81, m12_84, m12_85, m12_87, m12_90, m12_93, m12_94, m12_97, m12_98, m12_99u, m12_99i, m12_99r, m12_99g, m12_101, m12_103, m12_106, m12_108, m12_110, m12_113, m12_114i, m12_116, m12_117, m12_120, m12_121, m12_122, m12_123, m12_124, m12_127, m12_129, m12_130, m12_131, m12_132, m12_133u, m12_133i, m12_133r, m12_133g, m12_137, m12_140, m12_143, m12_144, m12_147, m12_148, m12_150, m12_151u, m12_151i, m12_151r, m12_151g, m12_153, m12_154, m12_157, m12_159, m12_162, m12_163, m12_165, m12_166, m12_167u, m12_167i, m12_167r, m12_167g, m12_169, m12_170, m12_173, m12_175, m12_176u, m12_176i, m12_176r, m12_176g, m12_178, m12_180, m12_183, m12_185, m12_187, m12_190, m12_191, m12_194, m12_196, m12_198, m12_199, m12_200, m12_202, m12_205, m12_206, m12_209, m12_210, m12_212, m12_213, m12_216, m12_219, m12_220, m12_223, m12_225, m12_227, m12_228, m12_231, m12_234, m12_237, nb0, nb1, ou_a, Option.toList_some, Option.toList_none, List.nil_append, List.cons_append]
          exact ih _ _ _ _ (by (repeat refine LN_ou ?_ (by simp only [setA_len]; exact h _)); exact h) (okS_i _) (succ_nn t0 (by omega)) (by rw [add1_i (by omega)]; omega) n1 (by rw [e1]; omega)
        · simp [hlt, b1, b2, b3, kc, o3, m12_0, m12_1u, m12_2, m12_3u, m12_5, m12_8, m12_11, m12_12, m12_15, m12_16, m12_17u, m12_17i, m12_17r, m12_17g, m12_18, m12_19, m12_22, m12_23, m12_25, m12_28, m12_29, m12_31, m12_34, m12_35, m12_38, m12_39, m12_40, m12_41, m12_42, m12_45, m12_46, m12_47, m12_48, m12_51, m12_54, m12_57, m12_58i, m12_60, m12_61, m12_64, m12_65, m12_67, m12_70, m12_71, m12_74, m12_75, m12_76u, m12_76i, m12_76r, m12_76g, m12_77, m12_80, m12_81, m12_84, m12_85, m12_87, m12_90, m12_93, m12_94, m12_97, m12_98, m12_99u, m12_99i, m12_99r, m12_99g, m12_101, m12_103, m12_106, m12_108, m12_110, m12_113, m12_114i, m12_116, m12_117, m12_120, m12_121, m12_122, m12_123, m12_124, m12_127, m12_129, m12_130, m12_131, m12_132, m12_133u, m12_133i, m12_133r, m12_133g, m12_137, m12_140, m12_143, m12_144, m12_147, m12_148, m12_150, m12_151u, m12_151i, m12_151r, m12_151g, m12_153, m12_154, m12_157, m12_159, m12_162, m12_163, m12_165, m12_166, m12_167u, m12_167i, m12_167r, m12_167g, m12_169, m12_170, m12_173, m12_175, m12_176u, m12_176i, m12_176r, m12_176g, m12_178, m12_180, m12_183, m12_185, m12_187, m12_190, m12_191, m12_194, m12_196, m12_198, m12_199, m12_200, m12_202, m12_205, m12_206, m12_209, m12_210, m12_212, m12_213, m12_216, m12_219, m12_220, m12_223, m12_225, m12_227, m12_228, m12_231, m12_234, m12_237, nb0, nb1, ou_a, Option.toList_some, Option.toList_none, List.nil_append, List.cons_append]
          exact ih _ _ _ _ h (okS_i _) t0 t1 n1 (by rw [e1]; omega)
      · simp [hlt, b1, b2, kc, o3, m12_0, m12_1u, m12_2, m12_3u, m12_5, m12_8, m12_11, m12_12, m12_15, m12_16, m12_17u, m12_17i, m12_17r, m12_17g, m12_18, m12_19, m12_22, m12_23, m12_25, m12_28, m12_29, m12_31, m12_34, m12_35, m12_38, m12_39, m12_40, m12_41, m12_42, m12_45, m12_46, m12_47, m12_48, m12_51, m12_54, m12_57, m12_58i, m12_60, m12_61, m12_64, m12_65, m12_67, m12_70, m12_71, m12_74, m12_75, m12_76u, m12_76i, m12_76r, m12_76g, m12_77, m12_80, m12_81, m12_84, m12_85, m12_87, m12_90, m12_93, m12_94, m12_97, m12_98, m12_99u, m12_99i, m12_99r, m12_99g, m12_101, m12_103, m12_106, m12_108, m12_110, m12_113, m12_114i, m12_116, m12_117, m12_120, m12_121, m12_122, m12_123, m12_124, m12_127, m12_129, m12_130, m12_131, m12_132, m12_133u, m12_133i, m12_133r, m12_133g, m12_137, m12_140, m12_143, m12_144, m12_147, m12_148, m12_150, m12_151u, m12_151i, m12_151r, m12_151g, m12_153, m12_154, m12_157, m12_159, m12_162, m12_163, m12_165, m12_166, m12_167u, m12_167i, m12_167r, m12_167g, m12_169, m12_170, m12_173, m12_175, m12_176u, m12_176i, m12_176r, m12_176g, m12_178, m12_180, m12_183, m12_185, m12_187, m12_190, m12_191, m12_194, m12_196, m12_198, m12_199, m12_200, m12_202, m12_205, m12_206, m12_209, m12_210, m12_212, m12_213, m12_216, m12_219, m12_220, m12_223, m12_225, m12_227, m12_228, m12_231, m12_234, m12_237, nb0, nb1, ou_a, Option.toList_some, Option.toList_none, List.nil_append, List.cons_append]
        exact ih _ _ _ _ h (okS_i _) t0 t1 n1 (by rw [e1]; omega)
    · simp [hlt, b1, kc, o3, m12_0, m12_1u, m12_2, m12_3u, m12_5, m12_8, m12_11, m12_12, m12_15, m12_16, m12_17u, m12_17i, m12_17r, m12_17g, m12_18, m12_19, m12_22, m12_23, m12_25, m12_28, m12_29, m12_31, m12_34, m12_35, m12_38, m12_39, m12_40, m12_41, m12_42, m12_45, m12_46, m12_47, m12_48, m12_51, m12_54, m12_57, m12_58i, m12_60, m12_61, m12_64, m12_65, m12_67, m12_70, m12_71, m12_74, m12_75, m12_76u, m12_76i, m12_76r, m12_76g, m12_77, m12_80, m12_81, m12_84, m12_85, m12_87, m12_90, m12_93, m12_94, m12_97, m12_98, m12_99u, m12_99i, m12_99r, m12_99g, m12_101, m12_103, m12_106, m12_108, m12_110, m12_113, m12_114i, m12_116, m12_117, m12_120, m12_121, m12_122, m12_123, m12_124, m12_127, m12_129, m12_130, m12_131, m12_132, m12_133u, m12_133i, m12_133r, m12_133g, m12_137, m12_140, m12_143, m12_144, m12_147, m12_148, m12_150, m12_151u, m12_151i, m12_151r, m12_151g, m12_153, m12_154, m12_157, m12_159, m12_162, m12_163, m12_165, m12_166, m12_167u, m12_167i, m12_167r, m12_167g, m12_169, m12_170, m12_173, m12_175, m12_176u, m12_176i, m12_176r, m12_176g, m12_178, m12_180, m12_183, m12_185, m12_187, m12_190, m12_191, m12_194, m12_196, m12_198, m12_199, m12_200, m12_202, m12_205, m12_206, m12_209, m12_210, m12_212, m12_213, m12_216, m12_219, m12_220, m12_223, m12_225, m12_227, m12_228, m12_231, m12_234, m12_237, nb0, nb1, ou_a, Option.toList_some, Option.toList_none, List.nil_append, List.cons_append]
      exact ih _ _ _ _ h (okS_i _) t0 t1 n1 (by rw [e1]; omega)
theorem c12 {s : Nat → Int32} {A : Nat → List Int32} (h : LN A) (hQ : ∀ A', LN A' → Q none (put 1 pre s A' [])) : M12 0 [.val (.ref 1), .unset, .unset, .unset, .unset, .unset, .unset, .unset, .unset] [] (put 1 pre s A []) Q := by
  simp [m12_0, m12_1u, m12_2, m12_3u, m12_5, m12_8, m12_11, m12_12, m12_15, m12_16, m12_17u, m12_17i, m12_17r, m12_17g, m12_18, m12_19, m12_22, m12_23, m12_25, m12_28, m12_29, m12_31, m12_34, m12_35, m12_38, m12_39, m12_40, m12_41, m12_42, m12_45, m12_46, m12_47, m12_48, m12_51, m12_54, m12_57, m12_58i, m12_60, m12_61, m12_64, m12_65, m12_67, m12_70, m12_71, m12_74, m12_75, m12_76u, m12_76i, m12_76r, m12_76g, m12_77, m12_80, m12_81, m12_84, m12_85, m12_87, m12_90, m12_93, m12_94, m12_97, m12_98, m12_99u, m12_99i, m12_99r, m12_99g, m12_101, m12_103, m12_106, m12_108, m12_110, m12_113, m12_114i, m12_116, m12_117, m12_120, m12_121, m12_122, m12_123, m12_124, m12_127, m12_129, m12_130, m12_131, m12_132, m12_133u, m12_133i, m12_133r, m12_133g, m12_137, m12_140, m12_143, m12_144, m12_147, m12_148, m12_150, m12_151u, m12_151i, m12_151r, m12_151g, m12_153, m12_154, m12_157, m12_159, m12_162, m12_163, m12_165, m12_166, m12_167u, m12_167i, m12_167r, m12_167g, m12_169, m12_170, m12_173, m12_175, m12_176u, m12_176i, m12_176r, m12_176g, m12_178, m12_180, m12_183, m12_185, m12_187, m12_190, m12_191, m12_194, m12_196, m12_198, m12_199, m12_200, m12_202, m12_205, m12_206, m12_209, m12_210, m12_212, m12_213, m12_216, m12_219, m12_220, m12_223, m12_225, m12_227, m12_228, m12_231, m12_234, m12_237, nb0, nb1, ou_a, Option.toList_some, Option.toList_none, List.nil_append, List.cons_append]
  exact c12a hQ 256 0 0 _ A h okS_u (by decide) (by decide) (by decide) rfl
theorem c20 {sg p : Int32} {s : Nat → Int32} {A : Nat → List Int32} (h : LN A) (hQ : ∀ A', LN A' → Q none (put 1 pre (ou s 16 (s 16 + 1)) A' [])) : M20 0 [.val (.ref 1), .val (.int sg), .val (.int p)] [] (put 1 pre s A []) Q := by
  by_cases a1 : s 16 < 0
  · simp [a1, m20_0, m20_1, m20_4, m20_7, m20_8, m20_11, m20_13, m20_16, m20_17, m20_20, m20_21, m20_24, m20_25, m20_26, m20_27, m20_30, m20_31, m20_34, m20_35, m20_36, m20_37, m20_38, m20_41, m20_42, m20_43, m20_46, nb0, nb1, ou_a, Option.toList_some, Option.toList_none, List.nil_append, List.cons_append]
    exact hQ A h
  by_cases a2 : s 16 < 64
  · have k1 := in_lt h l10 a1 a2
    have k2 := in_lt h l11 a1 a2
    simp [a1, a2, k1, k2, m20_0, m20_1, m20_4, m20_7, m20_8, m20_11, m20_13, m20_16, m20_17, m20_20, m20_21, m20_24, m20_25, m20_26, m20_27, m20_30, m20_31, m20_34, m20_35, m20_36, m20_37, m20_38, m20_41, m20_42, m20_43, m20_46, nb0, nb1, ou_a, Option.toList_some, Option.toList_none, List.nil_append, List.cons_append]
    exact hQ _ (by (repeat refine LN_ou ?_ (by simp only [setA_len]; exact h _)); exact h)
  · simp [a1, a2, m20_0, m20_1, m20_4, m20_7, m20_8, m20_11, m20_13, m20_16, m20_17, m20_20, m20_21, m20_24, m20_25, m20_26, m20_27, m20_30, m20_31, m20_34, m20_35, m20_36, m20_37, m20_38, m20_41, m20_42, m20_43, m20_46, nb0, nb1, ou_a, Option.toList_some, Option.toList_none, List.nil_append, List.cons_append]
    exact hQ A h
theorem c19a {p v ix nx mk : Int32} {s0 : Nat → Int32} {m0 : Int} (hm : 0 ≤ m0) (hm' : m0 ≤ 10000) (hQ : ∀ s' A', LN A' → (∀ i, i ≠ 6 → i ≠ 16 → s' i = s0 i) → m0 ≤ (s' 16).toInt → (s' 16).toInt ≤ m0 + 16 → Q none (put 1 pre s' A' [])) :
    ∀ (n : Nat) (k : Int32) (s : Nat → Int32) (A : Nat → List Int32), LN A → (∀ i, i ≠ 6 → i ≠ 16 → s i = s0 i) → m0 ≤ (s 16).toInt → (s 16).toInt ≤ m0 + k.toInt → ¬ k < 0 → k.toInt + n = 16 →
    M19 75 [.val (.ref 1), .val (.int p), .val (.int v), .val (.int ix), .val (.int nx), .val (.int mk), .val (.int k)] [] (put 1 pre s A []) Q := by
  intro n
  induction n with
  | zero =>
    intro k s A h hs m1 m2 h0 e
    have hge : ¬ k < 16 := by rw [lt_i, i_16]; omega
    rw [m19_75]
    by_cases b1 : k < s 2 <;>
    · simp [hge, b1, m19_0, m19_1, m19_4, m19_7, m19_8, m19_9, m19_10u, m19_11, m19_12, m19_15, m19_16, m19_19, m19_22, m19_23, m19_24, m19_27, m19_28, m19_29, m19_32, m19_33, m19_34u, m19_36, m19_38, m19_41, m19_43, m19_45, m19_48, m19_49i, m19_51, m19_52, m19_54, m19_57, m19_58, m19_61, m19_63, m19_64u, m19_66, m19_68, m19_71, m19_72, m19_73u, m19_77, m19_78, m19_81, m19_84, m19_86, m19_88, m19_91, m19_93, m19_95, m19_96, m19_97, m19_98, m19_101, m19_102, m19_104, m19_105, m19_108, m19_111, m19_114, nb0, nb1, ou_a, Option.toList_some, Option.toList_none, List.nil_append, List.cons_append]
      exact hQ s A h hs m1 (by omega)
  | succ n ih =>
    intro k s A h hs m1 m2 h0 e
    have hlt : k < 16 := by rw [lt_i, i_16]; omega
    have e1 := add1_i (a := k) (by omega)
    have n1 := succ_nn h0 (by omega)
    rw [m19_75]
    by_cases b1 : k < s 2
    · by_cases b2 : mk >>> (k &&& 31) &&& 1 = 0
      · simp [hlt, b1, b2, m19_0, m19_1, m19_4, m19_7, m19_8, m19_9, m19_10u, m19_11, m19_12, m19_15, m19_16, m19_19, m19_22, m19_23, m19_24, m19_27, m19_28, m19_29, m19_32, m19_33, m19_34u, m19_36, m19_38, m19_41, m19_43, m19_45, m19_48, m19_49i, m19_51, m19_52, m19_54, m19_57, m19_58, m19_61, m19_63, m19_64u, m19_66, m19_68, m19_71, m19_72, m19_73u, m19_77, m19_78, m19_81, m19_84, m19_86, m19_88, m19_91, m19_93, m19_95, m19_96, m19_97, m19_98, m19_101, m19_102, m19_104, m19_105, m19_108, m19_111, m19_114, nb0, nb1, ou_a, Option.toList_some, Option.toList_none, List.nil_append, List.cons_append]
        exact ih _ _ _ h hs m1 (by rw [e1]; omega) n1 (by rw [e1]; omega)
      · simp [hlt, b1, b2, m19_0, m19_1, m19_4, m19_7, m19_8, m19_9, m19_10u, m19_11, m19_12, m19_15, m19_16, m19_19, m19_22, m19_23, m19_24, m19_27, m19_28, m19_29, m19_32, m19_33, m19_34u, m19_36, m19_38, m19_41, m19_43, m19_45, m19_48, m19_49i, m19_51, m19_52, m19_54, m19_57, m19_58, m19_61, m19_63, m19_64u, m19_66, m19_68, m19_71, m19_72, m19_73u, m19_77, m19_78, m19_81, m19_84, m19_86, m19_88, m19_91, m19_93, m19_95, m19_96, m19_97, m19_98, m19_101, m19_102, m19_104, m19_105, m19_108, m19_111, m19_114, nb0, nb1, ou_a, Option.toList_some, Option.toList_none, List.nil_append, List.cons_append]
        refine c20 h (fun A' h' => ?_)
        simp [m19_0, m19_1, m19_4, m19_7, m19_8, m19_9, m19_10u, m19_11, m19_12, m19_15, m19_16, m19_19, m19_22, m19_23, m19_24, m19_27, m19_28, m19_29, m19_32, m19_33, m19_34u, m19_36, m19_38, m19_41, m19_43, m19_45, m19_48, m19_49i, m19_51, m19_52, m19_54, m19_57, m19_58, m19_61, m19_63, m19_64u, m19_66, m19_68, m19_71, m19_72, m19_73u, m19_77, m19_78, m19_81, m19_84, m19_86, m19_88, m19_91, m19_93, m19_95, m19_96, m19_97, m19_98, m19_101, m19_102, m19_104, m19_105, m19_108, m19_111, m19_114, nb0, nb1, ou_a, Option.toList_some, Option.toList_none, List.nil_append, List.cons_append]
        have e2 := add1_i (a := s 16) (by omega)
        exact ih _ _ _ h' (fun i q1 q2 => by rw [ou_a, if_neg q2]; exact hs i q1 q2) (by rw [ou_a, if_pos rfl, e2]; omega) (by rw [ou_a, if_pos rfl, e2, e1]; omega) n1 (by rw [e1]; omega)
    · simp [b1, m19_0, m19_1, m19_4, m19_7, m19_8, m19_9, m19_10u, m19_11, m19_12, m19_15, m19_16, m19_19, m19_22, m19_23, m19_24, m19_27, m19_28, m19_29, m19_32, m19_33, m19_34u, m19_36, m19_38, m19_41, m19_43, m19_45, m19_48, m19_49i, m19_51, m19_52, m19_54, m19_57, m19_58, m19_61, m19_63, m19_64u, m19_66, m19_68, m19_71, m19_72, m19_73u, m19_77, m19_78, m19_81, m19_84, m19_86, m19_88, m19_91, m19_93, m19_95, m19_96, m19_97, m19_98, m19_101, m19_102, m19_104, m19_105, m19_108, m19_111, m19_114, nb0, nb1, ou_a, Option.toList_some, Option.toList_none, List.nil_append, List.cons_append]
      exact hQ s A h hs m1 (by omega)
set_option maxRecDepth 1000000 in
set_option maxHeartbeats 20000000 in
theorem c19 {p v : Int32} {s : Nat → Int32} {A : Nat → List Int32} (h : LN A) (hm : 0 ≤ (s 16).toInt) (hm' : (s 16).toInt ≤ 10000) (hQ : ∀ s' A', LN A' → (∀ i, i ≠ 6 → i ≠ 16 → s' i = s i) → (s 16).toInt ≤ (s' 16).toInt → (s' 16).toInt ≤ (s 16).toInt + 16 → Q none (put 1 pre s' A' [])) :
    M19 0 [.val (.ref 1), .val (.int p), .val (.int v), .unset, .unset, .unset, .unset] [] (put 1 pre s A []) Q := by
  have fr : ∀ (w : Int32) (i : Nat), i ≠ 6 → i ≠ 16 → (ou s 6 w) i = s i := fun w i q1 _ => by rw [ou_a, if_neg q1]
  have f16 : ∀ w : Int32, (ou s 6 w) 16 = s 16 := fun w => rfl
  by_cases a1 : s 6 * 256 + v < 0
  · simp [a1, m19_0, m19_1, m19_4, m19_7, m19_8, m19_9, m19_10u, m19_11, m19_12, m19_15, m19_16, m19_19, m19_22, m19_23, m19_24, m19_27, m19_28, m19_29, m19_32, m19_33, m19_34u, m19_36, m19_38, m19_41, m19_43, m19_45, m19_48, m19_49i, m19_51, m19_52, m19_54, m19_57, m19_58, m19_61, m19_63, m19_64u, m19_66, m19_68, m19_71, m19_72, m19_73u, m19_77, m19_78, m19_81, m19_84, m19_86, m19_88, m19_91, m19_93, m19_95, m19_96, m19_97, m19_98, m19_101, m19_102, m19_104, m19_105, m19_108, m19_111, m19_114, nb0, nb1, ou_a, Option.toList_some, Option.toList_none, List.nil_append, List.cons_append]
    exact hQ _ A h (fr _) (by rw [f16]; omega) (by rw [f16]; omega)
  by_cases a2 : s 6 * 256 + v < 16640
  · have k3 := in_lt h l3 a1 a2
    have z0 : inB 0 (A 5) := in_lt h l5 (by decide) (by decide)
    by_cases a3 : getA (A 3) (s 6 * 256 + v) < 0
    · by_cases a6 : getA (A 5) 0 = 0
      · simp [a1, a2, a3, a6, k3, z0, m19_0, m19_1, m19_4, m19_7, m19_8, m19_9, m19_10u, m19_11, m19_12, m19_15, m19_16, m19_19, m19_22, m19_23, m19_24, m19_27, m19_28, m19_29, m19_32, m19_33, m19_34u, m19_36, m19_38, m19_41, m19_43, m19_45, m19_48, m19_49i, m19_51, m19_52, m19_54, m19_57, m19_58, m19_61, m19_63, m19_64u, m19_66, m19_68, m19_71, m19_72, m19_73u, m19_77, m19_78, m19_81, m19_84, m19_86, m19_88, m19_91, m19_93, m19_95, m19_96, m19_97, m19_98, m19_101, m19_102, m19_104, m19_105, m19_108, m19_111, m19_114, nb0, nb1, ou_a, Option.toList_some, Option.toList_none, List.nil_append, List.cons_append]
        exact hQ _ A h (fr _) (by rw [f16]; omega) (by rw [f16]; omega)
      · simp [a1, a2, a3, a6, k3, z0, m19_0, m19_1, m19_4, m19_7, m19_8, m19_9, m19_10u, m19_11, m19_12, m19_15, m19_16, m19_19, m19_22, m19_23, m19_24, m19_27, m19_28, m19_29, m19_32, m19_33, m19_34u, m19_36, m19_38, m19_41, m19_43, m19_45, m19_48, m19_49i, m19_51, m19_52, m19_54, m19_57, m19_58, m19_61, m19_63, m19_64u, m19_66, m19_68, m19_71, m19_72, m19_73u, m19_77, m19_78, m19_81, m19_84, m19_86, m19_88, m19_91, m19_93, m19_95, m19_96, m19_97, m19_98, m19_101, m19_102, m19_104, m19_105, m19_108, m19_111, m19_114, nb0, nb1, ou_a, Option.toList_some, Option.toList_none, List.nil_append, List.cons_append]
        exact c19a hm hm' (fun s' A' h' fr' g1 g2 => hQ s' A' h' fr' g1 g2) 16 0 _ A h (fr _) (by rw [f16]; omega) (by rw [f16, i_0]; omega) (by decide) rfl
    by_cases a4 : getA (A 3) (s 6 * 256 + v) < 65
    · have k5 := in_lt h l5 a3 a4
      by_cases a6 : getA (A 5) (getA (A 3) (s 6 * 256 + v)) = 0
      · simp [a1, a2, a3, a4, a6, k3, k5, m19_0, m19_1, m19_4, m19_7, m19_8, m19_9, m19_10u, m19_11, m19_12, m19_15, m19_16, m19_19, m19_22, m19_23, m19_24, m19_27, m19_28, m19_29, m19_32, m19_33, m19_34u, m19_36, m19_38, m19_41, m19_43, m19_45, m19_48, m19_49i, m19_51, m19_52, m19_54, m19_57, m19_58, m19_61, m19_63, m19_64u, m19_66, m19_68, m19_71, m19_72, m19_73u, m19_77, m19_78, m19_81, m19_84, m19_86, m19_88, m19_91, m19_93, m19_95, m19_96, m19_97, m19_98, m19_101, m19_102, m19_104, m19_105, m19_108, m19_111, m19_114, nb0, nb1, ou_a, Option.toList_some, Option.toList_none, List.nil_append, List.cons_append]
        exact hQ _ A h (fr _) (by rw [f16]; omega) (by rw [f16]; omega)
      · simp [a1, a2, a3, a4, a6, k3, k5, m19_0, m19_1, m19_4, m19_7, m19_8, m19_9, m19_10u, m19_11, m19_12, m19_15, m19_16, m19_19, m19_22, m19_23, m19_24, m19_27, m19_28, m19_29, m19_32, m19_33, m19_34u, m19_36, m19_38, m19_41, m19_43, m19_45, m19_48, m19_49i, m19_51, m19_52, m19_54, m19_57, m19_58, m19_61, m19_63, m19_64u, m19_66, m19_68, m19_71, m19_72, m19_73u, m19_77, m19_78, m19_81, m19_84, m19_86, m19_88, m19_91, m19_93, m19_95, m19_96, m19_97, m19_98, m19_101, m19_102, m19_104, m19_105, m19_108, m19_111, m19_114, nb0, nb1, ou_a, Option.toList_some, Option.toList_none, List.nil_append, List.cons_append]
        exact c19a hm hm' (fun s' A' h' fr' g1 g2 => hQ s' A' h' fr' g1 g2) 16 0 _ A h (fr _) (by rw [f16]; omega) (by rw [f16, i_0]; omega) (by decide) rfl
    · by_cases a6 : getA (A 5) 0 = 0
      · simp [a1, a2, a3, a4, a6, k3, z0, m19_0, m19_1, m19_4, m19_7, m19_8, m19_9, m19_10u, m19_11, m19_12, m19_15, m19_16, m19_19, m19_22, m19_23, m19_24, m19_27, m19_28, m19_29, m19_32, m19_33, m19_34u, m19_36, m19_38, m19_41, m19_43, m19_45, m19_48, m19_49i, m19_51, m19_52, m19_54, m19_57, m19_58, m19_61, m19_63, m19_64u, m19_66, m19_68, m19_71, m19_72, m19_73u, m19_77, m19_78, m19_81, m19_84, m19_86, m19_88, m19_91, m19_93, m19_95, m19_96, m19_97, m19_98, m19_101, m19_102, m19_104, m19_105, m19_108, m19_111, m19_114, nb0, nb1, ou_a, Option.toList_some, Option.toList_none, List.nil_append, List.cons_append]
        exact hQ _ A h (fr _) (by rw [f16]; omega) (by rw [f16]; omega)
      · simp [a1, a2, a3, a4, a6, k3, z0, m19_0, m19_1, m19_4, m19_7, m19_8, m19_9, m19_10u, m19_11, m19_12, m19_15, m19_16, m19_19, m19_22, m19_23, m19_24, m19_27, m19_28, m19_29, m19_32, m19_33, m19_34u, m19_36, m19_38, m19_41, m19_43, m19_45, m19_48, m19_49i, m19_51, m19_52, m19_54, m19_57, m19_58, m19_61, m19_63, m19_64u, m19_66, m19_68, m19_71, m19_72, m19_73u, m19_77, m19_78, m19_81, m19_84, m19_86, m19_88, m19_91, m19_93, m19_95, m19_96, m19_97, m19_98, m19_101, m19_102, m19_104, m19_105, m19_108, m19_111, m19_114, nb0, nb1, ou_a, Option.toList_some, Option.toList_none, List.nil_append, List.cons_append]
        exact c19a hm hm' (fun s' A' h' fr' g1 g2 => hQ s' A' h' fr' g1 g2) 16 0 _ A h (fr _) (by rw [f16]; omega) (by rw [f16, i_0]; omega) (by decide) rfl
  · simp [a1, a2, m19_0, m19_1, m19_4, m19_7, m19_8, m19_9, m19_10u, m19_11, m19_12, m19_15, m19_16, m19_19, m19_22, m19_23, m19_24, m19_27, m19_28, m19_29, m19_32, m19_33, m19_34u, m19_36, m19_38, m19_41, m19_43, m19_45, m19_48, m19_49i, m19_51, m19_52, m19_54, m19_57, m19_58, m19_61, m19_63, m19_64u, m19_66, m19_68, m19_71, m19_72, m19_73u, m19_77, m19_78, m19_81, m19_84, m19_86, m19_88, m19_91, m19_93, m19_95, m19_96, m19_97, m19_98, m19_101, m19_102, m19_104, m19_105, m19_108, m19_111, m19_114, nb0, nb1, ou_a, Option.toList_some, Option.toList_none, List.nil_append, List.cons_append]
    exact hQ _ A h (fr _) (by rw [f16]; omega) (by rw [f16]; omega)
theorem r_inc (a b : Int32) : (a + 1) + (b - 1) = a + b := by
  calc (a + 1) + (b - 1) = a + (1 + (b + -1)) := by rw [Int32.sub_eq_add_neg, Int32.add_assoc]
    _ = a + (b + (1 + -1)) := by rw [← Int32.add_assoc 1 b, Int32.add_comm 1 b, Int32.add_assoc b]
    _ = a + b := by rw [show (1 : Int32) + -1 = 0 from rfl, Int32.add_zero]
set_option maxRecDepth 1000000 in
set_option maxHeartbeats 20000000 in
theorem c17a {s0 : Nat → Int32} {m0 d0 : Int} {t : Int32} (hm : 0 ≤ m0) (hd : 0 ≤ d0) (hQ : ∀ s' A', LN A' → (∀ i, i ≠ 6 → i ≠ 7 → i ≠ 8 → i ≠ 16 → s' i = s0 i) → s' 7 + s' 8 = t → m0 ≤ (s' 16).toInt → (s' 16).toInt ≤ 16 * (s' 7).toInt → d0 ≤ (s' 7).toInt → (s' 7).toInt ≤ 256 → Q none (put 1 pre s' A' [])) :
    ∀ (n : Nat) (i : Int32) (k2 k3 : Slot) (s : Nat → Int32) (A : Nat → List Int32), LN A → okS k2 → okS k3 → (∀ i, i ≠ 6 → i ≠ 7 → i ≠ 8 → i ≠ 16 → s i = s0 i) → s 7 + s 8 = t → m0 ≤ (s 16).toInt → (s 16).toInt ≤ 16 * (s 7).toInt → d0 ≤ (s 7).toInt → (s 7).toInt ≤ 256 → ¬ i < 0 → i.toInt + n = 256 →
    M17 2 [.val (.ref 1), .val (.int i), k2, k3] [] (put 1 pre s A []) Q := by
  intro n
  induction n with
  | zero =>
    intro i k2 k3 s A h o2 o3 hs g1 g2 g3 g4 g5 h0 e
    have hge : ¬ i < 256 := by rw [lt_i, i_256]; omega
    rw [m17_2]
    simp [hge, m17_0, m17_1u, m17_3, m17_6, m17_9, m17_10, m17_13, m17_16, m17_19, m17_20, m17_23, m17_24, m17_27, m17_28, m17_31, m17_32, m17_33, m17_36u, m17_36i, m17_36r, m17_36g, m17_37, m17_38, m17_41, m17_42, m17_43u, m17_43i, m17_43r, m17_43g, m17_44, m17_45, m17_46, m17_47, m17_48, m17_51, m17_52, m17_53, m17_56, m17_57, m17_58, m17_61, m17_62, m17_63, m17_64, m17_67, m17_70, m17_73, nb0, nb1, ou_a, Option.toList_some, Option.toList_none, List.nil_append, List.cons_append]
    exact hQ s A h hs g1 g2 g3 g4 g5
  | succ n ih =>
    intro i k2 k3 s A h o2 o3 hs g1 g2 g3 g4 g5 h0 e
    have hlt : i < 256 := by rw [lt_i, i_256]; omega
    have e1 := add1_i (a := i) (by omega)
    have n1 := succ_nn h0 (by omega)
    rw [m17_2]
    by_cases b1 : s 7 < 256
    · have d7 : ¬ s 7 < 0 := by rw [nn_i]; omega
      have k7 := in_lt h l7 d7 b1
      have k8 := in_lt h l8 d7 b1
      by_cases b2 : getA (A 7) (s 7) = 0
      · simp [hlt, b1, b2, k7, m17_0, m17_1u, m17_3, m17_6, m17_9, m17_10, m17_13, m17_16, m17_19, m17_20, m17_23, m17_24, m17_27, m17_28, m17_31, m17_32, m17_33, m17_36u, m17_36i, m17_36r, m17_36g, m17_37, m17_38, m17_41, m17_42, m17_43u, m17_43i, m17_43r, m17_43g, m17_44, m17_45, m17_46, m17_47, m17_48, m17_51, m17_52, m17_53, m17_56, m17_57, m17_58, m17_61, m17_62, m17_63, m17_64, m17_67, m17_70, m17_73, nb0, nb1, ou_a, Option.toList_some, Option.toList_none, List.nil_append, List.cons_append]
        exact hQ s A h hs g1 g2 g3 g4 g5
      · simp [hlt, b1, b2, k7, k8, o2, o3, m17_0, m17_1u, m17_3, m17_6, m17_9, m17_10, m17_13, m17_16, m17_19, m17_20, m17_23, m17_24, m17_27, m17_28, m17_31, m17_32, m17_33, m17_36u, m17_36i, m17_36r, m17_36g, m17_37, m17_38, m17_41, m17_42, m17_43u, m17_43i, m17_43r, m17_43g, m17_44, m17_45, m17_46, m17_47, m17_48, m17_51, m17_52, m17_53, m17_56, m17_57, m17_58, m17_61, m17_62, m17_63, m17_64, m17_67, m17_70, m17_73, nb0, nb1, ou_a, Option.toList_some, Option.toList_none, List.nil_append, List.cons_append]
        have q := b1
        rw [lt_i, i_256] at q
        have e7 := add1_i (a := s 7) (by omega)
        refine c19 h (by show 0 ≤ (s 16).toInt; omega) (by show (s 16).toInt ≤ 10000; omega) (fun s' A' h' fr u1 u2 => ?_)
        have v7 : s' 7 = s 7 + 1 := fr 7 (by decide) (by decide)
        have v8 : s' 8 = s 8 - 1 := fr 8 (by decide) (by decide)
        have w1 : (s 16).toInt ≤ (s' 16).toInt := u1
        have w2 : (s' 16).toInt ≤ (s 16).toInt + 16 := u2
        simp [m17_0, m17_1u, m17_3, m17_6, m17_9, m17_10, m17_13, m17_16, m17_19, m17_20, m17_23, m17_24, m17_27, m17_28, m17_31, m17_32, m17_33, m17_36u, m17_36i, m17_36r, m17_36g, m17_37, m17_38, m17_41, m17_42, m17_43u, m17_43i, m17_43r, m17_43g, m17_44, m17_45, m17_46, m17_47, m17_48, m17_51, m17_52, m17_53, m17_56, m17_57, m17_58, m17_61, m17_62, m17_63, m17_64, m17_67, m17_70, m17_73, nb0, nb1, ou_a, Option.toList_some, Option.toList_none, List.nil_append, List.cons_append]
        refine ih _ _ _ _ _ h' (okS_i _) (okS_i _) (fun i q6 q7 q8 q16 => ?_) ?_ ?_ ?_ ?_ ?_ n1 (by rw [e1]; omega)
        · rw [fr i q6 q16]
          simp only [ou_a, if_neg q7, if_neg q8]
          exact hs i q6 q7 q8 q16
        · rw [v7, v8, r_inc]; exact g1
        · omega
        · rw [v7, e7]; omega
        · rw [v7, e7]; omega
        · rw [v7, e7]; omega
    · simp [hlt, b1, m17_0, m17_1u, m17_3, m17_6, m17_9, m17_10, m17_13, m17_16, m17_19, m17_20, m17_23, m17_24, m17_27, m17_28, m17_31, m17_32, m17_33, m17_36u, m17_36i, m17_36r, m17_36g, m17_37, m17_38, m17_41, m17_42, m17_43u, m17_43i, m17_43r, m17_43g, m17_44, m17_45, m17_46, m17_47, m17_48, m17_51, m17_52, m17_53, m17_56, m17_57, m17_58, m17_61, m17_62, m17_63, m17_64, m17_67, m17_70, m17_73, nb0, nb1, ou_a, Option.toList_some, Option.toList_none, List.nil_append, List.cons_append]
      exact hQ s A h hs g1 g2 g3 g4 g5
def SM (s : Nat → Int32) (x : Int32) : Int32 := s 10 + s 9 + s 11 + x + s 8
def CF (s : Nat → Int32) : Prop := (s 9 = 0 ∧ s 12 = -1) ∨ (¬ s 9 = 0 ∧ 0 ≤ (s 12).toInt ∧ (s 12).toInt ≤ 255)
theorem r_1 (a b c x d : Int32) : a + 1 + b + c + x + d = a + b + c + x + d + 1 := by ac_rfl
theorem r_2 (a b c x d : Int32) : a + (b + 1) + c + x + d = a + b + c + x + d + 1 := by ac_rfl
theorem r_3 (a b c x d : Int32) : a + b + (c + 1) + x + d = a + b + c + x + d + 1 := by ac_rfl
theorem r_4 (a b c x d : Int32) : a + b + c + x + (d + 1) = a + b + c + x + d + 1 := by ac_rfl
theorem c18 {o v d0 : Int32} {s : Nat → Int32} {A : Nat → List Int32} (h : LN A) (o0 : ¬ o < 0) (o1 : o < 256) (hc : 0 ≤ (s 9).toInt) (hc' : (s 9).toInt ≤ 100000) (hf : CF s)
    (hQ : ∀ s' A', LN A' → (∀ i, i < 8 ∨ 12 < i → s' i = s i) → (∀ x, SM s' x = SM s x + 1) → 0 ≤ (s' 9).toInt → (s' 9).toInt ≤ (s 9).toInt + 1 → CF s' → Q none (put 1 pre s' A' [])) :
    M18 0 [.val (.ref 1), .val (.int o), .val (.int v), .val (.int d0)] [] (put 1 pre s A []) Q := by
  have k7 := in_lt h l7 o0 o1
  have k8 := in_lt h l8 o0 o1
  by_cases a1 : getA (A 7) o = 0
  · by_cases a2 : o < d0 + s 0
    · simp [o0, o1, a1, a2, k7, k8, m18_0, m18_1, m18_2, m18_5, m18_8, m18_9, m18_10, m18_13, m18_14, m18_15, m18_18, m18_19, m18_22, m18_23, m18_24, m18_25, m18_28, m18_29, m18_30, m18_33, m18_34, m18_35, m18_38, m18_41, m18_42, m18_43, m18_46, m18_47, m18_48, m18_51, m18_52, m18_53, m18_56, m18_57, m18_58, m18_59, m18_60, m18_63, m18_64, m18_67, m18_68, m18_69, m18_72, m18_73, m18_74, m18_77, m18_78, m18_79, m18_82, m18_83, m18_84, m18_85, m18_86, m18_89, m18_90, m18_91, m18_92, m18_93, m18_94, m18_97, m18_98, m18_99, m18_102, m16_0, m16_1, m16_4, m16_5, m16_8, m16_11, m16_12, m16_15, m16_16, nb0, nb1, ou_a, Option.toList_some, Option.toList_none, List.nil_append, List.cons_append]
      exact hQ _ _ (by (repeat refine LN_ou ?_ (by simp only [setA_len]; exact h _)); exact h) (fun i q => by rw [ou_a, if_neg (by omega)]) (fun x => r_4 _ _ _ _ _) hc (by show (s 9).toInt ≤ _; omega) hf
    · simp [o0, o1, a1, a2, k7, k8, m18_0, m18_1, m18_2, m18_5, m18_8, m18_9, m18_10, m18_13, m18_14, m18_15, m18_18, m18_19, m18_22, m18_23, m18_24, m18_25, m18_28, m18_29, m18_30, m18_33, m18_34, m18_35, m18_38, m18_41, m18_42, m18_43, m18_46, m18_47, m18_48, m18_51, m18_52, m18_53, m18_56, m18_57, m18_58, m18_59, m18_60, m18_63, m18_64, m18_67, m18_68, m18_69, m18_72, m18_73, m18_74, m18_77, m18_78, m18_79, m18_82, m18_83, m18_84, m18_85, m18_86, m18_89, m18_90, m18_91, m18_92, m18_93, m18_94, m18_97, m18_98, m18_99, m18_102, m16_0, m16_1, m16_4, m16_5, m16_8, m16_11, m16_12, m16_15, m16_16, nb0, nb1, ou_a, Option.toList_some, Option.toList_none, List.nil_append, List.cons_append]
      exact hQ _ _ h (fun i q => by rw [ou_a, if_neg (by omega)]) (fun x => r_3 _ _ _ _ _) hc (by show (s 9).toInt ≤ _; omega) hf
  · by_cases a2 : getA (A 8) o = v
    · simp [o0, o1, a1, a2, k7, k8, m18_0, m18_1, m18_2, m18_5, m18_8, m18_9, m18_10, m18_13, m18_14, m18_15, m18_18, m18_19, m18_22, m18_23, m18_24, m18_25, m18_28, m18_29, m18_30, m18_33, m18_34, m18_35, m18_38, m18_41, m18_42, m18_43, m18_46, m18_47, m18_48, m18_51, m18_52, m18_53, m18_56, m18_57, m18_58, m18_59, m18_60, m18_63, m18_64, m18_67, m18_68, m18_69, m18_72, m18_73, m18_74, m18_77, m18_78, m18_79, m18_82, m18_83, m18_84, m18_85, m18_86, m18_89, m18_90, m18_91, m18_92, m18_93, m18_94, m18_97, m18_98, m18_99, m18_102, m16_0, m16_1, m16_4, m16_5, m16_8, m16_11, m16_12, m16_15, m16_16, nb0, nb1, ou_a, Option.toList_some, Option.toList_none, List.nil_append, List.cons_append]
      exact hQ _ _ h (fun i q => by rw [ou_a, if_neg (by omega)]) (fun x => r_1 _ _ _ _ _) hc (by show (s 9).toInt ≤ _; omega) hf
    · have e9 := add1_i (a := s 9) (by omega)
      simp [o0, o1, a1, a2, k7, k8, m18_0, m18_1, m18_2, m18_5, m18_8, m18_9, m18_10, m18_13, m18_14, m18_15, m18_18, m18_19, m18_22, m18_23, m18_24, m18_25, m18_28, m18_29, m18_30, m18_33, m18_34, m18_35, m18_38, m18_41, m18_42, m18_43, m18_46, m18_47, m18_48, m18_51, m18_52, m18_53, m18_56, m18_57, m18_58, m18_59, m18_60, m18_63, m18_64, m18_67, m18_68, m18_69, m18_72, m18_73, m18_74, m18_77, m18_78, m18_79, m18_82, m18_83, m18_84, m18_85, m18_86, m18_89, m18_90, m18_91, m18_92, m18_93, m18_94, m18_97, m18_98, m18_99, m18_102, m16_0, m16_1, m16_4, m16_5, m16_8, m16_11, m16_12, m16_15, m16_16, nb0, nb1, ou_a, Option.toList_some, Option.toList_none, List.nil_append, List.cons_append]
      refine hQ _ _ h (fun i q => by rw [ou_a, if_neg (by omega), ou_a, if_neg (by omega)]) (fun x => r_2 _ _ _ _ _) ?_ ?_ ?_
      · show 0 ≤ (s 9 + 1).toInt; omega
      · show (s 9 + 1).toInt ≤ _; omega
      · refine Or.inr ⟨?_, ?_, ?_⟩
        · show ¬ s 9 + 1 = 0
          intro q; have q' := congrArg Int32.toInt q; rw [e9, i_0] at q'; omega
        · show 0 ≤ o.toInt
          rw [nn_i] at o0; exact o0
        · show o.toInt ≤ 255
          rw [lt_i, i_256] at o1; omega
theorem r_asc (a b c x d e : Int32) : a + b + c + x + d + e = a + b + c + (x + d) + e := by ac_rfl
set_option maxRecDepth 1000000 in
set_option maxHeartbeats 20000000 in
theorem c15a {d0 : Int32} {s0 : Nat → Int32} {c0 : Int} (p1 : 0 ≤ (s0 14).toInt) (p2 : (s0 14).toInt ≤ 255) (p3 : 0 ≤ (s0 15).toInt) (p4 : (s0 15).toInt ≤ 16) (p5 : (s0 14).toInt + (s0 15).toInt ≤ 256) (q1 : 0 ≤ c0) (q2 : c0 ≤ 50000)
    (hQ : ∀ s' A', LN A' → (∀ i, i < 8 ∨ 12 < i → s' i = s0 i) → (∀ x, SM s' x = SM s0 x + s0 15) → 0 ≤ (s' 9).toInt → (s' 9).toInt ≤ c0 + 16 → CF s' → M15 53 [.val (.ref 1), .val (.int d0), .val (.int (s0 15))] [] (put 1 pre s' A' []) Q) :
    ∀ (n : Nat) (i : Int32) (s : Nat → Int32) (A : Nat → List Int32), LN A → (∀ i, i < 8 ∨ 12 < i → s i = s0 i) → (∀ x, SM s x = SM s0 x + i) → 0 ≤ (s 9).toInt → (s 9).toInt ≤ c0 + i.toInt → CF s → ¬ i < 0 → i.toInt + n = (s0 15).toInt →
    M15 16 [.val (.ref 1), .val (.int d0), .val (.int i)] [] (put 1 pre s A []) Q := by
  intro n
  induction n with
  | zero =>
    intro i s A h hs g1 g2 g3 g4 h0 e
    have hi : i = s0 15 := Int32.toInt_inj.mp (by omega)
    subst hi
    have h15 : s 15 = s0 15 := hs 15 (by omega)
    rw [m15_16]
    simp [h15, lt_irr, m15_0, m15_1, m15_4, m15_7, m15_8, m15_9, m15_10, m15_13u, m15_14, m15_15u, m15_17, m15_18, m15_21, m15_24, m15_25, m15_27, m15_30, m15_31, m15_32, m15_35, m15_36, m15_37, m15_38, m15_41, m15_42, m15_43, m15_44, m15_47, m15_50, m15_54, m15_55, m15_58, m15_59, m15_60, m15_63, m15_64, m15_65, m15_68, m15_69, m15_72, m15_73, m15_76, m15_77, m15_78, nb0, nb1, ou_a, Option.toList_some, Option.toList_none, List.nil_append, List.cons_append]
    exact hQ s A h hs g1 g2 (by omega) g4
  | succ n ih =>
    intro i s A h hs g1 g2 g3 g4 h0 e
    have h15 : s 15 = s0 15 := hs 15 (by omega)
    have h14 : s 14 = s0 14 := hs 14 (by omega)
    have hlt : i < s0 15 := by rw [lt_i]; omega
    have hlt2 : i < 16 := by rw [lt_i, i_16]; omega
    have k9 := in_lt h l9 h0 hlt2
    have e1 := add1_i (a := i) (by omega)
    have n1 := succ_nn h0 (by omega)
    have n0 := nn_i.mp h0
    have ea := add_i (a := s0 14) (b := i) (by omega) (by omega)
    rw [m15_16]
    simp [h15, h14, hlt, hlt2, k9, m15_0, m15_1, m15_4, m15_7, m15_8, m15_9, m15_10, m15_13u, m15_14, m15_15u, m15_17, m15_18, m15_21, m15_24, m15_25, m15_27, m15_30, m15_31, m15_32, m15_35, m15_36, m15_37, m15_38, m15_41, m15_42, m15_43, m15_44, m15_47, m15_50, m15_54, m15_55, m15_58, m15_59, m15_60, m15_63, m15_64, m15_65, m15_68, m15_69, m15_72, m15_73, m15_76, m15_77, m15_78, nb0, nb1, ou_a, Option.toList_some, Option.toList_none, List.nil_append, List.cons_append]
    refine c18 h (by rw [nn_i, ea]; omega) (by rw [lt_i, ea, i_256]; omega) g2 (by omega) g4 (fun s' A' h' fr u1 u2 u3 u4 => ?_)
    simp [m15_0, m15_1, m15_4, m15_7, m15_8, m15_9, m15_10, m15_13u, m15_14, m15_15u, m15_17, m15_18, m15_21, m15_24, m15_25, m15_27, m15_30, m15_31, m15_32, m15_35, m15_36, m15_37, m15_38, m15_41, m15_42, m15_43, m15_44, m15_47, m15_50, m15_54, m15_55, m15_58, m15_59, m15_60, m15_63, m15_64, m15_65, m15_68, m15_69, m15_72, m15_73, m15_76, m15_77, m15_78, nb0, nb1, ou_a, Option.toList_some, Option.toList_none, List.nil_append, List.cons_append]
    refine ih _ _ _ h' (fun i q => (fr i q).trans (hs i q)) (fun x => ?_) u2 (by rw [e1]; omega) u4 n1 (by rw [e1]; omega)
    rw [u1 x, g1 x, Int32.add_assoc]
set_option maxRecDepth 1000000 in
set_option maxHeartbeats 20000000 in
theorem c15 {s : Nat → Int32} {A : Nat → List Int32} (h : LN A) (h13 : s 13 = 1) (p1 : 0 ≤ (s 14).toInt) (p2 : (s 14).toInt ≤ 255) (p3 : 0 ≤ (s 15).toInt) (p4 : (s 15).toInt ≤ 16) (p5 : (s 14).toInt + (s 15).toInt ≤ 256) (q1 : 0 ≤ (s 9).toInt) (q2 : (s 9).toInt ≤ 50000) (hf : CF s)
    (d1 : 0 ≤ (s 7).toInt) (d2 : (s 7).toInt ≤ 256) (m1 : 0 ≤ (s 16).toInt) (m2 : (s 16).toInt ≤ 16 * (s 7).toInt)
    (hQ : ∀ s' A', LN A' → (∀ i, i < 6 → s' i = s i) → s' 13 = 0 → (SM s' (s' 7) = SM s (s 7) + s 15) → 0 ≤ (s' 9).toInt → (s' 9).toInt ≤ (s 9).toInt + 16 → CF s' → (s 7).toInt ≤ (s' 7).toInt → (s' 7).toInt ≤ 256 → (s 16).toInt ≤ (s' 16).toInt → (s' 16).toInt ≤ 16 * (s' 7).toInt → Q (some (.int (s' 7 - s 7))) (put 1 pre s' A' [])) :
    M15 0 [.val (.ref 1), .unset, .unset] [] (put 1 pre s A []) Q := by
  have hn : ((s 15).toInt.toNat : Int) = (s 15).toInt := Int.toNat_of_nonneg p3
  simp [h13, m15_0, m15_1, m15_4, m15_7, m15_8, m15_9, m15_10, m15_13u, m15_14, m15_15u, m15_17, m15_18, m15_21, m15_24, m15_25, m15_27, m15_30, m15_31, m15_32, m15_35, m15_36, m15_37, m15_38, m15_41, m15_42, m15_43, m15_44, m15_47, m15_50, m15_53, m15_54, m15_55, m15_58, m15_59, m15_60, m15_63, m15_64, m15_65, m15_68, m15_69, m15_72, m15_73, m15_76, m15_77, m15_78, nb0, nb1, ou_a, Option.toList_some, Option.toList_none, List.nil_append, List.cons_append]
  refine c15a (s0 := s) p1 p2 p3 p4 p5 q1 q2 (fun s1 A1 h1 fr u1 u2 u3 u4 => ?_) (s 15).toInt.toNat 0 s A h (fun _ _ => rfl) (fun x => by rw [Int32.add_zero]) q1 (by rw [i_0]; omega) hf (by decide) (by rw [i_0]; omega)
  simp [m15_0, m15_1, m15_4, m15_7, m15_8, m15_9, m15_10, m15_13u, m15_14, m15_15u, m15_17, m15_18, m15_21, m15_24, m15_25, m15_27, m15_30, m15_31, m15_32, m15_35, m15_36, m15_37, m15_38, m15_41, m15_42, m15_43, m15_44, m15_47, m15_50, m15_53, m15_54, m15_55, m15_58, m15_59, m15_60, m15_63, m15_64, m15_65, m15_68, m15_69, m15_72, m15_73, m15_76, m15_77, m15_78, m17_0, m17_1u, nb0, nb1, ou_a, Option.toList_some, Option.toList_none, List.nil_append, List.cons_append]
  have f7 : s1 7 = s 7 := fr 7 (by omega)
  have f16 : s1 16 = s 16 := fr 16 (by omega)
  refine c17a (t := s 7 + s1 8) (m0 := (s 16).toInt) (d0 := (s 7).toInt) m1 d1 (fun s2 A2 h2 fr2 w1 w2 w3 w4 w5 => ?_) 256 0 _ _ _ _ h1 okS_u okS_u (fun _ _ _ _ _ => rfl) ?_ ?_ ?_ ?_ ?_ (by decide) rfl
  · simp [m15_0, m15_1, m15_4, m15_7, m15_8, m15_9, m15_10, m15_13u, m15_14, m15_15u, m15_17, m15_18, m15_21, m15_24, m15_25, m15_27, m15_30, m15_31, m15_32, m15_35, m15_36, m15_37, m15_38, m15_41, m15_42, m15_43, m15_44, m15_47, m15_50, m15_53, m15_54, m15_55, m15_58, m15_59, m15_60, m15_63, m15_64, m15_65, m15_68, m15_69, m15_72, m15_73, m15_76, m15_77, m15_78, nb0, nb1, ou_a, Option.toList_some, Option.toList_none, List.nil_append, List.cons_append]
    have y9 : s2 9 = s1 9 := fr2 9 (by decide) (by decide) (by decide) (by decide)
    have y10 : s2 10 = s1 10 := fr2 10 (by decide) (by decide) (by decide) (by decide)
    have y11 : s2 11 = s1 11 := fr2 11 (by decide) (by decide) (by decide) (by decide)
    have y12 : s2 12 = s1 12 := fr2 12 (by decide) (by decide) (by decide) (by decide)
    have y13 : s2 13 = 0 := fr2 13 (by decide) (by decide) (by decide) (by decide)
    refine hQ s2 A2 h2 (fun i q => ?_) y13 ?_ (by rw [y9]; exact u2) (by rw [y9]; exact u3) ?_ w4 w5 w2 w3
    · rw [fr2 i (by omega) (by omega) (by omega) (by omega)]
      simp only [ou_a, if_neg (show ¬ i = 13 by omega), if_neg (show ¬ i = 14 by omega), if_neg (show ¬ i = 15 by omega)]
      exact fr i (by omega)
    · have z := u1 (s 7)
      unfold SM at *
      rw [y9, y10, y11, Int32.add_assoc (s1 10 + s1 9 + s1 11), w1, ← Int32.add_assoc]
      exact z
    · unfold CF at *
      rw [y9, y12]; exact u4
  · show s1 7 + s1 8 = _
    rw [f7]
  · show _ ≤ (s1 16).toInt
    rw [f16]; omega
  · show (s1 16).toInt ≤ 16 * (s1 7).toInt
    rw [f16, f7]; exact m2
  · show _ ≤ (s1 7).toInt
    rw [f7]; omega
  · show (s1 7).toInt ≤ 256
    rw [f7]; exact d2
theorem c15n {s : Nat → Int32} {A : Nat → List Int32} (h13 : s 13 = 0) : M15 0 [.val (.ref 1), .unset, .unset] [] (put 1 pre s A []) Q = Q (some (.int (-1))) (put 1 pre s A []) := by
  simp [h13, m15_0, m15_1, m15_4, m15_7, m15_8, m15_9, m15_10, m15_13u, m15_14, m15_15u, m15_17, m15_18, m15_21, m15_24, m15_25, m15_27, m15_30, m15_31, m15_32, m15_35, m15_36, m15_37, m15_38, m15_41, m15_42, m15_43, m15_44, m15_47, m15_50, m15_53, m15_54, m15_55, m15_58, m15_59, m15_60, m15_63, m15_64, m15_65, m15_68, m15_69, m15_72, m15_73, m15_76, m15_77, m15_78, nb0, nb1, ou_a, Option.toList_some, Option.toList_none, List.nil_append, List.cons_append]
theorem c6 {s : Nat → Int32} {A : Nat → List Int32} (h : LN A) (g1 : s 1 = 0) (g4 : s 4 = 0) (g2 : ¬ s 2 = 0) (hQ : ∀ s' A', LN A' → s' 1 = 1 → (∀ i, i ≠ 1 → i ≠ 5 → i ≠ 6 → s' i = s i) → Q (some (.int 0)) (put 1 pre s' A' [])) : M6 0 [.val (.ref 1)] [] (put 1 pre s A []) Q := by
  simp [g1, g4, g2, m6_0, m6_1, m6_4, m6_7, m6_8, m6_9, m6_10, m6_13, m6_16, m6_17, m6_18, m6_19, m6_22, m6_25, m6_27, m6_28, m6_29, m6_32, m6_33, m6_36, m6_37, m6_38, m6_41, m6_42, m6_43, m6_46, m6_47, nb0, nb1, ou_a, Option.toList_some, Option.toList_none, List.nil_append, List.cons_append]
  refine c9 h (fun s1 A1 h1 fr => ?_)
  simp [m6_0, m6_1, m6_4, m6_7, m6_8, m6_9, m6_10, m6_13, m6_16, m6_17, m6_18, m6_19, m6_22, m6_25, m6_27, m6_28, m6_29, m6_32, m6_33, m6_36, m6_37, m6_38, m6_41, m6_42, m6_43, m6_46, m6_47, nb0, nb1, ou_a, Option.toList_some, Option.toList_none, List.nil_append, List.cons_append]
  refine c12 h1 (fun A2 h2 => ?_)
  simp [m6_0, m6_1, m6_4, m6_7, m6_8, m6_9, m6_10, m6_13, m6_16, m6_17, m6_18, m6_19, m6_22, m6_25, m6_27, m6_28, m6_29, m6_32, m6_33, m6_36, m6_37, m6_38, m6_41, m6_42, m6_43, m6_46, m6_47, nb0, nb1, ou_a, Option.toList_some, Option.toList_none, List.nil_append, List.cons_append]
  exact hQ _ A2 h2 rfl (fun i q1 q5 q6 => by simp only [ou_a, if_neg q1, if_neg q6]; exact fr i q5)
end Scan
abbrev IV (ix w cp op ns bt pn st ln T D M : Int32) (s : Nat → Int32) (A : Nat → List Int32) : Prop :=
  s 0 = w ∧ s 1 = cp ∧ s 2 = ns ∧ s 3 = bt ∧ s 4 = pn ∧ s 7 = D ∧ s 13 = op ∧ s 16 = M ∧ (cp = 0 ∨ cp = 1) ∧
  ((op = 0 ∧ st = -1 ∧ ln = 0) ∨ (op = 1 ∧ s 14 = st ∧ s 15 = ln ∧ 0 ≤ st.toInt ∧ st.toInt ≤ 255 ∧ 0 ≤ ln.toInt ∧ ln.toInt ≤ 16 ∧ st.toInt + ln.toInt ≤ 256)) ∧
  0 ≤ ns.toInt ∧ ns.toInt ≤ 16 ∧ 0 ≤ bt.toInt ∧ 0 ≤ pn.toInt ∧ pn.toInt ≤ 16 ∧ bt.toInt + pn.toInt ≤ 64 ∧ (pn = 0 ∨ ns.toInt < 16) ∧
  0 ≤ D.toInt ∧ D.toInt ≤ 256 ∧ 0 ≤ M.toInt ∧ M.toInt ≤ 16 * D.toInt ∧ SM s D = T ∧ 0 ≤ (s 9).toInt ∧ (s 9).toInt ≤ 16 * ix.toInt ∧ CF s ∧ LN A
def LP (vs : List Int32) (Q : Option Value → AHeap → Prop) (n : Nat) : Prop := ∀ (i1 w cp op ns bt pn st ln T D M ix : Int32) (k21 k22 k23 k24 k25 k26 k27 k28 k29 k30 k31 k32 : Slot) (s : Nat → Int32) (A : Nat → List Int32), okS k21 → okS k22 → okS k23 → okS k24 → okS k25 → okS k26 → okS k27 → okS k28 → okS k29 → okS k30 → okS k31 → okS k32 → IV ix w cp op ns bt pn st ln T D M s A → 1 ≤ ix.toInt → ix.toInt ≤ 1000 → (vs.length : Int) ≤ ix.toInt + n →
    M21 105 [.val (.ref 0), .val (.int i1), .val (.ref 1), .val (.int w), .val (.int 0), .val (.int (-1)), .val (.int (-2)), .val (.int (-3)), .val (.int (-4)), .val (.int (-5)), .val (.int cp), .val (.int op), .val (.int ns), .val (.int bt), .val (.int pn), .val (.int st), .val (.int ln), .val (.int T), .val (.int D), .val (.int M), .val (.int ix), k21, k22, k23, k24, k25, k26, k27, k28, k29, k30, k31, k32] [] (put 1 [(.array .int, vs.map Value.int)] s A []) Q
theorem i_31 : (31 : Int32).toInt = 31 := rfl
theorem i_2 : (2 : Int32).toInt = 2 := rfl
theorem i_4 : (4 : Int32).toInt = 4 := rfl
theorem i_m1 : (-1 : Int32).toInt = -1 := rfl
theorem and7 (x : Int32) : x &&& 7 = 0 ∨ x &&& 7 = 1 ∨ x &&& 7 = 2 ∨ x &&& 7 = 3 ∨ x &&& 7 = 4 ∨ x &&& 7 = 5 ∨ x &&& 7 = 6 ∨ x &&& 7 = 7 := by
  have b := and_bd x 7 (by decide)
  have c : (x &&& 7).toInt ≤ 7 := b.2
  obtain ⟨k, hk, e⟩ := rng (n := 8) b.1 (by omega)
  have hk' : k = 0 ∨ k = 1 ∨ k = 2 ∨ k = 3 ∨ k = 4 ∨ k = 5 ∨ k = 6 ∨ k = 7 := by omega
  rw [e]
  rcases hk' with rfl | rfl | rfl | rfl | rfl | rfl | rfl | rfl <;> decide
theorem arg5 (x : Int32) : ¬ 255 < (x &&& 7) % 5 - 1 := by
  rcases and7 x with e | e | e | e | e | e | e | e <;> rw [e] <;> decide
theorem getA_same {l : List Int32} {i v : Int32} (h : inB i l) : getA (setA l i v) i = v := by
  rw [getA_set h, if_pos rfl]
section Law
variable {Q : Option Value → AHeap → Prop} {vs : List Int32}
set_option maxRecDepth 1000000 in
set_option maxHeartbeats 20000000 in
theorem tail {n : Nat} (lp : LP vs Q n) {i1 w cp op ns bt pn st ln T D M ix f : Int32} {k21 k22 k23 k24 k25 k27 k28 k29 k30 k31 k32 : Slot} {s : Nat → Int32} {A : Nat → List Int32} (o21 : okS k21) (o22 : okS k22) (o23 : okS k23) (o24 : okS k24) (o25 : okS k25) (o27 : okS k27) (o28 : okS k28) (o29 : okS k29) (o30 : okS k30) (o31 : okS k31) (o32 : okS k32)
    (hf : (f = 0 ∧ s 16 = M) ∨ (f = 1 ∧ ¬ s 16 < M)) (iv : IV (ix + 2) w cp op ns bt pn st ln T D (s 16) s A) (hx1 : 1 ≤ ix.toInt) (hx2 : ix.toInt + 2 ≤ 1000) (hx3 : (vs.length : Int) ≤ ix.toInt + 2 + n) :
    M21 628 [.val (.ref 0), .val (.int i1), .val (.ref 1), .val (.int w), .val (.int 0), .val (.int (-1)), .val (.int (-2)), .val (.int (-3)), .val (.int (-4)), .val (.int (-5)), .val (.int cp), .val (.int op), .val (.int ns), .val (.int bt), .val (.int pn), .val (.int st), .val (.int ln), .val (.int T), .val (.int D), .val (.int M), .val (.int ix), k21, k22, k23, k24, k25, .val (.int f), k27, k28, k29, k30, k31, k32] [] (put 1 [(.array .int, vs.map Value.int)] s A []) Q := by
  have iv' := iv
  obtain ⟨e0, e1, e2, e3, e4, e7, e13, e16, bc, bo, n1, n2, t1, p1, p2, tp, pz, d1, d2, m1, m2, sm, c1, c2, cf, hl⟩ := iv
  unfold SM at sm
  have x2 : (ix + 2).toInt = ix.toInt + 2 := add_i (by rw [i_2]; omega) (by rw [i_2]; omega)
  rcases cf with ⟨f1, f2⟩ | ⟨f1, f2, f3⟩
  · simp only [f1, Int32.add_zero] at sm
    rcases hf with ⟨rfl, rfl⟩ | ⟨rfl, g⟩ <;> rcases bc with rfl | rfl <;> rcases bo with ⟨rfl, rfl, rfl⟩ | ⟨rfl, e14, e15, -⟩
    all_goals simp [*, m21_628, m21_629, m21_631, m21_634, m21_636, m21_639, m21_640, m21_643, m21_644, m21_647, m21_648, m21_649, m21_650, m21_652, m21_655, m21_657, m21_660, m21_661, m21_663, m21_666, m21_668, m21_671, m21_672, m21_673, m21_674, m21_676, m21_679, m21_681, m21_684, m21_685, m21_686, m21_687, m21_689, m21_692, m21_694, m21_697, m21_698, m21_701, m21_702, m21_705, m21_706, m21_707, m21_708, m21_710, m21_713, m21_715, m21_718, m21_719, m21_721, m21_724, m21_726, m21_729, m21_730, m21_731, m21_732, m21_733, m21_736, m21_738, m21_741, m21_742, m21_744, m21_747, m21_748, m21_751, m21_752, m21_753, m21_754, m21_755, m21_758u, m21_758i, m21_758r, m21_758g, m21_760, m21_761, m21_762, m21_765u, m21_765i, m21_765r, m21_765g, m21_767, m21_768, m21_769, m21_772u, m21_772i, m21_772r, m21_772g, m21_774, m21_775, m21_776, m21_779u, m21_779i, m21_779r, m21_779g, m21_781, m21_782, m21_784, m21_787u, m21_787i, m21_787r, m21_787g, m21_789, m21_791, m21_793, m21_794, m21_796, m21_797, m21_799, m21_800, m21_802, m21_803, m21_805, m21_808, m21_809, m21_810, m21_812, m21_815, m21_816, m21_819, m21_820, m21_822, m21_823, m21_826, m21_827, m21_830, m21_831, m21_834, m21_836, m21_837, m21_840, m21_842, m21_845, m21_848, m21_849, m21_850, m21_851, m21_852, m21_855u, m21_855i, m21_855r, m21_855g, m21_857, m21_859, m21_862, m21_864, m21_866, m21_869, m21_872, m21_874, m21_876, m21_879, m21_880, m21_881, m21_883i, m21_885, m21_888, m2_0, m2_1_0, m2_1_1, m2_1_2, m2_1_3, m2_1_4, m2_1_5, m2_1_6, m2_1_7, m2_1_8, m2_1_9, m2_1_10, m2_1_11, m2_1_12, m2_1_13, m2_1_14, m2_76, m2_77, m2_80, m2_81, m2_82, m2_85, m2_86, m2_87, m2_90, m2_91, m2_92, m2_95, m2_96, m2_97, m2_100, m2_101, m2_102, m2_105, m2_106, m2_107, m2_110, m2_111, m2_112, m2_115, m2_116, m2_117, m2_120, m2_121, m2_122, m2_123, m2_126, m2_129, m2_130, m2_131, m2_132, m2_135, m2_138, m2_139, m2_140, m2_143, m2_146, m2_147, m2_150, m2_153, m2_154, m2_155, m2_156, m2_159, m2_162, m2_163, m2_166, m2_169, m2_170, m2_171, m2_172, m2_175, m2_176, m2_177, m2_180, m2_181, m2_182, m3_0, m3_1, m3_4, m3_5, m3_8, m3_9, nb0, nb1, ou_a, Option.toList_some, Option.toList_none, List.nil_append, List.cons_append]
    all_goals exact lp _ _ _ _ _ _ _ _ _ _ _ _ _ _ _ _ _ _ _ _ _ _ _ _ _ s A o21 o22 o23 o24 o25 (okS_i _) (okS_i _) (okS_i _) (okS_i _) (okS_i _) (okS_i _) (okS_i _) iv' (by rw [x2]; omega) (by rw [x2]; omega) (by rw [x2]; omega)
  · have g1 : ¬ s 12 = -1 := fun q => by rw [q, i_m1] at f2; omega
    have g2 : ¬ s 12 < -1 := by rw [lt_i, i_m1]; omega
    have g3 : ¬ 255 < s 12 := by rw [lt_i, i_255]; omega
    rcases hf with ⟨rfl, rfl⟩ | ⟨rfl, g⟩ <;> rcases bc with rfl | rfl <;> rcases bo with ⟨rfl, rfl, rfl⟩ | ⟨rfl, e14, e15, -⟩
    all_goals simp [*, m21_628, m21_629, m21_631, m21_634, m21_636, m21_639, m21_640, m21_643, m21_644, m21_647, m21_648, m21_649, m21_650, m21_652, m21_655, m21_657, m21_660, m21_661, m21_663, m21_666, m21_668, m21_671, m21_672, m21_673, m21_674, m21_676, m21_679, m21_681, m21_684, m21_685, m21_686, m21_687, m21_689, m21_692, m21_694, m21_697, m21_698, m21_701, m21_702, m21_705, m21_706, m21_707, m21_708, m21_710, m21_713, m21_715, m21_718, m21_719, m21_721, m21_724, m21_726, m21_729, m21_730, m21_731, m21_732, m21_733, m21_736, m21_738, m21_741, m21_742, m21_744, m21_747, m21_748, m21_751, m21_752, m21_753, m21_754, m21_755, m21_758u, m21_758i, m21_758r, m21_758g, m21_760, m21_761, m21_762, m21_765u, m21_765i, m21_765r, m21_765g, m21_767, m21_768, m21_769, m21_772u, m21_772i, m21_772r, m21_772g, m21_774, m21_775, m21_776, m21_779u, m21_779i, m21_779r, m21_779g, m21_781, m21_782, m21_784, m21_787u, m21_787i, m21_787r, m21_787g, m21_789, m21_791, m21_793, m21_794, m21_796, m21_797, m21_799, m21_800, m21_802, m21_803, m21_805, m21_808, m21_809, m21_810, m21_812, m21_815, m21_816, m21_819, m21_820, m21_822, m21_823, m21_826, m21_827, m21_830, m21_831, m21_834, m21_836, m21_837, m21_840, m21_842, m21_845, m21_848, m21_849, m21_850, m21_851, m21_852, m21_855u, m21_855i, m21_855r, m21_855g, m21_857, m21_859, m21_862, m21_864, m21_866, m21_869, m21_872, m21_874, m21_876, m21_879, m21_880, m21_881, m21_883i, m21_885, m21_888, m2_0, m2_1_0, m2_1_1, m2_1_2, m2_1_3, m2_1_4, m2_1_5, m2_1_6, m2_1_7, m2_1_8, m2_1_9, m2_1_10, m2_1_11, m2_1_12, m2_1_13, m2_1_14, m2_76, m2_77, m2_80, m2_81, m2_82, m2_85, m2_86, m2_87, m2_90, m2_91, m2_92, m2_95, m2_96, m2_97, m2_100, m2_101, m2_102, m2_105, m2_106, m2_107, m2_110, m2_111, m2_112, m2_115, m2_116, m2_117, m2_120, m2_121, m2_122, m2_123, m2_126, m2_129, m2_130, m2_131, m2_132, m2_135, m2_138, m2_139, m2_140, m2_143, m2_146, m2_147, m2_150, m2_153, m2_154, m2_155, m2_156, m2_159, m2_162, m2_163, m2_166, m2_169, m2_170, m2_171, m2_172, m2_175, m2_176, m2_177, m2_180, m2_181, m2_182, m3_0, m3_1, m3_4, m3_5, m3_8, m3_9, nb0, nb1, ou_a, Option.toList_some, Option.toList_none, List.nil_append, List.cons_append]
    all_goals exact lp _ _ _ _ _ _ _ _ _ _ _ _ _ _ _ _ _ _ _ _ _ _ _ _ _ s A o21 o22 o23 o24 o25 (okS_i _) (okS_i _) (okS_i _) (okS_i _) (okS_i _) (okS_i _) (okS_i _) iv' (by rw [x2]; omega) (by rw [x2]; omega) (by rw [x2]; omega)
set_option maxRecDepth 1000000 in
set_option maxHeartbeats 20000000 in
theorem op0 {n : Nat} (lp : LP vs Q n) {i1 w cp op ns bt pn st ln T D M ix : Int32} {k21 k22 k23 k24 k25 k26 k27 k28 k29 k30 k31 k32 : Slot} {s : Nat → Int32} {A : Nat → List Int32} (o21 : okS k21) (o22 : okS k22) (o23 : okS k23) (o24 : okS k24) (o25 : okS k25) (o26 : okS k26) (o27 : okS k27) (o28 : okS k28) (o29 : okS k29) (o30 : okS k30) (o31 : okS k31) (o32 : okS k32)
    (iv : IV ix w cp op ns bt pn st ln T D M s A) (hx1 : 1 ≤ ix.toInt) (hx2 : ix.toInt + 2 ≤ 1000) (hx3 : (vs.length : Int) ≤ ix.toInt + 2 + n) (x0 : inB ix vs) (x1 : inB (ix + 1) vs) (ha : getA vs ix &&& 7 = 0) : M21 114 [.val (.ref 0), .val (.int i1), .val (.ref 1), .val (.int w), .val (.int 0), .val (.int (-1)), .val (.int (-2)), .val (.int (-3)), .val (.int (-4)), .val (.int (-5)), .val (.int cp), .val (.int op), .val (.int ns), .val (.int bt), .val (.int pn), .val (.int st), .val (.int ln), .val (.int T), .val (.int D), .val (.int M), .val (.int ix), k21, k22, k23, k24, k25, k26, k27, k28, k29, k30, k31, k32] [] (put 1 [(.array .int, vs.map Value.int)] s A []) Q := by
  have iv0 := iv
  obtain ⟨e0, e1, e2, e3, e4, e7, e13, e16, bc, bo, n1, n2, t1, p1, p2, tp, pz, d1, d2, m1, m2, sm, c1, c2, cf, hl⟩ := iv
  have y2 : (ix + 2).toInt = ix.toInt + 2 := add_i (by rw [i_2]; omega) (by rw [i_2]; omega)
  have iv2 : IV (ix + 2) w cp op ns bt pn st ln T D (s 16) s A := ⟨e0, e1, e2, e3, e4, e7, e13, rfl, bc, bo, n1, n2, t1, p1, p2, tp, pz, d1, d2, by rw [e16]; exact m1, by rw [e16]; exact m2, sm, c1, by rw [y2]; omega, cf, hl⟩
  have a5 := arg5 (getA vs (ix + 1))
  have es := add_i (a := bt) (b := pn) (by omega) (by omega)
  rcases bc with rfl | rfl
  · by_cases gn : (getA vs (ix + 1) &&& 7) % 5 - 1 < 0
    · simp [a5, gn, x0, x1, ha, e0, e1, e2, e3, e4, e7, e13, e16, o21, o22, o23, o24, o25, o26, o27, o28, o29, o30, o31, o32, m21_114, m21_115, m21_117, m21_117p, m21_118, m21_120, m21_121u, m21_121i, m21_121r, m21_121g, m21_123, m21_124, m21_126, m21_127, m21_128, m21_128p, m21_129u, m21_129i, m21_129r, m21_129g, m21_131, m21_133, m21_135, m21_136, m21_137, m21_138, m21_139, m21_140u, m21_140i, m21_140r, m21_140g, m21_142, m21_143u, m21_143i, m21_143r, m21_143g, m21_145, m21_147, m21_148, m21_151, m21_153, m21_156, m21_158, m21_161, m21_163, m21_166, m21_168, m21_171, m21_173, m21_175, m21_178, m21_180, m21_182, m21_185, m21_187, m21_189, m21_190, m21_192, m21_195, m21_197, m21_200, m21_202u, m21_202i, m21_202r, m21_202g, m21_204, m21_205, m21_207, m21_210u, m21_210i, m21_210r, m21_210g, m21_212, m21_214, m21_216, m21_219, m21_220, m21_221, m21_223, m21_225, m21_228, m21_231, m4_0, m4_1, m4_4, m4_7, m4_8, m4_9, m4_10, m4_11, m4_14, m4_17, m4_19, m4_20, m4_21, m4_24, m4_26, m4_29, m4_31, m4_32, m4_33, m4_36, m4_38, m4_41, m4_43, m4_44, m4_45, m4_48, m4_49, m4_52, m4_53, m4_55, m4_58, m4_60, m4_61, m4_62, m4_65, m4_66, m4_69, m4_70u, m4_71, m4_72, m4_75, m4_76, m4_78, m4_81, m4_83, m4_84, m4_85, m4_88, m4_89, m4_90, m4_91, m4_92, m4_93, m4_96, m4_97, m4_98, m4_101, m4_102, m5_0, m5_1, m5_4, m5_5, m5_8, m5_11, m5_12, m5_15, m5_16, okS_i, nb0, nb1, ou_a, Option.toList_some, Option.toList_none, List.nil_append, List.cons_append]
      exact tail lp (okS_i _) (okS_i _) (okS_i _) (okS_i _) (okS_i _) o27 o28 o29 o30 o31 o32 (Or.inl ⟨rfl, e16⟩) (by exact iv2) hx1 hx2 hx3
    by_cases b1 : ns = 16
    · have b1' : ¬ ns < 16 := by rw [b1]; decide
      subst b1
      simp [a5, gn, x0, x1, ha, e0, e1, e2, e3, e4, e7, e13, e16, o21, o22, o23, o24, o25, o26, o27, o28, o29, o30, o31, o32, m21_114, m21_115, m21_117, m21_117p, m21_118, m21_120, m21_121u, m21_121i, m21_121r, m21_121g, m21_123, m21_124, m21_126, m21_127, m21_128, m21_128p, m21_129u, m21_129i, m21_129r, m21_129g, m21_131, m21_133, m21_135, m21_136, m21_137, m21_138, m21_139, m21_140u, m21_140i, m21_140r, m21_140g, m21_142, m21_143u, m21_143i, m21_143r, m21_143g, m21_145, m21_147, m21_148, m21_151, m21_153, m21_156, m21_158, m21_161, m21_163, m21_166, m21_168, m21_171, m21_173, m21_175, m21_178, m21_180, m21_182, m21_185, m21_187, m21_189, m21_190, m21_192, m21_195, m21_197, m21_200, m21_202u, m21_202i, m21_202r, m21_202g, m21_204, m21_205, m21_207, m21_210u, m21_210i, m21_210r, m21_210g, m21_212, m21_214, m21_216, m21_219, m21_220, m21_221, m21_223, m21_225, m21_228, m21_231, m4_0, m4_1, m4_4, m4_7, m4_8, m4_9, m4_10, m4_11, m4_14, m4_17, m4_19, m4_20, m4_21, m4_24, m4_26, m4_29, m4_31, m4_32, m4_33, m4_36, m4_38, m4_41, m4_43, m4_44, m4_45, m4_48, m4_49, m4_52, m4_53, m4_55, m4_58, m4_60, m4_61, m4_62, m4_65, m4_66, m4_69, m4_70u, m4_71, m4_72, m4_75, m4_76, m4_78, m4_81, m4_83, m4_84, m4_85, m4_88, m4_89, m4_90, m4_91, m4_92, m4_93, m4_96, m4_97, m4_98, m4_101, m4_102, m5_0, m5_1, m5_4, m5_5, m5_8, m5_11, m5_12, m5_15, m5_16, okS_i, nb0, nb1, ou_a, Option.toList_some, Option.toList_none, List.nil_append, List.cons_append]
      exact tail lp (okS_i _) (okS_i _) (okS_i _) (okS_i _) (okS_i _) o27 o28 o29 o30 o31 o32 (Or.inl ⟨rfl, e16⟩) (by exact iv2) hx1 hx2 hx3
    have b1' : ns < 16 := by
      rw [lt_i, i_16]
      have : ns.toInt ≠ 16 := fun q => b1 (Int32.toInt_inj.mp (q.trans i_16.symm))
      omega
    by_cases b2 : pn = 16
    · subst b2
      simp [a5, gn, b1, b1', x0, x1, ha, e0, e1, e2, e3, e4, e7, e13, e16, o21, o22, o23, o24, o25, o26, o27, o28, o29, o30, o31, o32, m21_114, m21_115, m21_117, m21_117p, m21_118, m21_120, m21_121u, m21_121i, m21_121r, m21_121g, m21_123, m21_124, m21_126, m21_127, m21_128, m21_128p, m21_129u, m21_129i, m21_129r, m21_129g, m21_131, m21_133, m21_135, m21_136, m21_137, m21_138, m21_139, m21_140u, m21_140i, m21_140r, m21_140g, m21_142, m21_143u, m21_143i, m21_143r, m21_143g, m21_145, m21_147, m21_148, m21_151, m21_153, m21_156, m21_158, m21_161, m21_163, m21_166, m21_168, m21_171, m21_173, m21_175, m21_178, m21_180, m21_182, m21_185, m21_187, m21_189, m21_190, m21_192, m21_195, m21_197, m21_200, m21_202u, m21_202i, m21_202r, m21_202g, m21_204, m21_205, m21_207, m21_210u, m21_210i, m21_210r, m21_210g, m21_212, m21_214, m21_216, m21_219, m21_220, m21_221, m21_223, m21_225, m21_228, m21_231, m4_0, m4_1, m4_4, m4_7, m4_8, m4_9, m4_10, m4_11, m4_14, m4_17, m4_19, m4_20, m4_21, m4_24, m4_26, m4_29, m4_31, m4_32, m4_33, m4_36, m4_38, m4_41, m4_43, m4_44, m4_45, m4_48, m4_49, m4_52, m4_53, m4_55, m4_58, m4_60, m4_61, m4_62, m4_65, m4_66, m4_69, m4_70u, m4_71, m4_72, m4_75, m4_76, m4_78, m4_81, m4_83, m4_84, m4_85, m4_88, m4_89, m4_90, m4_91, m4_92, m4_93, m4_96, m4_97, m4_98, m4_101, m4_102, m5_0, m5_1, m5_4, m5_5, m5_8, m5_11, m5_12, m5_15, m5_16, okS_i, nb0, nb1, ou_a, Option.toList_some, Option.toList_none, List.nil_append, List.cons_append]
      exact tail lp (okS_i _) (okS_i _) (okS_i _) (okS_i _) (okS_i _) o27 o28 o29 o30 o31 o32 (Or.inl ⟨rfl, e16⟩) (by exact iv2) hx1 hx2 hx3
    have b2' : pn < 16 := by
      rw [lt_i, i_16]
      have : pn.toInt ≠ 16 := fun q => b2 (Int32.toInt_inj.mp (q.trans i_16.symm))
      omega
    by_cases b3 : bt + pn = 64
    · simp [a5, gn, b1, b1', b2, b2', b3, x0, x1, ha, e0, e1, e2, e3, e4, e7, e13, e16, o21, o22, o23, o24, o25, o26, o27, o28, o29, o30, o31, o32, m21_114, m21_115, m21_117, m21_117p, m21_118, m21_120, m21_121u, m21_121i, m21_121r, m21_121g, m21_123, m21_124, m21_126, m21_127, m21_128, m21_128p, m21_129u, m21_129i, m21_129r, m21_129g, m21_131, m21_133, m21_135, m21_136, m21_137, m21_138, m21_139, m21_140u, m21_140i, m21_140r, m21_140g, m21_142, m21_143u, m21_143i, m21_143r, m21_143g, m21_145, m21_147, m21_148, m21_151, m21_153, m21_156, m21_158, m21_161, m21_163, m21_166, m21_168, m21_171, m21_173, m21_175, m21_178, m21_180, m21_182, m21_185, m21_187, m21_189, m21_190, m21_192, m21_195, m21_197, m21_200, m21_202u, m21_202i, m21_202r, m21_202g, m21_204, m21_205, m21_207, m21_210u, m21_210i, m21_210r, m21_210g, m21_212, m21_214, m21_216, m21_219, m21_220, m21_221, m21_223, m21_225, m21_228, m21_231, m4_0, m4_1, m4_4, m4_7, m4_8, m4_9, m4_10, m4_11, m4_14, m4_17, m4_19, m4_20, m4_21, m4_24, m4_26, m4_29, m4_31, m4_32, m4_33, m4_36, m4_38, m4_41, m4_43, m4_44, m4_45, m4_48, m4_49, m4_52, m4_53, m4_55, m4_58, m4_60, m4_61, m4_62, m4_65, m4_66, m4_69, m4_70u, m4_71, m4_72, m4_75, m4_76, m4_78, m4_81, m4_83, m4_84, m4_85, m4_88, m4_89, m4_90, m4_91, m4_92, m4_93, m4_96, m4_97, m4_98, m4_101, m4_102, m5_0, m5_1, m5_4, m5_5, m5_8, m5_11, m5_12, m5_15, m5_16, okS_i, nb0, nb1, ou_a, Option.toList_some, Option.toList_none, List.nil_append, List.cons_append]
      exact tail lp (okS_i _) (okS_i _) (okS_i _) (okS_i _) (okS_i _) o27 o28 o29 o30 o31 o32 (Or.inl ⟨rfl, e16⟩) (by exact iv2) hx1 hx2 hx3
    have b3' : bt + pn < 64 := by
      rw [lt_i, i_64]
      have : (bt + pn).toInt ≠ 64 := fun q => b3 (Int32.toInt_inj.mp (q.trans i_64.symm))
      omega
    have b3n : ¬ bt + pn < 0 := by rw [nn_i]; omega
    have k0 := in_lt hl l0 b3n b3'
    simp [a5, gn, b1, b1', b2, b2', b3, b3', b3n, k0, x0, x1, ha, e0, e1, e2, e3, e4, e7, e13, e16, o21, o22, o23, o24, o25, o26, o27, o28, o29, o30, o31, o32, m21_114, m21_115, m21_117, m21_117p, m21_118, m21_120, m21_121u, m21_121i, m21_121r, m21_121g, m21_123, m21_124, m21_126, m21_127, m21_128, m21_128p, m21_129u, m21_129i, m21_129r, m21_129g, m21_131, m21_133, m21_135, m21_136, m21_137, m21_138, m21_139, m21_140u, m21_140i, m21_140r, m21_140g, m21_142, m21_143u, m21_143i, m21_143r, m21_143g, m21_145, m21_147, m21_148, m21_151, m21_153, m21_156, m21_158, m21_161, m21_163, m21_166, m21_168, m21_171, m21_173, m21_175, m21_178, m21_180, m21_182, m21_185, m21_187, m21_189, m21_190, m21_192, m21_195, m21_197, m21_200, m21_202u, m21_202i, m21_202r, m21_202g, m21_204, m21_205, m21_207, m21_210u, m21_210i, m21_210r, m21_210g, m21_212, m21_214, m21_216, m21_219, m21_220, m21_221, m21_223, m21_225, m21_228, m21_231, m4_0, m4_1, m4_4, m4_7, m4_8, m4_9, m4_10, m4_11, m4_14, m4_17, m4_19, m4_20, m4_21, m4_24, m4_26, m4_29, m4_31, m4_32, m4_33, m4_36, m4_38, m4_41, m4_43, m4_44, m4_45, m4_48, m4_49, m4_52, m4_53, m4_55, m4_58, m4_60, m4_61, m4_62, m4_65, m4_66, m4_69, m4_70u, m4_71, m4_72, m4_75, m4_76, m4_78, m4_81, m4_83, m4_84, m4_85, m4_88, m4_89, m4_90, m4_91, m4_92, m4_93, m4_96, m4_97, m4_98, m4_101, m4_102, m5_0, m5_1, m5_4, m5_5, m5_8, m5_11, m5_12, m5_15, m5_16, okS_i, nb0, nb1, ou_a, Option.toList_some, Option.toList_none, List.nil_append, List.cons_append]
    have ep := add1_i (a := pn) (by omega)
    have q3 := b3'
    rw [lt_i, i_64] at q3
    have q2 := b2'
    rw [lt_i, i_16] at q2
    have q1 := b1'
    rw [lt_i, i_16] at q1
    exact tail lp (okS_i _) (okS_i _) (okS_i _) (okS_i _) (okS_i _) o27 o28 o29 o30 o31 o32 (Or.inl ⟨rfl, e16⟩) ⟨e0, e1, e2, e3, by simp [ou_a, e4], e7, e13, rfl, Or.inl rfl, bo, n1, n2, t1, by rw [ep]; omega, by rw [ep]; omega, by rw [ep]; omega, Or.inr (by omega), d1, d2, by show 0 ≤ (s 16).toInt; rw [e16]; exact m1, by show (s 16).toInt ≤ _; rw [e16]; exact m2, sm, c1, by show (s 9).toInt ≤ _; rw [y2]; omega, cf, LN_ou hl (by simp only [setA_len]; exact hl _)⟩ hx1 hx2 hx3
  · simp [a5, x0, x1, ha, e0, e1, e2, e3, e4, e7, e13, e16, o21, o22, o23, o24, o25, o26, o27, o28, o29, o30, o31, o32, m21_114, m21_115, m21_117, m21_117p, m21_118, m21_120, m21_121u, m21_121i, m21_121r, m21_121g, m21_123, m21_124, m21_126, m21_127, m21_128, m21_128p, m21_129u, m21_129i, m21_129r, m21_129g, m21_131, m21_133, m21_135, m21_136, m21_137, m21_138, m21_139, m21_140u, m21_140i, m21_140r, m21_140g, m21_142, m21_143u, m21_143i, m21_143r, m21_143g, m21_145, m21_147, m21_148, m21_151, m21_153, m21_156, m21_158, m21_161, m21_163, m21_166, m21_168, m21_171, m21_173, m21_175, m21_178, m21_180, m21_182, m21_185, m21_187, m21_189, m21_190, m21_192, m21_195, m21_197, m21_200, m21_202u, m21_202i, m21_202r, m21_202g, m21_204, m21_205, m21_207, m21_210u, m21_210i, m21_210r, m21_210g, m21_212, m21_214, m21_216, m21_219, m21_220, m21_221, m21_223, m21_225, m21_228, m21_231, m4_0, m4_1, m4_4, m4_7, m4_8, m4_9, m4_10, m4_11, m4_14, m4_17, m4_19, m4_20, m4_21, m4_24, m4_26, m4_29, m4_31, m4_32, m4_33, m4_36, m4_38, m4_41, m4_43, m4_44, m4_45, m4_48, m4_49, m4_52, m4_53, m4_55, m4_58, m4_60, m4_61, m4_62, m4_65, m4_66, m4_69, m4_70u, m4_71, m4_72, m4_75, m4_76, m4_78, m4_81, m4_83, m4_84, m4_85, m4_88, m4_89, m4_90, m4_91, m4_92, m4_93, m4_96, m4_97, m4_98, m4_101, m4_102, m5_0, m5_1, m5_4, m5_5, m5_8, m5_11, m5_12, m5_15, m5_16, okS_i, nb0, nb1, ou_a, Option.toList_some, Option.toList_none, List.nil_append, List.cons_append]
    exact tail lp (okS_i _) (okS_i _) (okS_i _) (okS_i _) (okS_i _) o27 o28 o29 o30 o31 o32 (Or.inl ⟨rfl, e16⟩) (by exact iv2) hx1 hx2 hx3
set_option maxRecDepth 1000000 in
set_option maxHeartbeats 20000000 in
theorem op1 {n : Nat} (lp : LP vs Q n) {i1 w cp op ns bt pn st ln T D M ix : Int32} {k21 k22 k23 k24 k25 k26 k27 k28 k29 k30 k31 k32 : Slot} {s : Nat → Int32} {A : Nat → List Int32} (o21 : okS k21) (o22 : okS k22) (o23 : okS k23) (o24 : okS k24) (o25 : okS k25) (o26 : okS k26) (o27 : okS k27) (o28 : okS k28) (o29 : okS k29) (o30 : okS k30) (o31 : okS k31) (o32 : okS k32)
    (iv : IV ix w cp op ns bt pn st ln T D M s A) (hx1 : 1 ≤ ix.toInt) (hx2 : ix.toInt + 2 ≤ 1000) (hx3 : (vs.length : Int) ≤ ix.toInt + 2 + n) (x0 : inB ix vs) (x1 : inB (ix + 1) vs) (ha : getA vs ix &&& 7 = 1) : M21 114 [.val (.ref 0), .val (.int i1), .val (.ref 1), .val (.int w), .val (.int 0), .val (.int (-1)), .val (.int (-2)), .val (.int (-3)), .val (.int (-4)), .val (.int (-5)), .val (.int cp), .val (.int op), .val (.int ns), .val (.int bt), .val (.int pn), .val (.int st), .val (.int ln), .val (.int T), .val (.int D), .val (.int M), .val (.int ix), k21, k22, k23, k24, k25, k26, k27, k28, k29, k30, k31, k32] [] (put 1 [(.array .int, vs.map Value.int)] s A []) Q := by
  have iv0 := iv
  obtain ⟨e0, e1, e2, e3, e4, e7, e13, e16, bc, bo, n1, n2, t1, p1, p2, tp, pz, d1, d2, m1, m2, sm, c1, c2, cf, hl⟩ := iv
  have y2 : (ix + 2).toInt = ix.toInt + 2 := add_i (by rw [i_2]; omega) (by rw [i_2]; omega)
  have iv2 : IV (ix + 2) w cp op ns bt pn st ln T D (s 16) s A := ⟨e0, e1, e2, e3, e4, e7, e13, rfl, bc, bo, n1, n2, t1, p1, p2, tp, pz, d1, d2, by rw [e16]; exact m1, by rw [e16]; exact m2, sm, c1, by rw [y2]; omega, cf, hl⟩
  have a5 := arg5 (getA vs (ix + 1))
  have es := add_i (a := bt) (b := pn) (by omega) (by omega)
  rcases bc with rfl | rfl
  · by_cases gn : (getA vs (ix + 1) &&& 7) % 5 - 1 < 0
    · simp [a5, gn, x0, x1, ha, e0, e1, e2, e3, e4, e7, e13, e16, o21, o22, o23, o24, o25, o26, o27, o28, o29, o30, o31, o32, m21_114, m21_115, m21_117, m21_117p, m21_118, m21_120, m21_121u, m21_121i, m21_121r, m21_121g, m21_123, m21_124, m21_126, m21_127, m21_128, m21_128p, m21_129u, m21_129i, m21_129r, m21_129g, m21_131, m21_133, m21_135, m21_136, m21_137, m21_138, m21_139, m21_140u, m21_140i, m21_140r, m21_140g, m21_142, m21_143u, m21_143i, m21_143r, m21_143g, m21_145, m21_147, m21_148, m21_151, m21_153, m21_156, m21_158, m21_161, m21_163, m21_166, m21_168, m21_171, m21_173, m21_175, m21_178, m21_180, m21_182, m21_185, m21_187, m21_189, m21_190, m21_192, m21_195, m21_197, m21_200, m21_202u, m21_202i, m21_202r, m21_202g, m21_204, m21_205, m21_207, m21_210u, m21_210i, m21_210r, m21_210g, m21_212, m21_214, m21_216, m21_219, m21_220, m21_221, m21_223, m21_225, m21_228, m21_231, m4_0, m4_1, m4_4, m4_7, m4_8, m4_9, m4_10, m4_11, m4_14, m4_17, m4_19, m4_20, m4_21, m4_24, m4_26, m4_29, m4_31, m4_32, m4_33, m4_36, m4_38, m4_41, m4_43, m4_44, m4_45, m4_48, m4_49, m4_52, m4_53, m4_55, m4_58, m4_60, m4_61, m4_62, m4_65, m4_66, m4_69, m4_70u, m4_71, m4_72, m4_75, m4_76, m4_78, m4_81, m4_83, m4_84, m4_85, m4_88, m4_89, m4_90, m4_91, m4_92, m4_93, m4_96, m4_97, m4_98, m4_101, m4_102, m5_0, m5_1, m5_4, m5_5, m5_8, m5_11, m5_12, m5_15, m5_16, okS_i, nb0, nb1, ou_a, Option.toList_some, Option.toList_none, List.nil_append, List.cons_append]
      exact tail lp (okS_i _) (okS_i _) (okS_i _) (okS_i _) (okS_i _) o27 o28 o29 o30 o31 o32 (Or.inl ⟨rfl, e16⟩) (by exact iv2) hx1 hx2 hx3
    by_cases b1 : ns = 16
    · have b1' : ¬ ns < 16 := by rw [b1]; decide
      subst b1
      simp [a5, gn, x0, x1, ha, e0, e1, e2, e3, e4, e7, e13, e16, o21, o22, o23, o24, o25, o26, o27, o28, o29, o30, o31, o32, m21_114, m21_115, m21_117, m21_117p, m21_118, m21_120, m21_121u, m21_121i, m21_121r, m21_121g, m21_123, m21_124, m21_126, m21_127, m21_128, m21_128p, m21_129u, m21_129i, m21_129r, m21_129g, m21_131, m21_133, m21_135, m21_136, m21_137, m21_138, m21_139, m21_140u, m21_140i, m21_140r, m21_140g, m21_142, m21_143u, m21_143i, m21_143r, m21_143g, m21_145, m21_147, m21_148, m21_151, m21_153, m21_156, m21_158, m21_161, m21_163, m21_166, m21_168, m21_171, m21_173, m21_175, m21_178, m21_180, m21_182, m21_185, m21_187, m21_189, m21_190, m21_192, m21_195, m21_197, m21_200, m21_202u, m21_202i, m21_202r, m21_202g, m21_204, m21_205, m21_207, m21_210u, m21_210i, m21_210r, m21_210g, m21_212, m21_214, m21_216, m21_219, m21_220, m21_221, m21_223, m21_225, m21_228, m21_231, m4_0, m4_1, m4_4, m4_7, m4_8, m4_9, m4_10, m4_11, m4_14, m4_17, m4_19, m4_20, m4_21, m4_24, m4_26, m4_29, m4_31, m4_32, m4_33, m4_36, m4_38, m4_41, m4_43, m4_44, m4_45, m4_48, m4_49, m4_52, m4_53, m4_55, m4_58, m4_60, m4_61, m4_62, m4_65, m4_66, m4_69, m4_70u, m4_71, m4_72, m4_75, m4_76, m4_78, m4_81, m4_83, m4_84, m4_85, m4_88, m4_89, m4_90, m4_91, m4_92, m4_93, m4_96, m4_97, m4_98, m4_101, m4_102, m5_0, m5_1, m5_4, m5_5, m5_8, m5_11, m5_12, m5_15, m5_16, okS_i, nb0, nb1, ou_a, Option.toList_some, Option.toList_none, List.nil_append, List.cons_append]
      exact tail lp (okS_i _) (okS_i _) (okS_i _) (okS_i _) (okS_i _) o27 o28 o29 o30 o31 o32 (Or.inl ⟨rfl, e16⟩) (by exact iv2) hx1 hx2 hx3
    have b1' : ns < 16 := by
      rw [lt_i, i_16]
      have : ns.toInt ≠ 16 := fun q => b1 (Int32.toInt_inj.mp (q.trans i_16.symm))
      omega
    by_cases b2 : pn = 16
    · subst b2
      simp [a5, gn, b1, b1', x0, x1, ha, e0, e1, e2, e3, e4, e7, e13, e16, o21, o22, o23, o24, o25, o26, o27, o28, o29, o30, o31, o32, m21_114, m21_115, m21_117, m21_117p, m21_118, m21_120, m21_121u, m21_121i, m21_121r, m21_121g, m21_123, m21_124, m21_126, m21_127, m21_128, m21_128p, m21_129u, m21_129i, m21_129r, m21_129g, m21_131, m21_133, m21_135, m21_136, m21_137, m21_138, m21_139, m21_140u, m21_140i, m21_140r, m21_140g, m21_142, m21_143u, m21_143i, m21_143r, m21_143g, m21_145, m21_147, m21_148, m21_151, m21_153, m21_156, m21_158, m21_161, m21_163, m21_166, m21_168, m21_171, m21_173, m21_175, m21_178, m21_180, m21_182, m21_185, m21_187, m21_189, m21_190, m21_192, m21_195, m21_197, m21_200, m21_202u, m21_202i, m21_202r, m21_202g, m21_204, m21_205, m21_207, m21_210u, m21_210i, m21_210r, m21_210g, m21_212, m21_214, m21_216, m21_219, m21_220, m21_221, m21_223, m21_225, m21_228, m21_231, m4_0, m4_1, m4_4, m4_7, m4_8, m4_9, m4_10, m4_11, m4_14, m4_17, m4_19, m4_20, m4_21, m4_24, m4_26, m4_29, m4_31, m4_32, m4_33, m4_36, m4_38, m4_41, m4_43, m4_44, m4_45, m4_48, m4_49, m4_52, m4_53, m4_55, m4_58, m4_60, m4_61, m4_62, m4_65, m4_66, m4_69, m4_70u, m4_71, m4_72, m4_75, m4_76, m4_78, m4_81, m4_83, m4_84, m4_85, m4_88, m4_89, m4_90, m4_91, m4_92, m4_93, m4_96, m4_97, m4_98, m4_101, m4_102, m5_0, m5_1, m5_4, m5_5, m5_8, m5_11, m5_12, m5_15, m5_16, okS_i, nb0, nb1, ou_a, Option.toList_some, Option.toList_none, List.nil_append, List.cons_append]
      exact tail lp (okS_i _) (okS_i _) (okS_i _) (okS_i _) (okS_i _) o27 o28 o29 o30 o31 o32 (Or.inl ⟨rfl, e16⟩) (by exact iv2) hx1 hx2 hx3
    have b2' : pn < 16 := by
      rw [lt_i, i_16]
      have : pn.toInt ≠ 16 := fun q => b2 (Int32.toInt_inj.mp (q.trans i_16.symm))
      omega
    by_cases b3 : bt + pn = 64
    · simp [a5, gn, b1, b1', b2, b2', b3, x0, x1, ha, e0, e1, e2, e3, e4, e7, e13, e16, o21, o22, o23, o24, o25, o26, o27, o28, o29, o30, o31, o32, m21_114, m21_115, m21_117, m21_117p, m21_118, m21_120, m21_121u, m21_121i, m21_121r, m21_121g, m21_123, m21_124, m21_126, m21_127, m21_128, m21_128p, m21_129u, m21_129i, m21_129r, m21_129g, m21_131, m21_133, m21_135, m21_136, m21_137, m21_138, m21_139, m21_140u, m21_140i, m21_140r, m21_140g, m21_142, m21_143u, m21_143i, m21_143r, m21_143g, m21_145, m21_147, m21_148, m21_151, m21_153, m21_156, m21_158, m21_161, m21_163, m21_166, m21_168, m21_171, m21_173, m21_175, m21_178, m21_180, m21_182, m21_185, m21_187, m21_189, m21_190, m21_192, m21_195, m21_197, m21_200, m21_202u, m21_202i, m21_202r, m21_202g, m21_204, m21_205, m21_207, m21_210u, m21_210i, m21_210r, m21_210g, m21_212, m21_214, m21_216, m21_219, m21_220, m21_221, m21_223, m21_225, m21_228, m21_231, m4_0, m4_1, m4_4, m4_7, m4_8, m4_9, m4_10, m4_11, m4_14, m4_17, m4_19, m4_20, m4_21, m4_24, m4_26, m4_29, m4_31, m4_32, m4_33, m4_36, m4_38, m4_41, m4_43, m4_44, m4_45, m4_48, m4_49, m4_52, m4_53, m4_55, m4_58, m4_60, m4_61, m4_62, m4_65, m4_66, m4_69, m4_70u, m4_71, m4_72, m4_75, m4_76, m4_78, m4_81, m4_83, m4_84, m4_85, m4_88, m4_89, m4_90, m4_91, m4_92, m4_93, m4_96, m4_97, m4_98, m4_101, m4_102, m5_0, m5_1, m5_4, m5_5, m5_8, m5_11, m5_12, m5_15, m5_16, okS_i, nb0, nb1, ou_a, Option.toList_some, Option.toList_none, List.nil_append, List.cons_append]
      exact tail lp (okS_i _) (okS_i _) (okS_i _) (okS_i _) (okS_i _) o27 o28 o29 o30 o31 o32 (Or.inl ⟨rfl, e16⟩) (by exact iv2) hx1 hx2 hx3
    have b3' : bt + pn < 64 := by
      rw [lt_i, i_64]
      have : (bt + pn).toInt ≠ 64 := fun q => b3 (Int32.toInt_inj.mp (q.trans i_64.symm))
      omega
    have b3n : ¬ bt + pn < 0 := by rw [nn_i]; omega
    have k0 := in_lt hl l0 b3n b3'
    simp [a5, gn, b1, b1', b2, b2', b3, b3', b3n, k0, x0, x1, ha, e0, e1, e2, e3, e4, e7, e13, e16, o21, o22, o23, o24, o25, o26, o27, o28, o29, o30, o31, o32, m21_114, m21_115, m21_117, m21_117p, m21_118, m21_120, m21_121u, m21_121i, m21_121r, m21_121g, m21_123, m21_124, m21_126, m21_127, m21_128, m21_128p, m21_129u, m21_129i, m21_129r, m21_129g, m21_131, m21_133, m21_135, m21_136, m21_137, m21_138, m21_139, m21_140u, m21_140i, m21_140r, m21_140g, m21_142, m21_143u, m21_143i, m21_143r, m21_143g, m21_145, m21_147, m21_148, m21_151, m21_153, m21_156, m21_158, m21_161, m21_163, m21_166, m21_168, m21_171, m21_173, m21_175, m21_178, m21_180, m21_182, m21_185, m21_187, m21_189, m21_190, m21_192, m21_195, m21_197, m21_200, m21_202u, m21_202i, m21_202r, m21_202g, m21_204, m21_205, m21_207, m21_210u, m21_210i, m21_210r, m21_210g, m21_212, m21_214, m21_216, m21_219, m21_220, m21_221, m21_223, m21_225, m21_228, m21_231, m4_0, m4_1, m4_4, m4_7, m4_8, m4_9, m4_10, m4_11, m4_14, m4_17, m4_19, m4_20, m4_21, m4_24, m4_26, m4_29, m4_31, m4_32, m4_33, m4_36, m4_38, m4_41, m4_43, m4_44, m4_45, m4_48, m4_49, m4_52, m4_53, m4_55, m4_58, m4_60, m4_61, m4_62, m4_65, m4_66, m4_69, m4_70u, m4_71, m4_72, m4_75, m4_76, m4_78, m4_81, m4_83, m4_84, m4_85, m4_88, m4_89, m4_90, m4_91, m4_92, m4_93, m4_96, m4_97, m4_98, m4_101, m4_102, m5_0, m5_1, m5_4, m5_5, m5_8, m5_11, m5_12, m5_15, m5_16, okS_i, nb0, nb1, ou_a, Option.toList_some, Option.toList_none, List.nil_append, List.cons_append]
    have ep := add1_i (a := pn) (by omega)
    have q3 := b3'
    rw [lt_i, i_64] at q3
    have q2 := b2'
    rw [lt_i, i_16] at q2
    have q1 := b1'
    rw [lt_i, i_16] at q1
    exact tail lp (okS_i _) (okS_i _) (okS_i _) (okS_i _) (okS_i _) o27 o28 o29 o30 o31 o32 (Or.inl ⟨rfl, e16⟩) ⟨e0, e1, e2, e3, by simp [ou_a, e4], e7, e13, rfl, Or.inl rfl, bo, n1, n2, t1, by rw [ep]; omega, by rw [ep]; omega, by rw [ep]; omega, Or.inr (by omega), d1, d2, by show 0 ≤ (s 16).toInt; rw [e16]; exact m1, by show (s 16).toInt ≤ _; rw [e16]; exact m2, sm, c1, by show (s 9).toInt ≤ _; rw [y2]; omega, cf, LN_ou hl (by simp only [setA_len]; exact hl _)⟩ hx1 hx2 hx3
  · simp [a5, x0, x1, ha, e0, e1, e2, e3, e4, e7, e13, e16, o21, o22, o23, o24, o25, o26, o27, o28, o29, o30, o31, o32, m21_114, m21_115, m21_117, m21_117p, m21_118, m21_120, m21_121u, m21_121i, m21_121r, m21_121g, m21_123, m21_124, m21_126, m21_127, m21_128, m21_128p, m21_129u, m21_129i, m21_129r, m21_129g, m21_131, m21_133, m21_135, m21_136, m21_137, m21_138, m21_139, m21_140u, m21_140i, m21_140r, m21_140g, m21_142, m21_143u, m21_143i, m21_143r, m21_143g, m21_145, m21_147, m21_148, m21_151, m21_153, m21_156, m21_158, m21_161, m21_163, m21_166, m21_168, m21_171, m21_173, m21_175, m21_178, m21_180, m21_182, m21_185, m21_187, m21_189, m21_190, m21_192, m21_195, m21_197, m21_200, m21_202u, m21_202i, m21_202r, m21_202g, m21_204, m21_205, m21_207, m21_210u, m21_210i, m21_210r, m21_210g, m21_212, m21_214, m21_216, m21_219, m21_220, m21_221, m21_223, m21_225, m21_228, m21_231, m4_0, m4_1, m4_4, m4_7, m4_8, m4_9, m4_10, m4_11, m4_14, m4_17, m4_19, m4_20, m4_21, m4_24, m4_26, m4_29, m4_31, m4_32, m4_33, m4_36, m4_38, m4_41, m4_43, m4_44, m4_45, m4_48, m4_49, m4_52, m4_53, m4_55, m4_58, m4_60, m4_61, m4_62, m4_65, m4_66, m4_69, m4_70u, m4_71, m4_72, m4_75, m4_76, m4_78, m4_81, m4_83, m4_84, m4_85, m4_88, m4_89, m4_90, m4_91, m4_92, m4_93, m4_96, m4_97, m4_98, m4_101, m4_102, m5_0, m5_1, m5_4, m5_5, m5_8, m5_11, m5_12, m5_15, m5_16, okS_i, nb0, nb1, ou_a, Option.toList_some, Option.toList_none, List.nil_append, List.cons_append]
    exact tail lp (okS_i _) (okS_i _) (okS_i _) (okS_i _) (okS_i _) o27 o28 o29 o30 o31 o32 (Or.inl ⟨rfl, e16⟩) (by exact iv2) hx1 hx2 hx3
set_option maxRecDepth 1000000 in
set_option maxHeartbeats 20000000 in
theorem op2 {n : Nat} (lp : LP vs Q n) {i1 w cp op ns bt pn st ln T D M ix : Int32} {k21 k22 k23 k24 k25 k26 k27 k28 k29 k30 k31 k32 : Slot} {s : Nat → Int32} {A : Nat → List Int32} (o21 : okS k21) (o22 : okS k22) (o23 : okS k23) (o24 : okS k24) (o25 : okS k25) (o26 : okS k26) (o27 : okS k27) (o28 : okS k28) (o29 : okS k29) (o30 : okS k30) (o31 : okS k31) (o32 : okS k32)
    (iv : IV ix w cp op ns bt pn st ln T D M s A) (hx1 : 1 ≤ ix.toInt) (hx2 : ix.toInt + 2 ≤ 1000) (hx3 : (vs.length : Int) ≤ ix.toInt + 2 + n) (x0 : inB ix vs) (x1 : inB (ix + 1) vs) (ha : getA vs ix &&& 7 = 2) : M21 114 [.val (.ref 0), .val (.int i1), .val (.ref 1), .val (.int w), .val (.int 0), .val (.int (-1)), .val (.int (-2)), .val (.int (-3)), .val (.int (-4)), .val (.int (-5)), .val (.int cp), .val (.int op), .val (.int ns), .val (.int bt), .val (.int pn), .val (.int st), .val (.int ln), .val (.int T), .val (.int D), .val (.int M), .val (.int ix), k21, k22, k23, k24, k25, k26, k27, k28, k29, k30, k31, k32] [] (put 1 [(.array .int, vs.map Value.int)] s A []) Q := by
  have iv0 := iv
  obtain ⟨e0, e1, e2, e3, e4, e7, e13, e16, bc, bo, n1, n2, t1, p1, p2, tp, pz, d1, d2, m1, m2, sm, c1, c2, cf, hl⟩ := iv
  have y2 : (ix + 2).toInt = ix.toInt + 2 := add_i (by rw [i_2]; omega) (by rw [i_2]; omega)
  have iv2 : IV (ix + 2) w cp op ns bt pn st ln T D (s 16) s A := ⟨e0, e1, e2, e3, e4, e7, e13, rfl, bc, bo, n1, n2, t1, p1, p2, tp, pz, d1, d2, by rw [e16]; exact m1, by rw [e16]; exact m2, sm, c1, by rw [y2]; omega, cf, hl⟩
  have es := add_i (a := bt) (b := pn) (by omega) (by omega)
  rcases bc with rfl | rfl
  · by_cases b1 : pn = 0
    · subst b1
      simp [lt_irr, x0, x1, ha, e0, e1, e2, e3, e4, e7, e13, e16, o21, o22, o23, o24, o25, o26, o27, o28, o29, o30, o31, o32, m21_114, m21_115, m21_117, m21_117p, m21_118, m21_120, m21_121u, m21_121i, m21_121r, m21_121g, m21_123, m21_124, m21_126, m21_127, m21_128, m21_128p, m21_129u, m21_129i, m21_129r, m21_129g, m21_131, m21_133, m21_135, m21_136, m21_137, m21_138, m21_139, m21_140u, m21_140i, m21_140r, m21_140g, m21_142, m21_143u, m21_143i, m21_143r, m21_143g, m21_145, m21_147, m21_148, m21_234, m21_236, m21_237, m21_240, m21_242, m21_245, m21_247, m21_250, m21_252, m21_255, m21_257, m21_260, m21_262u, m21_262i, m21_262r, m21_262g, m21_264, m21_265, m21_268u, m21_268i, m21_268r, m21_268g, m21_270, m21_272, m21_274, m21_277, m21_278, m21_279, m21_281, m21_284, m21_285, m21_287, m21_290u, m21_290i, m21_290r, m21_290g, m21_292, m21_294, m21_296, m21_299, m21_300, m21_301, m21_303, m21_305, m21_306i, m21_308, m21_311, m21_312i, m21_314, m1_0, m1_1, m1_4, m1_7, m1_8, m1_9, m1_10, m1_13, m1_16, m1_18, m1_19, m1_20, m1_23u, m1_24, m1_25, m1_28, m1_29, m1_31, m1_34, m1_36, m1_37, m1_38, m1_41, m1_42, m1_43, m1_46, m1_47, m1_48, m1_51, m1_52, m1_53, m1_56, m1_57, m1_58, m1_59, m1_62, m1_63, m1_66, m1_67, m1_70, m1_71, m1_72, m1_75, m1_76, m1_77, m1_78, m1_79, m1_82, m1_83, okS_i, nb0, nb1, ou_a, Option.toList_some, Option.toList_none, List.nil_append, List.cons_append]
      exact tail lp (okS_i _) (okS_i _) (okS_i _) (okS_i _) (okS_i _) o27 o28 o29 o30 o31 o32 (Or.inl ⟨rfl, e16⟩) (by exact iv2) hx1 hx2 hx3
    have hns : ns.toInt < 16 := by rcases pz with q | q; exact absurd q b1; exact q
    have b2 : ¬ ns < 0 := by rw [nn_i]; exact n1
    have b3 : ns < 16 := by rw [lt_i, i_16]; exact hns
    have k1 := in_lt hl l1 b2 b3
    have k2 := in_lt hl l2' b2 b3
    have en := add1_i (a := ns) (by omega)
    have b4 : ns < ns + 1 := by rw [lt_i, en]; omega
    have gs : getA (setA (A 2) ns pn) ns = pn := getA_same k2
    simp [b1, b2, b3, b4, k1, k2, inB_set, gs, x0, x1, ha, e0, e1, e2, e3, e4, e7, e13, e16, o21, o22, o23, o24, o25, o26, o27, o28, o29, o30, o31, o32, m21_114, m21_115, m21_117, m21_117p, m21_118, m21_120, m21_121u, m21_121i, m21_121r, m21_121g, m21_123, m21_124, m21_126, m21_127, m21_128, m21_128p, m21_129u, m21_129i, m21_129r, m21_129g, m21_131, m21_133, m21_135, m21_136, m21_137, m21_138, m21_139, m21_140u, m21_140i, m21_140r, m21_140g, m21_142, m21_143u, m21_143i, m21_143r, m21_143g, m21_145, m21_147, m21_148, m21_234, m21_236, m21_237, m21_240, m21_242, m21_245, m21_247, m21_250, m21_252, m21_255, m21_257, m21_260, m21_262u, m21_262i, m21_262r, m21_262g, m21_264, m21_265, m21_268u, m21_268i, m21_268r, m21_268g, m21_270, m21_272, m21_274, m21_277, m21_278, m21_279, m21_281, m21_284, m21_285, m21_287, m21_290u, m21_290i, m21_290r, m21_290g, m21_292, m21_294, m21_296, m21_299, m21_300, m21_301, m21_303, m21_305, m21_306i, m21_308, m21_311, m21_312i, m21_314, m1_0, m1_1, m1_4, m1_7, m1_8, m1_9, m1_10, m1_13, m1_16, m1_18, m1_19, m1_20, m1_23u, m1_24, m1_25, m1_28, m1_29, m1_31, m1_34, m1_36, m1_37, m1_38, m1_41, m1_42, m1_43, m1_46, m1_47, m1_48, m1_51, m1_52, m1_53, m1_56, m1_57, m1_58, m1_59, m1_62, m1_63, m1_66, m1_67, m1_70, m1_71, m1_72, m1_75, m1_76, m1_77, m1_78, m1_79, m1_82, m1_83, m7_0, m7_1, m7_2, m7_5, m7_8, m7_9, m7_10, m7_11, m7_14, m7_15, m7_16, m8_0, m8_1, m8_4, m8_5, m8_6, m8_9, m8_12, m8_13, m8_15, m8_18, m8_19, m8_22, m8_23, okS_i, nb0, nb1, ou_a, Option.toList_some, Option.toList_none, List.nil_append, List.cons_append]
    exact tail lp (okS_i _) (okS_i _) (okS_i _) (okS_i _) (okS_i _) (okS_i _) o28 o29 o30 o31 o32 (Or.inl ⟨rfl, e16⟩) ⟨e0, e1, by simp [ou_a, e2], by simp [ou_a, e3, e4], by simp [ou_a], e7, e13, rfl, Or.inl rfl, bo, by rw [en]; omega, by rw [en]; omega, by rw [es]; omega, by decide, by decide, by rw [es, i_0]; omega, Or.inl rfl, d1, d2, by show 0 ≤ (s 16).toInt; rw [e16]; exact m1, by show (s 16).toInt ≤ _; rw [e16]; exact m2, sm, c1, by show (s 9).toInt ≤ _; rw [y2]; omega, cf, LN_ou (LN_ou hl (by simp only [setA_len]; exact hl _)) (by simp only [setA_len]; exact hl _)⟩ hx1 hx2 hx3
  · simp [lt_irr, x0, x1, ha, e0, e1, e2, e3, e4, e7, e13, e16, o21, o22, o23, o24, o25, o26, o27, o28, o29, o30, o31, o32, m21_114, m21_115, m21_117, m21_117p, m21_118, m21_120, m21_121u, m21_121i, m21_121r, m21_121g, m21_123, m21_124, m21_126, m21_127, m21_128, m21_128p, m21_129u, m21_129i, m21_129r, m21_129g, m21_131, m21_133, m21_135, m21_136, m21_137, m21_138, m21_139, m21_140u, m21_140i, m21_140r, m21_140g, m21_142, m21_143u, m21_143i, m21_143r, m21_143g, m21_145, m21_147, m21_148, m21_234, m21_236, m21_237, m21_240, m21_242, m21_245, m21_247, m21_250, m21_252, m21_255, m21_257, m21_260, m21_262u, m21_262i, m21_262r, m21_262g, m21_264, m21_265, m21_268u, m21_268i, m21_268r, m21_268g, m21_270, m21_272, m21_274, m21_277, m21_278, m21_279, m21_281, m21_284, m21_285, m21_287, m21_290u, m21_290i, m21_290r, m21_290g, m21_292, m21_294, m21_296, m21_299, m21_300, m21_301, m21_303, m21_305, m21_306i, m21_308, m21_311, m21_312i, m21_314, m1_0, m1_1, m1_4, m1_7, m1_8, m1_9, m1_10, m1_13, m1_16, m1_18, m1_19, m1_20, m1_23u, m1_24, m1_25, m1_28, m1_29, m1_31, m1_34, m1_36, m1_37, m1_38, m1_41, m1_42, m1_43, m1_46, m1_47, m1_48, m1_51, m1_52, m1_53, m1_56, m1_57, m1_58, m1_59, m1_62, m1_63, m1_66, m1_67, m1_70, m1_71, m1_72, m1_75, m1_76, m1_77, m1_78, m1_79, m1_82, m1_83, okS_i, nb0, nb1, ou_a, Option.toList_some, Option.toList_none, List.nil_append, List.cons_append]
    exact tail lp (okS_i _) (okS_i _) (okS_i _) (okS_i _) (okS_i _) o27 o28 o29 o30 o31 o32 (Or.inl ⟨rfl, e16⟩) (by exact iv2) hx1 hx2 hx3
set_option maxRecDepth 1000000 in
set_option maxHeartbeats 20000000 in
theorem op3 {n : Nat} (lp : LP vs Q n) {i1 w cp op ns bt pn st ln T D M ix : Int32} {k21 k22 k23 k24 k25 k26 k27 k28 k29 k30 k31 k32 : Slot} {s : Nat → Int32} {A : Nat → List Int32} (o21 : okS k21) (o22 : okS k22) (o23 : okS k23) (o24 : okS k24) (o25 : okS k25) (o26 : okS k26) (o27 : okS k27) (o28 : okS k28) (o29 : okS k29) (o30 : okS k30) (o31 : okS k31) (o32 : okS k32)
    (iv : IV ix w cp op ns bt pn st ln T D M s A) (hx1 : 1 ≤ ix.toInt) (hx2 : ix.toInt + 2 ≤ 1000) (hx3 : (vs.length : Int) ≤ ix.toInt + 2 + n) (x0 : inB ix vs) (x1 : inB (ix + 1) vs) (ha : getA vs ix &&& 7 = 3) : M21 114 [.val (.ref 0), .val (.int i1), .val (.ref 1), .val (.int w), .val (.int 0), .val (.int (-1)), .val (.int (-2)), .val (.int (-3)), .val (.int (-4)), .val (.int (-5)), .val (.int cp), .val (.int op), .val (.int ns), .val (.int bt), .val (.int pn), .val (.int st), .val (.int ln), .val (.int T), .val (.int D), .val (.int M), .val (.int ix), k21, k22, k23, k24, k25, k26, k27, k28, k29, k30, k31, k32] [] (put 1 [(.array .int, vs.map Value.int)] s A []) Q := by
  have iv0 := iv
  obtain ⟨e0, e1, e2, e3, e4, e7, e13, e16, bc, bo, n1, n2, t1, p1, p2, tp, pz, d1, d2, m1, m2, sm, c1, c2, cf, hl⟩ := iv
  have y2 : (ix + 2).toInt = ix.toInt + 2 := add_i (by rw [i_2]; omega) (by rw [i_2]; omega)
  have iv2 : IV (ix + 2) w cp op ns bt pn st ln T D (s 16) s A := ⟨e0, e1, e2, e3, e4, e7, e13, rfl, bc, bo, n1, n2, t1, p1, p2, tp, pz, d1, d2, by rw [e16]; exact m1, by rw [e16]; exact m2, sm, c1, by rw [y2]; omega, cf, hl⟩
  rcases bc with rfl | rfl
  · by_cases b1 : pn = 0
    · subst b1
      by_cases b2 : ns = 0
      · subst b2
        simp [lt_irr, x0, x1, ha, e0, e1, e2, e3, e4, e7, e13, e16, o21, o22, o23, o24, o25, o26, o27, o28, o29, o30, o31, o32, m21_114, m21_115, m21_117, m21_117p, m21_118, m21_120, m21_121u, m21_121i, m21_121r, m21_121g, m21_123, m21_124, m21_126, m21_127, m21_128, m21_128p, m21_129u, m21_129i, m21_129r, m21_129g, m21_131, m21_133, m21_135, m21_136, m21_137, m21_138, m21_139, m21_140u, m21_140i, m21_140r, m21_140g, m21_142, m21_143u, m21_143i, m21_143r, m21_143g, m21_145, m21_147, m21_148, m21_234, m21_236, m21_237, m21_317, m21_319, m21_320, m21_323, m21_325, m21_328, m21_330, m21_333, m21_335, m21_338, m21_340, m21_343, m21_345, m21_348, m21_350u, m21_350i, m21_350r, m21_350g, m21_352, m21_353, m21_356u, m21_356i, m21_356r, m21_356g, m21_358, m21_360, m21_362, m21_365, m21_366, m21_367, m21_369, m21_371, m21_374, m21_375i, m21_377, m6_0, m6_1, m6_4, m6_7, m6_8, m6_9, m6_10, m6_13, m6_16, m6_17, m6_18, m6_19, m6_22, m6_25, m6_27, m6_28, m6_29, m6_32, m6_33, m6_36, m6_37, m6_38, m6_41, m6_42, m6_43, m6_46, m6_47, okS_i, nb0, nb1, ou_a, Option.toList_some, Option.toList_none, List.nil_append, List.cons_append]
        exact tail lp (okS_i _) (okS_i _) (okS_i _) (okS_i _) (okS_i _) o27 o28 o29 o30 o31 o32 (Or.inl ⟨rfl, e16⟩) (by exact iv2) hx1 hx2 hx3
      simp [b2, x0, x1, ha, e0, e1, e2, e3, e4, e7, e13, e16, o21, o22, o23, o24, o25, o26, o27, o28, o29, o30, o31, o32, m21_114, m21_115, m21_117, m21_117p, m21_118, m21_120, m21_121u, m21_121i, m21_121r, m21_121g, m21_123, m21_124, m21_126, m21_127, m21_128, m21_128p, m21_129u, m21_129i, m21_129r, m21_129g, m21_131, m21_133, m21_135, m21_136, m21_137, m21_138, m21_139, m21_140u, m21_140i, m21_140r, m21_140g, m21_142, m21_143u, m21_143i, m21_143r, m21_143g, m21_145, m21_147, m21_148, m21_234, m21_236, m21_237, m21_317, m21_319, m21_320, m21_323, m21_325, m21_328, m21_330, m21_333, m21_335, m21_338, m21_340, m21_343, m21_345, m21_348, m21_350u, m21_350i, m21_350r, m21_350g, m21_352, m21_353, m21_356u, m21_356i, m21_356r, m21_356g, m21_358, m21_360, m21_362, m21_365, m21_366, m21_367, m21_369, m21_371, m21_374, m21_375i, m21_377, okS_i, nb0, nb1, ou_a, Option.toList_some, Option.toList_none, List.nil_append, List.cons_append]
      refine c6 hl e1 e4 (by rw [e2]; exact b2) (fun s' A' h' u1 fr => ?_)
      have g9 : s' 9 = s 9 := fr 9 (by decide) (by decide) (by decide)
      have g10 : s' 10 = s 10 := fr 10 (by decide) (by decide) (by decide)
      have g11 : s' 11 = s 11 := fr 11 (by decide) (by decide) (by decide)
      have g12 : s' 12 = s 12 := fr 12 (by decide) (by decide) (by decide)
      have g8 : s' 8 = s 8 := fr 8 (by decide) (by decide) (by decide)
      have g16 : s' 16 = M := (fr 16 (by decide) (by decide) (by decide)).trans e16
      have g14 : s' 14 = s 14 := fr 14 (by decide) (by decide) (by decide)
      have g15 : s' 15 = s 15 := fr 15 (by decide) (by decide) (by decide)
      simp [o21, o22, o23, o24, o25, o26, o27, o28, o29, o30, o31, o32, m21_114, m21_115, m21_117, m21_117p, m21_118, m21_120, m21_121u, m21_121i, m21_121r, m21_121g, m21_123, m21_124, m21_126, m21_127, m21_128, m21_128p, m21_129u, m21_129i, m21_129r, m21_129g, m21_131, m21_133, m21_135, m21_136, m21_137, m21_138, m21_139, m21_140u, m21_140i, m21_140r, m21_140g, m21_142, m21_143u, m21_143i, m21_143r, m21_143g, m21_145, m21_147, m21_148, m21_234, m21_236, m21_237, m21_317, m21_319, m21_320, m21_323, m21_325, m21_328, m21_330, m21_333, m21_335, m21_338, m21_340, m21_343, m21_345, m21_348, m21_350u, m21_350i, m21_350r, m21_350g, m21_352, m21_353, m21_356u, m21_356i, m21_356r, m21_356g, m21_358, m21_360, m21_362, m21_365, m21_366, m21_367, m21_369, m21_371, m21_374, m21_375i, m21_377, okS_i, nb0, nb1, ou_a, Option.toList_some, Option.toList_none, List.nil_append, List.cons_append]
      exact tail lp (okS_i _) (okS_i _) (okS_i _) (okS_i _) (okS_i _) o27 o28 o29 o30 o31 o32 (Or.inl ⟨rfl, g16⟩) ⟨(fr 0 (by decide) (by decide) (by decide)).trans e0, u1, (fr 2 (by decide) (by decide) (by decide)).trans e2, (fr 3 (by decide) (by decide) (by decide)).trans e3, (fr 4 (by decide) (by decide) (by decide)).trans e4, (fr 7 (by decide) (by decide) (by decide)).trans e7, (fr 13 (by decide) (by decide) (by decide)).trans e13, rfl, Or.inr rfl, by rw [g14, g15]; exact bo, n1, n2, t1, p1, p2, tp, Or.inl rfl, d1, d2, by rw [g16]; exact m1, by rw [g16]; exact m2, by unfold SM at *; rw [g8, g9, g10, g11]; exact sm, by rw [g9]; exact c1, by rw [g9, y2]; omega, by unfold CF at *; rw [g9, g12]; exact cf, h'⟩ hx1 hx2 hx3
    · simp [b1, x0, x1, ha, e0, e1, e2, e3, e4, e7, e13, e16, o21, o22, o23, o24, o25, o26, o27, o28, o29, o30, o31, o32, m21_114, m21_115, m21_117, m21_117p, m21_118, m21_120, m21_121u, m21_121i, m21_121r, m21_121g, m21_123, m21_124, m21_126, m21_127, m21_128, m21_128p, m21_129u, m21_129i, m21_129r, m21_129g, m21_131, m21_133, m21_135, m21_136, m21_137, m21_138, m21_139, m21_140u, m21_140i, m21_140r, m21_140g, m21_142, m21_143u, m21_143i, m21_143r, m21_143g, m21_145, m21_147, m21_148, m21_234, m21_236, m21_237, m21_317, m21_319, m21_320, m21_323, m21_325, m21_328, m21_330, m21_333, m21_335, m21_338, m21_340, m21_343, m21_345, m21_348, m21_350u, m21_350i, m21_350r, m21_350g, m21_352, m21_353, m21_356u, m21_356i, m21_356r, m21_356g, m21_358, m21_360, m21_362, m21_365, m21_366, m21_367, m21_369, m21_371, m21_374, m21_375i, m21_377, m6_0, m6_1, m6_4, m6_7, m6_8, m6_9, m6_10, m6_13, m6_16, m6_17, m6_18, m6_19, m6_22, m6_25, m6_27, m6_28, m6_29, m6_32, m6_33, m6_36, m6_37, m6_38, m6_41, m6_42, m6_43, m6_46, m6_47, okS_i, nb0, nb1, ou_a, Option.toList_some, Option.toList_none, List.nil_append, List.cons_append]
      exact tail lp (okS_i _) (okS_i _) (okS_i _) (okS_i _) (okS_i _) o27 o28 o29 o30 o31 o32 (Or.inl ⟨rfl, e16⟩) (by exact iv2) hx1 hx2 hx3
  · simp [lt_irr, x0, x1, ha, e0, e1, e2, e3, e4, e7, e13, e16, o21, o22, o23, o24, o25, o26, o27, o28, o29, o30, o31, o32, m21_114, m21_115, m21_117, m21_117p, m21_118, m21_120, m21_121u, m21_121i, m21_121r, m21_121g, m21_123, m21_124, m21_126, m21_127, m21_128, m21_128p, m21_129u, m21_129i, m21_129r, m21_129g, m21_131, m21_133, m21_135, m21_136, m21_137, m21_138, m21_139, m21_140u, m21_140i, m21_140r, m21_140g, m21_142, m21_143u, m21_143i, m21_143r, m21_143g, m21_145, m21_147, m21_148, m21_234, m21_236, m21_237, m21_317, m21_319, m21_320, m21_323, m21_325, m21_328, m21_330, m21_333, m21_335, m21_338, m21_340, m21_343, m21_345, m21_348, m21_350u, m21_350i, m21_350r, m21_350g, m21_352, m21_353, m21_356u, m21_356i, m21_356r, m21_356g, m21_358, m21_360, m21_362, m21_365, m21_366, m21_367, m21_369, m21_371, m21_374, m21_375i, m21_377, m6_0, m6_1, m6_4, m6_7, m6_8, m6_9, m6_10, m6_13, m6_16, m6_17, m6_18, m6_19, m6_22, m6_25, m6_27, m6_28, m6_29, m6_32, m6_33, m6_36, m6_37, m6_38, m6_41, m6_42, m6_43, m6_46, m6_47, okS_i, nb0, nb1, ou_a, Option.toList_some, Option.toList_none, List.nil_append, List.cons_append]
    exact tail lp (okS_i _) (okS_i _) (okS_i _) (okS_i _) (okS_i _) o27 o28 o29 o30 o31 o32 (Or.inl ⟨rfl, e16⟩) (by exact iv2) hx1 hx2 hx3
set_option maxRecDepth 1000000 in
set_option maxHeartbeats 20000000 in
theorem op4 {n : Nat} (lp : LP vs Q n) {i1 w cp op ns bt pn st ln T D M ix : Int32} {k21 k22 k23 k24 k25 k26 k27 k28 k29 k30 k31 k32 : Slot} {s : Nat → Int32} {A : Nat → List Int32} (o21 : okS k21) (o22 : okS k22) (o23 : okS k23) (o24 : okS k24) (o25 : okS k25) (o26 : okS k26) (o27 : okS k27) (o28 : okS k28) (o29 : okS k29) (o30 : okS k30) (o31 : okS k31) (o32 : okS k32)
    (iv : IV ix w cp op ns bt pn st ln T D M s A) (hx1 : 1 ≤ ix.toInt) (hx2 : ix.toInt + 2 ≤ 1000) (hx3 : (vs.length : Int) ≤ ix.toInt + 2 + n) (x0 : inB ix vs) (x1 : inB (ix + 1) vs) (ha : getA vs ix &&& 7 = 4) : M21 114 [.val (.ref 0), .val (.int i1), .val (.ref 1), .val (.int w), .val (.int 0), .val (.int (-1)), .val (.int (-2)), .val (.int (-3)), .val (.int (-4)), .val (.int (-5)), .val (.int cp), .val (.int op), .val (.int ns), .val (.int bt), .val (.int pn), .val (.int st), .val (.int ln), .val (.int T), .val (.int D), .val (.int M), .val (.int ix), k21, k22, k23, k24, k25, k26, k27, k28, k29, k30, k31, k32] [] (put 1 [(.array .int, vs.map Value.int)] s A []) Q := by
  have iv0 := iv
  obtain ⟨e0, e1, e2, e3, e4, e7, e13, e16, bc, bo, n1, n2, t1, p1, p2, tp, pz, d1, d2, m1, m2, sm, c1, c2, cf, hl⟩ := iv
  have y2 : (ix + 2).toInt = ix.toInt + 2 := add_i (by rw [i_2]; omega) (by rw [i_2]; omega)
  have iv2 : IV (ix + 2) w cp op ns bt pn st ln T D (s 16) s A := ⟨e0, e1, e2, e3, e4, e7, e13, rfl, bc, bo, n1, n2, t1, p1, p2, tp, pz, d1, d2, by rw [e16]; exact m1, by rw [e16]; exact m2, sm, c1, by rw [y2]; omega, cf, hl⟩
  rcases bc with rfl | rfl
  · rcases bo with ⟨rfl, rfl, rfl⟩ | ⟨rfl, e14, e15, r1, r2, r3, r4, r5⟩
    · simp [lt_irr, x0, x1, ha, e0, e1, e2, e3, e4, e7, e13, e16, o21, o22, o23, o24, o25, o26, o27, o28, o29, o30, o31, o32, m21_114, m21_115, m21_117, m21_117p, m21_118, m21_120, m21_121u, m21_121i, m21_121r, m21_121g, m21_123, m21_124, m21_126, m21_127, m21_128, m21_128p, m21_129u, m21_129i, m21_129r, m21_129g, m21_131, m21_133, m21_135, m21_136, m21_137, m21_138, m21_139, m21_140u, m21_140i, m21_140r, m21_140g, m21_142, m21_143u, m21_143i, m21_143r, m21_143g, m21_145, m21_147, m21_148, m21_234, m21_236, m21_237, m21_317, m21_319, m21_320, m21_380, m21_382, m21_383, m21_386, m21_388, m21_390, m21_392, m21_393, m21_394, m21_395, m21_396u, m21_396i, m21_396r, m21_396g, m21_398, m21_400, m21_403, m21_405, m21_408, m21_410, m21_413, m21_415, m21_418, m21_420, m21_423, m21_426, m21_428, m21_431, m21_433u, m21_433i, m21_433r, m21_433g, m21_435, m21_436, m21_438, m21_441u, m21_441i, m21_441r, m21_441g, m21_443, m21_445, m21_447, m21_450, m21_451, m21_452, m21_454, m21_456, m21_459, m21_460i, m21_462, m21_464i, m21_466, m21_467i, m21_469, m13_0, m13_1, m13_4, m13_7, m13_8, m13_9, m13_10, m13_13, m13_16, m13_17, m13_18, m13_19, m13_20, m13_23, m13_26, m13_28, m13_29, m13_30, m13_31, m13_34, m13_35, m13_36, m13_39, m13_40, m13_41, m13_44, m13_45, m16_0, m16_1, m16_4, m16_5, m16_8, m16_11, m16_12, m16_15, m16_16, okS_i, nb0, nb1, ou_a, Option.toList_some, Option.toList_none, List.nil_append, List.cons_append]
      exact tail lp (okS_i _) (okS_i _) (okS_i _) (okS_i _) (okS_i _) (okS_i _) o28 o29 o30 o31 o32 (Or.inl ⟨rfl, e16⟩) (by exact iv2) hx1 hx2 hx3
    · simp [lt_irr, x0, x1, ha, e0, e1, e2, e3, e4, e7, e13, e16, o21, o22, o23, o24, o25, o26, o27, o28, o29, o30, o31, o32, m21_114, m21_115, m21_117, m21_117p, m21_118, m21_120, m21_121u, m21_121i, m21_121r, m21_121g, m21_123, m21_124, m21_126, m21_127, m21_128, m21_128p, m21_129u, m21_129i, m21_129r, m21_129g, m21_131, m21_133, m21_135, m21_136, m21_137, m21_138, m21_139, m21_140u, m21_140i, m21_140r, m21_140g, m21_142, m21_143u, m21_143i, m21_143r, m21_143g, m21_145, m21_147, m21_148, m21_234, m21_236, m21_237, m21_317, m21_319, m21_320, m21_380, m21_382, m21_383, m21_386, m21_388, m21_390, m21_392, m21_393, m21_394, m21_395, m21_396u, m21_396i, m21_396r, m21_396g, m21_398, m21_400, m21_403, m21_405, m21_408, m21_410, m21_413, m21_415, m21_418, m21_420, m21_423, m21_426, m21_428, m21_431, m21_433u, m21_433i, m21_433r, m21_433g, m21_435, m21_436, m21_438, m21_441u, m21_441i, m21_441r, m21_441g, m21_443, m21_445, m21_447, m21_450, m21_451, m21_452, m21_454, m21_456, m21_459, m21_460i, m21_462, m21_464i, m21_466, m21_467i, m21_469, m13_0, m13_1, m13_4, m13_7, m13_8, m13_9, m13_10, m13_13, m13_16, m13_17, m13_18, m13_19, m13_20, m13_23, m13_26, m13_28, m13_29, m13_30, m13_31, m13_34, m13_35, m13_36, m13_39, m13_40, m13_41, m13_44, m13_45, m16_0, m16_1, m16_4, m16_5, m16_8, m16_11, m16_12, m16_15, m16_16, okS_i, nb0, nb1, ou_a, Option.toList_some, Option.toList_none, List.nil_append, List.cons_append]
      exact tail lp (okS_i _) (okS_i _) (okS_i _) (okS_i _) (okS_i _) (okS_i _) o28 o29 o30 o31 o32 (Or.inl ⟨rfl, e16⟩) (by exact iv2) hx1 hx2 hx3
  · rcases bo with ⟨rfl, rfl, rfl⟩ | ⟨rfl, e14, e15, r1, r2, r3, r4, r5⟩
    · by_cases b1 : D + (getA vs (ix + 1) &&& 31) - 4 < 0
      · simp [b1, x0, x1, ha, e0, e1, e2, e3, e4, e7, e13, e16, o21, o22, o23, o24, o25, o26, o27, o28, o29, o30, o31, o32, m21_114, m21_115, m21_117, m21_117p, m21_118, m21_120, m21_121u, m21_121i, m21_121r, m21_121g, m21_123, m21_124, m21_126, m21_127, m21_128, m21_128p, m21_129u, m21_129i, m21_129r, m21_129g, m21_131, m21_133, m21_135, m21_136, m21_137, m21_138, m21_139, m21_140u, m21_140i, m21_140r, m21_140g, m21_142, m21_143u, m21_143i, m21_143r, m21_143g, m21_145, m21_147, m21_148, m21_234, m21_236, m21_237, m21_317, m21_319, m21_320, m21_380, m21_382, m21_383, m21_386, m21_388, m21_390, m21_392, m21_393, m21_394, m21_395, m21_396u, m21_396i, m21_396r, m21_396g, m21_398, m21_400, m21_403, m21_405, m21_408, m21_410, m21_413, m21_415, m21_418, m21_420, m21_423, m21_426, m21_428, m21_431, m21_433u, m21_433i, m21_433r, m21_433g, m21_435, m21_436, m21_438, m21_441u, m21_441i, m21_441r, m21_441g, m21_443, m21_445, m21_447, m21_450, m21_451, m21_452, m21_454, m21_456, m21_459, m21_460i, m21_462, m21_464i, m21_466, m21_467i, m21_469, m13_0, m13_1, m13_4, m13_7, m13_8, m13_9, m13_10, m13_13, m13_16, m13_17, m13_18, m13_19, m13_20, m13_23, m13_26, m13_28, m13_29, m13_30, m13_31, m13_34, m13_35, m13_36, m13_39, m13_40, m13_41, m13_44, m13_45, m16_0, m16_1, m16_4, m16_5, m16_8, m16_11, m16_12, m16_15, m16_16, okS_i, nb0, nb1, ou_a, Option.toList_some, Option.toList_none, List.nil_append, List.cons_append]
        exact tail lp (okS_i _) (okS_i _) (okS_i _) (okS_i _) (okS_i _) (okS_i _) o28 o29 o30 o31 o32 (Or.inl ⟨rfl, e16⟩) (by exact iv2) hx1 hx2 hx3
      by_cases b2 : 255 < D + (getA vs (ix + 1) &&& 31) - 4
      · have b2' : ¬ D + (getA vs (ix + 1) &&& 31) - 4 < 256 := by
          rw [lt_i, i_255] at b2; rw [lt_i, i_256]; omega
        simp [b1, b2, b2', x0, x1, ha, e0, e1, e2, e3, e4, e7, e13, e16, o21, o22, o23, o24, o25, o26, o27, o28, o29, o30, o31, o32, m21_114, m21_115, m21_117, m21_117p, m21_118, m21_120, m21_121u, m21_121i, m21_121r, m21_121g, m21_123, m21_124, m21_126, m21_127, m21_128, m21_128p, m21_129u, m21_129i, m21_129r, m21_129g, m21_131, m21_133, m21_135, m21_136, m21_137, m21_138, m21_139, m21_140u, m21_140i, m21_140r, m21_140g, m21_142, m21_143u, m21_143i, m21_143r, m21_143g, m21_145, m21_147, m21_148, m21_234, m21_236, m21_237, m21_317, m21_319, m21_320, m21_380, m21_382, m21_383, m21_386, m21_388, m21_390, m21_392, m21_393, m21_394, m21_395, m21_396u, m21_396i, m21_396r, m21_396g, m21_398, m21_400, m21_403, m21_405, m21_408, m21_410, m21_413, m21_415, m21_418, m21_420, m21_423, m21_426, m21_428, m21_431, m21_433u, m21_433i, m21_433r, m21_433g, m21_435, m21_436, m21_438, m21_441u, m21_441i, m21_441r, m21_441g, m21_443, m21_445, m21_447, m21_450, m21_451, m21_452, m21_454, m21_456, m21_459, m21_460i, m21_462, m21_464i, m21_466, m21_467i, m21_469, m13_0, m13_1, m13_4, m13_7, m13_8, m13_9, m13_10, m13_13, m13_16, m13_17, m13_18, m13_19, m13_20, m13_23, m13_26, m13_28, m13_29, m13_30, m13_31, m13_34, m13_35, m13_36, m13_39, m13_40, m13_41, m13_44, m13_45, m16_0, m16_1, m16_4, m16_5, m16_8, m16_11, m16_12, m16_15, m16_16, okS_i, nb0, nb1, ou_a, Option.toList_some, Option.toList_none, List.nil_append, List.cons_append]
        exact tail lp (okS_i _) (okS_i _) (okS_i _) (okS_i _) (okS_i _) (okS_i _) o28 o29 o30 o31 o32 (Or.inl ⟨rfl, e16⟩) (by exact iv2) hx1 hx2 hx3
      have b2' : D + (getA vs (ix + 1) &&& 31) - 4 < 256 := by
        rw [lt_i, i_255] at b2; rw [lt_i, i_256]; omega
      simp [b1, b2, b2', x0, x1, ha, e0, e1, e2, e3, e4, e7, e13, e16, o21, o22, o23, o24, o25, o26, o27, o28, o29, o30, o31, o32, m21_114, m21_115, m21_117, m21_117p, m21_118, m21_120, m21_121u, m21_121i, m21_121r, m21_121g, m21_123, m21_124, m21_126, m21_127, m21_128, m21_128p, m21_129u, m21_129i, m21_129r, m21_129g, m21_131, m21_133, m21_135, m21_136, m21_137, m21_138, m21_139, m21_140u, m21_140i, m21_140r, m21_140g, m21_142, m21_143u, m21_143i, m21_143r, m21_143g, m21_145, m21_147, m21_148, m21_234, m21_236, m21_237, m21_317, m21_319, m21_320, m21_380, m21_382, m21_383, m21_386, m21_388, m21_390, m21_392, m21_393, m21_394, m21_395, m21_396u, m21_396i, m21_396r, m21_396g, m21_398, m21_400, m21_403, m21_405, m21_408, m21_410, m21_413, m21_415, m21_418, m21_420, m21_423, m21_426, m21_428, m21_431, m21_433u, m21_433i, m21_433r, m21_433g, m21_435, m21_436, m21_438, m21_441u, m21_441i, m21_441r, m21_441g, m21_443, m21_445, m21_447, m21_450, m21_451, m21_452, m21_454, m21_456, m21_459, m21_460i, m21_462, m21_464i, m21_466, m21_467i, m21_469, m13_0, m13_1, m13_4, m13_7, m13_8, m13_9, m13_10, m13_13, m13_16, m13_17, m13_18, m13_19, m13_20, m13_23, m13_26, m13_28, m13_29, m13_30, m13_31, m13_34, m13_35, m13_36, m13_39, m13_40, m13_41, m13_44, m13_45, m16_0, m16_1, m16_4, m16_5, m16_8, m16_11, m16_12, m16_15, m16_16, okS_i, nb0, nb1, ou_a, Option.toList_some, Option.toList_none, List.nil_append, List.cons_append]
      have q1 := nn_i.mp b1
      have q2 : (D + (getA vs (ix + 1) &&& 31) - 4).toInt ≤ 255 := by rw [lt_i, i_256] at b2'; omega
      exact tail lp (okS_i _) (okS_i _) (okS_i _) (okS_i _) (okS_i _) (okS_i _) o28 o29 o30 o31 o32 (Or.inl ⟨rfl, e16⟩) ⟨e0, e1, e2, e3, e4, e7, by simp [ou_a], rfl, Or.inr rfl, Or.inr ⟨rfl, by simp [ou_a], by simp [ou_a], q1, q2, by decide, by decide, by rw [i_0]; omega⟩, n1, n2, t1, p1, p2, tp, pz, d1, d2, by show 0 ≤ (s 16).toInt; rw [e16]; exact m1, by show (s 16).toInt ≤ _; rw [e16]; exact m2, sm, c1, by show (s 9).toInt ≤ _; rw [y2]; omega, cf, hl⟩ hx1 hx2 hx3
    · simp [lt_irr, x0, x1, ha, e0, e1, e2, e3, e4, e7, e13, e16, o21, o22, o23, o24, o25, o26, o27, o28, o29, o30, o31, o32, m21_114, m21_115, m21_117, m21_117p, m21_118, m21_120, m21_121u, m21_121i, m21_121r, m21_121g, m21_123, m21_124, m21_126, m21_127, m21_128, m21_128p, m21_129u, m21_129i, m21_129r, m21_129g, m21_131, m21_133, m21_135, m21_136, m21_137, m21_138, m21_139, m21_140u, m21_140i, m21_140r, m21_140g, m21_142, m21_143u, m21_143i, m21_143r, m21_143g, m21_145, m21_147, m21_148, m21_234, m21_236, m21_237, m21_317, m21_319, m21_320, m21_380, m21_382, m21_383, m21_386, m21_388, m21_390, m21_392, m21_393, m21_394, m21_395, m21_396u, m21_396i, m21_396r, m21_396g, m21_398, m21_400, m21_403, m21_405, m21_408, m21_410, m21_413, m21_415, m21_418, m21_420, m21_423, m21_426, m21_428, m21_431, m21_433u, m21_433i, m21_433r, m21_433g, m21_435, m21_436, m21_438, m21_441u, m21_441i, m21_441r, m21_441g, m21_443, m21_445, m21_447, m21_450, m21_451, m21_452, m21_454, m21_456, m21_459, m21_460i, m21_462, m21_464i, m21_466, m21_467i, m21_469, m13_0, m13_1, m13_4, m13_7, m13_8, m13_9, m13_10, m13_13, m13_16, m13_17, m13_18, m13_19, m13_20, m13_23, m13_26, m13_28, m13_29, m13_30, m13_31, m13_34, m13_35, m13_36, m13_39, m13_40, m13_41, m13_44, m13_45, m16_0, m16_1, m16_4, m16_5, m16_8, m16_11, m16_12, m16_15, m16_16, okS_i, nb0, nb1, ou_a, Option.toList_some, Option.toList_none, List.nil_append, List.cons_append]
      exact tail lp (okS_i _) (okS_i _) (okS_i _) (okS_i _) (okS_i _) (okS_i _) o28 o29 o30 o31 o32 (Or.inl ⟨rfl, e16⟩) (by exact iv2) hx1 hx2 hx3
set_option maxRecDepth 1000000 in
set_option maxHeartbeats 20000000 in
theorem op5 {n : Nat} (lp : LP vs Q n) {i1 w cp op ns bt pn st ln T D M ix : Int32} {k21 k22 k23 k24 k25 k26 k27 k28 k29 k30 k31 k32 : Slot} {s : Nat → Int32} {A : Nat → List Int32} (o21 : okS k21) (o22 : okS k22) (o23 : okS k23) (o24 : okS k24) (o25 : okS k25) (o26 : okS k26) (o27 : okS k27) (o28 : okS k28) (o29 : okS k29) (o30 : okS k30) (o31 : okS k31) (o32 : okS k32)
    (iv : IV ix w cp op ns bt pn st ln T D M s A) (hx1 : 1 ≤ ix.toInt) (hx2 : ix.toInt + 2 ≤ 1000) (hx3 : (vs.length : Int) ≤ ix.toInt + 2 + n) (x0 : inB ix vs) (x1 : inB (ix + 1) vs) (ha : getA vs ix &&& 7 = 5) : M21 114 [.val (.ref 0), .val (.int i1), .val (.ref 1), .val (.int w), .val (.int 0), .val (.int (-1)), .val (.int (-2)), .val (.int (-3)), .val (.int (-4)), .val (.int (-5)), .val (.int cp), .val (.int op), .val (.int ns), .val (.int bt), .val (.int pn), .val (.int st), .val (.int ln), .val (.int T), .val (.int D), .val (.int M), .val (.int ix), k21, k22, k23, k24, k25, k26, k27, k28, k29, k30, k31, k32] [] (put 1 [(.array .int, vs.map Value.int)] s A []) Q := by
  have iv0 := iv
  obtain ⟨e0, e1, e2, e3, e4, e7, e13, e16, bc, bo, n1, n2, t1, p1, p2, tp, pz, d1, d2, m1, m2, sm, c1, c2, cf, hl⟩ := iv
  have y2 : (ix + 2).toInt = ix.toInt + 2 := add_i (by rw [i_2]; omega) (by rw [i_2]; omega)
  have iv2 : IV (ix + 2) w cp op ns bt pn st ln T D (s 16) s A := ⟨e0, e1, e2, e3, e4, e7, e13, rfl, bc, bo, n1, n2, t1, p1, p2, tp, pz, d1, d2, by rw [e16]; exact m1, by rw [e16]; exact m2, sm, c1, by rw [y2]; omega, cf, hl⟩
  have a5 := arg5 (getA vs (ix + 1))
  rcases bo with ⟨rfl, rfl, rfl⟩ | ⟨rfl, e14, e15, r1, r2, r3, r4, r5⟩
  · simp [a5, x0, x1, ha, e0, e1, e2, e3, e4, e7, e13, e16, o21, o22, o23, o24, o25, o26, o27, o28, o29, o30, o31, o32, m21_114, m21_115, m21_117, m21_117p, m21_118, m21_120, m21_121u, m21_121i, m21_121r, m21_121g, m21_123, m21_124, m21_126, m21_127, m21_128, m21_128p, m21_129u, m21_129i, m21_129r, m21_129g, m21_131, m21_133, m21_135, m21_136, m21_137, m21_138, m21_139, m21_140u, m21_140i, m21_140r, m21_140g, m21_142, m21_143u, m21_143i, m21_143r, m21_143g, m21_145, m21_147, m21_148, m21_234, m21_236, m21_237, m21_317, m21_319, m21_320, m21_380, m21_382, m21_383, m21_472, m21_474, m21_476, m21_479, m21_481, m21_484, m21_486, m21_489, m21_491, m21_494, m21_496, m21_499, m21_501, m21_503, m21_506, m21_508, m21_511, m21_513, m21_515, m21_516, m21_519, m21_522, m21_524, m21_527, m21_529u, m21_529i, m21_529r, m21_529g, m21_531, m21_532, m21_534, m21_537u, m21_537i, m21_537r, m21_537g, m21_539, m21_541, m21_543, m21_546, m21_547, m21_548, m21_550, m21_552, m21_555, m21_558, m14_0, m14_1, m14_4, m14_7, m14_8, m14_9, m14_10, m14_11, m14_14, m14_17, m14_19, m14_20, m14_21, m14_24, m14_26, m14_29, m14_31, m14_32, m14_33, m14_36, m14_37, m14_40, m14_41, m14_44, m14_47, m14_49, m14_50, m14_51, m14_54, m14_57, m14_59, m14_60, m14_61, m14_64, m14_65, m14_68, m14_69, m14_70, m14_71, m14_72, m14_75, m14_76, m14_77, m14_80, m14_81, m5_0, m5_1, m5_4, m5_5, m5_8, m5_11, m5_12, m5_15, m5_16, okS_i, nb0, nb1, ou_a, Option.toList_some, Option.toList_none, List.nil_append, List.cons_append]
    exact tail lp (okS_i _) (okS_i _) (okS_i _) (okS_i _) (okS_i _) o27 o28 o29 o30 o31 o32 (Or.inl ⟨rfl, e16⟩) (by exact iv2) hx1 hx2 hx3
  · have es := add_i (a := st) (b := ln) (by omega) (by omega)
    by_cases gn : (getA vs (ix + 1) &&& 7) % 5 - 1 < 0
    · simp [a5, gn, e14, e15, x0, x1, ha, e0, e1, e2, e3, e4, e7, e13, e16, o21, o22, o23, o24, o25, o26, o27, o28, o29, o30, o31, o32, m21_114, m21_115, m21_117, m21_117p, m21_118, m21_120, m21_121u, m21_121i, m21_121r, m21_121g, m21_123, m21_124, m21_126, m21_127, m21_128, m21_128p, m21_129u, m21_129i, m21_129r, m21_129g, m21_131, m21_133, m21_135, m21_136, m21_137, m21_138, m21_139, m21_140u, m21_140i, m21_140r, m21_140g, m21_142, m21_143u, m21_143i, m21_143r, m21_143g, m21_145, m21_147, m21_148, m21_234, m21_236, m21_237, m21_317, m21_319, m21_320, m21_380, m21_382, m21_383, m21_472, m21_474, m21_476, m21_479, m21_481, m21_484, m21_486, m21_489, m21_491, m21_494, m21_496, m21_499, m21_501, m21_503, m21_506, m21_508, m21_511, m21_513, m21_515, m21_516, m21_519, m21_522, m21_524, m21_527, m21_529u, m21_529i, m21_529r, m21_529g, m21_531, m21_532, m21_534, m21_537u, m21_537i, m21_537r, m21_537g, m21_539, m21_541, m21_543, m21_546, m21_547, m21_548, m21_550, m21_552, m21_555, m21_558, m14_0, m14_1, m14_4, m14_7, m14_8, m14_9, m14_10, m14_11, m14_14, m14_17, m14_19, m14_20, m14_21, m14_24, m14_26, m14_29, m14_31, m14_32, m14_33, m14_36, m14_37, m14_40, m14_41, m14_44, m14_47, m14_49, m14_50, m14_51, m14_54, m14_57, m14_59, m14_60, m14_61, m14_64, m14_65, m14_68, m14_69, m14_70, m14_71, m14_72, m14_75, m14_76, m14_77, m14_80, m14_81, m5_0, m5_1, m5_4, m5_5, m5_8, m5_11, m5_12, m5_15, m5_16, okS_i, nb0, nb1, ou_a, Option.toList_some, Option.toList_none, List.nil_append, List.cons_append]
      exact tail lp (okS_i _) (okS_i _) (okS_i _) (okS_i _) (okS_i _) o27 o28 o29 o30 o31 o32 (Or.inl ⟨rfl, e16⟩) (by exact iv2) hx1 hx2 hx3
    by_cases b1 : ln = 16
    · subst b1
      simp [a5, gn, e14, e15, x0, x1, ha, e0, e1, e2, e3, e4, e7, e13, e16, o21, o22, o23, o24, o25, o26, o27, o28, o29, o30, o31, o32, m21_114, m21_115, m21_117, m21_117p, m21_118, m21_120, m21_121u, m21_121i, m21_121r, m21_121g, m21_123, m21_124, m21_126, m21_127, m21_128, m21_128p, m21_129u, m21_129i, m21_129r, m21_129g, m21_131, m21_133, m21_135, m21_136, m21_137, m21_138, m21_139, m21_140u, m21_140i, m21_140r, m21_140g, m21_142, m21_143u, m21_143i, m21_143r, m21_143g, m21_145, m21_147, m21_148, m21_234, m21_236, m21_237, m21_317, m21_319, m21_320, m21_380, m21_382, m21_383, m21_472, m21_474, m21_476, m21_479, m21_481, m21_484, m21_486, m21_489, m21_491, m21_494, m21_496, m21_499, m21_501, m21_503, m21_506, m21_508, m21_511, m21_513, m21_515, m21_516, m21_519, m21_522, m21_524, m21_527, m21_529u, m21_529i, m21_529r, m21_529g, m21_531, m21_532, m21_534, m21_537u, m21_537i, m21_537r, m21_537g, m21_539, m21_541, m21_543, m21_546, m21_547, m21_548, m21_550, m21_552, m21_555, m21_558, m14_0, m14_1, m14_4, m14_7, m14_8, m14_9, m14_10, m14_11, m14_14, m14_17, m14_19, m14_20, m14_21, m14_24, m14_26, m14_29, m14_31, m14_32, m14_33, m14_36, m14_37, m14_40, m14_41, m14_44, m14_47, m14_49, m14_50, m14_51, m14_54, m14_57, m14_59, m14_60, m14_61, m14_64, m14_65, m14_68, m14_69, m14_70, m14_71, m14_72, m14_75, m14_76, m14_77, m14_80, m14_81, m5_0, m5_1, m5_4, m5_5, m5_8, m5_11, m5_12, m5_15, m5_16, okS_i, nb0, nb1, ou_a, Option.toList_some, Option.toList_none, List.nil_append, List.cons_append]
      exact tail lp (okS_i _) (okS_i _) (okS_i _) (okS_i _) (okS_i _) o27 o28 o29 o30 o31 o32 (Or.inl ⟨rfl, e16⟩) (by exact iv2) hx1 hx2 hx3
    have q1 : ln.toInt < 16 := by
      have : ln.toInt ≠ 16 := fun q => b1 (Int32.toInt_inj.mp (q.trans i_16.symm))
      omega
    have b1' : ln < 16 := by rw [lt_i, i_16]; exact q1
    by_cases b2 : st + ln = 256
    · simp [a5, gn, e14, e15, b1, b1', b2, x0, x1, ha, e0, e1, e2, e3, e4, e7, e13, e16, o21, o22, o23, o24, o25, o26, o27, o28, o29, o30, o31, o32, m21_114, m21_115, m21_117, m21_117p, m21_118, m21_120, m21_121u, m21_121i, m21_121r, m21_121g, m21_123, m21_124, m21_126, m21_127, m21_128, m21_128p, m21_129u, m21_129i, m21_129r, m21_129g, m21_131, m21_133, m21_135, m21_136, m21_137, m21_138, m21_139, m21_140u, m21_140i, m21_140r, m21_140g, m21_142, m21_143u, m21_143i, m21_143r, m21_143g, m21_145, m21_147, m21_148, m21_234, m21_236, m21_237, m21_317, m21_319, m21_320, m21_380, m21_382, m21_383, m21_472, m21_474, m21_476, m21_479, m21_481, m21_484, m21_486, m21_489, m21_491, m21_494, m21_496, m21_499, m21_501, m21_503, m21_506, m21_508, m21_511, m21_513, m21_515, m21_516, m21_519, m21_522, m21_524, m21_527, m21_529u, m21_529i, m21_529r, m21_529g, m21_531, m21_532, m21_534, m21_537u, m21_537i, m21_537r, m21_537g, m21_539, m21_541, m21_543, m21_546, m21_547, m21_548, m21_550, m21_552, m21_555, m21_558, m14_0, m14_1, m14_4, m14_7, m14_8, m14_9, m14_10, m14_11, m14_14, m14_17, m14_19, m14_20, m14_21, m14_24, m14_26, m14_29, m14_31, m14_32, m14_33, m14_36, m14_37, m14_40, m14_41, m14_44, m14_47, m14_49, m14_50, m14_51, m14_54, m14_57, m14_59, m14_60, m14_61, m14_64, m14_65, m14_68, m14_69, m14_70, m14_71, m14_72, m14_75, m14_76, m14_77, m14_80, m14_81, m5_0, m5_1, m5_4, m5_5, m5_8, m5_11, m5_12, m5_15, m5_16, okS_i, nb0, nb1, ou_a, Option.toList_some, Option.toList_none, List.nil_append, List.cons_append]
      exact tail lp (okS_i _) (okS_i _) (okS_i _) (okS_i _) (okS_i _) o27 o28 o29 o30 o31 o32 (Or.inl ⟨rfl, e16⟩) (by exact iv2) hx1 hx2 hx3
    have q2 : (st + ln).toInt < 256 := by
      have : (st + ln).toInt ≠ 256 := fun q => b2 (Int32.toInt_inj.mp (q.trans i_256.symm))
      omega
    have b2' : st + ln < 256 := by rw [lt_i, i_256]; exact q2
    have b3 : ¬ ln < 0 := by rw [nn_i]; exact r3
    have k9 := in_lt hl l9 b3 b1'
    have el := add1_i (a := ln) (by omega)
    simp [a5, gn, e14, e15, b1, b1', b2, b2', b3, k9, x0, x1, ha, e0, e1, e2, e3, e4, e7, e13, e16, o21, o22, o23, o24, o25, o26, o27, o28, o29, o30, o31, o32, m21_114, m21_115, m21_117, m21_117p, m21_118, m21_120, m21_121u, m21_121i, m21_121r, m21_121g, m21_123, m21_124, m21_126, m21_127, m21_128, m21_128p, m21_129u, m21_129i, m21_129r, m21_129g, m21_131, m21_133, m21_135, m21_136, m21_137, m21_138, m21_139, m21_140u, m21_140i, m21_140r, m21_140g, m21_142, m21_143u, m21_143i, m21_143r, m21_143g, m21_145, m21_147, m21_148, m21_234, m21_236, m21_237, m21_317, m21_319, m21_320, m21_380, m21_382, m21_383, m21_472, m21_474, m21_476, m21_479, m21_481, m21_484, m21_486, m21_489, m21_491, m21_494, m21_496, m21_499, m21_501, m21_503, m21_506, m21_508, m21_511, m21_513, m21_515, m21_516, m21_519, m21_522, m21_524, m21_527, m21_529u, m21_529i, m21_529r, m21_529g, m21_531, m21_532, m21_534, m21_537u, m21_537i, m21_537r, m21_537g, m21_539, m21_541, m21_543, m21_546, m21_547, m21_548, m21_550, m21_552, m21_555, m21_558, m14_0, m14_1, m14_4, m14_7, m14_8, m14_9, m14_10, m14_11, m14_14, m14_17, m14_19, m14_20, m14_21, m14_24, m14_26, m14_29, m14_31, m14_32, m14_33, m14_36, m14_37, m14_40, m14_41, m14_44, m14_47, m14_49, m14_50, m14_51, m14_54, m14_57, m14_59, m14_60, m14_61, m14_64, m14_65, m14_68, m14_69, m14_70, m14_71, m14_72, m14_75, m14_76, m14_77, m14_80, m14_81, m5_0, m5_1, m5_4, m5_5, m5_8, m5_11, m5_12, m5_15, m5_16, okS_i, nb0, nb1, ou_a, Option.toList_some, Option.toList_none, List.nil_append, List.cons_append]
    exact tail lp (okS_i _) (okS_i _) (okS_i _) (okS_i _) (okS_i _) o27 o28 o29 o30 o31 o32 (Or.inl ⟨rfl, e16⟩) ⟨e0, e1, e2, e3, e4, e7, e13, rfl, bc, Or.inr ⟨rfl, e14, by simp [ou_a, e15], r1, r2, by rw [el]; omega, by rw [el]; omega, by rw [el]; omega⟩, n1, n2, t1, p1, p2, tp, pz, d1, d2, by show 0 ≤ (s 16).toInt; rw [e16]; exact m1, by show (s 16).toInt ≤ _; rw [e16]; exact m2, sm, c1, by show (s 9).toInt ≤ _; rw [y2]; omega, cf, LN_ou hl (by simp only [setA_len]; exact hl _)⟩ hx1 hx2 hx3
set_option maxRecDepth 1000000 in
set_option maxHeartbeats 20000000 in
theorem op6 {n : Nat} (lp : LP vs Q n) {i1 w cp op ns bt pn st ln T D M ix : Int32} {k21 k22 k23 k24 k25 k26 k27 k28 k29 k30 k31 k32 : Slot} {s : Nat → Int32} {A : Nat → List Int32} (o21 : okS k21) (o22 : okS k22) (o23 : okS k23) (o24 : okS k24) (o25 : okS k25) (o26 : okS k26) (o27 : okS k27) (o28 : okS k28) (o29 : okS k29) (o30 : okS k30) (o31 : okS k31) (o32 : okS k32)
    (iv : IV ix w cp op ns bt pn st ln T D M s A) (hx1 : 1 ≤ ix.toInt) (hx2 : ix.toInt + 2 ≤ 1000) (hx3 : (vs.length : Int) ≤ ix.toInt + 2 + n) (x0 : inB ix vs) (x1 : inB (ix + 1) vs) (ha : getA vs ix &&& 7 = 6) : M21 114 [.val (.ref 0), .val (.int i1), .val (.ref 1), .val (.int w), .val (.int 0), .val (.int (-1)), .val (.int (-2)), .val (.int (-3)), .val (.int (-4)), .val (.int (-5)), .val (.int cp), .val (.int op), .val (.int ns), .val (.int bt), .val (.int pn), .val (.int st), .val (.int ln), .val (.int T), .val (.int D), .val (.int M), .val (.int ix), k21, k22, k23, k24, k25, k26, k27, k28, k29, k30, k31, k32] [] (put 1 [(.array .int, vs.map Value.int)] s A []) Q := by
  have iv0 := iv
  obtain ⟨e0, e1, e2, e3, e4, e7, e13, e16, bc, bo, n1, n2, t1, p1, p2, tp, pz, d1, d2, m1, m2, sm, c1, c2, cf, hl⟩ := iv
  have y2 : (ix + 2).toInt = ix.toInt + 2 := add_i (by rw [i_2]; omega) (by rw [i_2]; omega)
  have iv2 : IV (ix + 2) w cp op ns bt pn st ln T D (s 16) s A := ⟨e0, e1, e2, e3, e4, e7, e13, rfl, bc, bo, n1, n2, t1, p1, p2, tp, pz, d1, d2, by rw [e16]; exact m1, by rw [e16]; exact m2, sm, c1, by rw [y2]; omega, cf, hl⟩
  have a5 := arg5 (getA vs (ix + 1))
  rcases bo with ⟨rfl, rfl, rfl⟩ | ⟨rfl, e14, e15, r1, r2, r3, r4, r5⟩
  · simp [a5, x0, x1, ha, e0, e1, e2, e3, e4, e7, e13, e16, o21, o22, o23, o24, o25, o26, o27, o28, o29, o30, o31, o32, m21_114, m21_115, m21_117, m21_117p, m21_118, m21_120, m21_121u, m21_121i, m21_121r, m21_121g, m21_123, m21_124, m21_126, m21_127, m21_128, m21_128p, m21_129u, m21_129i, m21_129r, m21_129g, m21_131, m21_133, m21_135, m21_136, m21_137, m21_138, m21_139, m21_140u, m21_140i, m21_140r, m21_140g, m21_142, m21_143u, m21_143i, m21_143r, m21_143g, m21_145, m21_147, m21_148, m21_234, m21_236, m21_237, m21_317, m21_319, m21_320, m21_380, m21_382, m21_383, m21_472, m21_474, m21_476, m21_479, m21_481, m21_484, m21_486, m21_489, m21_491, m21_494, m21_496, m21_499, m21_501, m21_503, m21_506, m21_508, m21_511, m21_513, m21_515, m21_516, m21_519, m21_522, m21_524, m21_527, m21_529u, m21_529i, m21_529r, m21_529g, m21_531, m21_532, m21_534, m21_537u, m21_537i, m21_537r, m21_537g, m21_539, m21_541, m21_543, m21_546, m21_547, m21_548, m21_550, m21_552, m21_555, m21_558, m14_0, m14_1, m14_4, m14_7, m14_8, m14_9, m14_10, m14_11, m14_14, m14_17, m14_19, m14_20, m14_21, m14_24, m14_26, m14_29, m14_31, m14_32, m14_33, m14_36, m14_37, m14_40, m14_41, m14_44, m14_47, m14_49, m14_50, m14_51, m14_54, m14_57, m14_59, m14_60, m14_61, m14_64, m14_65, m14_68, m14_69, m14_70, m14_71, m14_72, m14_75, m14_76, m14_77, m14_80, m14_81, m5_0, m5_1, m5_4, m5_5, m5_8, m5_11, m5_12, m5_15, m5_16, okS_i, nb0, nb1, ou_a, Option.toList_some, Option.toList_none, List.nil_append, List.cons_append]
    exact tail lp (okS_i _) (okS_i _) (okS_i _) (okS_i _) (okS_i _) o27 o28 o29 o30 o31 o32 (Or.inl ⟨rfl, e16⟩) (by exact iv2) hx1 hx2 hx3
  · have es := add_i (a := st) (b := ln) (by omega) (by omega)
    by_cases gn : (getA vs (ix + 1) &&& 7) % 5 - 1 < 0
    · simp [a5, gn, e14, e15, x0, x1, ha, e0, e1, e2, e3, e4, e7, e13, e16, o21, o22, o23, o24, o25, o26, o27, o28, o29, o30, o31, o32, m21_114, m21_115, m21_117, m21_117p, m21_118, m21_120, m21_121u, m21_121i, m21_121r, m21_121g, m21_123, m21_124, m21_126, m21_127, m21_128, m21_128p, m21_129u, m21_129i, m21_129r, m21_129g, m21_131, m21_133, m21_135, m21_136, m21_137, m21_138, m21_139, m21_140u, m21_140i, m21_140r, m21_140g, m21_142, m21_143u, m21_143i, m21_143r, m21_143g, m21_145, m21_147, m21_148, m21_234, m21_236, m21_237, m21_317, m21_319, m21_320, m21_380, m21_382, m21_383, m21_472, m21_474, m21_476, m21_479, m21_481, m21_484, m21_486, m21_489, m21_491, m21_494, m21_496, m21_499, m21_501, m21_503, m21_506, m21_508, m21_511, m21_513, m21_515, m21_516, m21_519, m21_522, m21_524, m21_527, m21_529u, m21_529i, m21_529r, m21_529g, m21_531, m21_532, m21_534, m21_537u, m21_537i, m21_537r, m21_537g, m21_539, m21_541, m21_543, m21_546, m21_547, m21_548, m21_550, m21_552, m21_555, m21_558, m14_0, m14_1, m14_4, m14_7, m14_8, m14_9, m14_10, m14_11, m14_14, m14_17, m14_19, m14_20, m14_21, m14_24, m14_26, m14_29, m14_31, m14_32, m14_33, m14_36, m14_37, m14_40, m14_41, m14_44, m14_47, m14_49, m14_50, m14_51, m14_54, m14_57, m14_59, m14_60, m14_61, m14_64, m14_65, m14_68, m14_69, m14_70, m14_71, m14_72, m14_75, m14_76, m14_77, m14_80, m14_81, m5_0, m5_1, m5_4, m5_5, m5_8, m5_11, m5_12, m5_15, m5_16, okS_i, nb0, nb1, ou_a, Option.toList_some, Option.toList_none, List.nil_append, List.cons_append]
      exact tail lp (okS_i _) (okS_i _) (okS_i _) (okS_i _) (okS_i _) o27 o28 o29 o30 o31 o32 (Or.inl ⟨rfl, e16⟩) (by exact iv2) hx1 hx2 hx3
    by_cases b1 : ln = 16
    · subst b1
      simp [a5, gn, e14, e15, x0, x1, ha, e0, e1, e2, e3, e4, e7, e13, e16, o21, o22, o23, o24, o25, o26, o27, o28, o29, o30, o31, o32, m21_114, m21_115, m21_117, m21_117p, m21_118, m21_120, m21_121u, m21_121i, m21_121r, m21_121g, m21_123, m21_124, m21_126, m21_127, m21_128, m21_128p, m21_129u, m21_129i, m21_129r, m21_129g, m21_131, m21_133, m21_135, m21_136, m21_137, m21_138, m21_139, m21_140u, m21_140i, m21_140r, m21_140g, m21_142, m21_143u, m21_143i, m21_143r, m21_143g, m21_145, m21_147, m21_148, m21_234, m21_236, m21_237, m21_317, m21_319, m21_320, m21_380, m21_382, m21_383, m21_472, m21_474, m21_476, m21_479, m21_481, m21_484, m21_486, m21_489, m21_491, m21_494, m21_496, m21_499, m21_501, m21_503, m21_506, m21_508, m21_511, m21_513, m21_515, m21_516, m21_519, m21_522, m21_524, m21_527, m21_529u, m21_529i, m21_529r, m21_529g, m21_531, m21_532, m21_534, m21_537u, m21_537i, m21_537r, m21_537g, m21_539, m21_541, m21_543, m21_546, m21_547, m21_548, m21_550, m21_552, m21_555, m21_558, m14_0, m14_1, m14_4, m14_7, m14_8, m14_9, m14_10, m14_11, m14_14, m14_17, m14_19, m14_20, m14_21, m14_24, m14_26, m14_29, m14_31, m14_32, m14_33, m14_36, m14_37, m14_40, m14_41, m14_44, m14_47, m14_49, m14_50, m14_51, m14_54, m14_57, m14_59, m14_60, m14_61, m14_64, m14_65, m14_68, m14_69, m14_70, m14_71, m14_72, m14_75, m14_76, m14_77, m14_80, m14_81, m5_0, m5_1, m5_4, m5_5, m5_8, m5_11, m5_12, m5_15, m5_16, okS_i, nb0, nb1, ou_a, Option.toList_some, Option.toList_none, List.nil_append, List.cons_append]
      exact tail lp (okS_i _) (okS_i _) (okS_i _) (okS_i _) (okS_i _) o27 o28 o29 o30 o31 o32 (Or.inl ⟨rfl, e16⟩) (by exact iv2) hx1 hx2 hx3
    have q1 : ln.toInt < 16 := by
      have : ln.toInt ≠ 16 := fun q => b1 (Int32.toInt_inj.mp (q.trans i_16.symm))
      omega
    have b1' : ln < 16 := by rw [lt_i, i_16]; exact q1
    by_cases b2 : st + ln = 256
    · simp [a5, gn, e14, e15, b1, b1', b2, x0, x1, ha, e0, e1, e2, e3, e4, e7, e13, e16, o21, o22, o23, o24, o25, o26, o27, o28, o29, o30, o31, o32, m21_114, m21_115, m21_117, m21_117p, m21_118, m21_120, m21_121u, m21_121i, m21_121r, m21_121g, m21_123, m21_124, m21_126, m21_127, m21_128, m21_128p, m21_129u, m21_129i, m21_129r, m21_129g, m21_131, m21_133, m21_135, m21_136, m21_137, m21_138, m21_139, m21_140u, m21_140i, m21_140r, m21_140g, m21_142, m21_143u, m21_143i, m21_143r, m21_143g, m21_145, m21_147, m21_148, m21_234, m21_236, m21_237, m21_317, m21_319, m21_320, m21_380, m21_382, m21_383, m21_472, m21_474, m21_476, m21_479, m21_481, m21_484, m21_486, m21_489, m21_491, m21_494, m21_496, m21_499, m21_501, m21_503, m21_506, m21_508, m21_511, m21_513, m21_515, m21_516, m21_519, m21_522, m21_524, m21_527, m21_529u, m21_529i, m21_529r, m21_529g, m21_531, m21_532, m21_534, m21_537u, m21_537i, m21_537r, m21_537g, m21_539, m21_541, m21_543, m21_546, m21_547, m21_548, m21_550, m21_552, m21_555, m21_558, m14_0, m14_1, m14_4, m14_7, m14_8, m14_9, m14_10, m14_11, m14_14, m14_17, m14_19, m14_20, m14_21, m14_24, m14_26, m14_29, m14_31, m14_32, m14_33, m14_36, m14_37, m14_40, m14_41, m14_44, m14_47, m14_49, m14_50, m14_51, m14_54, m14_57, m14_59, m14_60, m14_61, m14_64, m14_65, m14_68, m14_69, m14_70, m14_71, m14_72, m14_75, m14_76, m14_77, m14_80, m14_81, m5_0, m5_1, m5_4, m5_5, m5_8, m5_11, m5_12, m5_15, m5_16, okS_i, nb0, nb1, ou_a, Option.toList_some, Option.toList_none, List.nil_append, List.cons_append]
      exact tail lp (okS_i _) (okS_i _) (okS_i _) (okS_i _) (okS_i _) o27 o28 o29 o30 o31 o32 (Or.inl ⟨rfl, e16⟩) (by exact iv2) hx1 hx2 hx3
    have q2 : (st + ln).toInt < 256 := by
      have : (st + ln).toInt ≠ 256 := fun q => b2 (Int32.toInt_inj.mp (q.trans i_256.symm))
      omega
    have b2' : st + ln < 256 := by rw [lt_i, i_256]; exact q2
    have b3 : ¬ ln < 0 := by rw [nn_i]; exact r3
    have k9 := in_lt hl l9 b3 b1'
    have el := add1_i (a := ln) (by omega)
    simp [a5, gn, e14, e15, b1, b1', b2, b2', b3, k9, x0, x1, ha, e0, e1, e2, e3, e4, e7, e13, e16, o21, o22, o23, o24, o25, o26, o27, o28, o29, o30, o31, o32, m21_114, m21_115, m21_117, m21_117p, m21_118, m21_120, m21_121u, m21_121i, m21_121r, m21_121g, m21_123, m21_124, m21_126, m21_127, m21_128, m21_128p, m21_129u, m21_129i, m21_129r, m21_129g, m21_131, m21_133, m21_135, m21_136, m21_137, m21_138, m21_139, m21_140u, m21_140i, m21_140r, m21_140g, m21_142, m21_143u, m21_143i, m21_143r, m21_143g, m21_145, m21_147, m21_148, m21_234, m21_236, m21_237, m21_317, m21_319, m21_320, m21_380, m21_382, m21_383, m21_472, m21_474, m21_476, m21_479, m21_481, m21_484, m21_486, m21_489, m21_491, m21_494, m21_496, m21_499, m21_501, m21_503, m21_506, m21_508, m21_511, m21_513, m21_515, m21_516, m21_519, m21_522, m21_524, m21_527, m21_529u, m21_529i, m21_529r, m21_529g, m21_531, m21_532, m21_534, m21_537u, m21_537i, m21_537r, m21_537g, m21_539, m21_541, m21_543, m21_546, m21_547, m21_548, m21_550, m21_552, m21_555, m21_558, m14_0, m14_1, m14_4, m14_7, m14_8, m14_9, m14_10, m14_11, m14_14, m14_17, m14_19, m14_20, m14_21, m14_24, m14_26, m14_29, m14_31, m14_32, m14_33, m14_36, m14_37, m14_40, m14_41, m14_44, m14_47, m14_49, m14_50, m14_51, m14_54, m14_57, m14_59, m14_60, m14_61, m14_64, m14_65, m14_68, m14_69, m14_70, m14_71, m14_72, m14_75, m14_76, m14_77, m14_80, m14_81, m5_0, m5_1, m5_4, m5_5, m5_8, m5_11, m5_12, m5_15, m5_16, okS_i, nb0, nb1, ou_a, Option.toList_some, Option.toList_none, List.nil_append, List.cons_append]
    exact tail lp (okS_i _) (okS_i _) (okS_i _) (okS_i _) (okS_i _) o27 o28 o29 o30 o31 o32 (Or.inl ⟨rfl, e16⟩) ⟨e0, e1, e2, e3, e4, e7, e13, rfl, bc, Or.inr ⟨rfl, e14, by simp [ou_a, e15], r1, r2, by rw [el]; omega, by rw [el]; omega, by rw [el]; omega⟩, n1, n2, t1, p1, p2, tp, pz, d1, d2, by show 0 ≤ (s 16).toInt; rw [e16]; exact m1, by show (s 16).toInt ≤ _; rw [e16]; exact m2, sm, c1, by show (s 9).toInt ≤ _; rw [y2]; omega, cf, LN_ou hl (by simp only [setA_len]; exact hl _)⟩ hx1 hx2 hx3
set_option maxRecDepth 1000000 in
set_option maxHeartbeats 20000000 in
theorem op7 {n : Nat} (lp : LP vs Q n) {i1 w cp op ns bt pn st ln T D M ix : Int32} {k21 k22 k23 k24 k25 k26 k27 k28 k29 k30 k31 k32 : Slot} {s : Nat → Int32} {A : Nat → List Int32} (o21 : okS k21) (o22 : okS k22) (o23 : okS k23) (o24 : okS k24) (o25 : okS k25) (o26 : okS k26) (o27 : okS k27) (o28 : okS k28) (o29 : okS k29) (o30 : okS k30) (o31 : okS k31) (o32 : okS k32)
    (iv : IV ix w cp op ns bt pn st ln T D M s A) (hx1 : 1 ≤ ix.toInt) (hx2 : ix.toInt + 2 ≤ 1000) (hx3 : (vs.length : Int) ≤ ix.toInt + 2 + n) (x0 : inB ix vs) (x1 : inB (ix + 1) vs) (ha : getA vs ix &&& 7 = 7) : M21 114 [.val (.ref 0), .val (.int i1), .val (.ref 1), .val (.int w), .val (.int 0), .val (.int (-1)), .val (.int (-2)), .val (.int (-3)), .val (.int (-4)), .val (.int (-5)), .val (.int cp), .val (.int op), .val (.int ns), .val (.int bt), .val (.int pn), .val (.int st), .val (.int ln), .val (.int T), .val (.int D), .val (.int M), .val (.int ix), k21, k22, k23, k24, k25, k26, k27, k28, k29, k30, k31, k32] [] (put 1 [(.array .int, vs.map Value.int)] s A []) Q := by
  have iv0 := iv
  obtain ⟨e0, e1, e2, e3, e4, e7, e13, e16, bc, bo, n1, n2, t1, p1, p2, tp, pz, d1, d2, m1, m2, sm, c1, c2, cf, hl⟩ := iv
  have y2 : (ix + 2).toInt = ix.toInt + 2 := add_i (by rw [i_2]; omega) (by rw [i_2]; omega)
  have iv2 : IV (ix + 2) w cp op ns bt pn st ln T D (s 16) s A := ⟨e0, e1, e2, e3, e4, e7, e13, rfl, bc, bo, n1, n2, t1, p1, p2, tp, pz, d1, d2, by rw [e16]; exact m1, by rw [e16]; exact m2, sm, c1, by rw [y2]; omega, cf, hl⟩
  rcases bo with ⟨rfl, rfl, rfl⟩ | ⟨rfl, e14, e15, r1, r2, r3, r4, r5⟩
  · simp [x0, x1, ha, e0, e1, e2, e3, e4, e7, e13, e16, o21, o22, o23, o24, o25, o26, o27, o28, o29, o30, o31, o32, m21_114, m21_115, m21_117, m21_117p, m21_118, m21_120, m21_121u, m21_121i, m21_121r, m21_121g, m21_123, m21_124, m21_126, m21_127, m21_128, m21_128p, m21_129u, m21_129i, m21_129r, m21_129g, m21_131, m21_133, m21_135, m21_136, m21_137, m21_138, m21_139, m21_140u, m21_140i, m21_140r, m21_140g, m21_142, m21_143u, m21_143i, m21_143r, m21_143g, m21_145, m21_147, m21_148, m21_234, m21_236, m21_237, m21_317, m21_319, m21_320, m21_380, m21_382, m21_383, m21_472, m21_474, m21_476, m21_561, m21_562, m21_565u, m21_565i, m21_565r, m21_565g, m21_567, m21_569, m21_572, m21_574, m21_576, m21_579, m21_580, m21_581, m21_582, m21_583, m21_586u, m21_586i, m21_586r, m21_586g, m21_588, m21_590, m21_593, m21_595, m21_597, m21_598, m21_600, m21_603, m21_604, m21_605, m21_607, m21_609, m21_610i, m21_612, m21_614i, m21_616, m21_617i, m21_619, m21_620i, m21_622, m21_623i, m21_625, m21_626i, okS_i, nb0, nb1, ou_a, Option.toList_some, Option.toList_none, List.nil_append, List.cons_append]
    rw [c15n e13]
    simp [x0, x1, ha, e0, e1, e2, e3, e4, e7, e13, e16, o21, o22, o23, o24, o25, o26, o27, o28, o29, o30, o31, o32, m21_114, m21_115, m21_117, m21_117p, m21_118, m21_120, m21_121u, m21_121i, m21_121r, m21_121g, m21_123, m21_124, m21_126, m21_127, m21_128, m21_128p, m21_129u, m21_129i, m21_129r, m21_129g, m21_131, m21_133, m21_135, m21_136, m21_137, m21_138, m21_139, m21_140u, m21_140i, m21_140r, m21_140g, m21_142, m21_143u, m21_143i, m21_143r, m21_143g, m21_145, m21_147, m21_148, m21_234, m21_236, m21_237, m21_317, m21_319, m21_320, m21_380, m21_382, m21_383, m21_472, m21_474, m21_476, m21_561, m21_562, m21_565u, m21_565i, m21_565r, m21_565g, m21_567, m21_569, m21_572, m21_574, m21_576, m21_579, m21_580, m21_581, m21_582, m21_583, m21_586u, m21_586i, m21_586r, m21_586g, m21_588, m21_590, m21_593, m21_595, m21_597, m21_598, m21_600, m21_603, m21_604, m21_605, m21_607, m21_609, m21_610i, m21_612, m21_614i, m21_616, m21_617i, m21_619, m21_620i, m21_622, m21_623i, m21_625, m21_626i, okS_i, nb0, nb1, ou_a, Option.toList_some, Option.toList_none, List.nil_append, List.cons_append]
    exact tail lp (okS_i _) (okS_i _) (okS_i _) o24 (okS_i _) o27 o28 o29 o30 o31 o32 (Or.inl ⟨rfl, e16⟩) (by exact iv2) hx1 hx2 hx3
  · simp [x0, x1, ha, e0, e1, e2, e3, e4, e7, e13, e16, o21, o22, o23, o24, o25, o26, o27, o28, o29, o30, o31, o32, m21_114, m21_115, m21_117, m21_117p, m21_118, m21_120, m21_121u, m21_121i, m21_121r, m21_121g, m21_123, m21_124, m21_126, m21_127, m21_128, m21_128p, m21_129u, m21_129i, m21_129r, m21_129g, m21_131, m21_133, m21_135, m21_136, m21_137, m21_138, m21_139, m21_140u, m21_140i, m21_140r, m21_140g, m21_142, m21_143u, m21_143i, m21_143r, m21_143g, m21_145, m21_147, m21_148, m21_234, m21_236, m21_237, m21_317, m21_319, m21_320, m21_380, m21_382, m21_383, m21_472, m21_474, m21_476, m21_561, m21_562, m21_565u, m21_565i, m21_565r, m21_565g, m21_567, m21_569, m21_572, m21_574, m21_576, m21_579, m21_580, m21_581, m21_582, m21_583, m21_586u, m21_586i, m21_586r, m21_586g, m21_588, m21_590, m21_593, m21_595, m21_597, m21_598, m21_600, m21_603, m21_604, m21_605, m21_607, m21_609, m21_610i, m21_612, m21_614i, m21_616, m21_617i, m21_619, m21_620i, m21_622, m21_623i, m21_625, m21_626i, okS_i, nb0, nb1, ou_a, Option.toList_some, Option.toList_none, List.nil_append, List.cons_append]
    refine c15 hl e13 (by rw [e14]; exact r1) (by rw [e14]; exact r2) (by rw [e15]; exact r3) (by rw [e15]; exact r4) (by rw [e14, e15]; exact r5) c1 (by omega) cf (by rw [e7]; exact d1) (by rw [e7]; exact d2) (by rw [e16]; exact m1) (by rw [e16, e7]; exact m2) (fun s' A' h' fr u13 usm u1 u2 ucf w1 w2 w3 w4 => ?_)
    rw [e7] at usm w1 ⊢
    rw [e16] at w3
    rw [e15, sm] at usm
    have ed := sub_i (a := s' 7) (b := D) (by omega) (by omega)
    have z1 : ¬ s' 7 - D < 0 := by rw [nn_i, ed]; omega
    simp [z1, o21, o22, o23, o24, o25, o26, o27, o28, o29, o30, o31, o32, m21_114, m21_115, m21_117, m21_117p, m21_118, m21_120, m21_121u, m21_121i, m21_121r, m21_121g, m21_123, m21_124, m21_126, m21_127, m21_128, m21_128p, m21_129u, m21_129i, m21_129r, m21_129g, m21_131, m21_133, m21_135, m21_136, m21_137, m21_138, m21_139, m21_140u, m21_140i, m21_140r, m21_140g, m21_142, m21_143u, m21_143i, m21_143r, m21_143g, m21_145, m21_147, m21_148, m21_234, m21_236, m21_237, m21_317, m21_319, m21_320, m21_380, m21_382, m21_383, m21_472, m21_474, m21_476, m21_561, m21_562, m21_565u, m21_565i, m21_565r, m21_565g, m21_567, m21_569, m21_572, m21_574, m21_576, m21_579, m21_580, m21_581, m21_582, m21_583, m21_586u, m21_586i, m21_586r, m21_586g, m21_588, m21_590, m21_593, m21_595, m21_597, m21_598, m21_600, m21_603, m21_604, m21_605, m21_607, m21_609, m21_610i, m21_612, m21_614i, m21_616, m21_617i, m21_619, m21_620i, m21_622, m21_623i, m21_625, m21_626i, m2_0, m2_1_0, m2_1_1, m2_1_2, m2_1_3, m2_1_4, m2_1_5, m2_1_6, m2_1_7, m2_1_8, m2_1_9, m2_1_10, m2_1_11, m2_1_12, m2_1_13, m2_1_14, m2_76, m2_77, m2_80, m2_81, m2_82, m2_85, m2_86, m2_87, m2_90, m2_91, m2_92, m2_95, m2_96, m2_97, m2_100, m2_101, m2_102, m2_105, m2_106, m2_107, m2_110, m2_111, m2_112, m2_115, m2_116, m2_117, m2_120, m2_121, m2_122, m2_123, m2_126, m2_129, m2_130, m2_131, m2_132, m2_135, m2_138, m2_139, m2_140, m2_143, m2_146, m2_147, m2_150, m2_153, m2_154, m2_155, m2_156, m2_159, m2_162, m2_163, m2_166, m2_169, m2_170, m2_171, m2_172, m2_175, m2_176, m2_177, m2_180, m2_181, m2_182, okS_i, nb0, nb1, ou_a, Option.toList_some, Option.toList_none, List.nil_append, List.cons_append]
    exact tail lp (okS_i _) (okS_i _) (okS_i _) o24 (okS_i _) (okS_i _) o28 o29 o30 o31 o32 (Or.inr ⟨rfl, by rw [lt_i]; omega⟩) ⟨(fr 0 (by decide)).trans e0, (fr 1 (by decide)).trans e1, (fr 2 (by decide)).trans e2, (fr 3 (by decide)).trans e3, (fr 4 (by decide)).trans e4, rfl, u13, rfl, bc, Or.inl ⟨rfl, rfl, rfl⟩, n1, n2, t1, p1, p2, tp, pz, by omega, w2, by omega, w4, usm, u1, by rw [y2]; omega, ucf, h'⟩ hx1 hx2 hx3
set_option maxRecDepth 1000000 in
set_option maxHeartbeats 20000000 in
theorem loop (hlen : vs.length ≤ 260) (hQ : ∀ s' A', LN A' → Q (some (.int 1)) (put 1 [(.array .int, vs.map Value.int)] s' A' [])) : ∀ n, LP vs Q n := by
  intro n
  induction n with
  | zero =>
    intro i1 w cp op ns bt pn st ln T D M ix k21 k22 k23 k24 k25 k26 k27 k28 k29 k30 k31 k32 s A o21 o22 o23 o24 o25 o26 o27 o28 o29 o30 o31 o32 iv hx1 hx0 hx3
    have eL : (vs.length.toInt32).toInt = vs.length := len_toInt (by omega)
    have ei := add1_i (a := ix) (by omega)
    have g : ¬ ix + 1 < vs.length.toInt32 := by rw [lt_i, eL, ei]; omega
    obtain ⟨-, -, -, -, -, -, -, -, -, -, -, -, -, -, -, -, -, -, -, -, -, -, -, -, -, hl⟩ := iv
    rw [m21_105]
    simp [g, m21_107, m21_108, m21_109, m21_110, m21_110p, m21_111, m21_891, m21_892, nb0, nb1, ou_a, Option.toList_some, Option.toList_none, List.nil_append, List.cons_append]
    exact hQ s A hl
  | succ n ih =>
    intro i1 w cp op ns bt pn st ln T D M ix k21 k22 k23 k24 k25 k26 k27 k28 k29 k30 k31 k32 s A o21 o22 o23 o24 o25 o26 o27 o28 o29 o30 o31 o32 iv hx1 hx0 hx3
    have eL : (vs.length.toInt32).toInt = vs.length := len_toInt (by omega)
    have ei := add1_i (a := ix) (by omega)
    by_cases g : ix + 1 < vs.length.toInt32
    · have q := g
      rw [lt_i, eL, ei] at q
      have x0 : inB ix vs := by rw [inB_iff]; omega
      have x1 : inB (ix + 1) vs := by rw [inB_iff, ei]; omega
      rw [m21_105]
      simp [g, m21_107, m21_108, m21_109, m21_110, m21_110p, m21_111, nb0, nb1, ou_a, Option.toList_some, Option.toList_none, List.nil_append, List.cons_append]
      have hx2 : ix.toInt + 2 ≤ 1000 := by omega
      have hx4 : (vs.length : Int) ≤ ix.toInt + 2 + n := by omega
      rcases and7 (getA vs ix) with ha | ha | ha | ha | ha | ha | ha | ha
      · exact op0 ih o21 o22 o23 o24 o25 o26 o27 o28 o29 o30 o31 o32 iv hx1 hx2 hx4 x0 x1 ha
      · exact op1 ih o21 o22 o23 o24 o25 o26 o27 o28 o29 o30 o31 o32 iv hx1 hx2 hx4 x0 x1 ha
      · exact op2 ih o21 o22 o23 o24 o25 o26 o27 o28 o29 o30 o31 o32 iv hx1 hx2 hx4 x0 x1 ha
      · exact op3 ih o21 o22 o23 o24 o25 o26 o27 o28 o29 o30 o31 o32 iv hx1 hx2 hx4 x0 x1 ha
      · exact op4 ih o21 o22 o23 o24 o25 o26 o27 o28 o29 o30 o31 o32 iv hx1 hx2 hx4 x0 x1 ha
      · exact op5 ih o21 o22 o23 o24 o25 o26 o27 o28 o29 o30 o31 o32 iv hx1 hx2 hx4 x0 x1 ha
      · exact op6 ih o21 o22 o23 o24 o25 o26 o27 o28 o29 o30 o31 o32 iv hx1 hx2 hx4 x0 x1 ha
      · exact op7 ih o21 o22 o23 o24 o25 o26 o27 o28 o29 o30 o31 o32 iv hx1 hx2 hx4 x0 x1 ha
    · obtain ⟨-, -, -, -, -, -, -, -, -, -, -, -, -, -, -, -, -, -, -, -, -, -, -, -, -, hl⟩ := iv
      rw [m21_105]
      simp [g, m21_107, m21_108, m21_109, m21_110, m21_110p, m21_111, m21_891, m21_892, nb0, nb1, ou_a, Option.toList_some, Option.toList_none, List.nil_append, List.cons_append]
      exact hQ s A hl
end Law
set_option maxRecDepth 1000000 in
set_option maxHeartbeats 20000000 in
theorem own_key {vs : List Int32} {Q : Option Value → AHeap → Prop} (hlen : vs.length ≤ 260) (hQ : ∀ s' A', LN A' → Q (some (.int 1)) (put 1 [((FieldType.array .int, vs.map Value.int) : FieldType × List Value)] s' A' [])) : ∀ (i1 w : Int32) (s : Nat → Int32), s 0 = w → s 1 = 0 → s 2 = 0 → s 3 = 0 → s 4 = 0 → s 7 = 0 → s 8 = 0 → s 9 = 0 → s 10 = 0 → s 11 = 0 → s 12 = -1 → s 13 = 0 → s 16 = 0 → M21 105 [.val (.ref 0), .val (.int i1), .val (.ref 1), .val (.int w), .val (.int 0), .val (.int (-1)), .val (.int (-2)), .val (.int (-3)), .val (.int (-4)), .val (.int (-5)), .val (.int 0), .val (.int 0), .val (.int 0), .val (.int 0), .val (.int 0), .val (.int (-1)), .val (.int 0), .val (.int 0), .val (.int 0), .val (.int 0), .val (.int 1), .unset, .unset, .unset, .unset, .unset, .unset, .unset, .unset, .unset, .unset, .unset, .unset] [] (put 1 [((FieldType.array .int, vs.map Value.int) : FieldType × List Value)] s A0 []) Q := by
  intro i1 w s g0 g1 g2 g3 g4 g7 g8 g9 g10 g11 g12 g13 g16
  exact loop hlen hQ 260 i1 w 0 0 0 0 0 (-1) 0 0 0 0 1 _ _ _ _ _ _ _ _ _ _ _ _ s A0 okS_u okS_u okS_u okS_u okS_u okS_u okS_u okS_u okS_u okS_u okS_u okS_u ⟨g0, g1, g2, g3, g4, g7, g13, g16, Or.inl rfl, Or.inl ⟨rfl, rfl, rfl⟩, by decide, by decide, by decide, by decide, by decide, by decide, Or.inl rfl, by decide, by decide, by decide, by decide, (by unfold SM; rw [g10, g9, g11, g8]; rfl), (by rw [g9]; decide), (by rw [g9]; decide), Or.inl ⟨g9, g12⟩, fun _ => rfl⟩ (by decide) (by decide) (by rw [i_1]; omega)
set_option maxRecDepth 1000000 in
set_option maxHeartbeats 20000000 in
theorem own_k {vs : List Int32} {Q : Option Value → AHeap → Prop} (hlen : vs.length ≤ 260) (hQ : ∀ s' A', LN A' → Q (some (.int 1)) (put 1 [((FieldType.array .int, vs.map Value.int) : FieldType × List Value)] s' A' [])) : M21 0 [.val (.ref 0), .unset, .unset, .unset, .unset, .unset, .unset, .unset, .unset, .unset, .unset, .unset, .unset, .unset, .unset, .unset, .unset, .unset, .unset, .unset, .unset, .unset, .unset, .unset, .unset, .unset, .unset, .unset, .unset, .unset, .unset, .unset, .unset] [] [((FieldType.array .int, vs.map Value.int) : FieldType × List Value)] Q := by
  by_cases z : 0 < vs.length.toInt32
  · have eL : (vs.length.toInt32).toInt = vs.length := len_toInt (by omega)
    have x0 : inB 0 vs := by
      rw [inB_iff, i_0]
      rw [lt_i, i_0, eL] at z
      omega
    simp [z, x0, m21_0, m21_1, m21_1p, m21_2, m21_5, m21_6, m21_7, m21_7p, m21_8, m21_10, m21_11, m21_14, m21_16u, m21_17, m21_20, m21_21, m21_22, nb0, nb1, ou_a, Option.toList_some, Option.toList_none, List.nil_append, List.cons_append]
    refine Eq.mpr (own_ctor0 (pre := [((FieldType.array .int, vs.map Value.int) : FieldType × List Value)]) (b := 1) rfl (Nat.le_refl 1)) ?_
    by_cases a1 : getA vs 0 &&& 127 < 8
    · simp [a1, m0_0, m0_1, m0_4, m0_5, m0_12, m0_13, m0_20, m0_21, m0_28, m0_29, m0_37, m0_38, m0_45, m0_46, m0_53, m0_54, m0_61, m0_62, m0_70, m0_71, m0_79, m0_80, m0_87, m0_88, m0_95, m0_96, m0_103, m0_104u, m0_105, m0_106, m0_108, m0_111, m0_113i, m0_114, m0_115, m0_117, m0_120, m0_122i, m0_123, m0_124, m0_125, m0_128, m0_129, m0_130, m0_133, m0_134, m0_135, m0_138, m0_139, m0_140, m0_143, m0_144, m0_145, m0_148, m0_149, m0_150, m0_153, m0_154, m0_155, m0_158, m0_159, m0_160, m0_163, m0_164, m0_165, m0_168, m0_169, m0_170, m0_173, m0_174, m0_175, m0_178, m0_179, m0_180, m0_183, m0_184, m0_185, m0_188, m0_189, m0_190, m0_193, m0_194, m0_195, m0_198, m0_199, m0_200, m0_203, m0_204, m0_205, m0_208, m21_25u, m21_26, m21_27, m21_29, m21_32, m21_34, m21_37, m21_38, m21_40, m21_43, m21_45, m21_48, m21_49u, m21_50, m21_51u, m21_53, m21_54u, m21_56, m21_58u, m21_60, m21_62u, m21_64, m21_66u, m21_68, m21_70u, m21_72, m21_73u, m21_75, m21_76u, m21_78, m21_79u, m21_81, m21_82u, m21_84, m21_85u, m21_87, m21_88u, m21_90, m21_91u, m21_93, m21_94u, m21_96, m21_97u, m21_99, m21_100u, m21_102, m21_103u, nb0, nb1, ou_a, Option.toList_some, Option.toList_none, List.nil_append, List.cons_append]
      refine own_key hlen hQ _ _ _ ?_ ?_ ?_ ?_ ?_ ?_ ?_ ?_ ?_ ?_ ?_ ?_ ?_ <;> simp [ou_a]
    by_cases a2 : 64 < getA vs 0 &&& 127
    · simp [a1, a2, m0_0, m0_1, m0_4, m0_5, m0_12, m0_13, m0_20, m0_21, m0_28, m0_29, m0_37, m0_38, m0_45, m0_46, m0_53, m0_54, m0_61, m0_62, m0_70, m0_71, m0_79, m0_80, m0_87, m0_88, m0_95, m0_96, m0_103, m0_104u, m0_105, m0_106, m0_108, m0_111, m0_113i, m0_114, m0_115, m0_117, m0_120, m0_122i, m0_123, m0_124, m0_125, m0_128, m0_129, m0_130, m0_133, m0_134, m0_135, m0_138, m0_139, m0_140, m0_143, m0_144, m0_145, m0_148, m0_149, m0_150, m0_153, m0_154, m0_155, m0_158, m0_159, m0_160, m0_163, m0_164, m0_165, m0_168, m0_169, m0_170, m0_173, m0_174, m0_175, m0_178, m0_179, m0_180, m0_183, m0_184, m0_185, m0_188, m0_189, m0_190, m0_193, m0_194, m0_195, m0_198, m0_199, m0_200, m0_203, m0_204, m0_205, m0_208, m21_25u, m21_26, m21_27, m21_29, m21_32, m21_34, m21_37, m21_38, m21_40, m21_43, m21_45, m21_48, m21_49u, m21_50, m21_51u, m21_53, m21_54u, m21_56, m21_58u, m21_60, m21_62u, m21_64, m21_66u, m21_68, m21_70u, m21_72, m21_73u, m21_75, m21_76u, m21_78, m21_79u, m21_81, m21_82u, m21_84, m21_85u, m21_87, m21_88u, m21_90, m21_91u, m21_93, m21_94u, m21_96, m21_97u, m21_99, m21_100u, m21_102, m21_103u, nb0, nb1, ou_a, Option.toList_some, Option.toList_none, List.nil_append, List.cons_append]
      refine own_key hlen hQ _ _ _ ?_ ?_ ?_ ?_ ?_ ?_ ?_ ?_ ?_ ?_ ?_ ?_ ?_ <;> simp [ou_a]
    · simp [a1, a2, m0_0, m0_1, m0_4, m0_5, m0_12, m0_13, m0_20, m0_21, m0_28, m0_29, m0_37, m0_38, m0_45, m0_46, m0_53, m0_54, m0_61, m0_62, m0_70, m0_71, m0_79, m0_80, m0_87, m0_88, m0_95, m0_96, m0_103, m0_104u, m0_105, m0_106, m0_108, m0_111, m0_113i, m0_114, m0_115, m0_117, m0_120, m0_122i, m0_123, m0_124, m0_125, m0_128, m0_129, m0_130, m0_133, m0_134, m0_135, m0_138, m0_139, m0_140, m0_143, m0_144, m0_145, m0_148, m0_149, m0_150, m0_153, m0_154, m0_155, m0_158, m0_159, m0_160, m0_163, m0_164, m0_165, m0_168, m0_169, m0_170, m0_173, m0_174, m0_175, m0_178, m0_179, m0_180, m0_183, m0_184, m0_185, m0_188, m0_189, m0_190, m0_193, m0_194, m0_195, m0_198, m0_199, m0_200, m0_203, m0_204, m0_205, m0_208, m21_25u, m21_26, m21_27, m21_29, m21_32, m21_34, m21_37, m21_38, m21_40, m21_43, m21_45, m21_48, m21_49u, m21_50, m21_51u, m21_53, m21_54u, m21_56, m21_58u, m21_60, m21_62u, m21_64, m21_66u, m21_68, m21_70u, m21_72, m21_73u, m21_75, m21_76u, m21_78, m21_79u, m21_81, m21_82u, m21_84, m21_85u, m21_87, m21_88u, m21_90, m21_91u, m21_93, m21_94u, m21_96, m21_97u, m21_99, m21_100u, m21_102, m21_103u, nb0, nb1, ou_a, Option.toList_some, Option.toList_none, List.nil_append, List.cons_append]
      refine own_key hlen hQ _ _ _ ?_ ?_ ?_ ?_ ?_ ?_ ?_ ?_ ?_ ?_ ?_ ?_ ?_ <;> simp [ou_a]
  · simp [z, m21_0, m21_1, m21_1p, m21_2, m21_5, m21_6, m21_7, m21_7p, m21_8, m21_10, m21_11, m21_14, m21_16u, m21_17, m21_20, m21_21, m21_22, nb0, nb1, ou_a, Option.toList_some, Option.toList_none, List.nil_append, List.cons_append]
    refine Eq.mpr (own_ctor0 (pre := [((FieldType.array .int, vs.map Value.int) : FieldType × List Value)]) (b := 1) rfl (Nat.le_refl 1)) ?_
    simp [m0_0, m0_1, m0_4, m0_5, m0_12, m0_13, m0_20, m0_21, m0_28, m0_29, m0_37, m0_38, m0_45, m0_46, m0_53, m0_54, m0_61, m0_62, m0_70, m0_71, m0_79, m0_80, m0_87, m0_88, m0_95, m0_96, m0_103, m0_104u, m0_105, m0_106, m0_108, m0_111, m0_113i, m0_114, m0_115, m0_117, m0_120, m0_122i, m0_123, m0_124, m0_125, m0_128, m0_129, m0_130, m0_133, m0_134, m0_135, m0_138, m0_139, m0_140, m0_143, m0_144, m0_145, m0_148, m0_149, m0_150, m0_153, m0_154, m0_155, m0_158, m0_159, m0_160, m0_163, m0_164, m0_165, m0_168, m0_169, m0_170, m0_173, m0_174, m0_175, m0_178, m0_179, m0_180, m0_183, m0_184, m0_185, m0_188, m0_189, m0_190, m0_193, m0_194, m0_195, m0_198, m0_199, m0_200, m0_203, m0_204, m0_205, m0_208, m21_25u, m21_26, m21_27, m21_29, m21_32, m21_34, m21_37, m21_38, m21_40, m21_43, m21_45, m21_48, m21_49u, m21_50, m21_51u, m21_53, m21_54u, m21_56, m21_58u, m21_60, m21_62u, m21_64, m21_66u, m21_68, m21_70u, m21_72, m21_73u, m21_75, m21_76u, m21_78, m21_79u, m21_81, m21_82u, m21_84, m21_85u, m21_87, m21_88u, m21_90, m21_91u, m21_93, m21_94u, m21_96, m21_97u, m21_99, m21_100u, m21_102, m21_103u, nb0, nb1, ou_a, Option.toList_some, Option.toList_none, List.nil_append, List.cons_append]
    refine own_key hlen hQ _ _ _ ?_ ?_ ?_ ?_ ?_ ?_ ?_ ?_ ?_ ?_ ?_ ?_ ?_ <;> simp [ou_a]
set_option maxRecDepth 1000000 in
set_option maxHeartbeats 20000000 in
theorem own_law (vs : List Int32) (hlen : vs.length ≤ 260) : W tables_1 dn 1 x code ret 0 (entry [.ref 0] maxLocals) [] [(FieldType.array .int, vs.map Value.int)] (fun v H1 => v = some (.int 1) ∧ H1.length - ([(FieldType.array .int, vs.map Value.int)] : AHeap).length ≤ 40 ∧ tot tables_1 H1 - tot tables_1 [(FieldType.array .int, vs.map Value.int)] ≤ 35328) := by
  show M21 0 [.val (.ref 0), .unset, .unset, .unset, .unset, .unset, .unset, .unset, .unset, .unset, .unset, .unset, .unset, .unset, .unset, .unset, .unset, .unset, .unset, .unset, .unset, .unset, .unset, .unset, .unset, .unset, .unset, .unset, .unset, .unset, .unset, .unset, .unset] [] [(FieldType.array .int, vs.map Value.int)] _
  refine own_k hlen (fun s' A' h' => ⟨rfl, ?_, ?_⟩)
  · rw [put_len]; simp
  · have hq : ∀ i, (A' i).length = (A0 i).length := h'
    rw [put_tot, pad_1]; simp only [hq, put_len, put_tot, pad_0, tot_nil, List.length_nil, List.length_cons, A0l_0, A0l_1, A0l_2, A0l_3, A0l_4, A0l_5, A0l_6, A0l_7, A0l_8, A0l_9, A0l_10, A0l_11]; omega
theorem own_dn : ∀ f' l', dnOf dn x = some (f', l') → f' ≤ room_1.frames ∧ l' ≤ room_1.locals := by
  have h : dnOf dn x = some (4, 61) := by decide +kernel
  intro f' l' q; rw [h] at q; cases q; decide
theorem own_pn : Jvm.plainName x.cls = true := by first | (simp [Jvm.plainName, overriddenIn, x]; done) | decide +kernel
theorem own_rm (l : Launch) (Z : State) (a0 : Array Value) (hw : ∀ d ∈ tables_1, d.before a0 Z = true) (vs : List Int32) (hlen : vs.length ≤ 260) (h : Heap) (a : Addr) (cl : Cell) (Ar : Arr Z h a cl .int) (ev : cl.slots = (vs.map Value.int).toArray) :
    MetFree l x (head1 (Jvm.Cond.code x code maxLocals ret :: tables_1) room_1) (fun A U => A = #[.ref a] ∧ Z.Warmed39 U.vm ∧ U.heap = h) (fun _ _ _ _ _ => True) (fun _ U o U' => ∃ w L, o = .returned w ∧ (w = some (.int 1) ∧ Fr h.size L) ∧ FrameEnd U o U' L 40 35328) :=
  law_of (as := [.ref 0]) (mx := maxLocals) (f := room_1.frames) (lc := room_1.locals) hw l tables_1 own_pn (by show 1 ≤ 33; omega) (own_law vs hlen) own_dn (Sim.script tables_1 Ar ev)
set_option maxRecDepth 65536 in
set_option maxHeartbeats 40000000 in
theorem comes_1 {Post : Tables → Env → Array Value → State → Outcome → State → Prop} (hpost : ∀ tb e args s v u, (limb_1_1.after args s (.returned v) u = true ∧ limb_1_2.after args s (.returned v) u = true ∧ True) → FrameEnd s (.returned v) u (Jvm.fieldLocs frame_1_writes args s ++ Jvm.arrayLocs frame_1_arrays args s ++ Jvm.staticLocs frame_1_statics s) 40 35328 → Post tb e args s (.returned v) u) :
    ArmFor flags0 classFile x code maxLocals ret World_1 tables_1 room_1 Calls_1 rest_1 Pre_1 Post := by
  intro l hfl _ _ p e ha hc hk s m args below hf hA hF happ hP
  obtain ⟨hcalls, hrest, hpre⟩ := hP
  obtain ⟨-, -, -, hnamed, -, -, -, hat⟩ := (Spec.applies_iff hf).mp happ
  obtain ⟨hg, hn⟩ := and_e (Cond.before_iff.mp (show (Jvm.Cond.and given_1 narrow_1).before args s = true from hpre))
  obtain ⟨g0, q0⟩ := and_e hg
  obtain ⟨w0, rfl⟩ : ∃ w0 : Value, args = #[w0] := by
    have hs : args.size = 1 := by simpa [Cond.value, given_1] using g0
    obtain ⟨L⟩ := args
    match L, hs with
    | [w0], _ => exact ⟨w0, rfl⟩
  have hw := fun d (hd : d ∈ tables_1) => atoms_spec (ws := Jvm.Cond.code x code maxLocals ret :: tables_1) hat d (List.mem_cons_of_mem _ hd)
  have hfit : Fit s := fun {y c} hc i hi => by
    obtain ⟨ha, rfl⟩ := Array.getElem?_eq_some_iff.mp hc
    have q := List.all_eq_true.mp ((Array.all_eq_true_iff_forall_mem.mp hF) _ (Array.getElem_mem ha)) i (List.mem_range.mpr hi)
    simpa [Array.getElem?_eq_getElem hi] using q
  obtain ⟨n1, n2⟩ := and_e hn
  obtain ⟨a, ea⟩ := arr_v n1
  obtain rfl : w0 = .ref a := Option.some.inj ea
  obtain ⟨cl, Ar⟩ := Arr.start ea n1
  obtain ⟨r1, -⟩ := and_e (Cond.before_iff.mp (show rest_1_c.before _ s = true from hrest))
  obtain ⟨z, ez⟩ := is_v r1
  have hat' := Ar.fin (Vm.Alike.refl _)
  have hsz : cl.slots.size < 2 ^ 31 ∧ z = cl.slots.size.toInt32 := by
    simp only [Term.eval] at ea ez
    simp only [ea, hat', Option.bind_eq_bind, Option.bind_some] at ez
    split at ez
    · rename_i hlt; exact ⟨hlt, by simpa using ez.symm⟩
    · cases ez
  obtain ⟨vs, ev⟩ := script_of hfit Ar hsz.1
  have hlen : vs.length ≤ 260 := by
    have e1 : cl.slots.size = vs.length := by rw [ev]; simp
    have e2 := len_toInt hsz.1
    have n3 := Cond.le_ints (a := .length (.arg 0)) (b := .int 260) ez (Term.int_eval _)
    rw [n2] at n3
    have n4 := of_decide_eq_true (Option.some.inj n3).symm
    rw [Int32.le_iff_toInt_le, hsz.2, e2] at n4
    have e3 : (260 : Int32).toInt = 260 := by decide
    rw [e3] at n4
    omega
  obtain ⟨n, o, h1, h2, h3, _, L, rfl, ⟨rfl, N⟩, hq⟩ := own_rm l s _ hw vs hlen s.heap a cl Ar ev p e ha hc hk s m _ below hf ((Spec.applies_iff_loose hf).mp happ).1 ⟨rfl, State.Warmed39.refl s, rfl⟩ trivial
  exact ⟨n, _, h1, h2, h3, hpost _ _ _ _ _ _ ⟨Cond.after_iff.mpr rfl, Cond.after_iff.mpr (eq_i res_at (Term.int_eval (1)) rfl), trivial⟩ ⟨hq.1, hq.2.1, (hq.2.2.sift fun y hy => Or.inr (N y hy)).mono (by decide) (by decide)⟩⟩
theorem main_1_1 : Claimed_1_1 := comes_1 fun _ _ _ _ _ _ h hF => ⟨h.1, hF⟩
theorem main_1_2 : Claimed_1_2 := comes_1 fun _ _ _ _ _ _ h hF => ⟨h.2.1, hF⟩
end Jvm.Pilot.@@N@@
namespace Jvm.Pilot.@@N@@
open Jvm Jvm.ClassFile Sem Op Lib Jvm.Free Jvm.Stand Jvm.Pilot.@@N@@.Jvm.D
/-! MADE BY PROGRAM (witnessworld.py) out of the Statement's table words and the real class files: 11 classes; the members and pool entries that the words name. The judged class is class 1, her method 1. -/
namespace start1
open Jvm.ClassFile
def u (s : String) : CpInfo := .utf8 (stringToUtf16 s)
/-- a pool by its gaps: so many unusable entries, then the entry; so many at the end -/
def gap : Nat → List CpInfo → List CpInfo
  | 0, r => r
  | n + 1, r => .unusable :: gap n r
def poolList (es : List (Nat × CpInfo)) (last : Nat) : List CpInfo := es.foldr (fun e r => gap e.1 (e.2 :: r)) (gap last [])
def pool (es : List (Nat × CpInfo)) (last : Nat) : Array CpInfo := ⟨poolList es last⟩
def fileOf (pool : Array CpInfo) (this : Nat) (attrs : Array Attribute := #[]) (ms : Array MethodInfo := #[]) (fl : Nat := 33) (sup : Nat := 0) (ifs : Array Nat := #[]) (fds : Array FieldInfo := #[]) : ClassFile where
  minorVersion := 0
  majorVersion := 65
  constantPool := pool
  accessFlags := fl
  thisClass := this
  superClass := sup
  interfaces := ifs
  fields := fds
  methods := ms
  attributes := attrs
def plain (name : String) (sup : Option ClassId) : Class where
  name := name
  kind := .ordinary
  loader := none
  accessFlags := 33
  super := sup
  interfaces := #[]
  cf := none
  fields := #[]
  methods := #[]
  instanceTypes := #[]
  staticTypes := #[]
  resolved := #[]
  callSites := []
  init := .initialized
  statics := none
  mirror := none

def pool0 : Array CpInfo := pool [(5, u "<init>"), (0, u "()V"), (1, .class_ 10), (1, u "java/lang/Object")] 113

def k0c0 : Code := { maxStack := 0, maxLocals := 1, code := object_method_1_code, exceptionTable := #[], attributes := #[] }
def k0m0 : Method := { name := "<init>", desc := "()V", sig := { parameters := [], returnType := none }, accessFlags := 1, code := some k0c0 }
/-- java/lang/Object -/
def k0 : Class := { plain "java/lang/Object" none with
  accessFlags := 33
  interfaces := #[]
  cf := some (fileOf pool0 8 #[] #[{ accessFlags := 1, nameIndex := 5, descriptorIndex := 6, attributes := #[] }] 33 0 #[] #[])
  fields := #[]
  methods := #[k0m0]
  instanceTypes := #[]
  staticTypes := #[]
  resolved := Array.replicate 124 none
  statics := none }

def pool1 : Array CpInfo := pool [(2, .class_ 4), (1, u "java/lang/Object"), (0, u "<init>"), (0, u "()V"), (0, .class_ 8), (0, u "StreamSigScanner"), (0, .methodref 7 10), (0, .nameAndType 5 11), (0, u "(I)V"), (0, .methodref 7 13), (0, .nameAndType 14 15), (0, u "addSigByte"), (0, u "(I)I"), (0, .methodref 7 17), (0, .nameAndType 18 19), (0, u "endSig"), (0, u "()I"), (0, .methodref 7 21), (0, .nameAndType 22 15), (0, u "sigLength"), (0, .methodref 7 24), (0, .nameAndType 25 19), (0, u "compile"), (0, .methodref 7 27), (0, .nameAndType 28 15), (0, u "openSegment"), (0, .methodref 7 30), (0, .nameAndType 31 15), (0, u "segByte"), (0, .methodref 7 33), (0, .nameAndType 34 19), (0, u "closeSegment"), (0, .methodref 7 36), (0, .nameAndType 37 15), (0, u "stat"), (0, .class_ 39), (0, u "StreamSigScannerL6"), (2, u "law"), (0, u "([I)Z")] 5

def k1m0 : Method := { name := "<init>", desc := "()V", sig := { parameters := [], returnType := none }, accessFlags := 1, code := none }
def k1c1 : Code := { maxStack := 3, maxLocals := 33, code := code, exceptionTable := #[], attributes := #[] }
def k1m1 : Method := { name := "law", desc := "([I)Z", sig := { parameters := [(.array .int)], returnType := some .boolean }, accessFlags := 9, code := some k1c1 }
/-- StreamSigScannerL6 -/
def k1 : Class := { plain "StreamSigScannerL6" (some 0) with
  accessFlags := 33
  interfaces := #[]
  cf := some (fileOf pool1 38 #[] #[{ accessFlags := 1, nameIndex := 5, descriptorIndex := 6, attributes := #[] }, { accessFlags := 9, nameIndex := 42, descriptorIndex := 43, attributes := #[] }] 33 2 #[] #[])
  fields := #[]
  methods := #[k1m0, k1m1]
  instanceTypes := #[]
  staticTypes := #[]
  resolved := Array.replicate 49 none
  statics := none }

def pool2 : Array CpInfo := pool [(1, .methodref 2 3), (0, .class_ 4), (0, .nameAndType 5 6), (0, u "java/lang/Object"), (0, u "<init>"), (0, u "()V"), (0, .fieldref 8 9), (0, .class_ 10), (0, .nameAndType 11 12), (0, u "StreamSigScanner"), (0, u "sigBytes"), (0, u "[I"), (0, .fieldref 8 14), (0, .nameAndType 15 12), (0, u "sigStart"), (0, .fieldref 8 17), (0, .nameAndType 18 12), (0, u "sigLen"), (0, .fieldref 8 20), (0, .nameAndType 21 12), (0, u "delta"), (0, .fieldref 8 23), (0, .nameAndType 24 12), (0, u "fail"), (0, .fieldref 8 26), (0, .nameAndType 27 12), (0, u "outMask"), (0, .fieldref 8 29), (0, .nameAndType 30 12), (0, u "queue"), (0, .fieldref 8 32), (0, .nameAndType 33 34), (0, u "present"), (0, u "[Z"), (0, .fieldref 8 36), (0, .nameAndType 37 12), (0, u "stream"), (0, .fieldref 8 39), (0, .nameAndType 40 12), (0, u "segBuf"), (0, .fieldref 8 42), (0, .nameAndType 43 12), (0, u "matchSigs"), (0, .fieldref 8 45), (0, .nameAndType 46 12), (0, u "matchEnds"), (0, .fieldref 8 48), (0, .nameAndType 49 50), (0, u "window"), (0, u "I"), (0, .fieldref 8 52), (0, .nameAndType 53 54), (0, u "compiled"), (0, u "Z"), (0, .fieldref 8 56), (0, .nameAndType 57 50), (0, u "sigCount"), (0, .fieldref 8 59), (0, .nameAndType 60 50), (0, u "endedBytes"), (0, .fieldref 8 62), (0, .nameAndType 63 50), (0, u "pendLen"), (0, .fieldref 8 65), (0, .nameAndType 66 50), (0, u "nodeCount"), (0, .fieldref 8 68), (0, .nameAndType 69 50), (0, u "scanState"), (0, .fieldref 8 71), (0, .nameAndType 72 50), (0, u "delivered"), (0, .fieldref 8 74), (0, .nameAndType 75 50), (0, u "held"), (0, .fieldref 8 77), (0, .nameAndType 78 50), (0, u "conflicts"), (0, .fieldref 8 80), (0, .nameAndType 81 50), (0, u "duplicates"), (0, .fieldref 8 83), (0, .nameAndType 84 50), (0, u "dropped"), (0, .fieldref 8 86), (0, .nameAndType 87 50), (0, u "lastConflict"), (0, .fieldref 8 89), (0, .nameAndType 90 54), (0, u "segOpen"), (0, .fieldref 8 92), (0, .nameAndType 93 50), (0, u "segStart"), (0, .fieldref 8 95), (0, .nameAndType 96 50), (0, u "segLen"), (0, .fieldref 8 98), (0, .nameAndType 99 50), (0, u "matchTotal"), (0, .methodref 8 101), (0, .nameAndType 102 103), (0, u "isByte"), (0, u "(I)Z"), (0, .methodref 8 105), (0, .nameAndType 106 6), (0, u "buildTrie"), (0, .methodref 8 108), (0, .nameAndType 109 6), (0, u "buildAutomaton"), (0, .methodref 8 111), (0, .nameAndType 112 6), (0, u "clearAutomaton"), (0, .methodref 8 114), (0, .nameAndType 115 116), (0, u "insertSig"), (0, u "(I)V"), (0, .methodref 8 118), (0, .nameAndType 119 103), (0, u "isOffset"), (0, .methodref 8 121), (0, .nameAndType 122 123), (0, u "absorbByte"), (0, u "(III)V"), (0, .methodref 8 125), (0, .nameAndType 126 6), (0, u "advanceDelivered"), (0, .methodref 8 128), (0, .nameAndType 129 130), (0, u "feed"), (0, u "(II)V"), (0, .methodref 8 132), (0, .nameAndType 133 130), (0, u "recordMatch"), (0, .methodref 8 135), (0, .nameAndType 136 137), (0, u "flag"), (0, u "(Z)I"), (0, .methodref 8 139), (0, .nameAndType 140 103), (0, u "validSig"), (3, u "OK"), (2, u "ERR_STATE"), (1, u "ERR_ARG"), (1, u "ERR_FULL"), (1, u "ERR_EMPTY"), (1, u "ERR_RANGE"), (1, u "MAX_SIGS"), (1, u "MAX_SIG_LEN"), (0, u "MAX_SIG_BYTES"), (1, u "STREAM_CAP"), (1, u "MAX_SEG_LEN"), (0, u "MATCH_CAP"), (0, u "MIN_WINDOW"), (1, u "MAX_WINDOW"), (0, u "STAT_DELIVERED"), (0, u "STAT_HELD"), (1, u "STAT_CONFLICTS"), (1, u "STAT_DUPLICATES"), (1, u "STAT_DROPPED"), (1, u "STAT_MATCHES"), (1, u "STAT_SIGS"), (1, u "STAT_SIG_BYTES"), (1, u "STAT_PENDING"), (0, u "STAT_COMPILED"), (1, u "STAT_SEG_OPEN"), (1, u "STAT_SEG_START"), (1, u "STAT_SEG_LEN"), (1, u "STAT_LAST_CONFLICT"), (1, u "STAT_WINDOW"), (1, u "MAX_NODES"), (1, u "ALPHABET"), (3, u "addSigByte"), (0, u "(I)I"), (0, u "endSig"), (0, u "()I"), (0, u "compile"), (0, u "openSegment"), (0, u "segByte"), (0, u "closeSegment"), (0, u "stat"), (1, u "sigLength")] 6

def k2c0 : Code := { maxStack := 2, maxLocals := 3, code := prog_1_method_1_code, exceptionTable := #[], attributes := #[] }
def k2m0 : Method := { name := "<init>", desc := "(I)V", sig := { parameters := [.int], returnType := none }, accessFlags := 1, code := some k2c0 }
def k2c1 : Code := { maxStack := 3, maxLocals := 3, code := prog_1_method_2_code, exceptionTable := #[], attributes := #[] }
def k2m1 : Method := { name := "addSigByte", desc := "(I)I", sig := { parameters := [.int], returnType := some .int }, accessFlags := 1, code := some k2c1 }
def k2c2 : Code := { maxStack := 3, maxLocals := 2, code := prog_1_method_3_code, exceptionTable := #[], attributes := #[] }
def k2m2 : Method := { name := "endSig", desc := "()I", sig := { parameters := [], returnType := some .int }, accessFlags := 1, code := some k2c2 }
def k2c3 : Code := { maxStack := 2, maxLocals := 1, code := prog_1_method_4_code, exceptionTable := #[], attributes := #[] }
def k2m3 : Method := { name := "compile", desc := "()I", sig := { parameters := [], returnType := some .int }, accessFlags := 1, code := some k2c3 }
def k2c4 : Code := { maxStack := 2, maxLocals := 2, code := prog_1_method_5_code, exceptionTable := #[], attributes := #[] }
def k2m4 : Method := { name := "buildTrie", desc := "()V", sig := { parameters := [], returnType := none }, accessFlags := 2, code := some k2c4 }
def k2c5 : Code := { maxStack := 3, maxLocals := 2, code := prog_1_method_6_code, exceptionTable := #[], attributes := #[] }
def k2m5 : Method := { name := "clearAutomaton", desc := "()V", sig := { parameters := [], returnType := none }, accessFlags := 2, code := some k2c5 }
def k2c6 : Code := { maxStack := 5, maxLocals := 8, code := prog_1_method_7_code, exceptionTable := #[], attributes := #[] }
def k2m6 : Method := { name := "insertSig", desc := "(I)V", sig := { parameters := [.int], returnType := none }, accessFlags := 2, code := some k2c6 }
def k2c7 : Code := { maxStack := 5, maxLocals := 9, code := prog_1_method_8_code, exceptionTable := #[], attributes := #[] }
def k2m7 : Method := { name := "buildAutomaton", desc := "()V", sig := { parameters := [], returnType := none }, accessFlags := 2, code := some k2c7 }
def k2c8 : Code := { maxStack := 2, maxLocals := 2, code := prog_1_method_9_code, exceptionTable := #[], attributes := #[] }
def k2m8 : Method := { name := "openSegment", desc := "(I)I", sig := { parameters := [.int], returnType := some .int }, accessFlags := 1, code := some k2c8 }
def k2c9 : Code := { maxStack := 3, maxLocals := 2, code := prog_1_method_10_code, exceptionTable := #[], attributes := #[] }
def k2m9 : Method := { name := "segByte", desc := "(I)I", sig := { parameters := [.int], returnType := some .int }, accessFlags := 1, code := some k2c9 }
def k2c10 : Code := { maxStack := 4, maxLocals := 3, code := prog_1_method_11_code, exceptionTable := #[], attributes := #[] }
def k2m10 : Method := { name := "closeSegment", desc := "()I", sig := { parameters := [], returnType := some .int }, accessFlags := 1, code := some k2c10 }
def k2c11 : Code := { maxStack := 3, maxLocals := 4, code := prog_1_method_12_code, exceptionTable := #[], attributes := #[] }
def k2m11 : Method := { name := "absorbByte", desc := "(III)V", sig := { parameters := [.int, .int, .int], returnType := none }, accessFlags := 2, code := some k2c11 }
def k2c12 : Code := { maxStack := 3, maxLocals := 4, code := prog_1_method_13_code, exceptionTable := #[], attributes := #[] }
def k2m12 : Method := { name := "advanceDelivered", desc := "()V", sig := { parameters := [], returnType := none }, accessFlags := 2, code := some k2c12 }
def k2c13 : Code := { maxStack := 3, maxLocals := 7, code := prog_1_method_14_code, exceptionTable := #[], attributes := #[] }
def k2m13 : Method := { name := "feed", desc := "(II)V", sig := { parameters := [.int, .int], returnType := none }, accessFlags := 2, code := some k2c13 }
def k2c14 : Code := { maxStack := 3, maxLocals := 3, code := prog_1_method_15_code, exceptionTable := #[], attributes := #[] }
def k2m14 : Method := { name := "recordMatch", desc := "(II)V", sig := { parameters := [.int, .int], returnType := none }, accessFlags := 2, code := some k2c14 }
def k2c15 : Code := { maxStack := 2, maxLocals := 2, code := prog_1_method_16_code, exceptionTable := #[], attributes := #[] }
def k2m15 : Method := { name := "stat", desc := "(I)I", sig := { parameters := [.int], returnType := some .int }, accessFlags := 1, code := some k2c15 }
def k2c16 : Code := { maxStack := 2, maxLocals := 2, code := prog_1_method_18_code, exceptionTable := #[], attributes := #[] }
def k2m16 : Method := { name := "sigLength", desc := "(I)I", sig := { parameters := [.int], returnType := some .int }, accessFlags := 1, code := some k2c16 }
def k2c17 : Code := { maxStack := 2, maxLocals := 2, code := prog_1_method_22_code, exceptionTable := #[], attributes := #[] }
def k2m17 : Method := { name := "isByte", desc := "(I)Z", sig := { parameters := [.int], returnType := some .boolean }, accessFlags := 2, code := some k2c17 }
def k2c18 : Code := { maxStack := 2, maxLocals := 2, code := prog_1_method_23_code, exceptionTable := #[], attributes := #[] }
def k2m18 : Method := { name := "isOffset", desc := "(I)Z", sig := { parameters := [.int], returnType := some .boolean }, accessFlags := 2, code := some k2c18 }
def k2c19 : Code := { maxStack := 2, maxLocals := 2, code := prog_1_method_24_code, exceptionTable := #[], attributes := #[] }
def k2m19 : Method := { name := "validSig", desc := "(I)Z", sig := { parameters := [.int], returnType := some .boolean }, accessFlags := 2, code := some k2c19 }
def k2c20 : Code := { maxStack := 1, maxLocals := 2, code := prog_1_method_26_code, exceptionTable := #[], attributes := #[] }
def k2m20 : Method := { name := "flag", desc := "(Z)I", sig := { parameters := [.boolean], returnType := some .int }, accessFlags := 2, code := some k2c20 }
/-- StreamSigScanner -/
def k2 : Class := { plain "StreamSigScanner" (some 0) with
  accessFlags := 49
  interfaces := #[]
  cf := some (fileOf pool2 8 #[] #[{ accessFlags := 1, nameIndex := 5, descriptorIndex := 116, attributes := #[] }, { accessFlags := 1, nameIndex := 203, descriptorIndex := 204, attributes := #[] }, { accessFlags := 1, nameIndex := 205, descriptorIndex := 206, attributes := #[] }, { accessFlags := 1, nameIndex := 207, descriptorIndex := 206, attributes := #[] }, { accessFlags := 2, nameIndex := 106, descriptorIndex := 6, attributes := #[] }, { accessFlags := 2, nameIndex := 112, descriptorIndex := 6, attributes := #[] }, { accessFlags := 2, nameIndex := 115, descriptorIndex := 116, attributes := #[] }, { accessFlags := 2, nameIndex := 109, descriptorIndex := 6, attributes := #[] }, { accessFlags := 1, nameIndex := 208, descriptorIndex := 204, attributes := #[] }, { accessFlags := 1, nameIndex := 209, descriptorIndex := 204, attributes := #[] }, { accessFlags := 1, nameIndex := 210, descriptorIndex := 206, attributes := #[] }, { accessFlags := 2, nameIndex := 122, descriptorIndex := 123, attributes := #[] }, { accessFlags := 2, nameIndex := 126, descriptorIndex := 6, attributes := #[] }, { accessFlags := 2, nameIndex := 129, descriptorIndex := 130, attributes := #[] }, { accessFlags := 2, nameIndex := 133, descriptorIndex := 130, attributes := #[] }, { accessFlags := 1, nameIndex := 211, descriptorIndex := 204, attributes := #[] }, { accessFlags := 1, nameIndex := 213, descriptorIndex := 204, attributes := #[] }, { accessFlags := 2, nameIndex := 102, descriptorIndex := 103, attributes := #[] }, { accessFlags := 2, nameIndex := 119, descriptorIndex := 103, attributes := #[] }, { accessFlags := 2, nameIndex := 140, descriptorIndex := 103, attributes := #[] }, { accessFlags := 2, nameIndex := 136, descriptorIndex := 137, attributes := #[] }] 49 2 #[] #[{ accessFlags := 25, nameIndex := 144, descriptorIndex := 50, attributes := #[] }, { accessFlags := 25, nameIndex := 147, descriptorIndex := 50, attributes := #[] }, { accessFlags := 25, nameIndex := 149, descriptorIndex := 50, attributes := #[] }, { accessFlags := 25, nameIndex := 151, descriptorIndex := 50, attributes := #[] }, { accessFlags := 25, nameIndex := 153, descriptorIndex := 50, attributes := #[] }, { accessFlags := 25, nameIndex := 155, descriptorIndex := 50, attributes := #[] }, { accessFlags := 25, nameIndex := 157, descriptorIndex := 50, attributes := #[] }, { accessFlags := 25, nameIndex := 159, descriptorIndex := 50, attributes := #[] }, { accessFlags := 25, nameIndex := 160, descriptorIndex := 50, attributes := #[] }, { accessFlags := 25, nameIndex := 162, descriptorIndex := 50, attributes := #[] }, { accessFlags := 25, nameIndex := 164, descriptorIndex := 50, attributes := #[] }, { accessFlags := 25, nameIndex := 165, descriptorIndex := 50, attributes := #[] }, { accessFlags := 25, nameIndex := 166, descriptorIndex := 50, attributes := #[] }, { accessFlags := 25, nameIndex := 168, descriptorIndex := 50, attributes := #[] }, { accessFlags := 25, nameIndex := 169, descriptorIndex := 50, attributes := #[] }, { accessFlags := 25, nameIndex := 170, descriptorIndex := 50, attributes := #[] }, { accessFlags := 25, nameIndex := 172, descriptorIndex := 50, attributes := #[] }, { accessFlags := 25, nameIndex := 174, descriptorIndex := 50, attributes := #[] }, { accessFlags := 25, nameIndex := 176, descriptorIndex := 50, attributes := #[] }, { accessFlags := 25, nameIndex := 178, descriptorIndex := 50, attributes := #[] }, { accessFlags := 25, nameIndex := 180, descriptorIndex := 50, attributes := #[] }, { accessFlags := 25, nameIndex := 182, descriptorIndex := 50, attributes := #[] }, { accessFlags := 25, nameIndex := 184, descriptorIndex := 50, attributes := #[] }, { accessFlags := 25, nameIndex := 185, descriptorIndex := 50, attributes := #[] }, { accessFlags := 25, nameIndex := 187, descriptorIndex := 50, attributes := #[] }, { accessFlags := 25, nameIndex := 189, descriptorIndex := 50, attributes := #[] }, { accessFlags := 25, nameIndex := 191, descriptorIndex := 50, attributes := #[] }, { accessFlags := 25, nameIndex := 193, descriptorIndex := 50, attributes := #[] }, { accessFlags := 25, nameIndex := 195, descriptorIndex := 50, attributes := #[] }, { accessFlags := 26, nameIndex := 197, descriptorIndex := 50, attributes := #[] }, { accessFlags := 26, nameIndex := 199, descriptorIndex := 50, attributes := #[] }, { accessFlags := 2, nameIndex := 49, descriptorIndex := 50, attributes := #[] }, { accessFlags := 2, nameIndex := 53, descriptorIndex := 54, attributes := #[] }, { accessFlags := 2, nameIndex := 57, descriptorIndex := 50, attributes := #[] }, { accessFlags := 2, nameIndex := 60, descriptorIndex := 50, attributes := #[] }, { accessFlags := 2, nameIndex := 63, descriptorIndex := 50, attributes := #[] }, { accessFlags := 2, nameIndex := 11, descriptorIndex := 12, attributes := #[] }, { accessFlags := 2, nameIndex := 15, descriptorIndex := 12, attributes := #[] }, { accessFlags := 2, nameIndex := 18, descriptorIndex := 12, attributes := #[] }, { accessFlags := 2, nameIndex := 21, descriptorIndex := 12, attributes := #[] }, { accessFlags := 2, nameIndex := 24, descriptorIndex := 12, attributes := #[] }, { accessFlags := 2, nameIndex := 27, descriptorIndex := 12, attributes := #[] }, { accessFlags := 2, nameIndex := 30, descriptorIndex := 12, attributes := #[] }, { accessFlags := 2, nameIndex := 66, descriptorIndex := 50, attributes := #[] }, { accessFlags := 2, nameIndex := 69, descriptorIndex := 50, attributes := #[] }, { accessFlags := 2, nameIndex := 33, descriptorIndex := 34, attributes := #[] }, { accessFlags := 2, nameIndex := 37, descriptorIndex := 12, attributes := #[] }, { accessFlags := 2, nameIndex := 72, descriptorIndex := 50, attributes := #[] }, { accessFlags := 2, nameIndex := 75, descriptorIndex := 50, attributes := #[] }, { accessFlags := 2, nameIndex := 78, descriptorIndex := 50, attributes := #[] }, { accessFlags := 2, nameIndex := 81, descriptorIndex := 50, attributes := #[] }, { accessFlags := 2, nameIndex := 84, descriptorIndex := 50, attributes := #[] }, { accessFlags := 2, nameIndex := 87, descriptorIndex := 50, attributes := #[] }, { accessFlags := 2, nameIndex := 90, descriptorIndex := 54, attributes := #[] }, { accessFlags := 2, nameIndex := 93, descriptorIndex := 50, attributes := #[] }, { accessFlags := 2, nameIndex := 96, descriptorIndex := 50, attributes := #[] }, { accessFlags := 2, nameIndex := 40, descriptorIndex := 12, attributes := #[] }, { accessFlags := 2, nameIndex := 99, descriptorIndex := 50, attributes := #[] }, { accessFlags := 2, nameIndex := 43, descriptorIndex := 12, attributes := #[] }, { accessFlags := 2, nameIndex := 46, descriptorIndex := 12, attributes := #[] }])
  fields := #[{ name := "OK", type := .int, accessFlags := 25, slot := 0, constantValue := 0 }, { name := "ERR_STATE", type := .int, accessFlags := 25, slot := 1, constantValue := 0 }, { name := "ERR_ARG", type := .int, accessFlags := 25, slot := 2, constantValue := 0 }, { name := "ERR_FULL", type := .int, accessFlags := 25, slot := 3, constantValue := 0 }, { name := "ERR_EMPTY", type := .int, accessFlags := 25, slot := 4, constantValue := 0 }, { name := "ERR_RANGE", type := .int, accessFlags := 25, slot := 5, constantValue := 0 }, { name := "MAX_SIGS", type := .int, accessFlags := 25, slot := 6, constantValue := 0 }, { name := "MAX_SIG_LEN", type := .int, accessFlags := 25, slot := 7, constantValue := 0 }, { name := "MAX_SIG_BYTES", type := .int, accessFlags := 25, slot := 8, constantValue := 0 }, { name := "STREAM_CAP", type := .int, accessFlags := 25, slot := 9, constantValue := 0 }, { name := "MAX_SEG_LEN", type := .int, accessFlags := 25, slot := 10, constantValue := 0 }, { name := "MATCH_CAP", type := .int, accessFlags := 25, slot := 11, constantValue := 0 }, { name := "MIN_WINDOW", type := .int, accessFlags := 25, slot := 12, constantValue := 0 }, { name := "MAX_WINDOW", type := .int, accessFlags := 25, slot := 13, constantValue := 0 }, { name := "STAT_DELIVERED", type := .int, accessFlags := 25, slot := 14, constantValue := 0 }, { name := "STAT_HELD", type := .int, accessFlags := 25, slot := 15, constantValue := 0 }, { name := "STAT_CONFLICTS", type := .int, accessFlags := 25, slot := 16, constantValue := 0 }, { name := "STAT_DUPLICATES", type := .int, accessFlags := 25, slot := 17, constantValue := 0 }, { name := "STAT_DROPPED", type := .int, accessFlags := 25, slot := 18, constantValue := 0 }, { name := "STAT_MATCHES", type := .int, accessFlags := 25, slot := 19, constantValue := 0 }, { name := "STAT_SIGS", type := .int, accessFlags := 25, slot := 20, constantValue := 0 }, { name := "STAT_SIG_BYTES", type := .int, accessFlags := 25, slot := 21, constantValue := 0 }, { name := "STAT_PENDING", type := .int, accessFlags := 25, slot := 22, constantValue := 0 }, { name := "STAT_COMPILED", type := .int, accessFlags := 25, slot := 23, constantValue := 0 }, { name := "STAT_SEG_OPEN", type := .int, accessFlags := 25, slot := 24, constantValue := 0 }, { name := "STAT_SEG_START", type := .int, accessFlags := 25, slot := 25, constantValue := 0 }, { name := "STAT_SEG_LEN", type := .int, accessFlags := 25, slot := 26, constantValue := 0 }, { name := "STAT_LAST_CONFLICT", type := .int, accessFlags := 25, slot := 27, constantValue := 0 }, { name := "STAT_WINDOW", type := .int, accessFlags := 25, slot := 28, constantValue := 0 }, { name := "MAX_NODES", type := .int, accessFlags := 26, slot := 29, constantValue := 0 }, { name := "ALPHABET", type := .int, accessFlags := 26, slot := 30, constantValue := 0 }, { name := "window", type := .int, accessFlags := 2, slot := 0, constantValue := 0 }, { name := "compiled", type := .boolean, accessFlags := 2, slot := 1, constantValue := 0 }, { name := "sigCount", type := .int, accessFlags := 2, slot := 2, constantValue := 0 }, { name := "endedBytes", type := .int, accessFlags := 2, slot := 3, constantValue := 0 }, { name := "pendLen", type := .int, accessFlags := 2, slot := 4, constantValue := 0 }, { name := "sigBytes", type := (.array .int), accessFlags := 2, slot := 5, constantValue := 0 }, { name := "sigStart", type := (.array .int), accessFlags := 2, slot := 6, constantValue := 0 }, { name := "sigLen", type := (.array .int), accessFlags := 2, slot := 7, constantValue := 0 }, { name := "delta", type := (.array .int), accessFlags := 2, slot := 8, constantValue := 0 }, { name := "fail", type := (.array .int), accessFlags := 2, slot := 9, constantValue := 0 }, { name := "outMask", type := (.array .int), accessFlags := 2, slot := 10, constantValue := 0 }, { name := "queue", type := (.array .int), accessFlags := 2, slot := 11, constantValue := 0 }, { name := "nodeCount", type := .int, accessFlags := 2, slot := 12, constantValue := 0 }, { name := "scanState", type := .int, accessFlags := 2, slot := 13, constantValue := 0 }, { name := "present", type := (.array .boolean), accessFlags := 2, slot := 14, constantValue := 0 }, { name := "stream", type := (.array .int), accessFlags := 2, slot := 15, constantValue := 0 }, { name := "delivered", type := .int, accessFlags := 2, slot := 16, constantValue := 0 }, { name := "held", type := .int, accessFlags := 2, slot := 17, constantValue := 0 }, { name := "conflicts", type := .int, accessFlags := 2, slot := 18, constantValue := 0 }, { name := "duplicates", type := .int, accessFlags := 2, slot := 19, constantValue := 0 }, { name := "dropped", type := .int, accessFlags := 2, slot := 20, constantValue := 0 }, { name := "lastConflict", type := .int, accessFlags := 2, slot := 21, constantValue := 0 }, { name := "segOpen", type := .boolean, accessFlags := 2, slot := 22, constantValue := 0 }, { name := "segStart", type := .int, accessFlags := 2, slot := 23, constantValue := 0 }, { name := "segLen", type := .int, accessFlags := 2, slot := 24, constantValue := 0 }, { name := "segBuf", type := (.array .int), accessFlags := 2, slot := 25, constantValue := 0 }, { name := "matchTotal", type := .int, accessFlags := 2, slot := 26, constantValue := 0 }, { name := "matchSigs", type := (.array .int), accessFlags := 2, slot := 27, constantValue := 0 }, { name := "matchEnds", type := (.array .int), accessFlags := 2, slot := 28, constantValue := 0 }]
  methods := #[k2m0, k2m1, k2m2, k2m3, k2m4, k2m5, k2m6, k2m7, k2m8, k2m9, k2m10, k2m11, k2m12, k2m13, k2m14, k2m15, k2m16, k2m17, k2m18, k2m19, k2m20]
  instanceTypes := #[.int, .boolean, .int, .int, .int, (.array .int), (.array .int), (.array .int), (.array .int), (.array .int), (.array .int), (.array .int), .int, .int, (.array .boolean), (.array .int), .int, .int, .int, .int, .int, .int, .boolean, .int, .int, (.array .int), .int, (.array .int), (.array .int)]
  staticTypes := #[.int, .int, .int, .int, .int, .int, .int, .int, .int, .int, .int, .int, .int, .int, .int, .int, .int, .int, .int, .int, .int, .int, .int, .int, .int, .int, .int, .int, .int, .int, .int]
  resolved := Array.replicate 220 none
  statics := none }

def pool3 : Array CpInfo := pool [(1, u "java/lang/Cloneable"), (0, .class_ 1), (0, u "java/lang/Object"), (0, .class_ 3)] 3

/-- java/lang/Cloneable -/
def k3 : Class := { plain "java/lang/Cloneable" (some 0) with
  accessFlags := 1537
  interfaces := #[]
  cf := some (fileOf pool3 2 #[] #[] 1537 4 #[] #[])
  fields := #[]
  methods := #[]
  instanceTypes := #[]
  staticTypes := #[]
  resolved := Array.replicate 8 none
  statics := none }

def pool4 : Array CpInfo := pool [(1, u "java/io/Serializable"), (0, .class_ 1), (0, u "java/lang/Object"), (0, .class_ 3)] 3

/-- java/io/Serializable -/
def k4 : Class := { plain "java/io/Serializable" (some 0) with
  accessFlags := 1537
  interfaces := #[]
  cf := some (fileOf pool4 2 #[] #[] 1537 4 #[] #[])
  fields := #[]
  methods := #[]
  instanceTypes := #[]
  staticTypes := #[]
  resolved := Array.replicate 8 none
  statics := none }

/-- the primitive boolean -/
def k5 : Class := { plain "boolean" none with kind := .primitive 'Z', accessFlags := 0x411 }
/-- [Z -/
def k6 : Class := { plain "[Z" (some 0) with kind := .array 5 .boolean, interfaces := #[3, 4], accessFlags := 1041 }

/-- the primitive byte -/
def k7 : Class := { plain "byte" none with kind := .primitive 'B', accessFlags := 0x411 }
/-- [B -/
def k8 : Class := { plain "[B" (some 0) with kind := .array 7 .byte, interfaces := #[3, 4], accessFlags := 1041 }

/-- the primitive int -/
def k9 : Class := { plain "int" none with kind := .primitive 'I', accessFlags := 0x411 }
/-- [I -/
def k10 : Class := { plain "[I" (some 0) with kind := .array 9 .int, interfaces := #[3, 4], accessFlags := 1041 }

def heap : Heap := #[{ cls := 10, slots := #[.int 16, .int 0, .int 1], vm := .none }]
def classes : Array Class := #[k0, k1, k2, k3, k4, k5, k6, k7, k8, k9, k10]
def interned : List (Array UInt16 × Addr) := []
def slotsUsed : Nat := 3
def theMethod : MethodId := ⟨1, 1⟩
def args0 : Array Value := #[.ref 0]
def aboutOver (below : List Frame) : State where
  vm := { classes := classes, interned := interned.toArray }
  heap := heap
  slotsUsed := slotsUsed
  threads := #[{ frames := .invoking theMethod args0 :: below }]
def below0 : List Frame := [.native { method := ⟨0, 0⟩, args := #[] }]
def about1 : State := aboutOver below0
def p0 : Program := .bare "" "" ""
def e0 : Env := launch0.env 0 0 0
theorem w_frames : about1.frames = Frame.invoking theMethod args0 :: below0 := rfl
set_option maxRecDepth 65536 in
theorem w_args : argsFit about1.vm theMethod args0 = true := by decide +kernel
set_option maxRecDepth 65536 in
theorem w_heap : heapFits about1 = true := by decide +kernel
set_option maxRecDepth 65536 in
theorem w_runnable : about1.curStatus? = some .runnable := by decide +kernel
set_option maxRecDepth 65536 in
theorem w_alone : about1.alone = true := by decide +kernel
set_option maxRecDepth 65536 in
theorem w_named : about1.methodNamed? x = some theMethod := by decide +kernel
set_option maxRecDepth 65536 in
theorem w_hears : about1.hears theMethod below0 = true := by decide +kernel
set_option maxRecDepth 65536 in
theorem w_ripe : about1.ripe theMethod args0 below0 = true := by decide +kernel
theorem w_running : about1.status = .running := rfl
set_option maxRecDepth 65536 in
theorem w_room : about1.hasRoom e0.platform room_1 = true :=
  launch0.hasRoom_least _ room_1 (by decide +kernel) (by decide +kernel) (by decide +kernel) (by decide +kernel) (by decide +kernel) (by decide +kernel)
theorem allAtoms_all (ts : List Jvm.Cond) (a : Array Jvm.Value) (st : Jvm.State) : (allAtoms ts).before a st = ts.all (fun c => c.before a st) := by
  induction ts with
  | nil => rfl
  | cons c t ih =>
    show (Jvm.Cond.and c (allAtoms t)).before a st = _
    rw [Jvm.Cond.before_and, ih, List.all_cons]
def words1 : List Jvm.Cond := Jvm.Cond.code x code maxLocals ret :: tables_1
/-- a 'code' word, met by the world's own term for the bytes: nothing is compared byte by byte -/
theorem code_word {y : MethodName} {bytes : ByteArray} {mx : Nat} {rt : Option FieldType} {a : Array Value} {s : State} {m : MethodId} {meth : Method} {c : Code} (h1 : s.methodNamed? y = some m) (h2 : s.vm.method? m = some meth) (h3 : meth.code = some c) (h4 : c.code = bytes)
    (h5 : (c.maxLocals == mx && c.exceptionTable.isEmpty && decide (c.maxStack ≤ mostOperands) && decide (meth.sig.returnType = rt) && !meth.locks && decide (parseMethodDescriptor y.desc = some meth.sig)) = true) : (Jvm.Cond.code y bytes mx rt).before a s = true := by
  simp only [Bool.and_eq_true, beq_iff_eq, Bool.not_eq_true', decide_eq_true_eq] at h5
  obtain ⟨⟨⟨⟨⟨g1, g2⟩, g3⟩, g4⟩, g5⟩, g6⟩ := h5
  simp [Cond.before, Cond.holds, Cond.value, h1, h2, h3, h4, g1, g2, g3, g4, g5, g6]
def isCode : Jvm.Cond → Bool
  | .code _ _ _ _ => true
  | _ => false
theorem all_split {L : List Jvm.Cond} {P : Jvm.Cond → Bool} (h1 : L.all (fun c => isCode c || P c) = true) (h2 : ∀ c ∈ L.filter isCode, P c = true) : L.all P = true := by
  refine List.all_eq_true.mpr fun c hc => ?_
  have h := List.all_eq_true.mp h1 c hc
  rcases Bool.eq_false_or_eq_true (isCode c) with hi | hi
  · exact h2 c (List.mem_filter.mpr ⟨hc, hi⟩)
  · simpa [hi] using h
set_option maxRecDepth 65536 in
theorem w_c0 : (Jvm.Cond.code x code maxLocals ret).before args0 about1 = true := code_word (m := ⟨1, 1⟩) (meth := k1m1) (c := k1c1) (by decide +kernel) rfl rfl rfl (by decide +kernel)
set_option maxRecDepth 65536 in
theorem w_c1 : (Jvm.Cond.code ({ cls := "StreamSigScanner", name := "<init>", desc := "(I)V" } : Jvm.MethodName) prog_1_method_1_code (3 : Nat) (Option.none : Option Jvm.ClassFile.FieldType)).before args0 about1 = true := code_word (m := ⟨2, 0⟩) (meth := k2m0) (c := k2c0) (by decide +kernel) rfl rfl rfl (by decide +kernel)
set_option maxRecDepth 65536 in
theorem w_c2 : (Jvm.Cond.code ({ cls := "java/lang/Object", name := "<init>", desc := "()V" } : Jvm.MethodName) object_method_1_code (1 : Nat) (Option.none : Option Jvm.ClassFile.FieldType)).before args0 about1 = true := code_word (m := ⟨0, 0⟩) (meth := k0m0) (c := k0c0) (by decide +kernel) rfl rfl rfl (by decide +kernel)
set_option maxRecDepth 65536 in
theorem w_c3 : (Jvm.Cond.code ({ cls := "StreamSigScanner", name := "endSig", desc := "()I" } : Jvm.MethodName) prog_1_method_3_code (2 : Nat) (Option.some Jvm.ClassFile.FieldType.int)).before args0 about1 = true := code_word (m := ⟨2, 2⟩) (meth := k2m2) (c := k2c2) (by decide +kernel) rfl rfl rfl (by decide +kernel)
set_option maxRecDepth 65536 in
theorem w_c4 : (Jvm.Cond.code ({ cls := "StreamSigScanner", name := "stat", desc := "(I)I" } : Jvm.MethodName) prog_1_method_16_code (2 : Nat) (Option.some Jvm.ClassFile.FieldType.int)).before args0 about1 = true := code_word (m := ⟨2, 15⟩) (meth := k2m15) (c := k2c15) (by decide +kernel) rfl rfl rfl (by decide +kernel)
set_option maxRecDepth 65536 in
theorem w_c5 : (Jvm.Cond.code ({ cls := "StreamSigScanner", name := "flag", desc := "(Z)I" } : Jvm.MethodName) prog_1_method_26_code (2 : Nat) (Option.some Jvm.ClassFile.FieldType.int)).before args0 about1 = true := code_word (m := ⟨2, 20⟩) (meth := k2m20) (c := k2c20) (by decide +kernel) rfl rfl rfl (by decide +kernel)
set_option maxRecDepth 65536 in
theorem w_c6 : (Jvm.Cond.code ({ cls := "StreamSigScanner", name := "addSigByte", desc := "(I)I" } : Jvm.MethodName) prog_1_method_2_code (3 : Nat) (Option.some Jvm.ClassFile.FieldType.int)).before args0 about1 = true := code_word (m := ⟨2, 1⟩) (meth := k2m1) (c := k2c1) (by decide +kernel) rfl rfl rfl (by decide +kernel)
set_option maxRecDepth 65536 in
theorem w_c7 : (Jvm.Cond.code ({ cls := "StreamSigScanner", name := "isByte", desc := "(I)Z" } : Jvm.MethodName) prog_1_method_22_code (2 : Nat) (Option.some Jvm.ClassFile.FieldType.boolean)).before args0 about1 = true := code_word (m := ⟨2, 17⟩) (meth := k2m17) (c := k2c17) (by decide +kernel) rfl rfl rfl (by decide +kernel)
set_option maxRecDepth 65536 in
theorem w_c8 : (Jvm.Cond.code ({ cls := "StreamSigScanner", name := "compile", desc := "()I" } : Jvm.MethodName) prog_1_method_4_code (1 : Nat) (Option.some Jvm.ClassFile.FieldType.int)).before args0 about1 = true := code_word (m := ⟨2, 3⟩) (meth := k2m3) (c := k2c3) (by decide +kernel) rfl rfl rfl (by decide +kernel)
set_option maxRecDepth 65536 in
theorem w_c9 : (Jvm.Cond.code ({ cls := "StreamSigScanner", name := "sigLength", desc := "(I)I" } : Jvm.MethodName) prog_1_method_18_code (2 : Nat) (Option.some Jvm.ClassFile.FieldType.int)).before args0 about1 = true := code_word (m := ⟨2, 16⟩) (meth := k2m16) (c := k2c16) (by decide +kernel) rfl rfl rfl (by decide +kernel)
set_option maxRecDepth 65536 in
theorem w_c10 : (Jvm.Cond.code ({ cls := "StreamSigScanner", name := "validSig", desc := "(I)Z" } : Jvm.MethodName) prog_1_method_24_code (2 : Nat) (Option.some Jvm.ClassFile.FieldType.boolean)).before args0 about1 = true := code_word (m := ⟨2, 19⟩) (meth := k2m19) (c := k2c19) (by decide +kernel) rfl rfl rfl (by decide +kernel)
set_option maxRecDepth 65536 in
theorem w_c11 : (Jvm.Cond.code ({ cls := "StreamSigScanner", name := "buildTrie", desc := "()V" } : Jvm.MethodName) prog_1_method_5_code (2 : Nat) (Option.none : Option Jvm.ClassFile.FieldType)).before args0 about1 = true := code_word (m := ⟨2, 4⟩) (meth := k2m4) (c := k2c4) (by decide +kernel) rfl rfl rfl (by decide +kernel)
set_option maxRecDepth 65536 in
theorem w_c12 : (Jvm.Cond.code ({ cls := "StreamSigScanner", name := "clearAutomaton", desc := "()V" } : Jvm.MethodName) prog_1_method_6_code (2 : Nat) (Option.none : Option Jvm.ClassFile.FieldType)).before args0 about1 = true := code_word (m := ⟨2, 5⟩) (meth := k2m5) (c := k2c5) (by decide +kernel) rfl rfl rfl (by decide +kernel)
set_option maxRecDepth 65536 in
theorem w_c13 : (Jvm.Cond.code ({ cls := "StreamSigScanner", name := "insertSig", desc := "(I)V" } : Jvm.MethodName) prog_1_method_7_code (8 : Nat) (Option.none : Option Jvm.ClassFile.FieldType)).before args0 about1 = true := code_word (m := ⟨2, 6⟩) (meth := k2m6) (c := k2c6) (by decide +kernel) rfl rfl rfl (by decide +kernel)
set_option maxRecDepth 65536 in
theorem w_c14 : (Jvm.Cond.code ({ cls := "StreamSigScanner", name := "buildAutomaton", desc := "()V" } : Jvm.MethodName) prog_1_method_8_code (9 : Nat) (Option.none : Option Jvm.ClassFile.FieldType)).before args0 about1 = true := code_word (m := ⟨2, 7⟩) (meth := k2m7) (c := k2c7) (by decide +kernel) rfl rfl rfl (by decide +kernel)
set_option maxRecDepth 65536 in
theorem w_c15 : (Jvm.Cond.code ({ cls := "StreamSigScanner", name := "openSegment", desc := "(I)I" } : Jvm.MethodName) prog_1_method_9_code (2 : Nat) (Option.some Jvm.ClassFile.FieldType.int)).before args0 about1 = true := code_word (m := ⟨2, 8⟩) (meth := k2m8) (c := k2c8) (by decide +kernel) rfl rfl rfl (by decide +kernel)
set_option maxRecDepth 65536 in
theorem w_c16 : (Jvm.Cond.code ({ cls := "StreamSigScanner", name := "segByte", desc := "(I)I" } : Jvm.MethodName) prog_1_method_10_code (2 : Nat) (Option.some Jvm.ClassFile.FieldType.int)).before args0 about1 = true := code_word (m := ⟨2, 9⟩) (meth := k2m9) (c := k2c9) (by decide +kernel) rfl rfl rfl (by decide +kernel)
set_option maxRecDepth 65536 in
theorem w_c17 : (Jvm.Cond.code ({ cls := "StreamSigScanner", name := "closeSegment", desc := "()I" } : Jvm.MethodName) prog_1_method_11_code (3 : Nat) (Option.some Jvm.ClassFile.FieldType.int)).before args0 about1 = true := code_word (m := ⟨2, 10⟩) (meth := k2m10) (c := k2c10) (by decide +kernel) rfl rfl rfl (by decide +kernel)
set_option maxRecDepth 65536 in
theorem w_c18 : (Jvm.Cond.code ({ cls := "StreamSigScanner", name := "isOffset", desc := "(I)Z" } : Jvm.MethodName) prog_1_method_23_code (2 : Nat) (Option.some Jvm.ClassFile.FieldType.boolean)).before args0 about1 = true := code_word (m := ⟨2, 18⟩) (meth := k2m18) (c := k2c18) (by decide +kernel) rfl rfl rfl (by decide +kernel)
set_option maxRecDepth 65536 in
theorem w_c19 : (Jvm.Cond.code ({ cls := "StreamSigScanner", name := "advanceDelivered", desc := "()V" } : Jvm.MethodName) prog_1_method_13_code (4 : Nat) (Option.none : Option Jvm.ClassFile.FieldType)).before args0 about1 = true := code_word (m := ⟨2, 12⟩) (meth := k2m12) (c := k2c12) (by decide +kernel) rfl rfl rfl (by decide +kernel)
set_option maxRecDepth 65536 in
theorem w_c20 : (Jvm.Cond.code ({ cls := "StreamSigScanner", name := "absorbByte", desc := "(III)V" } : Jvm.MethodName) prog_1_method_12_code (4 : Nat) (Option.none : Option Jvm.ClassFile.FieldType)).before args0 about1 = true := code_word (m := ⟨2, 11⟩) (meth := k2m11) (c := k2c11) (by decide +kernel) rfl rfl rfl (by decide +kernel)
set_option maxRecDepth 65536 in
theorem w_c21 : (Jvm.Cond.code ({ cls := "StreamSigScanner", name := "feed", desc := "(II)V" } : Jvm.MethodName) prog_1_method_14_code (7 : Nat) (Option.none : Option Jvm.ClassFile.FieldType)).before args0 about1 = true := code_word (m := ⟨2, 13⟩) (meth := k2m13) (c := k2c13) (by decide +kernel) rfl rfl rfl (by decide +kernel)
set_option maxRecDepth 65536 in
theorem w_c22 : (Jvm.Cond.code ({ cls := "StreamSigScanner", name := "recordMatch", desc := "(II)V" } : Jvm.MethodName) prog_1_method_15_code (3 : Nat) (Option.none : Option Jvm.ClassFile.FieldType)).before args0 about1 = true := code_word (m := ⟨2, 14⟩) (meth := k2m14) (c := k2c14) (by decide +kernel) rfl rfl rfl (by decide +kernel)
def codes1 : List Jvm.Cond := [Jvm.Cond.code x code maxLocals ret, Jvm.Cond.code ({ cls := "StreamSigScanner", name := "<init>", desc := "(I)V" } : Jvm.MethodName) prog_1_method_1_code (3 : Nat) (Option.none : Option Jvm.ClassFile.FieldType), Jvm.Cond.code ({ cls := "java/lang/Object", name := "<init>", desc := "()V" } : Jvm.MethodName) object_method_1_code (1 : Nat) (Option.none : Option Jvm.ClassFile.FieldType), Jvm.Cond.code ({ cls := "StreamSigScanner", name := "endSig", desc := "()I" } : Jvm.MethodName) prog_1_method_3_code (2 : Nat) (Option.some Jvm.ClassFile.FieldType.int), Jvm.Cond.code ({ cls := "StreamSigScanner", name := "stat", desc := "(I)I" } : Jvm.MethodName) prog_1_method_16_code (2 : Nat) (Option.some Jvm.ClassFile.FieldType.int), Jvm.Cond.code ({ cls := "StreamSigScanner", name := "flag", desc := "(Z)I" } : Jvm.MethodName) prog_1_method_26_code (2 : Nat) (Option.some Jvm.ClassFile.FieldType.int), Jvm.Cond.code ({ cls := "StreamSigScanner", name := "addSigByte", desc := "(I)I" } : Jvm.MethodName) prog_1_method_2_code (3 : Nat) (Option.some Jvm.ClassFile.FieldType.int), Jvm.Cond.code ({ cls := "StreamSigScanner", name := "isByte", desc := "(I)Z" } : Jvm.MethodName) prog_1_method_22_code (2 : Nat) (Option.some Jvm.ClassFile.FieldType.boolean), Jvm.Cond.code ({ cls := "StreamSigScanner", name := "compile", desc := "()I" } : Jvm.MethodName) prog_1_method_4_code (1 : Nat) (Option.some Jvm.ClassFile.FieldType.int), Jvm.Cond.code ({ cls := "StreamSigScanner", name := "sigLength", desc := "(I)I" } : Jvm.MethodName) prog_1_method_18_code (2 : Nat) (Option.some Jvm.ClassFile.FieldType.int), Jvm.Cond.code ({ cls := "StreamSigScanner", name := "validSig", desc := "(I)Z" } : Jvm.MethodName) prog_1_method_24_code (2 : Nat) (Option.some Jvm.ClassFile.FieldType.boolean), Jvm.Cond.code ({ cls := "StreamSigScanner", name := "buildTrie", desc := "()V" } : Jvm.MethodName) prog_1_method_5_code (2 : Nat) (Option.none : Option Jvm.ClassFile.FieldType), Jvm.Cond.code ({ cls := "StreamSigScanner", name := "clearAutomaton", desc := "()V" } : Jvm.MethodName) prog_1_method_6_code (2 : Nat) (Option.none : Option Jvm.ClassFile.FieldType), Jvm.Cond.code ({ cls := "StreamSigScanner", name := "insertSig", desc := "(I)V" } : Jvm.MethodName) prog_1_method_7_code (8 : Nat) (Option.none : Option Jvm.ClassFile.FieldType), Jvm.Cond.code ({ cls := "StreamSigScanner", name := "buildAutomaton", desc := "()V" } : Jvm.MethodName) prog_1_method_8_code (9 : Nat) (Option.none : Option Jvm.ClassFile.FieldType), Jvm.Cond.code ({ cls := "StreamSigScanner", name := "openSegment", desc := "(I)I" } : Jvm.MethodName) prog_1_method_9_code (2 : Nat) (Option.some Jvm.ClassFile.FieldType.int), Jvm.Cond.code ({ cls := "StreamSigScanner", name := "segByte", desc := "(I)I" } : Jvm.MethodName) prog_1_method_10_code (2 : Nat) (Option.some Jvm.ClassFile.FieldType.int), Jvm.Cond.code ({ cls := "StreamSigScanner", name := "closeSegment", desc := "()I" } : Jvm.MethodName) prog_1_method_11_code (3 : Nat) (Option.some Jvm.ClassFile.FieldType.int), Jvm.Cond.code ({ cls := "StreamSigScanner", name := "isOffset", desc := "(I)Z" } : Jvm.MethodName) prog_1_method_23_code (2 : Nat) (Option.some Jvm.ClassFile.FieldType.boolean), Jvm.Cond.code ({ cls := "StreamSigScanner", name := "advanceDelivered", desc := "()V" } : Jvm.MethodName) prog_1_method_13_code (4 : Nat) (Option.none : Option Jvm.ClassFile.FieldType), Jvm.Cond.code ({ cls := "StreamSigScanner", name := "absorbByte", desc := "(III)V" } : Jvm.MethodName) prog_1_method_12_code (4 : Nat) (Option.none : Option Jvm.ClassFile.FieldType), Jvm.Cond.code ({ cls := "StreamSigScanner", name := "feed", desc := "(II)V" } : Jvm.MethodName) prog_1_method_14_code (7 : Nat) (Option.none : Option Jvm.ClassFile.FieldType), Jvm.Cond.code ({ cls := "StreamSigScanner", name := "recordMatch", desc := "(II)V" } : Jvm.MethodName) prog_1_method_15_code (3 : Nat) (Option.none : Option Jvm.ClassFile.FieldType)]
set_option maxRecDepth 65536 in
theorem codes_eq : words1.filter isCode = codes1 := rfl
theorem w_codes : ∀ c ∈ words1.filter isCode, c.before args0 about1 = true := by
  rw [codes_eq]
  intro c hc
  simp only [codes1, List.mem_cons, List.not_mem_nil, or_false] at hc
  rcases hc with rfl | rfl | rfl | rfl | rfl | rfl | rfl | rfl | rfl | rfl | rfl | rfl | rfl | rfl | rfl | rfl | rfl | rfl | rfl | rfl | rfl | rfl | rfl
  · exact w_c0
  · exact w_c1
  · exact w_c2
  · exact w_c3
  · exact w_c4
  · exact w_c5
  · exact w_c6
  · exact w_c7
  · exact w_c8
  · exact w_c9
  · exact w_c10
  · exact w_c11
  · exact w_c12
  · exact w_c13
  · exact w_c14
  · exact w_c15
  · exact w_c16
  · exact w_c17
  · exact w_c18
  · exact w_c19
  · exact w_c20
  · exact w_c21
  · exact w_c22
set_option maxRecDepth 65536 in
theorem w_t1 : (words1.take 24).all (fun c => isCode c || c.before args0 about1) = true := by decide +kernel
set_option maxRecDepth 65536 in
theorem w_t2 : ((words1.drop 24).take 24).all (fun c => isCode c || c.before args0 about1) = true := by decide +kernel
set_option maxRecDepth 65536 in
theorem w_t3 : (((words1.drop 24).drop 24).take 24).all (fun c => isCode c || c.before args0 about1) = true := by decide +kernel
set_option maxRecDepth 65536 in
theorem w_t4 : ((((words1.drop 24).drop 24).drop 24).take 24).all (fun c => isCode c || c.before args0 about1) = true := by decide +kernel
set_option maxRecDepth 65536 in
theorem w_t5 : (((((words1.drop 24).drop 24).drop 24).drop 24).take 24).all (fun c => isCode c || c.before args0 about1) = true := by decide +kernel
set_option maxRecDepth 65536 in
theorem w_t6 : ((((((words1.drop 24).drop 24).drop 24).drop 24).drop 24).take 24).all (fun c => isCode c || c.before args0 about1) = true := by decide +kernel
set_option maxRecDepth 65536 in
theorem w_t7 : ((((((words1.drop 24).drop 24).drop 24).drop 24).drop 24).drop 24).all (fun c => isCode c || c.before args0 about1) = true := by decide +kernel
theorem w_tables : (allAtoms (Jvm.Cond.code x code maxLocals ret :: tables_1)).before args0 about1 = true := by
  rw [allAtoms_all]
  show words1.all (fun c => c.before args0 about1) = true
  refine all_split ?_ w_codes
  rw [← List.take_append_drop 24 words1, List.all_append, w_t1, ← List.take_append_drop 24 (words1.drop 24), List.all_append, w_t2, ← List.take_append_drop 24 ((words1.drop 24).drop 24), List.all_append, w_t3, ← List.take_append_drop 24 (((words1.drop 24).drop 24).drop 24), List.all_append, w_t4, ← List.take_append_drop 24 ((((words1.drop 24).drop 24).drop 24).drop 24), List.all_append, w_t5, ← List.take_append_drop 24 (((((words1.drop 24).drop 24).drop 24).drop 24).drop 24), List.all_append, w_t6, w_t7]
  rfl
set_option maxRecDepth 65536 in
theorem w_rest : rest_1_c.before args0 about1 = true := by decide +kernel
set_option maxRecDepth 65536 in
theorem w_case : (Jvm.Cond.and given_1 narrow_1).before args0 about1 = true := by decide +kernel
theorem w_applies : (headSpec (Jvm.Cond.code x code maxLocals ret :: tables_1) room_1).applies x e0.platform about1 = true :=
  (Spec.applies_iff w_frames).mpr ⟨w_running, w_runnable, w_alone, w_named, w_hears, w_ripe, w_room, w_tables⟩
theorem atStart : AtStart classFile x code maxLocals ret World_1 tables_1 room_1 Calls_1 rest_1 Pre_1 launch0 p0 e0 about1 theMethod args0 below0 :=
  ⟨lists_1, trivial, launch0.admits_env _ _ _, launch0.least_env, fairChoices_fair.cas, fairChoices_fair.clock, w_frames, w_args, w_heap, w_applies, trivial, w_rest, w_case⟩
end start1
theorem witness_1 : WitnessClaimed_1 := ⟨start1.p0, start1.e0, start1.about1, start1.theMethod, start1.args0, start1.below0, start1.atStart⟩
end Jvm.Pilot.@@N@@
