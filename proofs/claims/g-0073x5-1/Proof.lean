import JvmDerived
import JvmDerived.Pilot.@@N@@Statement
import JvmDerived.Pilot.@@N@@Code
set_option linter.unusedVariables false
set_option linter.unusedSimpArgs false
namespace Jvm.Own
open Sem ClassFile Op Lib Jvm.Stand Jvm.Free Jvm.LawKit Jvm.RoadKit
/-! OWN 1: words of the sheet, resolved -/
abbrev AHeap := List (FieldType × List Value)
abbrev Ws := List Jvm.Cond
def rFld (ws : Ws) (own : String) (i : Nat) : Option (String × String × String) :=
  ws.findSome? fun d => match d with
    | .fieldLink o j C n t => if o = own ∧ j = i then some (C, n, t) else none
    | _ => none
def rCls (ws : Ws) (own : String) (i : Nat) : Option String :=
  ws.findSome? fun d => match d with
    | .classLink o j C => if o = own ∧ j = i then some C else none
    | _ => none
def rMth (ws : Ws) (own : String) (i : Nat) : Option MethodName :=
  ws.findSome? fun d => match d with
    | .methodLink o j y => if o = own ∧ j = i then some y else none
    | _ => none
def rCon (ws : Ws) (own : String) (i : Nat) : Option Int32 :=
  ws.findSome? fun d => match d with
    | .constant o j v => if o = own ∧ j = i then some v else none
    | _ => none
def rConL (ws : Ws) (own : String) (i : Nat) : Option Int64 :=
  ws.findSome? fun d => match d with
    | .constantLong o j v => if o = own ∧ j = i then some v else none
    | _ => none
def rInst (ws : Ws) (C : String) : Option Nat :=
  ws.findSome? fun d => match d with
    | .instantiable c n => if c = C then some n else none
    | _ => none
def rCode (ws : Ws) (y : MethodName) : Option (ByteArray × Nat × Option FieldType) :=
  ws.findSome? fun d => match d with
    | .code z b m r => if z = y then some (b, m, r) else none
    | _ => none
def hasInit (ws : Ws) (C : String) : Bool := ws.any fun d => match d with | .initialized c => c == C | _ => false
def hasArr (ws : Ws) (t : FieldType) : Bool := ws.any fun d => match d with | .arrayClass c => decide (c = t) | _ => false
def hasStat (ws : Ws) (y : MethodName) : Bool := ws.any fun d => match d with | .static z => decide (z = y) | _ => false
def hasIM (ws : Ws) (y : MethodName) : Bool := ws.any fun d => match d with | .instanceMethod z => decide (z = y) | _ => false
def hasPriv (ws : Ws) (y : MethodName) : Bool := ws.any fun d => match d with | .privateMethod z => decide (z = y) | _ => false
def hasDecl (ws : Ws) (y : MethodName) : Bool := ws.any fun d => match d with | .declares z => decide (z = y) | _ => false
def hasSel (ws : Ws) (y : MethodName) : Bool := ws.any fun d => match d with | .selects c z z' => decide (c = y.cls ∧ z = y ∧ z' = y) | _ => false
def hasLays (ws : Ws) (C n t : String) : Bool := ws.any fun d => match d with | .lays c o n' t' => decide (c = C ∧ o = C ∧ n' = n ∧ t' = t) | _ => false
def hasLaysF (ws : Ws) (C n t : String) : Bool := ws.any fun d => match d with | .laysFinal c o n' t' => decide (c = C ∧ o = C ∧ n' = n ∧ t' = t) | _ => false
def layE (C : String) : Jvm.Cond → Option (String × String)
  | .lays c o n t => if c = C ∧ o = C ∧ (parseFieldDescriptor t).isSome = true then some (n, t) else none
  | .laysFinal c o n t => if c = C ∧ o = C ∧ (parseFieldDescriptor t).isSome = true then some (n, t) else none
  | _ => none
def olay (ws : Ws) (C : String) : List (String × String) := ws.filterMap (layE C)
def idx (x : String × String) : List (String × String) → Option Nat
  | [] => none
  | y :: r => if y = x then some 0 else (idx x r).map (· + 1)
def fidx (ws : Ws) (C n t : String) : Option Nat := idx (n, t) (olay ws C)
def gfR (ws : Ws) (own : String) (i : Nat) : Option (String × Nat) :=
  match rFld ws own i with
  | some (C, n, t) => (fidx ws C n t).map fun j => (C, j)
  | none => none
def pfR (ws : Ws) (own mn : String) (i : Nat) : Option (String × Nat × FieldType) :=
  match rFld ws own i with
  | some (C, n, t) =>
    match fidx ws C n t, parseFieldDescriptor t with
    | some j, some ty => if (hasLays ws C n t || (hasLaysF ws C n t && own == C && mn == "<init>")) && (rInst ws C).isSome && (olay ws C).all (fun q => q.1 != n || q.2 == t) then some (C, j, ty) else none
    | _, _ => none
  | none => none
section Res
variable {ws : Ws} {own C n t : String} {i : Nat} {y : MethodName}
theorem rFld_mem (h : rFld ws own i = some (C, n, t)) : Jvm.Cond.fieldLink own i C n t ∈ ws := by
  obtain ⟨d, hd, e⟩ := List.exists_of_findSome?_eq_some h
  split at e
  · split at e
    · rename_i q; obtain ⟨rfl, rfl⟩ := q; cases e; exact hd
    · cases e
  · cases e
theorem rCls_mem (h : rCls ws own i = some C) : Jvm.Cond.classLink own i C ∈ ws := by
  obtain ⟨d, hd, e⟩ := List.exists_of_findSome?_eq_some h
  split at e
  · split at e
    · rename_i q; obtain ⟨rfl, rfl⟩ := q; cases e; exact hd
    · cases e
  · cases e
theorem rMth_mem (h : rMth ws own i = some y) : Jvm.Cond.methodLink own i y ∈ ws := by
  obtain ⟨d, hd, e⟩ := List.exists_of_findSome?_eq_some h
  split at e
  · split at e
    · rename_i q; obtain ⟨rfl, rfl⟩ := q; cases e; exact hd
    · cases e
  · cases e
theorem rCon_mem {v : Int32} (h : rCon ws own i = some v) : Jvm.Cond.constant own i v ∈ ws := by
  obtain ⟨d, hd, e⟩ := List.exists_of_findSome?_eq_some h
  split at e
  · split at e
    · rename_i q; obtain ⟨rfl, rfl⟩ := q; cases e; exact hd
    · cases e
  · cases e
theorem rConL_mem {v : Int64} (h : rConL ws own i = some v) : Jvm.Cond.constantLong own i v ∈ ws := by
  obtain ⟨d, hd, e⟩ := List.exists_of_findSome?_eq_some h
  split at e
  · split at e
    · rename_i q; obtain ⟨rfl, rfl⟩ := q; cases e; exact hd
    · cases e
  · cases e
theorem rInst_mem {k : Nat} (h : rInst ws C = some k) : Jvm.Cond.instantiable C k ∈ ws := by
  obtain ⟨d, hd, e⟩ := List.exists_of_findSome?_eq_some h
  split at e
  · split at e
    · rename_i q; subst q; cases e; exact hd
    · cases e
  · cases e
theorem rCode_mem {b : ByteArray} {k : Nat} {r : Option FieldType} (h : rCode ws y = some (b, k, r)) : Jvm.Cond.code y b k r ∈ ws := by
  obtain ⟨d, hd, e⟩ := List.exists_of_findSome?_eq_some h
  split at e
  · split at e
    · rename_i q; subst q; cases e; exact hd
    · cases e
  · cases e
theorem hasInit_mem (h : hasInit ws C = true) : Jvm.Cond.initialized C ∈ ws := by
  obtain ⟨d, hd, e⟩ := List.any_eq_true.mp h
  split at e
  · rw [beq_iff_eq] at e; subst e; exact hd
  · cases e
theorem hasArr_mem {ty : FieldType} (h : hasArr ws ty = true) : Jvm.Cond.arrayClass ty ∈ ws := by
  obtain ⟨d, hd, e⟩ := List.any_eq_true.mp h
  split at e
  · have e := of_decide_eq_true e; subst e; exact hd
  · cases e
theorem hasStat_mem (h : hasStat ws y = true) : Jvm.Cond.static y ∈ ws := by
  obtain ⟨d, hd, e⟩ := List.any_eq_true.mp h
  split at e
  · have e := of_decide_eq_true e; subst e; exact hd
  · cases e
theorem hasIM_mem (h : hasIM ws y = true) : Jvm.Cond.instanceMethod y ∈ ws := by
  obtain ⟨d, hd, e⟩ := List.any_eq_true.mp h
  split at e
  · have e := of_decide_eq_true e; subst e; exact hd
  · cases e
theorem hasPriv_mem (h : hasPriv ws y = true) : Jvm.Cond.privateMethod y ∈ ws := by
  obtain ⟨d, hd, e⟩ := List.any_eq_true.mp h
  split at e
  · have e := of_decide_eq_true e; subst e; exact hd
  · cases e
theorem hasDecl_mem (h : hasDecl ws y = true) : Jvm.Cond.declares y ∈ ws := by
  obtain ⟨d, hd, e⟩ := List.any_eq_true.mp h
  split at e
  · have e := of_decide_eq_true e; subst e; exact hd
  · cases e
theorem hasSel_mem (h : hasSel ws y = true) : Jvm.Cond.selects y.cls y y ∈ ws := by
  obtain ⟨d, hd, e⟩ := List.any_eq_true.mp h
  split at e
  · obtain ⟨rfl, rfl, rfl⟩ := of_decide_eq_true e; exact hd
  · cases e
theorem hasLays_mem (h : hasLays ws C n t = true) : Jvm.Cond.lays C C n t ∈ ws := by
  obtain ⟨d, hd, e⟩ := List.any_eq_true.mp h
  split at e
  · obtain ⟨rfl, rfl, rfl, rfl⟩ := of_decide_eq_true e; exact hd
  · cases e
theorem hasLaysF_mem (h : hasLaysF ws C n t = true) : Jvm.Cond.laysFinal C C n t ∈ ws := by
  obtain ⟨d, hd, e⟩ := List.any_eq_true.mp h
  split at e
  · obtain ⟨rfl, rfl, rfl, rfl⟩ := of_decide_eq_true e; exact hd
  · cases e
theorem lay_mem (h : (n, t) ∈ olay ws C) : (Jvm.Cond.lays C C n t ∈ ws ∨ Jvm.Cond.laysFinal C C n t ∈ ws) ∧ ∃ ty, parseFieldDescriptor t = some ty := by
  obtain ⟨d, hd, e⟩ := List.mem_filterMap.mp h
  unfold layE at e
  split at e
  · split at e
    · rename_i q; obtain ⟨rfl, rfl, q⟩ := q; cases e; exact ⟨Or.inl hd, Option.isSome_iff_exists.mp q⟩
    · cases e
  · split at e
    · rename_i q; obtain ⟨rfl, rfl, q⟩ := q; cases e; exact ⟨Or.inr hd, Option.isSome_iff_exists.mp q⟩
    · cases e
  · cases e
theorem idx_get {x : String × String} : ∀ {l : List (String × String)} {j : Nat}, idx x l = some j → l[j]? = some x
  | [], _, h => by cases h
  | y :: r, j, h => by
    unfold idx at h
    split at h
    · rename_i q; cases h; simp [q]
    · obtain ⟨j', h', rfl⟩ := Option.map_eq_some_iff.mp h
      simpa using idx_get h'
theorem fidx_mem {j : Nat} (h : fidx ws C n t = some j) : (n, t) ∈ olay ws C := List.mem_of_getElem? (idx_get h)
theorem fidx_inj {n' t' : String} {j : Nat} (h : fidx ws C n t = some j) (h' : fidx ws C n' t' = some j) : n = n' ∧ t = t' := by
  have := (idx_get h).symm.trans (idx_get h')
  simpa using this
theorem gfR_some {j : Nat} (h : gfR ws own i = some (C, j)) : ∃ n t, rFld ws own i = some (C, n, t) ∧ fidx ws C n t = some j := by
  unfold gfR at h
  split at h
  · rename_i C' n' t' q
    obtain ⟨j', h', e⟩ := Option.map_eq_some_iff.mp h
    cases e; exact ⟨_, _, q, h'⟩
  · cases h
theorem pfR_some {mn : String} {j : Nat} {ty : FieldType} (h : pfR ws own mn i = some (C, j, ty)) : ∃ n t, rFld ws own i = some (C, n, t) ∧ fidx ws C n t = some j ∧ parseFieldDescriptor t = some ty ∧
    (Jvm.Cond.lays C C n t ∈ ws ∨ (Jvm.Cond.laysFinal C C n t ∈ ws ∧ own = C ∧ mn = "<init>")) ∧ (∃ k, Jvm.Cond.instantiable C k ∈ ws) ∧ ∀ n' t', (n', t') ∈ olay ws C → n' ≠ n ∨ t' = t := by
  unfold pfR at h
  split at h
  · rename_i C' n' t' q
    split at h
    · rename_i j' ty' q1 q2
      split at h
      · rename_i g
        cases h
        simp only [Bool.and_eq_true, Bool.or_eq_true, beq_iff_eq, List.all_eq_true, bne_iff_ne, ne_eq] at g
        obtain ⟨⟨g1, g2⟩, g3⟩ := g
        obtain ⟨k, hk⟩ := Option.isSome_iff_exists.mp g2
        refine ⟨n', t', q, q1, q2, ?_, ⟨k, rInst_mem hk⟩, fun a b hab => g3 (a, b) hab⟩
        rcases g1 with g1 | ⟨⟨g1, g4⟩, g5⟩
        · exact Or.inl (hasLays_mem g1)
        · exact Or.inr ⟨hasLaysF_mem g1, g4, g5⟩
      · cases h
    · cases h
  · cases h
end Res
end Jvm.Own
namespace Jvm.Own
open Sem ClassFile Op Lib Jvm.Stand Jvm.Free Jvm.LawKit Jvm.RoadKit
/-! OWN 2: the abstract machine -/
abbrev XR := Option (Nat × List Slot × List Value)
def chk {α : Type} (a b : Nat) (x : Option α) : Option α := if a = b then x else none
def isI : Value → Bool | .int _ => true | _ => false
def isL : Value → Bool | .long _ => true | _ => false
def stl (ls : List Slot) (i : Nat) (v : Value) : Option (List Slot) := (storeLocals ls.toArray i v).map Array.toList
def ldV (p : Value → Bool) (nx i : Nat) (ls : List Slot) (st : List Value) : XR :=
  match ls[i]? with
  | some (.val v) => if p v = true then some (nx, ls, v :: st) else none
  | _ => none
def stV (p : Value → Bool) (nx i : Nat) (ls : List Slot) : List Value → XR
  | v :: r => if p v = true then (stl ls i v).map fun l' => (nx, l', r) else none
  | [] => none
def b2 (f : Int32 → Int32 → Int32) (nx : Nat) (ls : List Slot) : List Value → XR
  | .int y :: .int x :: r => some (nx, ls, .int (f x y) :: r)
  | _ => none
def d2 (f : Int32 → Int32 → Int32) (nx : Nat) (ls : List Slot) : List Value → XR
  | .int y :: .int x :: r => if y = 0 then none else some (nx, ls, .int (f x y) :: r)
  | _ => none
def u1 (f : Int32 → Int32) (nx : Nat) (ls : List Slot) : List Value → XR
  | .int x :: r => some (nx, ls, .int (f x) :: r)
  | _ => none
def l2 (f : Int64 → Int64 → Int64) (nx : Nat) (ls : List Slot) : List Value → XR
  | .long y :: .long x :: r => some (nx, ls, .long (f x y) :: r)
  | _ => none
def lsh (f : Int64 → Int32 → Int64) (nx : Nat) (ls : List Slot) : List Value → XR
  | .int y :: .long x :: r => some (nx, ls, .long (f x y) :: r)
  | _ => none
def jmp (pc : Nat) (o : Int) : Option Nat := if 0 ≤ (pc : Int) + o then some ((pc : Int) + o).toNat else none
def br (c : Bool) (pc : Nat) (o : Int) (ls : List Slot) (r : List Value) : XR :=
  if c = true then (jmp pc o).map fun q => (q, ls, r) else some (pc + 3, ls, r)
def sw (pc : Nat) (dflt low high : Int) (offs : Array Int) (ls : List Slot) : List Value → XR
  | .int i :: r => if i.toInt < low ∨ i.toInt > high then (jmp pc dflt).map fun q => (q, ls, r) else
      match offs[(i.toInt - low).toNat]? with
      | some o => (jmp pc o).map fun q => (q, ls, r)
      | none => none
  | _ => none
def xstep (ins : Instr) (len pc : Nat) (ls : List Slot) (st : List Value) : XR :=
  match ins with
  | .aload_n i => chk len 1 (ldV Value.isRef (pc + 1) i.val ls st)
  | .aload i => chk len 2 (ldV Value.isRef (pc + 2) i ls st)
  | .iload_n i => chk len 1 (ldV isI (pc + 1) i.val ls st)
  | .iload i => chk len 2 (ldV isI (pc + 2) i ls st)
  | .lload_n i => chk len 1 (ldV isL (pc + 1) i.val ls st)
  | .lload i => chk len 2 (ldV isL (pc + 2) i ls st)
  | .astore_n i => chk len 1 (stV Value.isRef (pc + 1) i.val ls st)
  | .astore i => chk len 2 (stV Value.isRef (pc + 2) i ls st)
  | .istore_n i => chk len 1 (stV isI (pc + 1) i.val ls st)
  | .istore i => chk len 2 (stV isI (pc + 2) i ls st)
  | .lstore_n i => chk len 1 (stV isL (pc + 1) i.val ls st)
  | .lstore i => chk len 2 (stV isL (pc + 2) i ls st)
  | .iconst i => chk len 1 (some (pc + 1, ls, .int (Int32.ofInt i) :: st))
  | .bipush i => chk len 2 (some (pc + 2, ls, .int (Int8.ofInt i).toInt32 :: st))
  | .sipush i => chk len 3 (some (pc + 3, ls, .int (Int16.ofInt i).toInt32 :: st))
  | .lconst i => chk len 1 (some (pc + 1, ls, .long (Int64.ofNat i) :: st))
  | .iadd => chk len 1 (b2 (fun x y => x + y) (pc + 1) ls st)
  | .isub => chk len 1 (b2 (fun x y => x - y) (pc + 1) ls st)
  | .imul => chk len 1 (b2 (fun x y => x * y) (pc + 1) ls st)
  | .iand => chk len 1 (b2 (fun x y => x &&& y) (pc + 1) ls st)
  | .ior => chk len 1 (b2 (fun x y => x ||| y) (pc + 1) ls st)
  | .ixor => chk len 1 (b2 (fun x y => x ^^^ y) (pc + 1) ls st)
  | .ishl => chk len 1 (b2 (fun x y => x <<< (y &&& 31)) (pc + 1) ls st)
  | .ishr => chk len 1 (b2 (fun x y => x >>> (y &&& 31)) (pc + 1) ls st)
  | .iushr => chk len 1 (b2 XT.ushr (pc + 1) ls st)
  | .idiv => chk len 1 (d2 (fun x y => x / y) (pc + 1) ls st)
  | .irem => chk len 1 (d2 (fun x y => x % y) (pc + 1) ls st)
  | .ineg => chk len 1 (u1 (fun x => -x) (pc + 1) ls st)
  | .i2b => chk len 1 (u1 (fun x => x.toInt8.toInt32) (pc + 1) ls st)
  | .i2c => chk len 1 (u1 (fun x => x.toUInt32.toUInt16.toUInt32.toInt32) (pc + 1) ls st)
  | .ladd => chk len 1 (l2 (fun x y => x + y) (pc + 1) ls st)
  | .lsub => chk len 1 (l2 (fun x y => x - y) (pc + 1) ls st)
  | .lmul => chk len 1 (l2 (fun x y => x * y) (pc + 1) ls st)
  | .land => chk len 1 (l2 (fun x y => x &&& y) (pc + 1) ls st)
  | .lor => chk len 1 (l2 (fun x y => x ||| y) (pc + 1) ls st)
  | .lxor => chk len 1 (l2 (fun x y => x ^^^ y) (pc + 1) ls st)
  | .lshl => chk len 1 (lsh (fun x y => x <<< (y.toInt64 &&& 63)) (pc + 1) ls st)
  | .lshr => chk len 1 (lsh (fun x y => x >>> (y.toInt64 &&& 63)) (pc + 1) ls st)
  | .lushr => chk len 1 (lsh XT.ushrL (pc + 1) ls st)
  | .lneg => chk len 1 (match st with | .long x :: r => some (pc + 1, ls, .long (-x) :: r) | _ => none)
  | .i2l => chk len 1 (match st with | .int x :: r => some (pc + 1, ls, .long x.toInt64 :: r) | _ => none)
  | .l2i => chk len 1 (match st with | .long x :: r => some (pc + 1, ls, .int x.toInt32 :: r) | _ => none)
  | .lcmp => chk len 1 (match st with | .long y :: .long x :: r => some (pc + 1, ls, .int (XT.cmpL x y) :: r) | _ => none)
  | .iinc i cst => chk len 3 (match ls[i]? with | some (.val (.int x)) => (stl ls i (.int (x + Int32.ofInt cst))).map fun l' => (pc + 3, l', st) | _ => none)
  | .dup => chk len 1 (match st with | x :: r => if x.category = 1 then some (pc + 1, ls, x :: x :: r) else none | _ => none)
  | .dup2 => chk len 1 (match st with
      | .long x :: r => some (pc + 1, ls, .long x :: .long x :: r)
      | x :: y :: r => if x.category = 1 ∧ y.category = 1 then some (pc + 1, ls, x :: y :: x :: y :: r) else none
      | _ => none)
  | .pop => chk len 1 (match st with | x :: r => if x.category = 1 then some (pc + 1, ls, r) else none | _ => none)
  | .goto o => chk len 3 ((jmp pc o).map fun q => (q, ls, st))
  | .ifCond cd o => chk len 3 (match st with | .int x :: r => br (ifCond.holds cd x) pc o ls r | _ => none)
  | .if_icmp cd o => chk len 3 (match st with | .int y :: .int x :: r => br (if_icmp.holds cd x y) pc o ls r | _ => none)
  | .tableswitch dflt low high offs => sw pc dflt low high offs ls st
  | _ => none
abbrev HR := Option (Nat × List Value × AHeap)
def putv : FieldType → Value → Option Value
  | .int, .int x => some (.int x)
  | .boolean, .int x => some (.int (nar .boolean x))
  | .byte, .int x => some (.int (nar .byte x))
  | .char, .int x => some (.int (nar .char x))
  | .short, .int x => some (.int (nar .short x))
  | .long, .long x => some (.long x)
  | .array _, .ref a => some (.ref a)
  | _, _ => none
def dflt (q : String × String) : Value := match parseFieldDescriptor q.2 with | some ty => defaultValue ty | none => .null
def hGet (ws : Ws) (own : String) (i pc : Nat) (H : AHeap) : List Value → HR
  | .ref a :: r =>
    match gfR ws own i, H[a]? with
    | some (C, j), some (.object C', vs) => if C = C' then (vs[j]?).map fun v => (pc + 3, v :: r, H) else none
    | _, _ => none
  | _ => none
def hPut (ws : Ws) (k : Nat) (own mn : String) (i pc : Nat) (H : AHeap) : List Value → HR
  | v :: .ref a :: r =>
    match pfR ws own mn i, H[a]? with
    | some (C, j, ty), some (.object C', vs) => if C = C' ∧ k ≤ a ∧ j < vs.length then (putv ty v).map fun v' => (pc + 3, r, H.set a (.object C', vs.set j v')) else none
    | _, _ => none
  | _ => none
def hNew (ws : Ws) (own : String) (i pc : Nat) (H : AHeap) (st : List Value) : HR :=
  match rCls ws own i with
  | some C => if (rInst ws C).isSome = true ∧ hasInit ws C = true then some (pc + 3, .ref H.length :: st, H ++ [(.object C, (olay ws C).map dflt)]) else none
  | none => none
def hNewA (ws : Ws) (aty : ArrayType) (pc : Nat) (H : AHeap) : List Value → HR
  | .int n :: r => if hasArr ws (newarray.typeOf aty) = true ∧ ¬ n < 0 ∧ n.toNatClampNeg * 8 ≤ 536870912 then
      some (pc + 2, .ref H.length :: r, H ++ [(.array (newarray.typeOf aty), List.replicate n.toNatClampNeg (defaultValue (newarray.typeOf aty)))]) else none
  | _ => none
def hLd (ok : FieldType → Bool) (pc : Nat) (H : AHeap) : List Value → HR
  | .int j :: .ref a :: r =>
    match H[a]? with
    | some (.array ty, vs) => if ok ty = true ∧ ¬ j < 0 then (vs[j.toNatClampNeg]?).map fun v => (pc + 1, v :: r, H) else none
    | _ => none
  | _ => none
def hSt (ok : FieldType → Bool) (k pc : Nat) (H : AHeap) : List Value → HR
  | v :: .int j :: .ref a :: r =>
    match H[a]? with
    | some (.array ty, vs) => if ok ty = true ∧ k ≤ a ∧ ¬ j < 0 ∧ j.toNatClampNeg < vs.length then (putv ty v).map fun v' => (pc + 1, r, H.set a (.array ty, vs.set j.toNatClampNeg v')) else none
    | _ => none
  | _ => none
def hLen (pc : Nat) (H : AHeap) : List Value → HR
  | .ref a :: r =>
    match H[a]? with
    | some (.array _, vs) => some (pc + 1, .int vs.length.toInt32 :: r, H)
    | _ => none
  | _ => none
def okT (t u : FieldType) : Bool := decide (u = t)
def okB (u : FieldType) : Bool := decide (u = .byte) || decide (u = .boolean)
def hstep (ws : Ws) (k : Nat) (y : MethodName) (ins : Instr) (len pc : Nat) (st : List Value) (H : AHeap) : HR :=
  match ins with
  | .getfield i => chk len 3 (hGet ws y.cls i pc H st)
  | .putfield i => chk len 3 (hPut ws k y.cls y.name i pc H st)
  | .new i => chk len 3 (hNew ws y.cls i pc H st)
  | .newarray aty => chk len 2 (hNewA ws aty pc H st)
  | .iaload => chk len 1 (hLd (okT .int) pc H st)
  | .caload => chk len 1 (hLd (okT .char) pc H st)
  | .laload => chk len 1 (hLd (okT .long) pc H st)
  | .baload => chk len 1 (hLd okB pc H st)
  | .iastore => chk len 1 (hSt (okT .int) k pc H st)
  | .castore => chk len 1 (hSt (okT .char) k pc H st)
  | .lastore => chk len 1 (hSt (okT .long) k pc H st)
  | .bastore => chk len 1 (hSt okB k pc H st)
  | .arraylength => chk len 1 (hLen pc H st)
  | .ldc i => chk len 2 ((rCon ws y.cls i).map fun v => (pc + 2, .int v :: st, H))
  | .ldc_w i => chk len 3 ((rCon ws y.cls i).map fun v => (pc + 3, .int v :: st, H))
  | .ldc2_w i => chk len 3 ((rConL ws y.cls i).map fun v => (pc + 3, .long v :: st, H))
  | _ => none
def ent : List Value → List Slot
  | [] => []
  | v :: r => if v.category = 2 then .val v :: .second :: ent r else .val v :: ent r
def entry (as : List Value) (mx : Nat) : List Slot := ent as ++ List.replicate (mx - (ent as).length) .unset
def wsum (st : List Value) : Nat := (st.map fun v => v.category).sum
abbrev Dn := List (MethodName × Nat × Nat)
def dnOf (dn : Dn) (y : MethodName) : Option (Nat × Nat) := dn.findSome? fun q => if q.1 = y then some q.2 else none
/-- what a methodref says: callee, its code, max_locals, return, number of parameters, slack for what lies under -/
def cR (ws : Ws) (dn : Dn) (y : MethodName) (i : Nat) : Option (MethodName × ByteArray × Nat × Option FieldType × Nat × Nat) :=
  match rMth ws y.cls i with
  | none => none
  | some y' =>
    match rCode ws y', dnOf dn y', dnOf dn y, parseMethodDescriptor y'.desc with
    | some (b, mx, r), some (f', l'), some (f, l), some sig =>
      if hasInit ws y'.cls = true ∧ Jvm.plainName y'.cls = true ∧ y'.cls ≠ "java/lang/invoke/MethodHandle" ∧ y'.cls ≠ "java/lang/invoke/VarHandle" ∧ f' + 1 ≤ f ∧ mx + 11 + l' ≤ l then
        some (y', b, mx, r, sig.parameters.length, l - (mx + 11 + l')) else none
    | _, _, _, _ => none
def sR (ws : Ws) (dn : Dn) (y : MethodName) (i : Nat) : Option (MethodName × ByteArray × Nat × Option FieldType × Nat × Nat) :=
  match cR ws dn y i with
  | some q => if hasStat ws q.1 = true then some q else none
  | none => none
def nR (ws : Ws) (dn : Dn) (y : MethodName) (i : Nat) : Option (MethodName × ByteArray × Nat × Option FieldType × Nat × Nat) :=
  match cR ws dn y i with
  | some q => if q.1.name = "<init>" ∧ hasIM ws q.1 = true ∧ q.2.2.2.1 = none then some q else none
  | none => none
/-- the first: is it private? -/
def vR (ws : Ws) (dn : Dn) (y : MethodName) (i : Nat) : Option (Bool × MethodName × ByteArray × Nat × Option FieldType × Nat × Nat) :=
  match cR ws dn y i with
  | some q => if hasIM ws q.1 = true then
      (if hasPriv ws q.1 = true ∧ (rInst ws q.1.cls).isSome = true then some (true, q) else if hasDecl ws q.1 = true ∧ hasSel ws q.1 = true then some (false, q) else none) else none
  | none => none
/-- Object.<init>: how many words may lie under it -/
def oR (ws : Ws) (dn : Dn) (y : MethodName) (i : Nat) : Option Nat :=
  match rMth ws y.cls i, rCode ws Lib.objectInit, dnOf dn y with
  | some y', some (b, mx, r), some (f, l) =>
    if y' = Lib.objectInit ∧ hasIM ws Lib.objectInit = true ∧ b.data = #[0xb1] ∧ mx = 1 ∧ r = none ∧ 1 ≤ f ∧ 12 ≤ l then some (l - 12) else none
  | _, _, _ => none
abbrev Call := MethodName × ByteArray × Option FieldType × List Slot × List Value
/-- returns and calls -/
def cstep (ws : Ws) (dn : Dn) (y : MethodName) (ret : Option FieldType) (ins : Instr) (len pc : Nat) (ls : List Slot) (st : List Value) (H : AHeap) : Option (Option Value ⊕ (Nat × List Slot × List Value × AHeap) ⊕ Call) :=
  match ins with
  | .ireturn => chk len 1 (match st, ret with
      | .int z :: _, some t => if t = .int ∨ t = .boolean ∨ t = .byte ∨ t = .char ∨ t = .short then some (.inl (some (.int (nar t z)))) else none
      | _, _ => none)
  | .lreturn => chk len 1 (match st, ret with
      | [.long z], some .long => some (.inl (some (.long z)))
      | _, _ => none)
  | .return_ => chk len 1 (match st, ret with
      | [], none => some (.inl none)
      | _, _ => none)
  | .invokestatic i => chk len 3 (match sR ws dn y i with
      | some (y', b, mx, r, na, sl) =>
        if na ≤ st.length ∧ wsum (st.drop na) ≤ sl ∧ (ent (st.take na).reverse).length ≤ mx then
          some (.inr (.inr (y', b, r, entry (st.take na).reverse mx, st.drop na)))
        else none
      | none => none)
  | .invokespecial i => chk len 3 (match oR ws dn y i with
      | some sl => (match st with
          | .ref _ :: r => if wsum r ≤ sl then some (.inr (.inl (pc + 3, ls, r, H))) else none
          | _ => none)
      | none => match nR ws dn y i with
        | some (y', b, mx, r, na, sl) =>
          (match st.drop na with
          | .ref a :: rest =>
            if wsum rest ≤ sl ∧ (ent (.ref a :: (st.take na).reverse)).length ≤ mx ∧ na ≤ st.length then
              some (.inr (.inr (y', b, r, entry (.ref a :: (st.take na).reverse) mx, rest)))
            else none
          | _ => none)
        | none => none)
  | .invokevirtual i => chk len 3 (match vR ws dn y i with
      | some (pv, y', b, mx, r, na, sl) =>
        (match st.drop na with
        | .ref a :: rest =>
          (match H[a]? with
          | some (.object C, _) =>
            if (pv = true ∨ C = y'.cls) ∧ wsum rest ≤ sl ∧ (ent (.ref a :: (st.take na).reverse)).length ≤ mx ∧ na ≤ st.length then
              some (.inr (.inr (y', b, r, entry (.ref a :: (st.take na).reverse) mx, rest)))
            else none
          | _ => none)
        | _ => none)
      | none => none)
  | _ => none
/-- what the machine does next: it returns, it steps, it calls -/
def act (ws : Ws) (dn : Dn) (k : Nat) (y : MethodName) (bytes : ByteArray) (ret : Option FieldType) (pc : Nat) (ls : List Slot) (st : List Value) (H : AHeap) : Option (Option Value ⊕ (Nat × List Slot × List Value × AHeap) ⊕ Call) :=
  match decode bytes pc with
  | .error _ => none
  | .ok (ins, len) =>
    match xstep ins len pc ls st with
    | some q => some (.inr (.inl (q.1, q.2.1, q.2.2, H)))
    | none => match hstep ws k y ins len pc st H with
      | some q => some (.inr (.inl (q.1, ls, q.2.1, q.2.2)))
      | none => cstep ws dn y ret ins len pc ls st H
def run (ws : Ws) (dn : Dn) (k : Nat) : Nat → MethodName → ByteArray → Option FieldType → Nat → List Slot → List Value → AHeap → Option (Option Value × AHeap)
  | 0, _, _, _, _, _, _, _ => none
  | n + 1, y, bytes, ret, pc, ls, st, H =>
    match act ws dn k y bytes ret pc ls st H with
    | none => none
    | some (.inl v) => some (v, H)
    | some (.inr (.inl (pc', ls', st', H'))) => run ws dn k n y bytes ret pc' ls' st' H'
    | some (.inr (.inr (y', b, r, en, rest))) =>
      match run ws dn k n y' b r 0 en [] H with
      | some (v, H1) => run ws dn k n y bytes ret (pc + 3) ls (v.toList ++ rest) H1
      | none => none
end Jvm.Own
namespace Jvm.Own
open Sem ClassFile Op Lib Jvm.Stand Jvm.Free Jvm.LawKit Jvm.RoadKit
/-! OWN 3: the abstract machine's plain steps are the machine's -/
def ren (f : Nat → Nat) : Value → Value
  | .ref a => .ref (f a)
  | v => v
def renS (f : Nat → Nat) : Slot → Slot
  | .val v => .val (ren f v)
  | s => s
abbrev fr (f : Nat → Nat) (m : MethodId) (pc : Nat) (ls : List Slot) (st : List Value) : JFrame := mkF m pc (ls.map (renS f)).toArray (st.map (ren f))
theorem ren_cat (f : Nat → Nat) (v : Value) : (ren f v).category = v.category := by cases v <;> rfl
theorem ren_isRef (f : Nat → Nat) (v : Value) : (ren f v).isRef = v.isRef := by cases v <;> rfl
theorem isI_int {v : Value} (h : isI v = true) : ∃ x, v = .int x := by cases v <;> first | exact ⟨_, rfl⟩ | cases h
theorem isL_long {v : Value} (h : isL v = true) : ∃ x, v = .long x := by cases v <;> first | exact ⟨_, rfl⟩ | cases h
theorem chk_some {α : Type} {a b : Nat} {x : Option α} {r : α} (h : chk a b x = some r) : a = b ∧ x = some r := by
  unfold chk at h
  split at h
  · exact ⟨by assumption, h⟩
  · cases h
theorem loc_get {f : Nat → Nat} {ls : List Slot} {i : Nat} {s : Slot} (h : ls[i]? = some s) : ((ls.map (renS f)).toArray)[i]? = some (renS f s) := by
  rw [List.getElem?_toArray, List.getElem?_map, h]; rfl
theorem setAt_ren (f : Nat → Nat) (l : Array Slot) (i : Nat) (x : Slot) : setAt (l.map (renS f)) i (renS f x) = (setAt l i x).map fun a => a.map (renS f) := by
  unfold setAt
  rw [Array.size_map]
  split
  · rw [Option.map_some, Array.map_setIfInBounds]
  · rfl
theorem storeSelf_ren (f : Nat → Nat) (l : Array Slot) (i : Nat) (v : Value) : storeSelf (l.map (renS f)) i (ren f v) = (storeSelf l i v).map fun a => a.map (renS f) := by
  have h0 : setAt (l.map (renS f)) i (.val (ren f v)) = _ := setAt_ren f l i (.val v)
  simp only [storeSelf, h0, ren_cat]
  cases setAt l i (.val v) with
  | none => rfl
  | some l1 =>
    simp only [Option.map_some, Option.bind_eq_bind, Option.bind_some, bind_pure_comp]
    split
    · rw [Array.getElem?_map]
      cases l1[i + 1]? with
      | none => rfl
      | some s =>
        simp only [Option.map_some, Option.bind_some]
        cases s with
        | unset => exact setAt_ren f l1 (i + 1) .second
        | second => exact setAt_ren f l1 (i + 1) .second
        | val w =>
          simp only [renS, ren_cat]
          split
          · have h1 : setAt (l1.map (renS f)) (i + 2) .unset = _ := setAt_ren f l1 (i + 2) .unset
            rw [h1]
            cases setAt l1 (i + 2) .unset with
            | none => rfl
            | some l2 => exact setAt_ren f l2 (i + 1) .second
          · exact setAt_ren f l1 (i + 1) .second
    · rfl
theorem storeLocals_ren (f : Nat → Nat) (l : Array Slot) (i : Nat) (v : Value) : storeLocals (l.map (renS f)) i (ren f v) = (storeLocals l i v).map fun a => a.map (renS f) := by
  simp only [storeLocals, Array.getElem?_map]
  cases l[i]? with
  | none => rfl
  | some s =>
    simp only [Option.map_some, Option.bind_eq_bind, Option.bind_some]
    cases s with
    | unset => exact storeSelf_ren f l i v
    | second =>
      have h1 : setAt (l.map (renS f)) (i - 1) .unset = _ := setAt_ren f l (i - 1) .unset
      simp only [renS, h1]
      cases setAt l (i - 1) .unset with
      | none => rfl
      | some l2 => exact storeSelf_ren f l2 i v
    | val w =>
      simp only [renS, ren_cat]
      split
      · have h1 : setAt (l.map (renS f)) (i + 1) .unset = _ := setAt_ren f l (i + 1) .unset
        rw [h1]
        cases setAt l (i + 1) .unset with
        | none => rfl
        | some l2 => exact storeSelf_ren f l2 i v
      · exact storeSelf_ren f l i v
theorem stl_ren {f : Nat → Nat} {ls l' : List Slot} {i : Nat} {v : Value} (h : stl ls i v = some l') : storeLocals (ls.map (renS f)).toArray i (ren f v) = some (l'.map (renS f)).toArray := by
  unfold stl at h
  obtain ⟨a, ha, rfl⟩ := Option.map_eq_some_iff.mp h
  have := storeLocals_ren f ls.toArray i v
  rw [ha] at this
  rw [← List.map_toArray, this]
  simp [← Array.toList_inj]
theorem setAt_size {l l' : Array Slot} {i : Nat} {x : Slot} (h : setAt l i x = some l') : l'.size = l.size := by
  unfold setAt at h
  split at h
  · cases h; simp
  · cases h
theorem storeSelf_size {l l' : Array Slot} {i : Nat} {v : Value} (h : storeSelf l i v = some l') : l'.size = l.size := by
  simp only [storeSelf, Option.bind_eq_bind, Option.bind_eq_some_iff] at h
  obtain ⟨l1, h1, h⟩ := h
  have e1 := setAt_size h1
  split at h
  · obtain ⟨s, -, h⟩ := Option.bind_eq_some_iff.mp h
    split at h
    · split at h
      · obtain ⟨l2, h2, h⟩ := Option.bind_eq_some_iff.mp h
        rw [setAt_size h, setAt_size h2, e1]
      · rw [setAt_size h, e1]
    · rw [setAt_size h, e1]
  · cases h; exact e1
theorem storeLocals_size {l l' : Array Slot} {i : Nat} {v : Value} (h : storeLocals l i v = some l') : l'.size = l.size := by
  simp only [storeLocals, Option.bind_eq_bind, Option.bind_eq_some_iff] at h
  obtain ⟨s, -, h⟩ := h
  split at h
  · obtain ⟨l2, h2, h⟩ := Option.bind_eq_some_iff.mp h
    rw [storeSelf_size h, setAt_size h2]
  · split at h
    · obtain ⟨l2, h2, h⟩ := Option.bind_eq_some_iff.mp h
      rw [storeSelf_size h, setAt_size h2]
    · exact storeSelf_size h
  · exact storeSelf_size h
theorem stl_size {ls l' : List Slot} {i : Nat} {v : Value} (h : stl ls i v = some l') : l'.length = ls.length := by
  unfold stl at h
  obtain ⟨a, ha, rfl⟩ := Option.map_eq_some_iff.mp h
  have := storeLocals_size ha
  simpa using this
theorem ldV_some {p : Value → Bool} {nx i : Nat} {ls : List Slot} {st : List Value} {q : Nat × List Slot × List Value} (h : ldV p nx i ls st = some q) : ∃ v, ls[i]? = some (.val v) ∧ p v = true ∧ q = (nx, ls, v :: st) := by
  unfold ldV at h
  split at h
  · rename_i v hv
    split at h
    · cases h; exact ⟨v, hv, by assumption, rfl⟩
    · cases h
  · cases h
theorem stV_some {p : Value → Bool} {nx i : Nat} {ls : List Slot} {st : List Value} {q : Nat × List Slot × List Value} (h : stV p nx i ls st = some q) : ∃ v r l', st = v :: r ∧ p v = true ∧ stl ls i v = some l' ∧ q = (nx, l', r) := by
  unfold stV at h
  split at h
  · split at h
    · obtain ⟨l', h1, h2⟩ := Option.map_eq_some_iff.mp h
      exact ⟨_, _, l', rfl, by assumption, h1, h2.symm⟩
    · cases h
  · cases h
theorem b2_some {f : Int32 → Int32 → Int32} {nx : Nat} {ls : List Slot} {st : List Value} {q : Nat × List Slot × List Value} (h : b2 f nx ls st = some q) : ∃ x y r, st = .int y :: .int x :: r ∧ q = (nx, ls, .int (f x y) :: r) := by
  unfold b2 at h
  split at h
  · cases h; exact ⟨_, _, _, rfl, rfl⟩
  · cases h
theorem d2_some {f : Int32 → Int32 → Int32} {nx : Nat} {ls : List Slot} {st : List Value} {q : Nat × List Slot × List Value} (h : d2 f nx ls st = some q) : ∃ x y r, st = .int y :: .int x :: r ∧ y ≠ 0 ∧ q = (nx, ls, .int (f x y) :: r) := by
  unfold d2 at h
  split at h
  · split at h
    · cases h
    · cases h; exact ⟨_, _, _, rfl, by assumption, rfl⟩
  · cases h
theorem u1_some {f : Int32 → Int32} {nx : Nat} {ls : List Slot} {st : List Value} {q : Nat × List Slot × List Value} (h : u1 f nx ls st = some q) : ∃ x r, st = .int x :: r ∧ q = (nx, ls, .int (f x) :: r) := by
  unfold u1 at h
  split at h
  · cases h; exact ⟨_, _, rfl, rfl⟩
  · cases h
theorem l2_some {f : Int64 → Int64 → Int64} {nx : Nat} {ls : List Slot} {st : List Value} {q : Nat × List Slot × List Value} (h : l2 f nx ls st = some q) : ∃ x y r, st = .long y :: .long x :: r ∧ q = (nx, ls, .long (f x y) :: r) := by
  unfold l2 at h
  split at h
  · cases h; exact ⟨_, _, _, rfl, rfl⟩
  · cases h
theorem lsh_some {f : Int64 → Int32 → Int64} {nx : Nat} {ls : List Slot} {st : List Value} {q : Nat × List Slot × List Value} (h : lsh f nx ls st = some q) : ∃ x y r, st = .int y :: .long x :: r ∧ q = (nx, ls, .long (f x y) :: r) := by
  unfold lsh at h
  split at h
  · cases h; exact ⟨_, _, _, rfl, rfl⟩
  · cases h
theorem jmp_some {pc q : Nat} {o : Int} (h : jmp pc o = some q) : 0 ≤ (pc : Int) + o ∧ ((pc : Int) + o).toNat = q := by
  unfold jmp at h
  split at h
  · cases h; exact ⟨by assumption, rfl⟩
  · cases h
theorem br_some {c : Bool} {pc : Nat} {o : Int} {ls : List Slot} {r : List Value} {q : Nat × List Slot × List Value} (h : br c pc o ls r = some q) : (c = true ∧ ∃ t, 0 ≤ (pc : Int) + o ∧ ((pc : Int) + o).toNat = t ∧ q = (t, ls, r)) ∨ (c = false ∧ q = (pc + 3, ls, r)) := by
  unfold br at h
  split at h
  · obtain ⟨t, h1, h2⟩ := Option.map_eq_some_iff.mp h
    obtain ⟨h3, h4⟩ := jmp_some h1
    exact Or.inl ⟨by assumption, t, h3, h4, h2.symm⟩
  · rename_i hc; cases h; exact Or.inr ⟨by simpa using hc, rfl⟩
section X
variable {tb : Tables} [Ours tb] {e : Env} {below : List Frame} {T target : State} {m : MethodId} {c : Code}
set_option maxHeartbeats 4000000 in
theorem xstep_sound (h : At T m c below) (hx : tb.exec = Jvm.exec) (f : Nat → Nat) {ins : Instr} {len pc : Nat} {ls : List Slot} {st : List Value} {q : Nat × List Slot × List Value}
    (hd : decode c.code pc = .ok (ins, len)) (hs : xstep ins len pc ls st = some q) (hr : Steps tb e below (T.setTop (fr f m q.1 q.2.1 q.2.2)) target) : Steps tb e below (T.setTop (fr f m pc ls st)) target := by
  unfold xstep at hs
  split at hs
  · obtain ⟨rfl, hs⟩ := chk_some hs; obtain ⟨v, h1, h2, rfl⟩ := ldV_some hs
    exact XS.aloadN h hx rfl hd (loc_get h1) (by rw [ren_isRef]; exact h2) hr
  · obtain ⟨rfl, hs⟩ := chk_some hs; obtain ⟨v, h1, h2, rfl⟩ := ldV_some hs
    exact XS.aload h hx rfl hd (loc_get h1) (by rw [ren_isRef]; exact h2) hr
  · obtain ⟨rfl, hs⟩ := chk_some hs; obtain ⟨v, h1, h2, rfl⟩ := ldV_some hs; obtain ⟨x, rfl⟩ := isI_int h2
    exact XS.iloadN h hx rfl hd (loc_get (f := f) h1) hr
  · obtain ⟨rfl, hs⟩ := chk_some hs; obtain ⟨v, h1, h2, rfl⟩ := ldV_some hs; obtain ⟨x, rfl⟩ := isI_int h2
    exact XS.iload h hx rfl hd (loc_get (f := f) h1) hr
  · obtain ⟨rfl, hs⟩ := chk_some hs; obtain ⟨v, h1, h2, rfl⟩ := ldV_some hs; obtain ⟨x, rfl⟩ := isL_long h2
    exact XT.lloadN h hx rfl hd (loc_get (f := f) h1) hr
  · obtain ⟨rfl, hs⟩ := chk_some hs; obtain ⟨v, h1, h2, rfl⟩ := ldV_some hs; obtain ⟨x, rfl⟩ := isL_long h2
    exact XT.lload h hx rfl hd (loc_get (f := f) h1) hr
  · obtain ⟨rfl, hs⟩ := chk_some hs; obtain ⟨v, r, l', rfl, h2, h3, rfl⟩ := stV_some hs
    exact XS.astoreN h hx rfl hd rfl (by rw [ren_isRef]; exact h2) (stl_ren h3) hr
  · obtain ⟨rfl, hs⟩ := chk_some hs; obtain ⟨v, r, l', rfl, h2, h3, rfl⟩ := stV_some hs
    exact XS.astore h hx rfl hd rfl (by rw [ren_isRef]; exact h2) (stl_ren h3) hr
  · obtain ⟨rfl, hs⟩ := chk_some hs; obtain ⟨v, r, l', rfl, h2, h3, rfl⟩ := stV_some hs; obtain ⟨x, rfl⟩ := isI_int h2
    exact XS.istoreN h hx rfl hd rfl (stl_ren (f := f) h3) hr
  · obtain ⟨rfl, hs⟩ := chk_some hs; obtain ⟨v, r, l', rfl, h2, h3, rfl⟩ := stV_some hs; obtain ⟨x, rfl⟩ := isI_int h2
    exact XS.istore h hx rfl hd rfl (stl_ren (f := f) h3) hr
  · obtain ⟨rfl, hs⟩ := chk_some hs; obtain ⟨v, r, l', rfl, h2, h3, rfl⟩ := stV_some hs; obtain ⟨x, rfl⟩ := isL_long h2
    exact XT.lstoreN h hx rfl hd rfl (stl_ren (f := f) h3) hr
  · obtain ⟨rfl, hs⟩ := chk_some hs; obtain ⟨v, r, l', rfl, h2, h3, rfl⟩ := stV_some hs; obtain ⟨x, rfl⟩ := isL_long h2
    exact XT.lstore h hx rfl hd rfl (stl_ren (f := f) h3) hr
  · obtain ⟨rfl, hs⟩ := chk_some hs; cases hs
    exact XS.iconst h hx rfl hd hr
  · obtain ⟨rfl, hs⟩ := chk_some hs; cases hs
    exact XS.bipush h hx rfl hd hr
  · obtain ⟨rfl, hs⟩ := chk_some hs; cases hs
    exact XS.sipush h hx rfl hd hr
  · obtain ⟨rfl, hs⟩ := chk_some hs; cases hs
    exact XT.lconst h hx rfl hd hr
  · obtain ⟨rfl, hs⟩ := chk_some hs; obtain ⟨x, y, r, rfl, rfl⟩ := b2_some hs
    exact XS.iadd h hx rfl hd rfl hr
  · obtain ⟨rfl, hs⟩ := chk_some hs; obtain ⟨x, y, r, rfl, rfl⟩ := b2_some hs
    exact XS.isub h hx rfl hd rfl hr
  · obtain ⟨rfl, hs⟩ := chk_some hs; obtain ⟨x, y, r, rfl, rfl⟩ := b2_some hs
    exact XS.imul h hx rfl hd rfl hr
  · obtain ⟨rfl, hs⟩ := chk_some hs; obtain ⟨x, y, r, rfl, rfl⟩ := b2_some hs
    exact XS.iand h hx rfl hd rfl hr
  · obtain ⟨rfl, hs⟩ := chk_some hs; obtain ⟨x, y, r, rfl, rfl⟩ := b2_some hs
    exact XT.ior h hx rfl hd rfl hr
  · obtain ⟨rfl, hs⟩ := chk_some hs; obtain ⟨x, y, r, rfl, rfl⟩ := b2_some hs
    exact XT.ixor h hx rfl hd rfl hr
  · obtain ⟨rfl, hs⟩ := chk_some hs; obtain ⟨x, y, r, rfl, rfl⟩ := b2_some hs
    exact XT.ishl h hx rfl hd rfl hr
  · obtain ⟨rfl, hs⟩ := chk_some hs; obtain ⟨x, y, r, rfl, rfl⟩ := b2_some hs
    exact XT.ishr h hx rfl hd rfl hr
  · obtain ⟨rfl, hs⟩ := chk_some hs; obtain ⟨x, y, r, rfl, rfl⟩ := b2_some hs
    exact XT.iushr h hx rfl hd rfl hr
  · obtain ⟨rfl, hs⟩ := chk_some hs; obtain ⟨x, y, r, rfl, h2, rfl⟩ := d2_some hs
    exact XS.idiv h hx rfl hd rfl h2 hr
  · obtain ⟨rfl, hs⟩ := chk_some hs; obtain ⟨x, y, r, rfl, h2, rfl⟩ := d2_some hs
    refine XS.irem h hx rfl hd rfl h2 ?_
    have q : x - x / y * y = x % y := irem_eq_mod x y
    rw [q]; exact hr
  · obtain ⟨rfl, hs⟩ := chk_some hs; obtain ⟨x, r, rfl, rfl⟩ := u1_some hs
    exact XS.ineg h hx rfl hd rfl hr
  · obtain ⟨rfl, hs⟩ := chk_some hs; obtain ⟨x, r, rfl, rfl⟩ := u1_some hs
    exact XT.i2b h hx rfl hd rfl hr
  · obtain ⟨rfl, hs⟩ := chk_some hs; obtain ⟨x, r, rfl, rfl⟩ := u1_some hs
    exact XT.i2c h hx rfl hd rfl hr
  · obtain ⟨rfl, hs⟩ := chk_some hs; obtain ⟨x, y, r, rfl, rfl⟩ := l2_some hs
    exact XT.ladd h hx rfl hd rfl hr
  · obtain ⟨rfl, hs⟩ := chk_some hs; obtain ⟨x, y, r, rfl, rfl⟩ := l2_some hs
    exact XT.lsub h hx rfl hd rfl hr
  · obtain ⟨rfl, hs⟩ := chk_some hs; obtain ⟨x, y, r, rfl, rfl⟩ := l2_some hs
    exact XT.lmul h hx rfl hd rfl hr
  · obtain ⟨rfl, hs⟩ := chk_some hs; obtain ⟨x, y, r, rfl, rfl⟩ := l2_some hs
    exact XT.land h hx rfl hd rfl hr
  · obtain ⟨rfl, hs⟩ := chk_some hs; obtain ⟨x, y, r, rfl, rfl⟩ := l2_some hs
    exact XT.lor h hx rfl hd rfl hr
  · obtain ⟨rfl, hs⟩ := chk_some hs; obtain ⟨x, y, r, rfl, rfl⟩ := l2_some hs
    exact XT.lxor h hx rfl hd rfl hr
  · obtain ⟨rfl, hs⟩ := chk_some hs; obtain ⟨x, y, r, rfl, rfl⟩ := lsh_some hs
    exact XT.lshl h hx rfl hd rfl hr
  · obtain ⟨rfl, hs⟩ := chk_some hs; obtain ⟨x, y, r, rfl, rfl⟩ := lsh_some hs
    exact XT.lshr h hx rfl hd rfl hr
  · obtain ⟨rfl, hs⟩ := chk_some hs; obtain ⟨x, y, r, rfl, rfl⟩ := lsh_some hs
    exact XT.lushr h hx rfl hd rfl hr
  · obtain ⟨rfl, hs⟩ := chk_some hs
    split at hs
    · cases hs; exact XT.lneg h hx rfl hd rfl hr
    · cases hs
  · obtain ⟨rfl, hs⟩ := chk_some hs
    split at hs
    · cases hs; exact XT.i2l h hx rfl hd rfl hr
    · cases hs
  · obtain ⟨rfl, hs⟩ := chk_some hs
    split at hs
    · cases hs; exact XT.l2i h hx rfl hd rfl hr
    · cases hs
  · obtain ⟨rfl, hs⟩ := chk_some hs
    split at hs
    · cases hs; exact XT.lcmp h hx rfl hd rfl hr
    · cases hs
  · obtain ⟨rfl, hs⟩ := chk_some hs
    split at hs
    · rename_i x h1
      obtain ⟨l', h2, rfl⟩ := Option.map_eq_some_iff.mp hs
      exact XS.iinc h hx rfl hd (loc_get (f := f) h1) (stl_ren (f := f) h2) hr
    · cases hs
  · obtain ⟨rfl, hs⟩ := chk_some hs
    split at hs
    · split at hs
      · rename_i hc; cases hs; exact XS.dup h hx rfl hd rfl (by rw [ren_cat]; exact hc) hr
      · cases hs
    · cases hs
  · obtain ⟨rfl, hs⟩ := chk_some hs
    split at hs
    · cases hs; exact XT.dup2L h hx rfl hd rfl hr
    · split at hs
      · rename_i hc; cases hs; exact XT.dup2 h hx rfl hd rfl (by rw [ren_cat]; exact hc.1) (by rw [ren_cat]; exact hc.2) hr
      · cases hs
    · cases hs
  · obtain ⟨rfl, hs⟩ := chk_some hs
    split at hs
    · split at hs
      · rename_i hc; cases hs; exact XT.pop h hx rfl hd rfl (by rw [ren_cat]; exact hc) hr
      · cases hs
    · cases hs
  · obtain ⟨rfl, hs⟩ := chk_some hs
    obtain ⟨t, h1, rfl⟩ := Option.map_eq_some_iff.mp hs
    obtain ⟨h2, h3⟩ := jmp_some h1
    exact XS.goto h hx rfl rfl hd h2 h3 hr
  · obtain ⟨rfl, hs⟩ := chk_some hs
    split at hs
    · rcases br_some hs with ⟨hc, t, h1, h2, rfl⟩ | ⟨hc, rfl⟩
      · exact XS.ifYes h hx rfl rfl hd rfl hc h1 h2 hr
      · exact XS.ifNo h hx rfl hd rfl hc hr
    · cases hs
  · obtain ⟨rfl, hs⟩ := chk_some hs
    split at hs
    · rcases br_some hs with ⟨hc, t, h1, h2, rfl⟩ | ⟨hc, rfl⟩
      · exact XS.icmpYes h hx rfl rfl hd rfl hc h1 h2 hr
      · exact XS.icmpNo h hx rfl hd rfl hc hr
    · cases hs
  · unfold sw at hs
    split at hs
    · split at hs
      · rename_i hc
        obtain ⟨t, h1, rfl⟩ := Option.map_eq_some_iff.mp hs
        obtain ⟨h2, h3⟩ := jmp_some h1
        exact XS.tswOut h hx rfl rfl hd rfl hc h2 h3 hr
      · rename_i hc
        split at hs
        · rename_i o ho
          obtain ⟨t, h1, rfl⟩ := Option.map_eq_some_iff.mp hs
          obtain ⟨h2, h3⟩ := jmp_some h1
          exact XS.tswIn h hx rfl rfl hd rfl hc ho h2 h3 hr
        · cases hs
    · cases hs
  · cases hs
end X
theorem xstep_size {ins : Instr} {len pc : Nat} {ls : List Slot} {st : List Value} {q : Nat × List Slot × List Value} (hs : xstep ins len pc ls st = some q) : q.2.1.length = ls.length := by
  unfold xstep at hs
  split at hs
  all_goals first
    | (obtain ⟨rfl, hs⟩ := chk_some hs; obtain ⟨v, h1, h2, rfl⟩ := ldV_some hs; rfl)
    | (obtain ⟨rfl, hs⟩ := chk_some hs; obtain ⟨v, r, l', rfl, h2, h3, rfl⟩ := stV_some hs; exact stl_size h3)
    | (obtain ⟨rfl, hs⟩ := chk_some hs; cases hs; rfl)
    | (obtain ⟨rfl, hs⟩ := chk_some hs; obtain ⟨x, y, r, rfl, rfl⟩ := b2_some hs; rfl)
    | (obtain ⟨rfl, hs⟩ := chk_some hs; obtain ⟨x, y, r, rfl, h2, rfl⟩ := d2_some hs; rfl)
    | (obtain ⟨rfl, hs⟩ := chk_some hs; obtain ⟨x, r, rfl, rfl⟩ := u1_some hs; rfl)
    | (obtain ⟨rfl, hs⟩ := chk_some hs; obtain ⟨x, y, r, rfl, rfl⟩ := l2_some hs; rfl)
    | (obtain ⟨rfl, hs⟩ := chk_some hs; obtain ⟨x, y, r, rfl, rfl⟩ := lsh_some hs; rfl)
    | (obtain ⟨rfl, hs⟩ := chk_some hs; split at hs <;> first | (cases hs; rfl) | (cases hs; done))
    | (obtain ⟨rfl, hs⟩ := chk_some hs; split at hs <;> first | (obtain ⟨l', h2, rfl⟩ := Option.map_eq_some_iff.mp hs; exact stl_size h2) | (cases hs; done))
    | (obtain ⟨rfl, hs⟩ := chk_some hs; split at hs <;> first | (split at hs <;> first | (cases hs; rfl) | (cases hs; done)) | (cases hs; rfl) | (cases hs; done))
    | (obtain ⟨rfl, hs⟩ := chk_some hs; obtain ⟨t, h1, rfl⟩ := Option.map_eq_some_iff.mp hs; rfl)
    | (obtain ⟨rfl, hs⟩ := chk_some hs; split at hs <;> first | (rcases br_some hs with ⟨hc, t, h1, h2, rfl⟩ | ⟨hc, rfl⟩ <;> rfl) | (cases hs; done))
    | (unfold sw at hs; split at hs <;> first | (cases hs; done) | (split at hs <;> first | (obtain ⟨t, h1, rfl⟩ := Option.map_eq_some_iff.mp hs; rfl) | (split at hs <;> first | (obtain ⟨t, h1, rfl⟩ := Option.map_eq_some_iff.mp hs; rfl) | (cases hs; done))))
    | (cases hs; done)
end Jvm.Own
namespace Jvm.Own
open Sem ClassFile Op Lib Jvm.Stand Jvm.Free Jvm.LawKit Jvm.RoadKit
/-! OWN 4: the heap's steps -/
def adr (k sa n0 i : Nat) : Nat := if i < k then sa else n0 + (i - k)
def SimO (Z : State) (ws : Ws) (f : Nat → Nat) (h : Heap) (a : Addr) : FieldType × List Value → Prop
  | (.object C, vs) => Exa Z h a C ∧ ∀ n t j, fidx ws C n t = some j → ∃ v, vs[j]? = some v ∧ Fld Z h a C n t (ren f v)
  | (.array ty, vs) => ∃ c : Cell, Arr Z h a c ty ∧ c.slots = (vs.map (ren f)).toArray
  | _ => False
def Sim (Z : State) (ws : Ws) (k sa n0 : Nat) (H : AHeap) (h : Heap) : Prop :=
  h.size = n0 + (H.length - k) ∧ k ≤ H.length ∧ k ≤ 1 ∧ (1 ≤ k → sa < n0) ∧ ∀ i o, H[i]? = some o → SimO Z ws (adr k sa n0) h (adr k sa n0 i) o
def cost (ws : Ws) : FieldType × List Value → Nat
  | (.object C, _) => (rInst ws C).getD 0
  | (_, vs) => vs.length
def tot (ws : Ws) (H : AHeap) : Nat := (H.map (cost ws)).sum
theorem adr_inj {k sa n0 i j : Nat} (hk : k ≤ 1) (hs : 1 ≤ k → sa < n0) (e : adr k sa n0 i = adr k sa n0 j) : i = j := by
  unfold adr at e; split at e <;> split at e <;> omega
theorem adr_ge {k sa n0 a : Nat} (h : k ≤ a) : n0 ≤ adr k sa n0 a := by
  unfold adr; rw [if_neg (by omega)]; omega
theorem tot_app (ws : Ws) (H : AHeap) (o : FieldType × List Value) : tot ws (H ++ [o]) = tot ws H + cost ws o := by simp [tot]
theorem tot_set {ws : Ws} : ∀ {H : AHeap} {a : Nat} {o o' : FieldType × List Value}, H[a]? = some o → cost ws o' = cost ws o → tot ws (H.set a o') = tot ws H
  | [], _, _, _, h, _ => by cases h
  | x :: r, 0, o, o', h, e => by
    simp only [List.getElem?_cons_zero, Option.some.injEq] at h; subst h
    simp [tot, e]
  | x :: r, a + 1, o, o', h, e => by
    have := tot_set (ws := ws) (H := r) (a := a) (o := o) (o' := o') (by simpa using h) e
    simp only [tot, List.set_cons_succ, List.map_cons, List.sum_cons] at this ⊢
    rw [this]
theorem ren_dflt (f : Nat → Nat) (ty : FieldType) : ren f (defaultValue ty) = defaultValue ty := by cases ty <;> rfl
section Facts
variable {Z : State} {ws : Ws} {f : Nat → Nat} {h h' : Heap} {a b : Addr} {o : FieldType × List Value} {sl : Nat} {v : Value}
theorem SimO.ext (E : Ext h h') (S : SimO Z ws f h a o) : SimO Z ws f h' a o := by
  unfold SimO at S ⊢
  split at S
  · exact ⟨S.1.ext E, fun n t j q => by obtain ⟨v, h1, h2⟩ := S.2 n t j q; exact ⟨v, h1, h2.ext E⟩⟩
  · obtain ⟨c, h1, h2⟩ := S; exact ⟨c, h1.ext E, h2⟩
  · exact S.elim
theorem SimO.other (W : Wr h h' b sl v) (ne : a ≠ b) (S : SimO Z ws f h a o) : SimO Z ws f h' a o := by
  unfold SimO at S ⊢
  split at S
  · exact ⟨S.1.wr W, fun n t j q => by obtain ⟨v, h1, h2⟩ := S.2 n t j q; exact ⟨v, h1, h2.other W (Or.inl ne)⟩⟩
  · obtain ⟨c, h1, h2⟩ := S; exact ⟨c, h1.other W ne, h2⟩
  · exact S.elim
theorem Sim.push {k sa n0 : Nat} {H : AHeap} (S : Sim Z ws k sa n0 H h) (E : Ext h h') (hz : h'.size = h.size + 1) (O : SimO Z ws (adr k sa n0) h' h.size o) : Sim Z ws k sa n0 (H ++ [o]) h' := by
  obtain ⟨h1, h2, h3, h4, h5⟩ := S
  refine ⟨by rw [hz, h1, List.length_append, List.length_singleton]; omega, by rw [List.length_append]; omega, h3, h4, fun i o' q => ?_⟩
  rcases Nat.lt_trichotomy i H.length with g | g | g
  · rw [List.getElem?_append_left g] at q; exact (h5 i o' q).ext E
  · subst g
    rw [List.getElem?_append_right (Nat.le_refl _), Nat.sub_self] at q
    cases q
    have e : adr k sa n0 H.length = h.size := by unfold adr; rw [if_neg (by omega), h1]
    rw [e]; exact O
  · rw [List.getElem?_eq_none (by simp; omega)] at q; cases q
theorem Sim.next {k sa n0 : Nat} {H : AHeap} (S : Sim Z ws k sa n0 H h) : h.size = adr k sa n0 H.length := by
  obtain ⟨h1, h2, -⟩ := S
  unfold adr; rw [if_neg (by omega), h1]
theorem Wr.upd {k sa n0 i : Nat} {H : AHeap} {o' : FieldType × List Value} (S : Sim Z ws k sa n0 H h) (W : Wr h h' (adr k sa n0 i) sl v) (O : SimO Z ws (adr k sa n0) h' (adr k sa n0 i) o') : Sim Z ws k sa n0 (H.set i o') h' := by
  obtain ⟨h1, h2, h3, h4, h5⟩ := S
  refine ⟨by rw [W.size, h1, List.length_set], by rw [List.length_set]; exact h2, h3, h4, fun j q hq => ?_⟩
  by_cases e : i = j
  · subst e
    rw [List.getElem?_set_self' ] at hq
    cases hi : H[i]? with
    | none => rw [hi] at hq; cases hq
    | some x => rw [hi] at hq; cases hq; exact O
  · rw [List.getElem?_set_ne e] at hq
    exact (h5 j q hq).other W fun g => e (adr_inj h3 h4 g).symm
end Facts
theorem putv_ok {ty : FieldType} {v v' : Value} (f : Nat → Nat) (h : putv ty v = some v') : narrow ty (ren f v) = ren f v' ∧ fits ty (ren f v') = true := by
  unfold putv at h
  split at h
  · cases h; exact ⟨rfl, rfl⟩
  · cases h; exact ⟨rfl, fits_nar_bool _⟩
  · cases h; exact ⟨rfl, fits_nar_byte _⟩
  · cases h; exact ⟨rfl, fits_nar_char _⟩
  · cases h; exact ⟨rfl, fits_nar_short _⟩
  · cases h; exact ⟨rfl, rfl⟩
  · cases h; exact ⟨rfl, rfl⟩
  · cases h
theorem size_set (c : Cell) (j : Nat) (v : Value) (f : Nat → Nat) {vs : List Value} {v' : Value} (e : c.slots = (vs.map (ren f)).toArray) (q : v = ren f v') : (c.setSlot j v).slots = ((vs.set j v').map (ren f)).toArray := by
  subst q
  show c.slots.setIfInBounds j (ren f v') = _
  rw [e, List.setIfInBounds_toArray, List.map_set]
section H
variable {p : Program} {l : Launch} {e : Env} {R : Room} {s : State} {m : MethodId} {args : Array Value} {below : List Frame} {meth : Method} {c : Code} {T : State} {locs : List Loc} {cells slots : Nat}
  {Z : State} {a0 : Array Value} {ws : Ws} {k sa n0 : Nat} {y : MethodName} {pc : Nat} {ls : List Slot} {st : List Value} {H : AHeap}
/-- the point behind one step -/
def Beh (p : Program) (l : Launch) (e : Env) (R : Room) (s : State) (m : MethodId) (args : Array Value) (below : List Frame) (meth : Method) (c : Code) (T : State) (Z : State) (ws : Ws) (k sa n0 cells slots : Nat) (H : AHeap) (g : JFrame) (pc' : Nat) (ls' : List Slot) (st' : List Value) (H' : AHeap) : Prop :=
  ∃ T' locs', Stand p l e R s m args below meth c T' locs' (cells + (H'.length - H.length)) (slots + (tot ws H' - tot ws H)) ∧ Sim Z ws k sa n0 H' T'.heap ∧ Fr n0 locs' ∧
    ∀ target, Steps p.tables e below (T'.setTop (fr (adr k sa n0) m pc' ls' st')) target → Steps p.tables e below (T.setTop g) target
theorem Beh.stay {g : JFrame} {pc' : Nat} {st' : List Value} {T' : State} (X : Stand p l e R s m args below meth c T' locs cells slots) (S : Sim Z ws k sa n0 H T'.heap) (N : Fr n0 locs)
    (h : ∀ target, Steps p.tables e below (T'.setTop (fr (adr k sa n0) m pc' ls st')) target → Steps p.tables e below (T.setTop g) target) : Beh p l e R s m args below meth c T Z ws k sa n0 cells slots H g pc' ls st' H :=
  ⟨T', locs, by rw [Nat.sub_self, Nat.sub_self]; exact X, S, N, h⟩
theorem hGet_sound (hw : ∀ d ∈ ws, d.before a0 Z = true) (X : Stand p l e R s m args below meth c T locs cells slots) (hx : p.tables.exec = Jvm.exec) (hZ : Z.Warmed39 s.vm) (hown : s.vm.findClass y.cls = some m.cls)
    {i : Nat} (hd : decode c.code pc = .ok (.getfield i, 3)) {q : Nat × List Value × AHeap} (hs : hGet ws y.cls i pc H st = some q) (S : Sim Z ws k sa n0 H T.heap) (N : Fr n0 locs) :
    Beh p l e R s m args below meth c T Z ws k sa n0 cells slots H (fr (adr k sa n0) m pc ls st) q.1 ls q.2.1 q.2.2 := by
  unfold hGet at hs
  split at hs
  · rename_i a r
    split at hs
    · rename_i C j C' vs q1 q2
      split at hs
      · rename_i hC; subst hC
        obtain ⟨v, hv, rfl⟩ := Option.map_eq_some_iff.mp hs
        obtain ⟨n, t, r1, r2⟩ := gfR_some q1
        obtain ⟨v', hv', F⟩ := (S.2.2.2.2 a _ q2).2 n t j r2
        cases hv.symm.trans hv'
        obtain ⟨T', X', e', st'⟩ := getF X hx hZ hown (host := "") (Or.inl (hw _ (rFld_mem r1))) Via.refl rfl F (g := fr (adr k sa n0) m pc ls (.ref a :: r)) rfl rfl hd
        exact Beh.stay X' (by rw [e']; exact S) N st'
      · cases hs
    · cases hs
  · cases hs
theorem hPut_sound (hw : ∀ d ∈ ws, d.before a0 Z = true) (X : Stand p l e R s m args below meth c T locs cells slots) (hx : p.tables.exec = Jvm.exec) (hZ : Z.Warmed39 s.vm) (hown : s.vm.findClass y.cls = some m.cls) (hnm : meth.name = y.name)
    {i : Nat} (hd : decode c.code pc = .ok (.putfield i, 3)) {q : Nat × List Value × AHeap} (hs : hPut ws k y.cls y.name i pc H st = some q) (S : Sim Z ws k sa n0 H T.heap) (N : Fr n0 locs) :
    Beh p l e R s m args below meth c T Z ws k sa n0 cells slots H (fr (adr k sa n0) m pc ls st) q.1 ls q.2.1 q.2.2 := by
  unfold hPut at hs
  split at hs
  · rename_i v a r
    split at hs
    · rename_i C j ty C' vs q1 q2
      split at hs
      · rename_i hC; obtain ⟨rfl, hk, hj⟩ := hC
        obtain ⟨v', hv, rfl⟩ := Option.map_eq_some_iff.mp hs
        obtain ⟨n, t, r1, r2, r3, r4, ⟨ki, r5⟩, r6⟩ := pfR_some q1
        have SO := S.2.2.2.2 a _ q2
        obtain ⟨w, hw', F⟩ := SO.2 n t j r2
        obtain ⟨g1, g2⟩ := putv_ok (adr k sa n0) hv
        obtain ⟨T', h', X', e', W, st'⟩ := putFN X hx hZ hown (hw _ (rFld_mem r1)) Via.refl rfl F SO.1 (r4.imp (fun q => hw _ q) fun q => ⟨hw _ q.1, q.2.1, hnm.trans q.2.2⟩) (hw _ r5) r3 g1 g2 (g := fr (adr k sa n0) m pc ls (v :: .ref a :: r)) rfl rfl hd
        have LL : ∀ {n' t' : String}, (n', t') ∈ olay ws C → Laid Z a0 C C n' t' := fun q => (lay_mem q).1.imp (fun q => hw _ q) (fun q => hw _ q)
        have O' : SimO Z ws (adr k sa n0) h' (adr k sa n0 a) (.object C, vs.set j v') := by
          refine ⟨SO.1.wr W, fun n' t' j' q' => ?_⟩
          obtain ⟨u, hu, F'⟩ := SO.2 n' t' j' q'
          by_cases ej : j = j'
          · subst ej
            obtain ⟨rfl, rfl⟩ := fidx_inj r2 q'
            exact ⟨v', by rw [List.getElem?_set_self hj], F.same W⟩
          · refine ⟨u, by rw [List.getElem?_set_ne ej]; exact hu, F'.other W (Or.inr ?_)⟩
            obtain ⟨-, ty', p'⟩ := lay_mem (fidx_mem q')
            refine slot_ne (LL (fidx_mem q')) (LL (fidx_mem r2)) (fun en => ?_) p' r3
            rcases r6 n' t' (fidx_mem q') with g | g
            · exact g en
            · subst en g; rw [r2] at q'; exact ej (Option.some.inj q')
        refine ⟨T', _, ?_, by rw [e']; exact Wr.upd S W O', Fr.snoc X' N (adr_ge hk), st'⟩
        show Stand p l e R s m args below meth c T' _ (cells + ((H.set a (.object C, vs.set j v')).length - H.length)) (slots + (tot ws (H.set a (.object C, vs.set j v')) - tot ws H))
        rw [List.length_set, tot_set (o := (.object C, vs)) (o' := (.object C, vs.set j v')) q2 rfl, Nat.sub_self, Nat.sub_self]
        exact X'
      · cases hs
    · cases hs
  · cases hs
theorem hNew_sound (hw : ∀ d ∈ ws, d.before a0 Z = true) (X : Stand p l e R s m args below meth c T locs cells slots) (hx : p.tables.exec = Jvm.exec) (hZ : Z.Warmed39 s.vm) (hown : s.vm.findClass y.cls = some m.cls)
    {i : Nat} (hd : decode c.code pc = .ok (.new i, 3)) {q : Nat × List Value × AHeap} (hs : hNew ws y.cls i pc H st = some q) (S : Sim Z ws k sa n0 H T.heap) (N : Fr n0 locs)
    (hc : cells + (q.2.2.length - H.length) ≤ R.cells) (hl : slots + (tot ws q.2.2 - tot ws H) ≤ R.slots) (hz0 : T.heap.size = s.heap.size + cells) :
    Beh p l e R s m args below meth c T Z ws k sa n0 cells slots H (fr (adr k sa n0) m pc ls st) q.1 ls q.2.1 q.2.2 := by
  unfold hNew at hs
  split at hs
  · rename_i C q1
    split at hs
    · rename_i g; cases hs
      obtain ⟨ki, hki⟩ := Option.isSome_iff_exists.mp g.1
      have ec : (H ++ [(FieldType.object C, (olay ws C).map dflt)]).length - H.length = 1 := by simp
      have es : tot ws (H ++ [(FieldType.object C, (olay ws C).map dflt)]) - tot ws H = ki := by
        rw [tot_app]; simp [cost, hki]
      dsimp only at hc hl ⊢
      rw [ec] at hc; rw [es] at hl
      have hz := S.next
      obtain ⟨T', h', X', e', E, A, D, -, st'⟩ := newO X hx hZ hown (hw _ (rCls_mem q1)) (hw _ (rInst_mem hki)) (hw _ (hasInit_mem g.2)) rfl (g := fr (adr k sa n0) m pc ls st) rfl hd hc hl
      have hz' : h'.size = T.heap.size + 1 := by
        have u1 := X'.heapSize
        have a1 : (T.heap.size : Nat) < h'.size := A.lt
        rw [e'] at u1
        omega
      refine ⟨T', locs, by rw [ec, es]; exact X', ?_, N, ?_⟩
      · rw [e']
        refine S.push E hz' ⟨A, fun n t j q => ?_⟩
        have hm := fidx_mem q
        obtain ⟨q2, ty, q3⟩ := lay_mem hm
        refine ⟨dflt (n, t), by rw [List.getElem?_map, idx_get q]; rfl, ?_⟩
        have F := D (O := C) (nm := n) (d := t) (q2.imp (fun q => hw _ q) (fun q => hw _ q)) q3
        have e3 : ren (adr k sa n0) (dflt (n, t)) = defaultValue ty := by simp only [dflt, q3, ren_dflt]
        rw [e3]; exact F
      · intro target ht
        rw [hz] at st'
        exact st' target ht
    · cases hs
  · cases hs
theorem hNewA_sound (hw : ∀ d ∈ ws, d.before a0 Z = true) (X : Stand p l e R s m args below meth c T locs cells slots) (hx : p.tables.exec = Jvm.exec) (hZ : Z.Warmed39 s.vm)
    {aty : ArrayType} (hd : decode c.code pc = .ok (.newarray aty, 2)) {q : Nat × List Value × AHeap} (hs : hNewA ws aty pc H st = some q) (S : Sim Z ws k sa n0 H T.heap) (N : Fr n0 locs)
    (hc : cells + (q.2.2.length - H.length) ≤ R.cells) (hl : slots + (tot ws q.2.2 - tot ws H) ≤ R.slots) (hz0 : T.heap.size = s.heap.size + cells) :
    Beh p l e R s m args below meth c T Z ws k sa n0 cells slots H (fr (adr k sa n0) m pc ls st) q.1 ls q.2.1 q.2.2 := by
  unfold hNewA at hs
  split at hs
  · rename_i n r
    split at hs
    · rename_i g; cases hs
      obtain ⟨g1, g2, g3⟩ := g
      have ec : (H ++ [(FieldType.array (newarray.typeOf aty), List.replicate n.toNatClampNeg (defaultValue (newarray.typeOf aty)))]).length - H.length = 1 := by simp
      have es : tot ws (H ++ [(FieldType.array (newarray.typeOf aty), List.replicate n.toNatClampNeg (defaultValue (newarray.typeOf aty)))]) - tot ws H = n.toNatClampNeg := by
        rw [tot_app]; simp [cost]
      dsimp only at hc hl ⊢
      rw [ec] at hc; rw [es] at hl
      have hz := S.next
      obtain ⟨T', h', cA, X', e', E, A, st'⟩ := newP X hx hZ (hw _ (hasArr_mem g1)) rfl (g := fr (adr k sa n0) m pc ls (.int n :: r)) rfl hd rfl g2 (cap := n.toNatClampNeg) (Nat.le_refl _) g3 hc hl
      have hz' : h'.size = T.heap.size + 1 := by
        have u1 := X'.heapSize
        have a1 : (T.heap.size : Nat) < h'.size := A.lt
        rw [e'] at u1
        omega
      refine ⟨T', locs, by rw [ec, es]; exact X', ?_, N, ?_⟩
      · rw [e']
        refine S.push E hz' ⟨_, A, ?_⟩
        simp [newA, ren_dflt]
      · intro target ht
        rw [hz] at st'
        exact st' target ht
    · cases hs
  · cases hs
theorem hLd_some {ok : FieldType → Bool} {q : Nat × List Value × AHeap} (hs : hLd ok pc H st = some q) : ∃ j a r ty vs v, st = .int j :: .ref a :: r ∧ H[a]? = some (.array ty, vs) ∧ ok ty = true ∧ ¬ j < 0 ∧ vs[j.toNatClampNeg]? = some v ∧ q = (pc + 1, v :: r, H) := by
  unfold hLd at hs
  split at hs
  · split at hs
    · split at hs
      · rename_i g
        obtain ⟨v, h1, h2⟩ := Option.map_eq_some_iff.mp hs
        exact ⟨_, _, _, _, _, v, rfl, by assumption, g.1, g.2, h1, h2.symm⟩
      · cases hs
    · cases hs
  · cases hs
theorem hSt_some {ok : FieldType → Bool} {q : Nat × List Value × AHeap} (hs : hSt ok k pc H st = some q) : ∃ v j a r ty vs v', st = v :: .int j :: .ref a :: r ∧ H[a]? = some (.array ty, vs) ∧ ok ty = true ∧ k ≤ a ∧ ¬ j < 0 ∧ j.toNatClampNeg < vs.length ∧ putv ty v = some v' ∧ q = (pc + 1, r, H.set a (.array ty, vs.set j.toNatClampNeg v')) := by
  unfold hSt at hs
  split at hs
  · split at hs
    · split at hs
      · rename_i g
        obtain ⟨v, h1, h2⟩ := Option.map_eq_some_iff.mp hs
        exact ⟨_, _, _, _, _, _, v, rfl, by assumption, g.1, g.2.1, g.2.2.1, g.2.2.2, h1, h2.symm⟩
      · cases hs
    · cases hs
  · cases hs
theorem hLen_some {q : Nat × List Value × AHeap} (hs : hLen pc H st = some q) : ∃ a r ty vs, st = .ref a :: r ∧ H[a]? = some (.array ty, vs) ∧ q = (pc + 1, .int vs.length.toInt32 :: r, H) := by
  unfold hLen at hs
  split at hs
  · split at hs
    · cases hs; exact ⟨_, _, _, _, rfl, by assumption, rfl⟩
    · cases hs
  · cases hs
/-- behind a store into an array -/
theorem st_beh {T' : State} {h' : Heap} {a j : Nat} {ty : FieldType} {vs : List Value} {v' : Value} {r : List Value} {g : JFrame} (X' : Stand p l e R s m args below meth c T' (locs ++ [⟨adr k sa n0 a, j⟩]) cells slots) (e' : T'.heap = h') (W : Wr T.heap h' (adr k sa n0 a) j (ren (adr k sa n0) v'))
    (S : Sim Z ws k sa n0 H T.heap) (N : Fr n0 locs) (q2 : H[a]? = some (.array ty, vs)) (hk : k ≤ a)
    (st' : ∀ target, Steps p.tables e below (T'.setTop (fr (adr k sa n0) m (pc + 1) ls r)) target → Steps p.tables e below (T.setTop g) target) :
    Beh p l e R s m args below meth c T Z ws k sa n0 cells slots H g (pc + 1) ls r (H.set a (.array ty, vs.set j v')) := by
  obtain ⟨cl, A, es⟩ := S.2.2.2.2 a _ q2
  refine ⟨T', _, ?_, by rw [e']; exact Wr.upd S W ⟨_, A.same W, size_set cl j _ _ es rfl⟩, Fr.snoc X' N (adr_ge hk), st'⟩
  rw [List.length_set, tot_set (o := (.array ty, vs)) (o' := (.array ty, vs.set j v')) q2 (by simp [cost]), Nat.sub_self, Nat.sub_self]
  exact X'
set_option maxHeartbeats 1000000 in
theorem hstep_sound (hw : ∀ d ∈ ws, d.before a0 Z = true) (X : Stand p l e R s m args below meth c T locs cells slots) (hx : p.tables.exec = Jvm.exec) (hZ : Z.Warmed39 s.vm) (hown : s.vm.findClass y.cls = some m.cls) (hnm : meth.name = y.name)
    {ins : Instr} {len : Nat} (hd : decode c.code pc = .ok (ins, len)) {q : Nat × List Value × AHeap} (hs : hstep ws k y ins len pc st H = some q) (S : Sim Z ws k sa n0 H T.heap) (N : Fr n0 locs)
    (hc : cells + (q.2.2.length - H.length) ≤ R.cells) (hl : slots + (tot ws q.2.2 - tot ws H) ≤ R.slots) (hz0 : T.heap.size = s.heap.size + cells) :
    Beh p l e R s m args below meth c T Z ws k sa n0 cells slots H (fr (adr k sa n0) m pc ls st) q.1 ls q.2.1 q.2.2 := by
  unfold hstep at hs
  split at hs
  · obtain ⟨rfl, hs⟩ := chk_some hs
    exact hGet_sound hw X hx hZ hown hd hs S N
  · obtain ⟨rfl, hs⟩ := chk_some hs
    exact hPut_sound hw X hx hZ hown hnm hd hs S N
  · obtain ⟨rfl, hs⟩ := chk_some hs
    exact hNew_sound hw X hx hZ hown hd hs S N hc hl hz0
  · obtain ⟨rfl, hs⟩ := chk_some hs
    exact hNewA_sound hw X hx hZ hd hs S N hc hl hz0
  · obtain ⟨rfl, hs⟩ := chk_some hs
    obtain ⟨j, a, r, ty, vs, v, rfl, q2, ho, hj, hv, rfl⟩ := hLd_some hs
    obtain rfl : ty = _ := of_decide_eq_true ho
    obtain ⟨cl, A, es⟩ := S.2.2.2.2 a _ q2
    have hlt := (List.getElem?_eq_some_iff.mp hv).1
    exact Beh.stay X S N fun target ht => X.iaload hx (j := j) (v := ren (adr k sa n0) v) A.1 (State.isArrayOf_alike hZ.alike A.2.1) A.2.2 (fun g => g.elim hj fun g => by rw [es] at g; simp at g; omega) (by rw [es, List.getElem?_toArray, List.getElem?_map, hv]; rfl) (g := fr (adr k sa n0) m pc ls (.int j :: .ref a :: r)) rfl rfl hd target ht
  · obtain ⟨rfl, hs⟩ := chk_some hs
    obtain ⟨j, a, r, ty, vs, v, rfl, q2, ho, hj, hv, rfl⟩ := hLd_some hs
    obtain rfl : ty = _ := of_decide_eq_true ho
    obtain ⟨cl, A, es⟩ := S.2.2.2.2 a _ q2
    have hlt := (List.getElem?_eq_some_iff.mp hv).1
    exact Beh.stay X S N fun target ht => X.caload hx (j := j) (v := ren (adr k sa n0) v) A.1 (State.isArrayOf_alike hZ.alike A.2.1) A.2.2 (fun g => g.elim hj fun g => by rw [es] at g; simp at g; omega) (by rw [es, List.getElem?_toArray, List.getElem?_map, hv]; rfl) (g := fr (adr k sa n0) m pc ls (.int j :: .ref a :: r)) rfl rfl hd target ht
  · obtain ⟨rfl, hs⟩ := chk_some hs
    obtain ⟨j, a, r, ty, vs, v, rfl, q2, ho, hj, hv, rfl⟩ := hLd_some hs
    obtain rfl : ty = _ := of_decide_eq_true ho
    obtain ⟨cl, A, es⟩ := S.2.2.2.2 a _ q2
    have hlt := (List.getElem?_eq_some_iff.mp hv).1
    exact Beh.stay X S N fun target ht => X.laload hx (j := j) (v := ren (adr k sa n0) v) A.1 (State.isArrayOf_alike hZ.alike A.2.1) A.2.2 (fun g => g.elim hj fun g => by rw [es] at g; simp at g; omega) (by rw [es, List.getElem?_toArray, List.getElem?_map, hv]; rfl) (g := fr (adr k sa n0) m pc ls (.int j :: .ref a :: r)) rfl rfl hd target ht
  · obtain ⟨rfl, hs⟩ := chk_some hs
    obtain ⟨j, a, r, ty, vs, v, rfl, q2, ho, hj, hv, rfl⟩ := hLd_some hs
    obtain ⟨cl, A, es⟩ := S.2.2.2.2 a _ q2
    have hlt := (List.getElem?_eq_some_iff.mp hv).1
    simp only [okB, Bool.or_eq_true, decide_eq_true_eq] at ho
    rcases ho with rfl | rfl
    · exact Beh.stay X S N fun target ht => X.baloadBytes hx (j := j) (v := ren (adr k sa n0) v) A.1 (State.isArrayOf_alike hZ.alike A.2.1) A.2.2 (fun g => g.elim hj fun g => by rw [es] at g; simp at g; omega) (by rw [es, List.getElem?_toArray, List.getElem?_map, hv]; rfl) (g := fr (adr k sa n0) m pc ls (.int j :: .ref a :: r)) rfl rfl hd target ht
    · exact Beh.stay X S N fun target ht => X.baloadBooleans hx (j := j) (v := ren (adr k sa n0) v) A.1 (State.isArrayOf_alike hZ.alike A.2.1) A.2.2 (fun g => g.elim hj fun g => by rw [es] at g; simp at g; omega) (by rw [es, List.getElem?_toArray, List.getElem?_map, hv]; rfl) (g := fr (adr k sa n0) m pc ls (.int j :: .ref a :: r)) rfl rfl hd target ht
  · obtain ⟨rfl, hs⟩ := chk_some hs
    obtain ⟨v, j, a, r, ty, vs, v', rfl, q2, ho, hk, hj, hlt, hv, rfl⟩ := hSt_some hs
    obtain rfl : ty = _ := of_decide_eq_true ho
    obtain ⟨cl, A, es⟩ := S.2.2.2.2 a _ q2
    cases v <;> simp only [putv, Option.some.injEq, reduceCtorEq] at hv
    subst hv
    obtain ⟨T', h', X', e', W, st'⟩ := stI X hx hZ rfl A (j := j) (fun g => g.elim hj fun g => by rw [es] at g; simp at g; omega) (g := fr (adr k sa n0) m pc ls (.int _ :: .int j :: .ref a :: r)) rfl rfl hd
    exact st_beh X' e' W S N q2 hk st'
  · obtain ⟨rfl, hs⟩ := chk_some hs
    obtain ⟨v, j, a, r, ty, vs, v', rfl, q2, ho, hk, hj, hlt, hv, rfl⟩ := hSt_some hs
    obtain rfl : ty = _ := of_decide_eq_true ho
    obtain ⟨cl, A, es⟩ := S.2.2.2.2 a _ q2
    cases v <;> simp only [putv, Option.some.injEq, reduceCtorEq] at hv
    subst hv
    obtain ⟨T', h', X', e', W, st'⟩ := stC X hx hZ rfl A (j := j) (fun g => g.elim hj fun g => by rw [es] at g; simp at g; omega) (g := fr (adr k sa n0) m pc ls (.int _ :: .int j :: .ref a :: r)) rfl rfl hd
    exact st_beh X' e' W S N q2 hk st'
  · obtain ⟨rfl, hs⟩ := chk_some hs
    obtain ⟨v, j, a, r, ty, vs, v', rfl, q2, ho, hk, hj, hlt, hv, rfl⟩ := hSt_some hs
    obtain rfl : ty = _ := of_decide_eq_true ho
    obtain ⟨cl, A, es⟩ := S.2.2.2.2 a _ q2
    cases v <;> simp only [putv, Option.some.injEq, reduceCtorEq] at hv
    subst hv
    obtain ⟨T', h', X', e', W, st'⟩ := stJ X hx hZ rfl A (j := j) (fun g => g.elim hj fun g => by rw [es] at g; simp at g; omega) (g := fr (adr k sa n0) m pc ls (.long _ :: .int j :: .ref a :: r)) rfl rfl hd
    exact st_beh X' e' W S N q2 hk st'
  · obtain ⟨rfl, hs⟩ := chk_some hs
    obtain ⟨v, j, a, r, ty, vs, v', rfl, q2, ho, hk, hj, hlt, hv, rfl⟩ := hSt_some hs
    obtain ⟨cl, A, es⟩ := S.2.2.2.2 a _ q2
    simp only [okB, Bool.or_eq_true, decide_eq_true_eq] at ho
    rcases ho with rfl | rfl
    · cases v <;> simp only [putv, Option.some.injEq, reduceCtorEq] at hv
      subst hv
      obtain ⟨T', h', X', e', W, st'⟩ := stB X hx hZ rfl A (j := j) (fun g => g.elim hj fun g => by rw [es] at g; simp at g; omega) (g := fr (adr k sa n0) m pc ls (.int _ :: .int j :: .ref a :: r)) rfl rfl hd
      exact st_beh X' e' W S N q2 hk st'
    · cases v <;> simp only [putv, Option.some.injEq, reduceCtorEq] at hv
      subst hv
      obtain ⟨T', h', X', e', W, st'⟩ := stZ X hx hZ rfl A (j := j) (fun g => g.elim hj fun g => by rw [es] at g; simp at g; omega) (g := fr (adr k sa n0) m pc ls (.int _ :: .int j :: .ref a :: r)) rfl rfl hd
      exact st_beh X' e' W S N q2 hk st'
  · obtain ⟨rfl, hs⟩ := chk_some hs
    obtain ⟨a, r, ty, vs, rfl, q2, rfl⟩ := hLen_some hs
    obtain ⟨cl, A, es⟩ := S.2.2.2.2 a _ q2
    have ez : cl.slots.size = vs.length := by rw [es]; simp
    refine Beh.stay X S N fun target ht => X.arraylength hx (cell := cl) A.1 (State.isArrayOf_alike hZ.alike A.2.1) (g := fr (adr k sa n0) m pc ls (.ref a :: r)) rfl rfl hd target ?_
    rw [ez]; exact ht
  · obtain ⟨rfl, hs⟩ := chk_some hs
    obtain ⟨v, hv, rfl⟩ := Option.map_eq_some_iff.mp hs
    exact Beh.stay X S N (X.ldcInt hx hown (mvT hZ (hw _ (rCon_mem hv))) (g := fr (adr k sa n0) m pc ls st) rfl hd)
  · obtain ⟨rfl, hs⟩ := chk_some hs
    obtain ⟨v, hv, rfl⟩ := Option.map_eq_some_iff.mp hs
    exact Beh.stay X S N (X.ldcwInt hx hown (mvT hZ (hw _ (rCon_mem hv))) (g := fr (adr k sa n0) m pc ls st) rfl hd)
  · obtain ⟨rfl, hs⟩ := chk_some hs
    obtain ⟨v, hv, rfl⟩ := Option.map_eq_some_iff.mp hs
    exact Beh.stay X S N (X.ldc2Long hx hown (mvT hZ (hw _ (rConL_mem hv))) (g := fr (adr k sa n0) m pc ls st) rfl hd)
  · cases hs
end H
theorem hstep_size {ws : Ws} {k : Nat} {y : MethodName} {ins : Instr} {len pc : Nat} {st : List Value} {H : AHeap} {q : Nat × List Value × AHeap} (hs : hstep ws k y ins len pc st H = some q) : H.length ≤ q.2.2.length ∧ tot ws H ≤ tot ws q.2.2 := by
  unfold hstep at hs
  split at hs
  · obtain ⟨rfl, hs⟩ := chk_some hs
    unfold hGet at hs
    split at hs
    · split at hs
      · split at hs
        · obtain ⟨v, -, rfl⟩ := Option.map_eq_some_iff.mp hs; exact ⟨Nat.le_refl _, Nat.le_refl _⟩
        · cases hs
      · cases hs
    · cases hs
  · obtain ⟨rfl, hs⟩ := chk_some hs
    unfold hPut at hs
    split at hs
    · split at hs
      · rename_i C j ty C' vs q1 q2
        split at hs
        · obtain ⟨v, -, rfl⟩ := Option.map_eq_some_iff.mp hs
          exact ⟨Nat.le_of_eq (by rw [List.length_set]), Nat.le_of_eq (tot_set (o := (.object C', vs)) (o' := (.object C', vs.set j v)) q2 rfl).symm⟩
        · cases hs
      · cases hs
    · cases hs
  · obtain ⟨rfl, hs⟩ := chk_some hs
    unfold hNew at hs
    split at hs
    · split at hs
      · cases hs; exact ⟨by simp, by rw [tot_app]; omega⟩
      · cases hs
    · cases hs
  · obtain ⟨rfl, hs⟩ := chk_some hs
    unfold hNewA at hs
    split at hs
    · split at hs
      · cases hs; exact ⟨by simp, by rw [tot_app]; omega⟩
      · cases hs
    · cases hs
  all_goals first
    | (obtain ⟨rfl, hs⟩ := chk_some hs; obtain ⟨j, a, r, ty, vs, v, rfl, q2, ho, hj, hv, rfl⟩ := hLd_some hs; exact ⟨Nat.le_refl _, Nat.le_refl _⟩)
    | (obtain ⟨rfl, hs⟩ := chk_some hs; obtain ⟨v, j, a, r, ty, vs, v', rfl, q2, ho, hk, hj, hlt, hv, rfl⟩ := hSt_some hs; exact ⟨Nat.le_of_eq (by rw [List.length_set]), Nat.le_of_eq (tot_set (o := (.array ty, vs)) (o' := (.array ty, vs.set _ v')) q2 (by simp [cost])).symm⟩)
    | (obtain ⟨rfl, hs⟩ := chk_some hs; obtain ⟨a, r, ty, vs, rfl, q2, rfl⟩ := hLen_some hs; exact ⟨Nat.le_refl _, Nat.le_refl _⟩)
    | (obtain ⟨rfl, hs⟩ := chk_some hs; obtain ⟨v, hv, rfl⟩ := Option.map_eq_some_iff.mp hs; exact ⟨Nat.le_refl _, Nat.le_refl _⟩)
    | (cases hs; done)
end Jvm.Own
namespace Jvm.Own
open Sem ClassFile Op Lib Jvm.Stand Jvm.Free Jvm.LawKit Jvm.RoadKit
/-! OWN 5: the run is the machine's -/
theorem ent_ren (f : Nat → Nat) : ∀ as : List Value, ent (as.map (ren f)) = (ent as).map (renS f)
  | [] => rfl
  | v :: r => by
    simp only [List.map_cons, ent, ren_cat, ent_ren f r]
    split <;> rfl
theorem fill_eq : ∀ (as : List Value) (acc : Array Slot), as.foldl (fun acc v => if v.category = 2 then (acc.push (.val v)).push .second else acc.push (.val v)) acc = acc ++ (ent as).toArray
  | [], acc => by simp [ent]
  | v :: r, acc => by
    simp only [List.foldl_cons, ent]
    split
    · rw [fill_eq r]; simp [← Array.toList_inj]
    · rw [fill_eq r]; simp [← Array.toList_inj]
theorem entry_eq (f : Nat → Nat) (m : MethodId) (as : List Value) (mx : Nat) : entryFrame m (as.map (ren f)).toArray mx = fr f m 0 (entry as mx) [] := by
  have h : argsToLocals (as.map (ren f)).toArray mx = ((entry as mx).map (renS f)).toArray := by
    unfold argsToLocals entry
    simp only [List.foldl_toArray']
    rw [fill_eq, ent_ren]
    simp [← Array.toList_inj, renS]
  unfold entryFrame
  rw [h]; rfl
theorem entry_len {as : List Value} {mx : Nat} (h : (ent as).length ≤ mx) : (entry as mx).length = mx := by simp [entry]; omega
theorem wsum_ren (f : Nat → Nat) (st : List Value) : ((st.map (ren f)).map fun v => v.category).sum = wsum st := by
  unfold wsum
  rw [List.map_map]
  congr 1
  apply List.map_congr_left
  intro v _
  exact ren_cat f v
section Inv
variable {ws : Ws} {dn : Dn} {k : Nat} {y : MethodName} {bytes : ByteArray} {ret : Option FieldType} {pc : Nat} {ls : List Slot} {st : List Value} {H : AHeap}
theorem cR_some {i : Nat} {y' : MethodName} {b : ByteArray} {mx na sl : Nat} {r : Option FieldType} (h : cR ws dn y i = some (y', b, mx, r, na, sl)) :
    Jvm.Cond.methodLink y.cls i y' ∈ ws ∧ Jvm.Cond.code y' b mx r ∈ ws ∧ Jvm.Cond.initialized y'.cls ∈ ws ∧ Jvm.plainName y'.cls = true ∧ (y'.cls ≠ "java/lang/invoke/MethodHandle" ∧ y'.cls ≠ "java/lang/invoke/VarHandle") ∧ rCode ws y' = some (b, mx, r) ∧
    ∃ f' l' f l sig, dnOf dn y' = some (f', l') ∧ dnOf dn y = some (f, l) ∧ parseMethodDescriptor y'.desc = some sig ∧ na = sig.parameters.length ∧ f' + 1 ≤ f ∧ sl + (mx + 11) + l' ≤ l := by
  unfold cR at h
  split at h
  · cases h
  · rename_i z q1
    split at h
    · rename_i b' mx' r' f' l' f l sig q2 q3 q4 q5
      split at h
      · rename_i g
        cases h
        obtain ⟨g1, g2, g3, g4, g5, g6⟩ := g
        exact ⟨rMth_mem q1, rCode_mem q2, hasInit_mem g1, g2, ⟨g3, g4⟩, q2, f', l', f, l, sig, q3, q4, q5, rfl, g5, by omega⟩
      · cases h
    · cases h
theorem act_ret {v : Option Value} (h : act ws dn k y bytes ret pc ls st H = some (.inl v)) : (∃ z r t, decode bytes pc = .ok (.ireturn, 1) ∧ st = .int z :: r ∧ ret = some t ∧ (t = .int ∨ t = .boolean ∨ t = .byte ∨ t = .char ∨ t = .short) ∧ v = some (.int (nar t z))) ∨
    (∃ z, decode bytes pc = .ok (.lreturn, 1) ∧ st = [.long z] ∧ ret = some .long ∧ v = some (.long z)) ∨ (decode bytes pc = .ok (.return_, 1) ∧ st = [] ∧ ret = none ∧ v = none) := by
  unfold act at h
  split at h
  · cases h
  rename_i ins len hd
  split at h
  · cases h
  split at h
  · cases h
  unfold cstep at h
  split at h
  · obtain ⟨rfl, h⟩ := chk_some h
    split at h
    · split at h
      · rename_i g; cases h; exact Or.inl ⟨_, _, _, hd, rfl, rfl, g, rfl⟩
      · cases h
    · cases h
  · obtain ⟨rfl, h⟩ := chk_some h
    split at h
    · cases h; exact Or.inr (Or.inl ⟨_, hd, rfl, rfl, rfl⟩)
    · cases h
  · obtain ⟨rfl, h⟩ := chk_some h
    split at h
    · cases h; exact Or.inr (Or.inr ⟨hd, rfl, rfl, rfl⟩)
    · cases h
  · obtain ⟨rfl, h⟩ := chk_some h
    split at h
    · split at h <;> cases h
    · cases h
  · obtain ⟨rfl, h⟩ := chk_some h
    split at h
    · split at h
      · split at h <;> cases h
      · cases h
    · split at h
      · split at h
        · split at h <;> cases h
        · cases h
      · cases h
  · obtain ⟨rfl, h⟩ := chk_some h
    split at h
    · split at h
      · split at h
        · split at h <;> cases h
        · cases h
      · cases h
    · cases h
  · cases h
theorem act_step {pc' : Nat} {ls' : List Slot} {st' : List Value} {H' : AHeap} (h : act ws dn k y bytes ret pc ls st H = some (.inr (.inl (pc', ls', st', H')))) : ∃ ins len, decode bytes pc = .ok (ins, len) ∧
    ((xstep ins len pc ls st = some (pc', ls', st') ∧ H' = H) ∨ (ls' = ls ∧ hstep ws k y ins len pc st H = some (pc', st', H')) ∨
     (∃ i sl a r, ins = .invokespecial i ∧ len = 3 ∧ oR ws dn y i = some sl ∧ st = .ref a :: r ∧ wsum r ≤ sl ∧ pc' = pc + 3 ∧ ls' = ls ∧ st' = r ∧ H' = H)) := by
  unfold act at h
  split at h
  · cases h
  rename_i ins len hd
  refine ⟨ins, len, hd, ?_⟩
  split at h
  · rename_i g; cases h; exact Or.inl ⟨g, rfl⟩
  split at h
  · rename_i g; cases h; exact Or.inr (Or.inl ⟨rfl, g⟩)
  unfold cstep at h
  split at h
  · obtain ⟨rfl, h⟩ := chk_some h
    split at h
    · split at h <;> cases h
    · cases h
  · obtain ⟨rfl, h⟩ := chk_some h
    split at h <;> cases h
  · obtain ⟨rfl, h⟩ := chk_some h
    split at h <;> cases h
  · obtain ⟨rfl, h⟩ := chk_some h
    split at h
    · split at h <;> cases h
    · cases h
  · obtain ⟨rfl, h⟩ := chk_some h
    split at h
    · rename_i sl ho
      split at h
      · split at h
        · rename_i g; cases h; exact Or.inr (Or.inr ⟨_, sl, _, _, rfl, rfl, ho, rfl, g, rfl, rfl, rfl, rfl⟩)
        · cases h
      · cases h
    · split at h
      · split at h
        · split at h <;> cases h
        · cases h
      · cases h
  · obtain ⟨rfl, h⟩ := chk_some h
    split at h
    · split at h
      · split at h
        · split at h <;> cases h
        · cases h
      · cases h
    · cases h
  · cases h
/-- the three kinds of call -/
theorem act_call {y' : MethodName} {b : ByteArray} {r : Option FieldType} {en : List Slot} {rest : List Value} (h : act ws dn k y bytes ret pc ls st H = some (.inr (.inr (y', b, r, en, rest)))) : ∃ i mx na sl as, cR ws dn y i = some (y', b, mx, r, na, sl) ∧ en = entry as mx ∧ (ent as).length ≤ mx ∧ wsum rest ≤ sl ∧
    ((decode bytes pc = .ok (.invokestatic i, 3) ∧ Jvm.Cond.static y' ∈ ws ∧ as.length = na ∧ st = as.reverse ++ rest) ∨
     (∃ a as', as = .ref a :: as' ∧ as'.length = na ∧ st = as'.reverse ++ .ref a :: rest ∧ Jvm.Cond.instanceMethod y' ∈ ws ∧
      ((decode bytes pc = .ok (.invokespecial i, 3) ∧ y'.name = "<init>" ∧ r = none) ∨
       (decode bytes pc = .ok (.invokevirtual i, 3) ∧ ∃ C vs, H[a]? = some (.object C, vs) ∧ ((Jvm.Cond.privateMethod y' ∈ ws ∧ ∃ ki, Jvm.Cond.instantiable y'.cls ki ∈ ws) ∨ (Jvm.Cond.declares y' ∈ ws ∧ Jvm.Cond.selects y'.cls y' y' ∈ ws ∧ C = y'.cls)))))) := by
  unfold act at h
  split at h
  · cases h
  rename_i ins len hd
  split at h
  · cases h
  split at h
  · cases h
  unfold cstep at h
  split at h
  · obtain ⟨rfl, h⟩ := chk_some h
    split at h
    · split at h <;> cases h
    · cases h
  · obtain ⟨rfl, h⟩ := chk_some h
    split at h <;> cases h
  · obtain ⟨rfl, h⟩ := chk_some h
    split at h <;> cases h
  · rename_i i _ _
    obtain ⟨rfl, h⟩ := chk_some h
    split at h
    · rename_i y1 b1 mx r1 na sl hq
      split at h
      · rename_i g
        cases h
        unfold sR at hq
        split at hq
        · rename_i q hc
          split at hq
          · rename_i hs
            cases hq
            refine ⟨i, mx, na, sl, _, hc, rfl, g.2.2, g.2.1, Or.inl ⟨hd, hasStat_mem hs, by simp; omega, by simp⟩⟩
          · cases hq
        · cases hq
      · cases h
    · cases h
  · rename_i i _ _
    obtain ⟨rfl, h⟩ := chk_some h
    split at h
    · split at h
      · split at h <;> cases h
      · cases h
    · split at h
      · rename_i y1 b1 mx r1 na sl hq
        split at h
        · rename_i a rest' hdrop
          split at h
          · rename_i g
            cases h
            unfold nR at hq
            split at hq
            · rename_i q hc
              split at hq
              · rename_i hs
                cases hq
                refine ⟨i, mx, na, sl, _, hc, rfl, g.2.1, g.1, Or.inr ⟨a, _, rfl, by simp; omega, ?_, hasIM_mem hs.2.1, Or.inl ⟨hd, hs.1, hs.2.2⟩⟩⟩
                rw [List.reverse_reverse, ← hdrop, List.take_append_drop]
              · cases hq
            · cases hq
          · cases h
        · cases h
      · cases h
  · rename_i i _ _
    obtain ⟨rfl, h⟩ := chk_some h
    split at h
    · rename_i pv y1 b1 mx r1 na sl hq
      split at h
      · rename_i a rest' hdrop
        split at h
        · rename_i C vs hH
          split at h
          · rename_i g
            cases h
            unfold vR at hq
            split at hq
            · rename_i q hc
              split at hq
              · rename_i hs
                split at hq
                · rename_i hp; cases hq
                  obtain ⟨ki, hki⟩ := Option.isSome_iff_exists.mp hp.2
                  exact ⟨i, mx, na, sl, _, hc, rfl, g.2.2.1, g.2.1, Or.inr ⟨a, _, rfl, by simp; omega, by rw [List.reverse_reverse, ← hdrop, List.take_append_drop], hasIM_mem hs, Or.inr ⟨hd, C, vs, hH, Or.inl ⟨hasPriv_mem hp.1, ki, rInst_mem hki⟩⟩⟩⟩
                · split at hq
                  · rename_i hp; cases hq
                    exact ⟨i, mx, na, sl, _, hc, rfl, g.2.2.1, g.2.1, Or.inr ⟨a, _, rfl, by simp; omega, by rw [List.reverse_reverse, ← hdrop, List.take_append_drop], hasIM_mem hs, Or.inr ⟨hd, C, vs, hH, Or.inr ⟨hasDecl_mem hp.1, hasSel_mem hp.2, g.1.resolve_left (by simp)⟩⟩⟩⟩
                  · cases hq
              · cases hq
            · cases hq
          · cases h
        · cases h
      · cases h
    · cases h
  · cases h
theorem act_size {pc' : Nat} {ls' : List Slot} {st' : List Value} {H' : AHeap} (h : act ws dn k y bytes ret pc ls st H = some (.inr (.inl (pc', ls', st', H')))) : H.length ≤ H'.length ∧ tot ws H ≤ tot ws H' ∧ ls'.length = ls.length := by
  obtain ⟨ins, len, hd, ⟨g, rfl⟩ | ⟨rfl, g⟩ | ⟨i, sl, a, r, -, -, -, -, -, -, rfl, -, rfl⟩⟩ := act_step h
  · exact ⟨Nat.le_refl _, Nat.le_refl _, xstep_size g⟩
  · have := hstep_size g; exact ⟨this.1, this.2, rfl⟩
  · exact ⟨Nat.le_refl _, Nat.le_refl _, rfl⟩
end Inv
theorem run_size {ws : Ws} {dn : Dn} {k : Nat} : ∀ {n : Nat} {y : MethodName} {bytes : ByteArray} {ret : Option FieldType} {pc : Nat} {ls : List Slot} {st : List Value} {H : AHeap} {v : Option Value} {H' : AHeap}, run ws dn k n y bytes ret pc ls st H = some (v, H') → H.length ≤ H'.length ∧ tot ws H ≤ tot ws H'
  | 0, _, _, _, _, _, _, _, _, _, h => by cases h
  | n + 1, y, bytes, ret, pc, ls, st, H, v, H', h => by
    rw [run] at h
    split at h
    · cases h
    · cases h; exact ⟨Nat.le_refl _, Nat.le_refl _⟩
    · rename_i g
      have h1 := run_size h
      have h2 := act_size g
      exact ⟨Nat.le_trans h2.1 h1.1, Nat.le_trans h2.2.1 h1.2⟩
    · split at h
      · rename_i g
        have h1 := run_size h
        have h2 := run_size g
        exact ⟨Nat.le_trans h2.1 h1.1, Nat.le_trans h2.2 h1.2⟩
      · cases h
section Snd
/-- from here on the machine comes to a return of v with the heap H' -/
def Goes (p : Program) (l : Launch) (e : Env) (R : Room) (s : State) (m : MethodId) (args : Array Value) (below : List Frame) (meth : Method) (c : Code) (T : State) (Z : State) (ws : Ws) (k sa n0 cells slots : Nat) (H : AHeap) (g : JFrame) (ret : Option FieldType) (v : Option Value) (H' : AHeap) : Prop :=
  ∃ T' locs', Stand p l e R s m args below meth c T' locs' (cells + (H'.length - H.length)) (slots + (tot ws H' - tot ws H)) ∧ Sim Z ws k sa n0 H' T'.heap ∧ Fr n0 locs' ∧ (ret = none → v = none) ∧
    ∀ fs, (∀ (fj : JFrame) (acts : List Action), fj.method = m → fj.locked = none → fj.entered = [] → (doReturn e (T'.setTop fj) acts (v.map (ren (adr k sa n0)))).1 = T'.setFrames fs) → Steps p.tables e below (T.setTop g) (T'.setFrames fs)
variable {p : Program} {l : Launch} {e : Env} {R : Room} {s : State} {m : MethodId} {args : Array Value} {below : List Frame} {meth : Method} {c : Code} {T : State} {locs : List Loc} {cells slots : Nat}
  {Z : State} {a0 : Array Value} {ws : Ws} {dn : Dn} {k sa n0 : Nat}
theorem Goes.of {T1 : State} {H H1 H' : AHeap} {g g1 : JFrame} {ret : Option FieldType} {v : Option Value} (hst : ∀ target, Steps p.tables e below (T1.setTop g1) target → Steps p.tables e below (T.setTop g) target)
    (G : Goes p l e R s m args below meth c T1 Z ws k sa n0 (cells + (H1.length - H.length)) (slots + (tot ws H1 - tot ws H)) H1 g1 ret v H') (m1 : H.length ≤ H1.length ∧ tot ws H ≤ tot ws H1) (m2 : H1.length ≤ H'.length ∧ tot ws H1 ≤ tot ws H') :
    Goes p l e R s m args below meth c T Z ws k sa n0 cells slots H g ret v H' := by
  obtain ⟨T', locs', X', S', N', hv, go⟩ := G
  have e1 : cells + (H1.length - H.length) + (H'.length - H1.length) = cells + (H'.length - H.length) := by omega
  have e2 : slots + (tot ws H1 - tot ws H) + (tot ws H' - tot ws H1) = slots + (tot ws H' - tot ws H) := by omega
  rw [e1, e2] at X'
  exact ⟨T', locs', X', S', N', hv, fun fs hf => hst _ (go fs hf)⟩
def Snd (Z : State) (ws : Ws) (dn : Dn) (k sa n0 n : Nat) : Prop :=
  ∀ (y : MethodName) (bytes : ByteArray) (ret : Option FieldType) (pc : Nat) (ls : List Slot) (st : List Value) (H : AHeap) (v : Option Value) (H' : AHeap), run ws dn k n y bytes ret pc ls st H = some (v, H') →
  ∀ (p : Program) (l : Launch) (e : Env) (R : Room) (s : State) (m : MethodId) (args : Array Value) (below : List Frame) (meth : Method) (c : Code) (T : State) (locs : List Loc) (cells slots : Nat),
    Stand p l e R s m args below meth c T locs cells slots → p.tables.exec = Jvm.exec → Z.Warmed39 s.vm → s.vm.findClass y.cls = some m.cls → meth.name = y.name → meth.sig.returnType = ret → c.code = bytes → ls.length = c.maxLocals →
    (∀ f lc, dnOf dn y = some (f, lc) → f ≤ R.frames ∧ lc ≤ R.locals) → Sim Z ws k sa n0 H T.heap → Fr n0 locs → cells + (H'.length - H.length) ≤ R.cells → slots + (tot ws H' - tot ws H) ≤ R.slots → T.heap.size = s.heap.size + cells →
    Goes p l e R s m args below meth c T Z ws k sa n0 cells slots H (fr (adr k sa n0) m pc ls st) ret v H'
theorem met_of {n : Nat} (ih : Snd Z ws dn k sa n0 n) (l : Launch) {y : MethodName} {b : ByteArray} {mx f lc : Nat} {r : Option FieldType} (wsx : List Jvm.Cond) (hp : Jvm.plainName y.cls = true) {as : List Value} (he : (ent as).length ≤ mx) {H H1 : AHeap} {v : Option Value}
    (hrun : run ws dn k n y b r 0 (entry as mx) [] H = some (v, H1)) (hdn : ∀ f' l', dnOf dn y = some (f', l') → f' ≤ f ∧ l' ≤ lc) {h : Heap} (S : Sim Z ws k sa n0 H h) {rc rs : Nat} (hc : H1.length - H.length ≤ rc) (hs : tot ws H1 - tot ws H ≤ rs) :
    MetFree l y (head1 (Jvm.Cond.code y b mx r :: wsx) ({ frames := f, cells := rc, slots := rs, locals := lc } : Room)) (fun a U => a = (as.map (ren (adr k sa n0))).toArray ∧ Z.Warmed39 U.vm ∧ U.heap = h) (fun _ _ _ _ _ => True)
      (fun _ U o U' => ∃ w L, o = .returned w ∧ (w = v.map (ren (adr k sa n0)) ∧ Sim Z ws k sa n0 H1 U'.heap ∧ Fr n0 L) ∧ FrameEnd U o U' L (H1.length - H.length) (tot ws H1 - tot ws H)) := by
  refine MetFree.of_bodySF (plainFor_of_name hp) hisR ?_
  intro p e s m args below meth c s₁ Bd hml0 hP hK
  obtain ⟨rfl, hZ, hh⟩ := hP
  have hown : s.vm.findClass y.cls = some m.cls := findClass_of_methodNamed Bd.named
  have hnm := (name_of_methodNamed Bd.named Bd.method).1
  have X0 : Stand p l e ({ frames := f, cells := rc, slots := rs, locals := lc } : Room) s m (as.map (ren (adr k sa n0))).toArray below meth c s₁ [] 0 0 := Stand.of_body Bd
  have e0 : s₁.heap = h := by rw [← hh, Bd.state]; rfl
  obtain ⟨T', locs', X', S', N', hv, go⟩ := ih y b r 0 (entry as mx) [] H v H1 hrun p l e _ s m _ below meth c s₁ [] 0 0 X0 Bd.exec hZ hown hnm Bd.returns Bd.bytes (by rw [entry_len he]; exact hml0.symm) hdn (by rw [e0]; exact S) (Fr.nil n0) (by rw [Nat.zero_add]; exact hc) (by rw [Nat.zero_add]; exact hs) (by rw [e0, ← hh, Nat.add_zero])
  obtain ⟨fs, hr, hrun', hended, hW, hsame⟩ := X'.leave (v := v.map (ren (adr k sa n0))) (fun hn => by rw [Bd.returns] at hn; rw [hv hn]; rfl)
  refine ⟨_, _, castTop (entry_eq _ m as mx) (go fs hr), hrun', hended, _, locs', rfl, ⟨rfl, S', N'⟩, ⟨_, rfl⟩, hW, hsame.mono (Nat.le_of_eq (Nat.zero_add _)) (Nat.le_of_eq (Nat.zero_add _))⟩
set_option maxHeartbeats 2000000 in
theorem snd (hw : ∀ d ∈ ws, d.before a0 Z = true) : ∀ n, Snd Z ws dn k sa n0 n
  | 0 => fun y bytes ret pc ls st H v H' h => by cases h
  | n + 1 => fun y bytes ret pc ls st H v H' h p l e R s m args below meth c T locs cells slots X hx hZ hown hnm hret hby hls hF S N hc hl hz0 => by
    have ih := snd hw n
    rw [run] at h
    split at h
    · cases h
    · rename_i v' ha
      cases h
      have stay : ∀ {v : Option Value}, (ret = none → v = none) → (∀ fs, (∀ (fj : JFrame) (acts : List Action), fj.method = m → fj.locked = none → fj.entered = [] → (doReturn e (T.setTop fj) acts (v.map (ren (adr k sa n0)))).1 = T.setFrames fs) → Steps p.tables e below (T.setTop (fr (adr k sa n0) m pc ls st)) (T.setFrames fs)) →
          Goes p l e R s m args below meth c T Z ws k sa n0 cells slots H (fr (adr k sa n0) m pc ls st) ret v H := fun hv hg => ⟨T, locs, by rw [Nat.sub_self, Nat.sub_self]; exact X, S, N, hv, hg⟩
      rcases act_ret ha with ⟨z, r, t, hd, rfl, rfl, ht, rfl⟩ | ⟨z, hd, rfl, rfl, rfl⟩ | ⟨hd, rfl, rfl, rfl⟩
      · refine stay (fun h => by cases h) fun fs hf => ?_
        rcases ht with rfl | ht
        · exact retOut X hx hret (w := .int z) (rest := r.map (ren (adr k sa n0))) rfl (Or.inl ⟨rfl, Or.inl rfl, z, rfl⟩) (hb hby hd) hf
        · exact retN X hx hret ht (hb hby hd) hf
      · exact stay (fun h => by cases h) fun fs hf => retOut X hx hret (w := .long z) (rest := []) rfl (Or.inr (Or.inl ⟨rfl, rfl, z, rfl⟩)) (hb hby hd) hf
      · exact stay (fun _ => rfl) fun fs hf => X.returnOut hx hret (hb hby hd) hf
    · rename_i pc' ls' st' H1 ha
      have m1 := act_size ha
      have m2 := run_size h
      obtain ⟨ins, len, hd, ⟨g, rfl⟩ | ⟨rfl, g⟩ | ⟨i, sl, a, r, rfl, rfl, ho, rfl, hW, rfl, rfl, rfl, rfl⟩⟩ := act_step ha
      · obtain ⟨T', locs', X', S', N', hv, go⟩ := ih y bytes ret pc' ls' st' H1 v H' h p l e R s m args below meth c T locs cells slots X hx hZ hown hnm hret hby (m1.2.2.trans hls) hF S N hc hl hz0
        exact ⟨T', locs', X', S', N', hv, fun fs hf => xstep_sound X.here hx (adr k sa n0) (hb hby hd) g (go fs hf)⟩
      · obtain ⟨T1, locs1, X1, S1, N1, st1⟩ := hstep_sound (ls := ls') hw X hx hZ hown hnm (hb hby hd) g S N (by dsimp only; omega) (by dsimp only; omega) hz0
        dsimp only at X1 S1 st1
        have z1 := S.1
        have z2 := S1.1
        have z3 := S.2.1
        have G := ih y bytes ret pc' ls' st' H1 v H' h p l e R s m args below meth c T1 locs1 _ _ X1 hx hZ hown hnm hret hby hls hF S1 N1 (by omega) (by omega) (by omega)
        exact Goes.of st1 G ⟨m1.1, m1.2.1⟩ m2
      · unfold oR at ho
        split at ho
        · rename_i y1 b1 mx1 r1 f1 l1 q1 q2 q3
          split at ho
          · rename_i g
            cases ho
            obtain ⟨rfl, g2, g3, rfl, rfl, g4, g5⟩ := g
            obtain ⟨u1, u2⟩ := hF _ _ q3
            have eb : b1 = ⟨#[0xb1]⟩ := by cases b1; cases g3; rfl
            subst eb
            obtain ⟨T1, X1, e1, st1⟩ := initO X hx hZ hown (hw _ (rMth_mem q1)) (hw _ (hasIM_mem g2)) (hw _ (rCode_mem q2)) rfl (g := fr (adr k sa n0) m pc ls' (.ref a :: st')) rfl (by simp [hls]) rfl (hb hby hd) (by omega) (W := l1 - 12) (by show 2 * 0 + _ ≤ _; rw [wsum_ren]; omega) (by omega)
            have G := ih y bytes ret (pc + 3) ls' st' H1 v H' h p l e R s m args below meth c T1 locs cells slots X1 hx hZ hown hnm hret hby hls hF (by rw [e1]; exact S) N hc hl (by rw [e1]; exact hz0)
            obtain ⟨T', locs', X', S', N', hv, go⟩ := G
            exact ⟨T', locs', X', S', N', hv, fun fs hf => st1 _ (go fs hf)⟩
          · cases ho
        · cases ho
    · rename_i y' b r en rest ha
      split at h
      · rename_i v1 H1 h1
        have m1 := run_size h1
        have m2 := run_size h
        obtain ⟨i, mx, na, sl, as, hq, rfl, hen, hW, hk⟩ := act_call ha
        obtain ⟨w1, w2, w3, w4, w5, -, f', l', f, lc, sig, d1, d2, d3, d4, d5, d6⟩ := cR_some hq
        obtain ⟨u1, u2⟩ := hF _ _ d2
        have hM := met_of ih l [] w4 hen h1 (f := f') (lc := l') (fun f2 l2 q => by rw [d1] at q; cases q; exact ⟨Nat.le_refl _, Nat.le_refl _⟩) S (Nat.le_refl _) (Nat.le_refl _)
        have hB := backOf (R := R) (p := p) (e := e) (below := below) (s := s) (args := args) (len := 3) (W := sl) (rm := ({ frames := f', cells := H1.length - H.length, slots := tot ws H1 - tot ws H, locals := l' } : Room)) (Q := fun w h L => w = v1.map (ren (adr k sa n0)) ∧ Sim Z ws k sa n0 H1 h ∧ Fr n0 L) hM hZ (hw _ w2) (hw _ w3) (by show f' + 1 ≤ _; omega) (by show sl + (mx + 11) + l' ≤ _; omega)
        have hsz : (fr (adr k sa n0) m pc ls st).locals.size = c.maxLocals := by simp [hls]
        have hWW : ∀ st' : List Value, wsum st' ≤ sl → 2 * (fr (adr k sa n0) m pc ls st).monitorRoom + ((st'.map (ren (adr k sa n0))).map fun v => v.category).sum ≤ sl := fun st' q => by show 2 * 0 + _ ≤ _; rw [wsum_ren]; omega
        have hback : ∀ (v' : Option Value) (vm₁ : Vm) (B : Pt), Stand p l e R s m args below meth c B.U B.locs B.cells B.slots →
            (∃ L, (v' = v1.map (ren (adr k sa n0)) ∧ Sim Z ws k sa n0 H1 B.U.heap ∧ Fr n0 L) ∧ B.locs = locs ++ L ∧ B.cells = cells + (H1.length - H.length) ∧ B.slots = slots + (tot ws H1 - tot ws H)) →
            (∀ target, Steps p.tables e below (B.U.setTop { fr (adr k sa n0) m pc ls st with pc := pc + 3, stack := v'.toList ++ rest.map (ren (adr k sa n0)) }) target → Steps p.tables e below (T.setTop (fr (adr k sa n0) m pc ls st)) target) →
            Goes p l e R s m args below meth c T Z ws k sa n0 cells slots H (fr (adr k sa n0) m pc ls st) ret v H' := by
          rintro v' vm₁ ⟨T1, L1, k1, n1⟩ X1 ⟨Lc, ⟨rfl, S1, N1⟩, l1, y1, z1⟩ st1
          dsimp only [Pt.U, Pt.locs, Pt.cells, Pt.slots] at X1 l1 y1 z1 st1 S1
          subst l1 y1 z1
          have z1 := S.1
          have z2 := S1.1
          have z3 := S.2.1
          have G := ih y bytes ret (pc + 3) ls (v1.toList ++ rest) H1 v H' h p l e R s m args below meth c T1 _ _ _ X1 hx hZ hown hnm hret hby hls hF S1 (Fr.app N N1) (by omega) (by omega) (by omega)
          refine Goes.of (fun target ht => st1 target ?_) G m1 m2
          have e1 : (v1.toList ++ rest).map (ren (adr k sa n0)) = (v1.map (ren (adr k sa n0))).toList ++ rest.map (ren (adr k sa n0)) := by cases v1 <;> simp
          rw [← e1]; exact ht
        rcases hk with ⟨hd, ws1, hna, rfl⟩ | ⟨a, as', rfl, hna, rfl, wi, ⟨hd, hn, rfl⟩ | ⟨hd, C, vs, hH, hpd⟩⟩
        · obtain ⟨v', vm₁, B, -, X1, P1, st1⟩ := Jvm.LawKit.callS X hx (y := y') hown (mvT hZ (hw _ w1)) (mvT hZ (hw _ ws1)) (mvT hZ (hw _ w3)) (mvT hZ (hw _ w2)) w5 hB (g := fr (adr k sa n0) m pc ls (as.reverse ++ rest)) rfl hsz (argsL := as.map (ren (adr k sa n0))) (rest := rest.map (ren (adr k sa n0)))
            (fun sg hsg => by rw [d3] at hsg; cases hsg; simp [hna, d4]) (by simp) (hWW rest hW) (hb hby hd) (fun _ _ => ⟨rfl, rfl, by show cells + (H1.length - H.length) ≤ _; omega, by show slots + (tot ws H1 - tot ws H) ≤ _; omega⟩)
          exact hback v' vm₁ B X1 P1 st1
        · obtain ⟨v', vm₁, B, -, X1, P1, st1⟩ := X.specialBack hx (y := y') hn hown (mvT hZ (hw _ w1)) (mvT hZ (hw _ wi)) (mvT hZ (hw _ w2)) w5 hB (g := fr (adr k sa n0) m pc ls (as'.reverse ++ .ref a :: rest)) rfl hsz (Steps.refl _) (a := adr k sa n0 a) (argsL := as'.map (ren (adr k sa n0))) (rest := rest.map (ren (adr k sa n0)))
            (fun sg hsg => by rw [d3] at hsg; cases hsg; simp [hna, d4]) (by simp [ren]) (hWW rest hW) (hb hby hd) (fun _ _ => ⟨rfl, rfl, by show cells + (H1.length - H.length) ≤ _; omega, by show slots + (tot ws H1 - tot ws H) ≤ _; omega⟩)
          exact hback v' vm₁ B X1 P1 fun target ht => st1.trans ht
        · have E := (S.2.2.2.2 a _ hH).1
          rcases hpd with ⟨wp, ki, wki⟩ | ⟨wd, wsel, rfl⟩
          · obtain ⟨cq, hq1, hq2⟩ := E.cell
            have hpa : s.PrivateAt y' := Cond.privateMethod_at (mvP hZ (hw _ wp) (args := #[]))
            have hsel : (Jvm.Cond.selects y'.cls y' y').before args s = true := by
              have wz : (Jvm.Cond.instantiable y'.cls ki).before args s = true := mvT hZ (hw _ wki)
              obtain ⟨c2, k2, i1, i2, -, i4, -⟩ := Cond.instantiable_spec wz
              exact selects_self_of_private i1 i2 (Bool.or_eq_false_iff.mp i4).1 hpa (mvT hZ (hw _ wi)) w5
            obtain ⟨v', vm₁, B, -, X1, P1, st1⟩ := X.privateBack hx (y := y') hown (mvT hZ (hw _ w1)) (mvT hZ (hw _ wi)) hsel hpa (mvT hZ (hw _ w2)) w5 hB (g := fr (adr k sa n0) m pc ls (as'.reverse ++ .ref a :: rest)) rfl hsz (Steps.refl _) (a := adr k sa n0 a) hq1 hq2 (argsL := as'.map (ren (adr k sa n0))) (rest := rest.map (ren (adr k sa n0)))
              (fun sg hsg => by rw [d3] at hsg; cases hsg; simp [hna, d4]) (by simp [ren]) (hWW rest hW) (hb hby hd) (fun _ _ => ⟨rfl, rfl, by show cells + (H1.length - H.length) ≤ _; omega, by show slots + (tot ws H1 - tot ws H) ≤ _; omega⟩)
            exact hback v' vm₁ B X1 P1 fun target ht => st1.trans ht
          · obtain ⟨cq, kq, qa, qb, qc⟩ := isOf hZ rfl E
            obtain ⟨v', vm₁, B, -, X1, P1, st1⟩ := X.virtualBack hx (y := y') (z := y') hown (mvT hZ (hw _ w1)) (mvT hZ (hw _ wd)) (notFace_of_selects (args := #[]) (mvT hZ (hw _ wsel))) (mvT hZ (hw _ wsel)) (mvT hZ (hw _ wi)) w5 hB qa qc (g := fr (adr k sa n0) m pc ls (as'.reverse ++ .ref a :: rest)) rfl hsz (Steps.refl _) (argsL := as'.map (ren (adr k sa n0))) (rest := rest.map (ren (adr k sa n0)))
              (fun sg hsg => by rw [d3] at hsg; cases hsg; simp [hna, d4]) (by simp [ren]) (hWW rest hW) (hb hby hd) (fun _ _ => ⟨rfl, rfl, by show cells + (H1.length - H.length) ≤ _; omega, by show slots + (tot ws H1 - tot ws H) ≤ _; omega⟩)
            exact hback v' vm₁ B X1 P1 fun target ht => st1.trans ht
      · cases h
end Snd
end Jvm.Own
namespace Jvm.Own
open Sem ClassFile Op Lib Jvm.Stand Jvm.Free Jvm.LawKit Jvm.RoadKit
/-! OWN 6: from here on no machine is in sight -/
theorem run_succ {ws : Ws} {dn : Dn} {k : Nat} : ∀ {n : Nat} {y : MethodName} {bytes : ByteArray} {ret : Option FieldType} {pc : Nat} {ls : List Slot} {st : List Value} {H : AHeap} {r : Option Value × AHeap}, run ws dn k n y bytes ret pc ls st H = some r → run ws dn k (n + 1) y bytes ret pc ls st H = some r
  | 0, _, _, _, _, _, _, _, _, h => by cases h
  | n + 1, y, bytes, ret, pc, ls, st, H, r, h => by
    rw [run] at h
    rw [run]
    split at h
    · cases h
    · exact h
    · exact run_succ h
    · split at h
      · rename_i v H1 g
        rw [run_succ g]
        exact run_succ h
      · cases h
theorem run_mono {ws : Ws} {dn : Dn} {k n n' : Nat} {y : MethodName} {bytes : ByteArray} {ret : Option FieldType} {pc : Nat} {ls : List Slot} {st : List Value} {H : AHeap} {r : Option Value × AHeap} (hn : n ≤ n') (h : run ws dn k n y bytes ret pc ls st H = some r) : run ws dn k n' y bytes ret pc ls st H = some r := by
  induction hn with
  | refl => exact h
  | step _ ih => exact run_succ ih
/-- from here on a run comes to a return at which Q holds -/
def W (ws : Ws) (dn : Dn) (k : Nat) (y : MethodName) (bytes : ByteArray) (ret : Option FieldType) (pc : Nat) (ls : List Slot) (st : List Value) (H : AHeap) (Q : Option Value → AHeap → Prop) : Prop :=
  ∃ n v H', run ws dn k n y bytes ret pc ls st H = some (v, H') ∧ Q v H'
section
variable {ws : Ws} {dn : Dn} {k : Nat} {y : MethodName} {bytes : ByteArray} {ret : Option FieldType} {pc : Nat} {ls : List Slot} {st : List Value} {H : AHeap} {Q : Option Value → AHeap → Prop}
theorem W_step {pc' : Nat} {ls' : List Slot} {st' : List Value} {H' : AHeap} (h : act ws dn k y bytes ret pc ls st H = some (.inr (.inl (pc', ls', st', H')))) : W ws dn k y bytes ret pc ls st H Q = W ws dn k y bytes ret pc' ls' st' H' Q := by
  refine propext ⟨fun ⟨n, v, H1, h1, h2⟩ => ?_, fun ⟨n, v, H1, h1, h2⟩ => ⟨n + 1, v, H1, by rw [run, h]; exact h1, h2⟩⟩
  cases n with
  | zero => cases h1
  | succ n => rw [run, h] at h1; exact ⟨n, v, H1, h1, h2⟩
theorem W_ret {v : Option Value} (h : act ws dn k y bytes ret pc ls st H = some (.inl v)) : W ws dn k y bytes ret pc ls st H Q = Q v H := by
  refine propext ⟨fun ⟨n, v, H1, h1, h2⟩ => ?_, fun h2 => ⟨1, v, H, by rw [run, h], h2⟩⟩
  cases n with
  | zero => cases h1
  | succ n => rw [run, h] at h1; cases h1; exact h2
theorem W_call {y' : MethodName} {b : ByteArray} {r : Option FieldType} {en : List Slot} {rest : List Value} (h : act ws dn k y bytes ret pc ls st H = some (.inr (.inr (y', b, r, en, rest)))) :
    W ws dn k y bytes ret pc ls st H Q = W ws dn k y' b r 0 en [] H (fun v H1 => W ws dn k y bytes ret (pc + 3) ls (v.toList ++ rest) H1 Q) := by
  refine propext ⟨fun ⟨n, v, H1, h1, h2⟩ => ?_, fun ⟨n, v, H1, h1, n', v', H', h2, h3⟩ => ⟨max n n' + 1, v', H', ?_, h3⟩⟩
  · cases n with
    | zero => cases h1
    | succ n =>
      rw [run, h] at h1
      dsimp only at h1
      split at h1
      · rename_i v' H' g; exact ⟨n, v', H', g, n, v, H1, h1, h2⟩
      · cases h1
  · rw [run, h]
    dsimp only
    rw [run_mono (Nat.le_max_left _ _) h1]
    exact run_mono (Nat.le_max_right _ _) h2
theorem W.mono {Q' : Option Value → AHeap → Prop} (h : W ws dn k y bytes ret pc ls st H Q) (hq : ∀ v H', Q v H' → Q' v H') : W ws dn k y bytes ret pc ls st H Q' := by
  obtain ⟨n, v, H', h1, h2⟩ := h; exact ⟨n, v, H', h1, hq _ _ h2⟩
theorem act_x {ins : Instr} {len pc' : Nat} {ls' : List Slot} {st' : List Value} (hd : decode bytes pc = .ok (ins, len)) (hx : xstep ins len pc ls st = some (pc', ls', st')) : act ws dn k y bytes ret pc ls st H = some (.inr (.inl (pc', ls', st', H))) := by
  unfold act; rw [hd]; dsimp only; rw [hx]
theorem act_h {ins : Instr} {len pc' : Nat} {st' : List Value} {H' : AHeap} (hd : decode bytes pc = .ok (ins, len)) (hx : xstep ins len pc ls st = none) (hh : hstep ws k y ins len pc st H = some (pc', st', H')) : act ws dn k y bytes ret pc ls st H = some (.inr (.inl (pc', ls, st', H'))) := by
  unfold act; rw [hd]; dsimp only; rw [hx]; dsimp only; rw [hh]
theorem act_c {ins : Instr} {len : Nat} (hd : decode bytes pc = .ok (ins, len)) (hx : xstep ins len pc ls st = none) (hh : hstep ws k y ins len pc st H = none) : act ws dn k y bytes ret pc ls st H = cstep ws dn y ret ins len pc ls st H := by
  unfold act; rw [hd]; dsimp only; rw [hx]; dsimp only; rw [hh]
/-- a plain step -/
theorem w_x {ins : Instr} {len pc' : Nat} {ls' : List Slot} {st' : List Value} (hd : decode bytes pc = .ok (ins, len)) (hx : xstep ins len pc ls st = some (pc', ls', st')) : W ws dn k y bytes ret pc ls st H Q = W ws dn k y bytes ret pc' ls' st' H Q := W_step (act_x hd hx)
/-- a conditional branch -/
theorem w_if {cd : ClassFile.Cond} {o : Int} {x : Int32} {t : Nat} {P : Prop} [Decidable P] (hd : decode bytes pc = .ok (.ifCond cd o, 3)) (hp : ifCond.holds cd x = decide P) (hj : jmp pc o = some t) :
    W ws dn k y bytes ret pc ls (.int x :: st) H Q = if P then W ws dn k y bytes ret t ls st H Q else W ws dn k y bytes ret (pc + 3) ls st H Q := by
  split
  · exact w_x hd (by simp only [xstep, chk, br, hp, hj, if_true]; simp [*])
  · exact w_x hd (by simp only [xstep, chk, br, hp, hj, if_true]; simp [*])
theorem w_icmp {cd : ClassFile.Cond} {o : Int} {x1 x2 : Int32} {t : Nat} {P : Prop} [Decidable P] (hd : decode bytes pc = .ok (.if_icmp cd o, 3)) (hp : if_icmp.holds cd x1 x2 = decide P) (hj : jmp pc o = some t) :
    W ws dn k y bytes ret pc ls (.int x2 :: .int x1 :: st) H Q = if P then W ws dn k y bytes ret t ls st H Q else W ws dn k y bytes ret (pc + 3) ls st H Q := by
  split
  · exact w_x hd (by simp only [xstep, chk, br, hp, hj, if_true]; simp [*])
  · exact w_x hd (by simp only [xstep, chk, br, hp, hj, if_true]; simp [*])
theorem w_get {i j : Nat} {a : Nat} {C : String} {vs : List Value} {v : Value} (hd : decode bytes pc = .ok (.getfield i, 3)) (hr : gfR ws y.cls i = some (C, j)) (ho : H[a]? = some (.object C, vs)) (hv : vs[j]? = some v) :
    W ws dn k y bytes ret pc ls (.ref a :: st) H Q = W ws dn k y bytes ret (pc + 3) ls (v :: st) H Q :=
  W_step (act_h hd rfl (by simp only [hstep, chk, hGet, hr, ho, hv, if_true, Option.map_some]))
theorem w_put {i j : Nat} {a : Nat} {C : String} {ty : FieldType} {vs : List Value} {v v' : Value} {H' : AHeap} (hd : decode bytes pc = .ok (.putfield i, 3)) (hr : pfR ws y.cls y.name i = some (C, j, ty)) (ho : H[a]? = some (.object C, vs)) (hk : k ≤ a) (hj : j < vs.length) (hv : putv ty v = some v') (hH : H.set a (.object C, vs.set j v') = H') :
    W ws dn k y bytes ret pc ls (v :: .ref a :: st) H Q = W ws dn k y bytes ret (pc + 3) ls st H' Q :=
  W_step (act_h hd rfl (by simp only [hstep, chk, hPut, hr, ho, hv, if_true, true_and, hk, hj, Option.map_some, hH, and_self]))
theorem w_new {i : Nat} {C : String} (hd : decode bytes pc = .ok (.new i, 3)) (hr : hNew ws y.cls i pc H st = some (pc + 3, .ref H.length :: st, H ++ [(.object C, (olay ws C).map dflt)])) :
    W ws dn k y bytes ret pc ls st H Q = W ws dn k y bytes ret (pc + 3) ls (.ref H.length :: st) (H ++ [(.object C, (olay ws C).map dflt)]) Q :=
  W_step (act_h hd rfl (by simp only [hstep, chk, if_true]; exact hr))
theorem w_newA {aty : ArrayType} {n : Int32} {ty : FieldType} (hd : decode bytes pc = .ok (.newarray aty, 2)) (ht : newarray.typeOf aty = ty) (hr : hasArr ws ty = true) (hn : ¬ n < 0) (hb : n.toNatClampNeg * 8 ≤ 536870912) :
    W ws dn k y bytes ret pc ls (.int n :: st) H Q = W ws dn k y bytes ret (pc + 2) ls (.ref H.length :: st) (H ++ [(.array ty, List.replicate n.toNatClampNeg (defaultValue ty))]) Q := by
  subst ht
  exact W_step (act_h hd rfl (by simp only [hstep, chk, hNewA, hr, hn, hb, if_true, not_false_eq_true, and_self]))
/-- may the instruction read an array of that kind? -/
def ldOk : Instr → FieldType → Bool
  | .iaload, .int | .caload, .char | .laload, .long | .baload, .byte | .baload, .boolean => true
  | _, _ => false
def stOk : Instr → FieldType → Bool
  | .iastore, .int | .castore, .char | .lastore, .long | .bastore, .byte | .bastore, .boolean => true
  | _, _ => false
theorem w_ald {ins : Instr} {a : Nat} {j : Int32} {ty : FieldType} {vs : List Value} {v : Value} (hd : decode bytes pc = .ok (ins, 1)) (hi : ldOk ins ty = true) (ho : H[a]? = some (.array ty, vs)) (hj : ¬ j < 0) (hv : vs[j.toNatClampNeg]? = some v) :
    W ws dn k y bytes ret pc ls (.int j :: .ref a :: st) H Q = W ws dn k y bytes ret (pc + 1) ls (v :: st) H Q := by
  unfold ldOk at hi
  split at hi
  all_goals first
    | exact W_step (act_h hd rfl (by simp only [hstep, chk, hLd, okT, okB, ho, hv, hj, if_true, Option.map_some, decide_true, not_false_eq_true, and_self, Bool.or_true, Bool.true_or]))
    | cases hi
theorem w_ast {ins : Instr} {a : Nat} {j : Int32} {ty : FieldType} {vs : List Value} {v v' : Value} {H' : AHeap} (hd : decode bytes pc = .ok (ins, 1)) (hi : stOk ins ty = true) (ho : H[a]? = some (.array ty, vs)) (hk : k ≤ a) (hj : ¬ j < 0) (hl : j.toNatClampNeg < vs.length) (hv : putv ty v = some v') (hH : H.set a (.array ty, vs.set j.toNatClampNeg v') = H') :
    W ws dn k y bytes ret pc ls (v :: .int j :: .ref a :: st) H Q = W ws dn k y bytes ret (pc + 1) ls st H' Q := by
  unfold stOk at hi
  split at hi
  all_goals first
    | exact W_step (act_h hd rfl (by simp only [hstep, chk, hSt, okT, okB, ho, hv, hj, hk, hl, hH, if_true, Option.map_some, decide_true, not_false_eq_true, and_self, Bool.or_true, Bool.true_or]))
    | cases hi
theorem w_len {a : Nat} {ty : FieldType} {vs : List Value} (hd : decode bytes pc = .ok (.arraylength, 1)) (ho : H[a]? = some (.array ty, vs)) :
    W ws dn k y bytes ret pc ls (.ref a :: st) H Q = W ws dn k y bytes ret (pc + 1) ls (.int vs.length.toInt32 :: st) H Q :=
  W_step (act_h hd rfl (by simp only [hstep, chk, hLen, ho, if_true]))
theorem w_ldc {i : Nat} {v : Int32} (hd : decode bytes pc = .ok (.ldc i, 2)) (hr : rCon ws y.cls i = some v) : W ws dn k y bytes ret pc ls st H Q = W ws dn k y bytes ret (pc + 2) ls (.int v :: st) H Q :=
  W_step (act_h hd rfl (by simp only [hstep, chk, hr, if_true, Option.map_some]))
theorem w_ldcw {i : Nat} {v : Int32} (hd : decode bytes pc = .ok (.ldc_w i, 3)) (hr : rCon ws y.cls i = some v) : W ws dn k y bytes ret pc ls st H Q = W ws dn k y bytes ret (pc + 3) ls (.int v :: st) H Q :=
  W_step (act_h hd rfl (by simp only [hstep, chk, hr, if_true, Option.map_some]))
theorem w_ldc2 {i : Nat} {v : Int64} (hd : decode bytes pc = .ok (.ldc2_w i, 3)) (hr : rConL ws y.cls i = some v) : W ws dn k y bytes ret pc ls st H Q = W ws dn k y bytes ret (pc + 3) ls (.long v :: st) H Q :=
  W_step (act_h hd rfl (by simp only [hstep, chk, hr, if_true, Option.map_some]))
theorem w_iret {z : Int32} (hd : decode bytes pc = .ok (.ireturn, 1)) (hr : ret = some .int) : W ws dn k y bytes ret pc ls (.int z :: st) H Q = Q (some (.int z)) H := by
  subst hr; exact W_ret (by rw [act_c hd rfl rfl]; rfl)
theorem w_iretN {z : Int32} {t : FieldType} (hd : decode bytes pc = .ok (.ireturn, 1)) (hr : ret = some t) (ht : t = .int ∨ t = .boolean ∨ t = .byte ∨ t = .char ∨ t = .short) : W ws dn k y bytes ret pc ls (.int z :: st) H Q = Q (some (.int (nar t z))) H := by
  subst hr; exact W_ret (by rw [act_c hd rfl rfl]; simp only [cstep, chk, if_true, ht])
theorem w_lret {z : Int64} (hd : decode bytes pc = .ok (.lreturn, 1)) (hr : ret = some .long) : W ws dn k y bytes ret pc ls [.long z] H Q = Q (some (.long z)) H := by
  subst hr; exact W_ret (by rw [act_c hd rfl rfl]; rfl)
theorem w_vret (hd : decode bytes pc = .ok (.return_, 1)) (hr : ret = none) : W ws dn k y bytes ret pc ls [] H Q = Q none H := by
  subst hr; exact W_ret (by rw [act_c hd rfl rfl]; rfl)
theorem w_obj {i sl : Nat} {a : Nat} (hd : decode bytes pc = .ok (.invokespecial i, 3)) (hr : oR ws dn y i = some sl) (hw : wsum st ≤ sl) : W ws dn k y bytes ret pc ls (.ref a :: st) H Q = W ws dn k y bytes ret (pc + 3) ls st H Q :=
  W_step (by rw [act_c hd rfl rfl]; simp only [cstep, chk, if_true, hr, hw])
theorem w_stat {i mx na sl : Nat} {y' : MethodName} {b : ByteArray} {r : Option FieldType} {as rest : List Value} {en : List Slot} (hd : decode bytes pc = .ok (.invokestatic i, 3)) (hr : sR ws dn y i = some (y', b, mx, r, na, sl)) (hn : as.length = na) (hw : wsum rest ≤ sl) (he : (ent as.reverse).length ≤ mx) (hen : entry as.reverse mx = en) :
    W ws dn k y bytes ret pc ls (as ++ rest) H Q = W ws dn k y' b r 0 en [] H (fun v H1 => W ws dn k y bytes ret (pc + 3) ls (v.toList ++ rest) H1 Q) := by
  subst hn hen
  have e1 : (as ++ rest).take as.length = as := by simp
  have e2 : (as ++ rest).drop as.length = rest := by simp
  exact W_call (by rw [act_c hd rfl rfl]; simp only [cstep, chk, if_true, hr, e1, e2, hw, he, List.length_append, Nat.le_add_right, and_self])
theorem w_spec {i mx na sl a : Nat} {y' : MethodName} {b : ByteArray} {r : Option FieldType} {as rest : List Value} {en : List Slot} (hd : decode bytes pc = .ok (.invokespecial i, 3)) (h0 : oR ws dn y i = none) (hr : nR ws dn y i = some (y', b, mx, r, na, sl)) (hn : as.length = na) (hw : wsum rest ≤ sl) (he : (ent (.ref a :: as.reverse)).length ≤ mx) (hen : entry (.ref a :: as.reverse) mx = en) :
    W ws dn k y bytes ret pc ls (as ++ .ref a :: rest) H Q = W ws dn k y' b r 0 en [] H (fun v H1 => W ws dn k y bytes ret (pc + 3) ls (v.toList ++ rest) H1 Q) := by
  subst hn hen
  have e1 : (as ++ .ref a :: rest).take as.length = as := by simp
  have e2 : (as ++ .ref a :: rest).drop as.length = .ref a :: rest := by simp
  exact W_call (by rw [act_c hd rfl rfl]; simp only [cstep, chk, if_true, h0, hr, e1, e2, hw, he, List.length_append, Nat.le_add_right, and_self])
theorem w_virt {i mx na sl a : Nat} {pv : Bool} {y' : MethodName} {b : ByteArray} {r : Option FieldType} {as rest : List Value} {en : List Slot} {C : String} {vs : List Value} (hd : decode bytes pc = .ok (.invokevirtual i, 3)) (hr : vR ws dn y i = some (pv, y', b, mx, r, na, sl)) (ho : H[a]? = some (.object C, vs)) (hC : C = y'.cls) (hn : as.length = na) (hw : wsum rest ≤ sl) (he : (ent (.ref a :: as.reverse)).length ≤ mx) (hen : entry (.ref a :: as.reverse) mx = en) :
    W ws dn k y bytes ret pc ls (as ++ .ref a :: rest) H Q = W ws dn k y' b r 0 en [] H (fun v H1 => W ws dn k y bytes ret (pc + 3) ls (v.toList ++ rest) H1 Q) := by
  subst hn hen hC
  have e1 : (as ++ .ref a :: rest).take as.length = as := by simp
  have e2 : (as ++ .ref a :: rest).drop as.length = .ref a :: rest := by simp
  exact W_call (by rw [act_c hd rfl rfl]; simp only [cstep, chk, if_true, hr, e1, e2, ho, hw, he, List.length_append, Nat.le_add_right, and_self, or_true])
end
theorem law_of {Z : State} {a0 : Array Value} {ws : Ws} {dn : Dn} {k sa n0 : Nat} (hw : ∀ d ∈ ws, d.before a0 Z = true) (l : Launch) {y : MethodName} {b : ByteArray} {mx f lc rc rs : Nat} {r : Option FieldType} (wsx : List Jvm.Cond) (hp : Jvm.plainName y.cls = true) {as : List Value} (he : (ent as).length ≤ mx) {H : AHeap}
    (hW : W ws dn k y b r 0 (entry as mx) [] H (fun v H1 => v = some (.int 1) ∧ H1.length - H.length ≤ rc ∧ tot ws H1 - tot ws H ≤ rs)) (hdn : ∀ f' l', dnOf dn y = some (f', l') → f' ≤ f ∧ l' ≤ lc) {h : Heap} (S : Sim Z ws k sa n0 H h) :
    MetFree l y (head1 (Jvm.Cond.code y b mx r :: wsx) ({ frames := f, cells := rc, slots := rs, locals := lc } : Room)) (fun a U => a = (as.map (ren (adr k sa n0))).toArray ∧ Z.Warmed39 U.vm ∧ U.heap = h) (fun _ _ _ _ _ => True)
      (fun _ U o U' => ∃ w L, o = .returned w ∧ (w = some (.int 1) ∧ Fr n0 L) ∧ FrameEnd U o U' L rc rs) := by
  obtain ⟨n, v, H1, h1, rfl, h3, h4⟩ := hW
  have M := met_of (snd hw n) l wsx hp he h1 hdn S h3 h4
  intro p e ha hc hk s m args below hf happ hP hK
  obtain ⟨n', o, g1, g2, g3, w, L, rfl, ⟨rfl, -, N⟩, F⟩ := M p e ha hc hk s m args below hf happ hP hK
  exact ⟨n', _, g1, g2, g3, _, L, rfl, ⟨rfl, N⟩, F.1, F.2.1, F.2.2.mono h3 h4⟩
/-- the start of a law whose arguments hold no reference -/
theorem Sim.empty (Z : State) (ws : Ws) (h : Heap) : Sim Z ws 0 0 h.size [] h :=
  ⟨by simp, Nat.le_refl _, Nat.zero_le _, (fun q => absurd q (by decide)), (fun i o q => by simp at q)⟩
/-- the start of a law over one array of ints -/
theorem Sim.script {Z : State} (ws : Ws) {h : Heap} {a : Addr} {c : Cell} {vs : List Int32} (A : Arr Z h a c .int) (e : c.slots = (vs.map Value.int).toArray) : Sim Z ws 1 a h.size [(.array .int, vs.map Value.int)] h := by
  refine ⟨by simp, Nat.le_refl _, Nat.le_refl _, fun _ => A.lt, fun i o q => ?_⟩
  cases i with
  | zero =>
    cases q
    refine ⟨c, A, e.trans ?_⟩
    rw [List.map_map]; rfl
  | succ i => cases q
end Jvm.Own
namespace Jvm.Own
open Sem ClassFile Op Lib Jvm.Stand Jvm.Free Jvm.LawKit Jvm.RoadKit
/-! OWN 7: states of an object as plain functions -/
def ou {α : Type} (s : Nat → α) (i : Nat) (v : α) : Nat → α := fun j => if j = i then v else s j
theorem ou_a {α : Type} (s : Nat → α) (i : Nat) (v : α) (j : Nat) : ou s i v j = if j = i then v else s j := rfl
def pad (b : Nat) (pre : AHeap) : AHeap := (pre ++ List.replicate b (FieldType.int, [])).take b
theorem pad_len (b : Nat) (pre : AHeap) : (pad b pre).length = b := by simp [pad]
theorem pad_eq {b : Nat} {pre : AHeap} (h : pre.length = b) : pad b pre = pre := by subst h; simp [pad]
theorem pad_0 (pre : AHeap) : pad 0 pre = [] := by simp [pad]
theorem tot_cons (ws : Ws) (o : FieldType × List Value) (r : AHeap) : tot ws (o :: r) = cost ws o + tot ws r := by simp [tot]
theorem tot_append (ws : Ws) (a r : AHeap) : tot ws (a ++ r) = tot ws a + tot ws r := by simp [tot]
theorem tot_nil (ws : Ws) : tot ws [] = 0 := rfl
theorem pad_get (b : Nat) (pre r : AHeap) (i : Nat) : (pad b pre ++ r)[b + i]? = r[i]? := by
  rw [List.getElem?_append_right (by rw [pad_len]; omega), pad_len]; congr 1; omega
theorem pad_get0 (b : Nat) (pre r : AHeap) : (pad b pre ++ r)[b]? = r[0]? := pad_get b pre r 0
theorem pad_set (b : Nat) (pre r : AHeap) (i : Nat) (o : FieldType × List Value) : (pad b pre ++ r).set (b + i) o = pad b pre ++ r.set i o := by
  rw [List.set_append_right _ _ (by rw [pad_len]; omega), pad_len]; congr 2; omega
theorem pad_set0 (b : Nat) (pre r : AHeap) (o : FieldType × List Value) : (pad b pre ++ r).set b o = pad b pre ++ r.set 0 o := pad_set b pre r 0 o
theorem rCode_of {ws : Ws} {y : MethodName} {b : ByteArray} {m i : Nat} {r : Option FieldType} (h : ws[i]? = some (.code y b m r)) (h2 : (ws.take i).all (fun d => match d with | .code z _ _ _ => !decide (z = y) | _ => true) = true) : rCode ws y = some (b, m, r) := by
  have e : ws = ws.take i ++ (.code y b m r :: ws.drop (i + 1)) := by
    obtain ⟨hi, hg⟩ := List.getElem?_eq_some_iff.mp h
    rw [← hg, ← List.drop_eq_getElem_cons hi, List.take_append_drop]
  unfold rCode
  rw [e, List.findSome?_append]
  have e1 : (ws.take i).findSome? (fun d => match d with | .code z b m r => if z = y then some (b, m, r) else none | _ => none) = none := by
    rw [List.findSome?_eq_none_iff]
    intro d hd
    have q := List.all_eq_true.mp h2 d hd
    split
    · rename_i z b' m' r'
      simp at q
      simp [q]
    · rfl
  rw [e1]
  simp
theorem cR_of {ws : Ws} {dn : Dn} {y y' : MethodName} {b : ByteArray} {mx i f' l' f l na sl : Nat} {r : Option FieldType} {sig : MethodDescriptor} (h1 : rMth ws y.cls i = some y') (h2 : rCode ws y' = some (b, mx, r)) (h3 : dnOf dn y' = some (f', l')) (h4 : dnOf dn y = some (f, l)) (h5 : parseMethodDescriptor y'.desc = some sig)
    (h6 : decide (hasInit ws y'.cls = true ∧ Jvm.plainName y'.cls = true ∧ y'.cls ≠ "java/lang/invoke/MethodHandle" ∧ y'.cls ≠ "java/lang/invoke/VarHandle" ∧ f' + 1 ≤ f ∧ mx + 11 + l' ≤ l) = true) (h7 : sig.parameters.length = na) (h8 : l - (mx + 11 + l') = sl) : cR ws dn y i = some (y', b, mx, r, na, sl) := by
  subst h7 h8
  unfold cR
  rw [h1]; dsimp only
  rw [h2, h3, h4, h5]; dsimp only
  rw [if_pos (of_decide_eq_true h6)]
theorem sR_of {ws : Ws} {dn : Dn} {y : MethodName} {i : Nat} {q : MethodName × ByteArray × Nat × Option FieldType × Nat × Nat} (h : cR ws dn y i = some q) (hs : hasStat ws q.1 = true) : sR ws dn y i = some q := by
  unfold sR; rw [h]; dsimp only; rw [if_pos hs]
theorem nR_of {ws : Ws} {dn : Dn} {y : MethodName} {i : Nat} {q : MethodName × ByteArray × Nat × Option FieldType × Nat × Nat} (h : cR ws dn y i = some q) (h1 : q.1.name = "<init>") (h2 : hasIM ws q.1 = true) (h3 : q.2.2.2.1 = none) : nR ws dn y i = some q := by
  unfold nR; rw [h]; dsimp only; rw [if_pos ⟨h1, h2, h3⟩]
theorem vR_of {ws : Ws} {dn : Dn} {y : MethodName} {i : Nat} {q : MethodName × ByteArray × Nat × Option FieldType × Nat × Nat} (h : cR ws dn y i = some q) (h1 : hasIM ws q.1 = true) (h2 : decide (hasPriv ws q.1 = true ∧ (rInst ws q.1.cls).isSome = true) = false) (h3 : decide (hasDecl ws q.1 = true ∧ hasSel ws q.1 = true) = true) : vR ws dn y i = some (false, q) := by
  unfold vR; rw [h]; dsimp only; rw [if_pos h1, if_neg (of_decide_eq_false h2), if_pos (of_decide_eq_true h3)]
theorem pR_of {ws : Ws} {dn : Dn} {y : MethodName} {i : Nat} {q : MethodName × ByteArray × Nat × Option FieldType × Nat × Nat} (h : cR ws dn y i = some q) (h1 : hasIM ws q.1 = true) (h2 : decide (hasPriv ws q.1 = true ∧ (rInst ws q.1.cls).isSome = true) = true) : vR ws dn y i = some (true, q) := by
  unfold vR; rw [h]; dsimp only; rw [if_pos h1, if_pos (of_decide_eq_true h2)]
def inB {α : Type} (j : Int32) (l : List α) : Prop := ¬ j < 0 ∧ j.toNatClampNeg < l.length
def getA (l : List Int32) (j : Int32) : Int32 := l.getD j.toNatClampNeg 0
def getL (l : List Int64) (j : Int32) : Int64 := l.getD j.toNatClampNeg 0
def setA {α : Type} (l : List α) (j : Int32) (v : α) : List α := l.set j.toNatClampNeg v
def c1 : Slot → Bool
  | .unset => true
  | .second => false
  | .val v => v.category == 1
theorem c1_u : c1 .unset = true := rfl
theorem c1_i (x : Int32) : c1 (.val (.int x)) = true := rfl
theorem c1_r (a : Nat) : c1 (.val (.ref a)) = true := rfl
theorem c1_n : c1 (.val .null) = true := rfl
theorem i_eq (x y : Int32) : if_icmp.holds .eq x y = decide (x = y) := by simp only [if_icmp.holds]; by_cases h : x = y <;> simp [h]
theorem i_ne (x y : Int32) : if_icmp.holds .ne x y = !decide (x = y) := by simp only [if_icmp.holds]; by_cases h : x = y <;> simp [h]
theorem i_lt (x y : Int32) : if_icmp.holds .lt x y = decide (x < y) := rfl
theorem i_gt (x y : Int32) : if_icmp.holds .gt x y = decide (y < x) := rfl
theorem i_ge (x y : Int32) : if_icmp.holds .ge x y = !decide (x < y) := by
  show decide (y ≤ x) = _
  have e1 : (y ≤ x) ↔ ¬ (x < y) := by rw [Int32.le_iff_toInt_le, Int32.lt_iff_toInt_lt]; omega
  by_cases h : x < y
  · have : ¬ y ≤ x := fun g => e1.mp g h
    simp [h, this]
  · have := e1.mpr h
    simp [h, this]
theorem i_le (x y : Int32) : if_icmp.holds .le x y = !decide (y < x) := i_ge y x
theorem z_eq (x : Int32) : ifCond.holds .eq x = decide (x = 0) := i_eq x 0
theorem z_ne (x : Int32) : ifCond.holds .ne x = !decide (x = 0) := i_ne x 0
theorem z_lt (x : Int32) : ifCond.holds .lt x = decide (x < 0) := rfl
theorem z_gt (x : Int32) : ifCond.holds .gt x = decide (0 < x) := rfl
theorem z_ge (x : Int32) : ifCond.holds .ge x = !decide (x < 0) := i_ge x 0
theorem z_le (x : Int32) : ifCond.holds .le x = !decide (0 < x) := i_le x 0
theorem nb0 : nar .boolean 0 = 0 := by decide
theorem nb1 : nar .boolean 1 = 1 := by decide
section
variable {ws : Ws} {dn : Dn} {k : Nat} {y : MethodName} {bytes : ByteArray} {ret : Option FieldType} {pc : Nat} {ls : List Slot} {st : List Value} {H : AHeap} {Q : Option Value → AHeap → Prop}
theorem W_stuck (h : act ws dn k y bytes ret pc ls st H = none) : W ws dn k y bytes ret pc ls st H Q = False := by
  refine propext ⟨fun ⟨n, v, H1, h1, h2⟩ => ?_, False.elim⟩
  cases n with
  | zero => cases h1
  | succ n => rw [run, h] at h1; cases h1
theorem stl_c1 {i : Nat} {o : Slot} {v : Value} (ho : ls[i]? = some o) (hc : c1 o = true) (hv : v.category = 1) : stl ls i v = some (ls.set i (.val v)) := by
  have h := XS.store1 (l := ls.toArray) (i := i) (v := v) (o := o) (by simpa using ho) (by
    cases o with
    | unset => exact Or.inl rfl
    | second => cases hc
    | val w => exact Or.inr ⟨w, rfl, by simpa [c1] using hc⟩) hv
  unfold stl
  rw [h]; simp
/-- a store of one word -/
theorem w_st {ins : Instr} {len i : Nat} {o : Slot} {v : Value} {p : Value → Bool} {nx : Nat} {ls' : List Slot} (hd : decode bytes pc = .ok (ins, len)) (hx : xstep ins len pc ls (v :: st) = stV p nx i ls (v :: st)) (hp : p v = true) (hv : v.category = 1) (ho : ls[i]? = some o) (hs : ls.set i (.val v) = ls') (hc : c1 o = true) :
    W ws dn k y bytes ret pc ls (v :: st) H Q = W ws dn k y bytes ret nx ls' st H Q := by
  subst hs
  exact w_x hd (by rw [hx]; simp only [stV, hp, if_true, stl_c1 ho hc hv, Option.map_some])
theorem w_iinc {i : Nat} {c : Int} {x z : Int32} {ls' : List Slot} (hd : decode bytes pc = .ok (.iinc i c, 3)) (ho : ls[i]? = some (.val (.int x))) (hz : Int32.ofInt c = z) (hs : ls.set i (.val (.int (x + z))) = ls') :
    W ws dn k y bytes ret pc ls st H Q = W ws dn k y bytes ret (pc + 3) ls' st H Q := by
  subst hs hz
  exact w_x hd (by simp only [xstep, chk, if_true, ho, stl_c1 (v := .int (x + Int32.ofInt c)) ho rfl rfl, Option.map_some])
theorem w_con {ins : Instr} {len nx : Nat} {v v' : Value} (hd : decode bytes pc = .ok (ins, len)) (hx : xstep ins len pc ls st = some (nx, ls, v :: st)) (hv : v = v') : W ws dn k y bytes ret pc ls st H Q = W ws dn k y bytes ret nx ls (v' :: st) H Q := by
  subst hv; exact w_x hd hx
theorem w_ifN {cd : ClassFile.Cond} {o : Int} {x : Int32} {t : Nat} {P : Prop} [Decidable P] (hd : decode bytes pc = .ok (.ifCond cd o, 3)) (hp : ifCond.holds cd x = !decide P) (hj : jmp pc o = some t) :
    W ws dn k y bytes ret pc ls (.int x :: st) H Q = if P then W ws dn k y bytes ret (pc + 3) ls st H Q else W ws dn k y bytes ret t ls st H Q := by
  split
  · exact w_x hd (by simp only [xstep, chk, br, hp, hj, if_true]; simp [*])
  · exact w_x hd (by simp only [xstep, chk, br, hp, hj, if_true]; simp [*])
theorem w_icmpN {cd : ClassFile.Cond} {o : Int} {x1 x2 : Int32} {t : Nat} {P : Prop} [Decidable P] (hd : decode bytes pc = .ok (.if_icmp cd o, 3)) (hp : if_icmp.holds cd x1 x2 = !decide P) (hj : jmp pc o = some t) :
    W ws dn k y bytes ret pc ls (.int x2 :: .int x1 :: st) H Q = if P then W ws dn k y bytes ret (pc + 3) ls st H Q else W ws dn k y bytes ret t ls st H Q := by
  split
  · exact w_x hd (by simp only [xstep, chk, br, hp, hj, if_true]; simp [*])
  · exact w_x hd (by simp only [xstep, chk, br, hp, hj, if_true]; simp [*])
theorem ld_stuck {ins : Instr} {a : Nat} {j : Int32} {ty : FieldType} {vs : List Value} (hd : decode bytes pc = .ok (ins, 1)) (hi : ldOk ins ty = true) (ho : H[a]? = some (.array ty, vs)) (hj : ¬ (¬ j < 0 ∧ j.toNatClampNeg < vs.length)) : act ws dn k y bytes ret pc ls (.int j :: .ref a :: st) H = none := by
  have hv : j < 0 ∨ vs[j.toNatClampNeg]? = none := by
    by_cases q : j < 0
    · exact Or.inl q
    · exact Or.inr (List.getElem?_eq_none (Nat.le_of_not_lt fun g => hj ⟨q, g⟩))
  unfold ldOk at hi
  split at hi
  all_goals first
    | (rw [act_c hd rfl (by rcases hv with q | q <;> simp [hstep, chk, hLd, okT, okB, ho, q])]; rfl)
    | cases hi
theorem st_stuck {ins : Instr} {a : Nat} {j : Int32} {ty : FieldType} {vs : List Value} {v : Value} (hd : decode bytes pc = .ok (ins, 1)) (hi : stOk ins ty = true) (ho : H[a]? = some (.array ty, vs)) (hj : ¬ (¬ j < 0 ∧ j.toNatClampNeg < vs.length)) : act ws dn k y bytes ret pc ls (v :: .int j :: .ref a :: st) H = none := by
  have hv : ¬ (¬ j < 0 ∧ j.toNatClampNeg < vs.length) := hj
  unfold stOk at hi
  split at hi
  all_goals first
    | (rw [act_c hd rfl (by simp only [hstep, chk, hSt, okT, okB, ho, if_true]; rw [if_neg (fun q => hv q.2.2)])]; rfl)
    | cases hi
theorem w_ild {ins : Instr} {a : Nat} {j : Int32} {ty : FieldType} {l : List Int32} (hd : decode bytes pc = .ok (ins, 1)) (hi : ldOk ins ty = true) (ho : H[a]? = some (.array ty, l.map Value.int)) :
    W ws dn k y bytes ret pc ls (.int j :: .ref a :: st) H Q = (inB j l ∧ W ws dn k y bytes ret (pc + 1) ls (.int (getA l j) :: st) H Q) := by
  by_cases h : inB j l
  · rw [w_ald hd hi ho h.1 (v := .int (getA l j)) (by simp [getA, h.2])]
    simp [h]
  · rw [W_stuck (ld_stuck hd hi ho (by simpa [inB] using h))]
    simp [h]
theorem w_lld {a : Nat} {j : Int32} {l : List Int64} (hd : decode bytes pc = .ok (.laload, 1)) (ho : H[a]? = some (.array .long, l.map Value.long)) :
    W ws dn k y bytes ret pc ls (.int j :: .ref a :: st) H Q = (inB j l ∧ W ws dn k y bytes ret (pc + 1) ls (.long (getL l j) :: st) H Q) := by
  by_cases h : inB j l
  · rw [w_ald hd rfl ho h.1 (v := .long (getL l j)) (by simp [getL, h.2])]
    simp [h]
  · rw [W_stuck (ld_stuck hd rfl ho (by simpa [inB] using h))]
    simp [h]
theorem w_ist {ins : Instr} {a : Nat} {j v v' : Int32} {ty : FieldType} {l : List Int32} {H' : AHeap} (hd : decode bytes pc = .ok (ins, 1)) (hi : stOk ins ty = true) (ho : H[a]? = some (.array ty, l.map Value.int)) (hk : k ≤ a) (hv : putv ty (.int v) = some (.int v')) (hH : H.set a (.array ty, (setA l j v').map Value.int) = H') :
    W ws dn k y bytes ret pc ls (.int v :: .int j :: .ref a :: st) H Q = (inB j l ∧ W ws dn k y bytes ret (pc + 1) ls st H' Q) := by
  by_cases h : inB j l
  · rw [w_ast (H' := H') hd hi ho hk h.1 (by simpa using h.2) hv (by rw [← hH, setA, List.map_set])]
    simp [h]
  · rw [W_stuck (st_stuck hd hi ho (by simpa [inB] using h))]
    simp [h]
theorem w_lst {a : Nat} {j : Int32} {v : Int64} {l : List Int64} {H' : AHeap} (hd : decode bytes pc = .ok (.lastore, 1)) (ho : H[a]? = some (.array .long, l.map Value.long)) (hk : k ≤ a) (hH : H.set a (.array .long, (setA l j v).map Value.long) = H') :
    W ws dn k y bytes ret pc ls (.long v :: .int j :: .ref a :: st) H Q = (inB j l ∧ W ws dn k y bytes ret (pc + 1) ls st H' Q) := by
  by_cases h : inB j l
  · rw [w_ast (H' := H') hd rfl ho hk h.1 (by simpa using h.2) rfl (by rw [← hH, setA, List.map_set])]
    simp [h]
  · rw [W_stuck (st_stuck hd rfl ho (by simpa [inB] using h))]
    simp [h]
theorem w_div {ins : Instr} {f : Int32 → Int32 → Int32} {x z : Int32} (hd : decode bytes pc = .ok (ins, 1)) (hx : ∀ st, xstep ins 1 pc ls st = d2 f (pc + 1) ls st) (hh : hstep ws k y ins 1 pc (.int z :: .int x :: st) H = none) (hc : cstep ws dn y ret ins 1 pc ls (.int z :: .int x :: st) H = none) :
    W ws dn k y bytes ret pc ls (.int z :: .int x :: st) H Q = (z ≠ 0 ∧ W ws dn k y bytes ret (pc + 1) ls (.int (f x z) :: st) H Q) := by
  by_cases h : z = 0
  · rw [W_stuck (by rw [act_c hd (by rw [hx]; simp [d2, h]) hh, hc])]; simp [h]
  · rw [w_x (pc' := pc + 1) (ls' := ls) (st' := .int (f x z) :: st) hd (by rw [hx]; simp only [d2, h, if_false])]; simp [h]
/-- a field's array made in a constructor -/
theorem w_iarr {i j p1 p2 p3 : Nat} {C : String} {vs : List Value} {r : AHeap} {n : Int32} {v : Value} {aty : ArrayType} {ty at' : FieldType} {l0 : Slot} {lr : List Slot} {ins : Instr} {len : Nat} {b : Nat} (hl : l0 = .val (.ref b)) (hH : H.length = b) (hk : k ≤ b)
    (d0 : decode bytes pc = .ok (.aload_n 0, 1)) (e0 : pc + 1 = p1) (dn1 : decode bytes p1 = .ok (ins, len)) (hx : ∀ st, xstep ins len p1 (l0 :: lr) st = some (p2, l0 :: lr, v :: st)) (hv : v = .int n) (d2' : decode bytes p2 = .ok (.newarray aty, 2)) (ht : newarray.typeOf aty = ty) (hr : hasArr ws ty = true) (hn : ¬ n < 0) (hb : n.toNatClampNeg * 8 ≤ 536870912) (e3 : p2 + 2 = p3)
    (d3 : decode bytes p3 = .ok (.putfield i, 3)) (hp : pfR ws y.cls y.name i = some (C, j, .array at')) (hj : j < vs.length) :
    W ws dn k y bytes ret pc (l0 :: lr) [] (H ++ (.object C, vs) :: r) Q = W ws dn k y bytes ret (p3 + 3) (l0 :: lr) [] (H ++ (.object C, vs.set j (.ref (b + (r.length + 1)))) :: (r ++ [(.array ty, List.replicate n.toNatClampNeg (defaultValue ty))])) Q := by
  subst hl e0 e3 hv hH
  rw [w_x d0 (ls' := .val (.ref H.length) :: lr) (st' := [.ref H.length]) (pc' := pc + 1) rfl, w_x dn1 (hx _), w_newA d2' ht hr hn hb]
  have e1 : (H ++ (FieldType.object C, vs) :: r).length = H.length + (r.length + 1) := by simp
  rw [e1, w_put d3 hp (vs := vs) (H' := H ++ (.object C, vs.set j (.ref (H.length + (r.length + 1)))) :: (r ++ [(.array ty, List.replicate n.toNatClampNeg (defaultValue ty))])) (by simp) hk hj rfl (by simp)]
/-- a field's plain value put at a constructor's head -/
theorem w_iint {i j p1 p2 : Nat} {C : String} {vs : List Value} {r : AHeap} {v v0 v' : Value} {ty : FieldType} {l0 : Slot} {lr : List Slot} {ins : Instr} {len : Nat} {b : Nat} (hl : l0 = .val (.ref b)) (hH : H.length = b) (hk : k ≤ b)
    (d0 : decode bytes pc = .ok (.aload_n 0, 1)) (e0 : pc + 1 = p1) (dn1 : decode bytes p1 = .ok (ins, len)) (hx : ∀ st, xstep ins len p1 (l0 :: lr) st = some (p2, l0 :: lr, v0 :: st)) (hv : v0 = v)
    (d3 : decode bytes p2 = .ok (.putfield i, 3)) (hp : pfR ws y.cls y.name i = some (C, j, ty)) (hv' : putv ty v = some v') (hj : j < vs.length) :
    W ws dn k y bytes ret pc (l0 :: lr) [] (H ++ (.object C, vs) :: r) Q = W ws dn k y bytes ret (p2 + 3) (l0 :: lr) [] (H ++ (.object C, vs.set j v') :: r) Q := by
  subst hl e0 hv hH
  rw [w_x d0 (ls' := .val (.ref H.length) :: lr) (st' := [.ref H.length]) (pc' := pc + 1) rfl, w_x dn1 (hx _)]
  rw [w_put d3 hp (vs := vs) (H' := H ++ (.object C, vs.set j v') :: r) (by simp) hk hj hv' (by simp)]
end
end Jvm.Own
namespace Jvm.Own
open Sem ClassFile Op Lib Jvm.Stand Jvm.Free Jvm.LawKit Jvm.RoadKit
theorem getA_rep (n : Nat) (j : Int32) : getA (List.replicate n 0) j = 0 := by
  simp only [getA, List.getD_eq_getElem?_getD, List.getElem?_replicate]
  split <;> rfl
/-- the array's words as plain ints -/
theorem script_of {s : State} {a : Addr} {c : Cell} (hf : Fit s) (A : Arr s s.heap a c .int) (hl : c.slots.size < 2 ^ 31) : ∃ vs : List Int32, c.slots = (vs.map Value.int).toArray := by
  have h : ∀ v ∈ c.slots.toList, ∃ x : Int32, v = .int x := fun v hv => by
    obtain ⟨i, hi, e⟩ := List.getElem_of_mem hv
    have hi' : i < c.slots.size := by simpa using hi
    have e1 : (Nat.toInt32 i).toNatClampNeg = i := by simp only [Int32.toNatClampNeg, len_toInt (Nat.lt_trans hi' hl)]; rfl
    obtain ⟨w, h1, h2⟩ := elem_fit hf A (idx_in hi' hl)
    rw [e1] at h1
    have : w = v := by rw [Array.getElem?_eq_getElem hi'] at h1; rw [← e]; simpa using (Option.some.inj h1).symm
    subst this
    exact fit_I h2 (by simp)
  have g : ∀ l : List Value, (∀ v ∈ l, ∃ x : Int32, v = .int x) → ∃ vs : List Int32, l = vs.map Value.int := fun l => by
    induction l with
    | nil => exact fun _ => ⟨[], rfl⟩
    | cons v r ih =>
      intro q
      obtain ⟨x, rfl⟩ := q _ (List.mem_cons_self ..)
      obtain ⟨vs, e⟩ := ih fun w hw => q w (List.mem_cons_of_mem _ hw)
      exact ⟨x :: vs, by rw [e]; rfl⟩
  obtain ⟨vs, e⟩ := g _ h
  exact ⟨vs, by rw [← e]⟩
end Jvm.Own
namespace Jvm.Own
open Sem ClassFile Op Lib Jvm.Stand Jvm.Free Jvm.LawKit Jvm.RoadKit
/-! OWN 8: small facts on arrays and ints -/
theorem toNat_eq (j : Int32) : j.toNatClampNeg = j.toInt.toNat := rfl
theorem lt_i {x y : Int32} : x < y ↔ x.toInt < y.toInt := Int32.lt_iff_toInt_lt
theorem inB_iff {α : Type} {j : Int32} {l : List α} : inB j l ↔ 0 ≤ j.toInt ∧ j.toInt < (l.length : Int) := by
  have e0 : (0 : Int32).toInt = 0 := rfl
  unfold inB
  rw [lt_i, toNat_eq, e0]
  omega
theorem inB_lt {α : Type} {j n : Int32} {l : List α} (hl : (l.length : Int) = n.toInt) (h0 : ¬ j < 0) (h1 : j < n) : inB j l := by
  have e0 : (0 : Int32).toInt = 0 := rfl
  rw [inB_iff]
  rw [lt_i] at h0 h1
  rw [e0] at h0
  omega
theorem setA_len {α : Type} (l : List α) (j : Int32) (v : α) : (setA l j v).length = l.length := List.length_set
theorem getA_set {l : List Int32} {i j v : Int32} (h : inB i l) : getA (setA l i v) j = if j.toNatClampNeg = i.toNatClampNeg then v else getA l j := by
  simp only [getA, setA, List.getD_eq_getElem?_getD, List.getElem?_set]
  by_cases e : j.toNatClampNeg = i.toNatClampNeg
  · rw [e]; simp [h.2]
  · simp [e, Ne.symm e]
theorem getA_set2 (l : List Int32) (i j v : Int32) : getA (setA l i v) j = if j.toNatClampNeg = i.toNatClampNeg ∧ i.toNatClampNeg < l.length then v else getA l j := by
  simp only [getA, setA, List.getD_eq_getElem?_getD, List.getElem?_set]
  by_cases e : j.toNatClampNeg = i.toNatClampNeg
  · rw [e]
    by_cases q : i.toNatClampNeg < l.length <;> simp [q]
  · simp [e, Ne.symm e]
theorem len_ou {B A : Nat → List Int32} {j : Nat} {l : List Int32} (h : ∀ i, (A i).length = (B i).length) (hl : l.length = (B j).length) : ∀ i, (ou A j l i).length = (B i).length := fun i => by
  rw [ou_a]
  split
  · rename_i e; rw [e]; exact hl
  · exact h i
end Jvm.Own
namespace Jvm.Own
open Sem ClassFile Op Lib Jvm.Stand Jvm.Free Jvm.LawKit Jvm.RoadKit
/-! OWN 9: a normal form of states; masks and ranges -/
theorem ou_same {α : Type} (s : Nat → α) (i : Nat) (v w : α) : ou (ou s i v) i w = ou s i w := by
  funext j
  simp only [ou_a]
  by_cases h : j = i <;> simp [h]
theorem ou_comm {α : Type} {s : Nat → α} {i j : Nat} {v w : α} (h : j < i) : ou (ou s i v) j w = ou (ou s j w) (i + 0) v := by
  show ou (ou s i v) j w = ou (ou s j w) i v
  funext k
  simp only [ou_a]
  by_cases h1 : k = j
  · have h2 : ¬ k = i := by omega
    simp [h1]
    intro h3; omega
  · simp [h1]
theorem setA_same {α : Type} (l : List α) (i : Int32) (v w : α) : setA (setA l i v) i w = setA l i w := by
  simp only [setA, List.set_set]
theorem clamp_ne {i j : Int32} (h0 : ¬ j < 0) (h : j < i) : j.toNatClampNeg ≠ i.toNatClampNeg := by
  have e0 : (0 : Int32).toInt = 0 := rfl
  rw [lt_i] at *
  rw [toNat_eq, toNat_eq]
  omega
theorem setA_comm {α : Type} {l : List α} {i j : Int32} {v w : α} (h0 : ¬ j < 0) (h : j < i) : setA (setA l i v) j w = setA (setA l j w) (i + 0) v := by
  rw [Int32.add_zero]
  simp only [setA]
  exact List.set_comm _ _ (Ne.symm (clamp_ne h0 h))
theorem lt_irr (x : Int32) : (x < x) = False := by
  apply propext
  rw [lt_i]
  constructor
  · intro h; omega
  · exact False.elim
theorem bit1 (x : Int32) : x &&& 1 = 0 ∨ x &&& 1 = 1 := by
  have h : (x &&& 1).toBitVec.toNat = x.toBitVec.toNat % 2 := by
    rw [Int32.toBitVec_and, BitVec.toNat_and]
    exact Nat.and_one_is_mod _
  rcases Nat.mod_two_eq_zero_or_one x.toBitVec.toNat with e | e
  · exact Or.inl (Int32.toBitVec_inj.mp (BitVec.eq_of_toNat_eq (by rw [h, e]; rfl)))
  · exact Or.inr (Int32.toBitVec_inj.mp (BitVec.eq_of_toNat_eq (by rw [h, e]; rfl)))
theorem and_bd (x m : Int32) (hm : m.toBitVec.toNat < 2147483648) : 0 ≤ (x &&& m).toInt ∧ (x &&& m).toInt ≤ (m.toBitVec.toNat : Int) := by
  have h : (x &&& m).toBitVec.toNat ≤ m.toBitVec.toNat := by
    rw [Int32.toBitVec_and, BitVec.toNat_and]
    exact Nat.and_le_right
  have e : (x &&& m).toInt = ((x &&& m).toBitVec.toNat : Int) := BitVec.toInt_eq_toNat_of_lt (by omega)
  rw [e]
  omega
theorem rng {x : Int32} {n : Nat} (h0 : 0 ≤ x.toInt) (h1 : x.toInt < n) : ∃ k, k < n ∧ x = Int32.ofNat k := by
  have e : (x.toInt.toNat : Int) = x.toInt := Int.toNat_of_nonneg h0
  refine ⟨x.toInt.toNat, by omega, ?_⟩
  have e2 : Int32.ofNat x.toInt.toNat = Int32.ofInt (x.toInt.toNat : Int) := rfl
  rw [e2, e, Int32.ofInt_toInt]
theorem getL_rep (n : Nat) (j : Int32) : getL (List.replicate n 0) j = 0 := by
  simp only [getL, List.getD_eq_getElem?_getD, List.getElem?_replicate]
  split <;> rfl
theorem getL_set2 (l : List Int64) (i j : Int32) (v : Int64) : getL (setA l i v) j = if j.toNatClampNeg = i.toNatClampNeg ∧ i.toNatClampNeg < l.length then v else getL l j := by
  simp only [getL, setA, List.getD_eq_getElem?_getD, List.getElem?_set]
  by_cases e : j.toNatClampNeg = i.toNatClampNeg
  · rw [e]
    by_cases q : i.toNatClampNeg < l.length <;> simp [q]
  · simp [e, Ne.symm e]
theorem add_i {a b : Int32} (h : -2147483648 ≤ a.toInt + b.toInt) (h' : a.toInt + b.toInt < 2147483648) : (a + b).toInt = a.toInt + b.toInt := by
  rw [Int32.toInt_add]
  have e : ((2 ^ 32 : Nat) : Int) = 4294967296 := rfl
  exact Int.bmod_eq_of_le (by rw [e]; omega) (by rw [e]; omega)
theorem sub_i {a b : Int32} (h : -2147483648 ≤ a.toInt - b.toInt) (h' : a.toInt - b.toInt < 2147483648) : (a - b).toInt = a.toInt - b.toInt := by
  rw [Int32.toInt_sub]
  have e : ((2 ^ 32 : Nat) : Int) = 4294967296 := rfl
  exact Int.bmod_eq_of_le (by rw [e]; omega) (by rw [e]; omega)
theorem mul_i {a b : Int32} (h : -2147483648 ≤ a.toInt * b.toInt) (h' : a.toInt * b.toInt < 2147483648) : (a * b).toInt = a.toInt * b.toInt := by
  rw [Int32.toInt_mul]
  have e : ((2 ^ 32 : Nat) : Int) = 4294967296 := rfl
  exact Int.bmod_eq_of_le (by rw [e]; omega) (by rw [e]; omega)
theorem i_0 : (0 : Int32).toInt = 0 := rfl
theorem i_1 : (1 : Int32).toInt = 1 := rfl
theorem add1_i {a : Int32} (h : a.toInt < 2147483647) : (a + 1).toInt = a.toInt + 1 := by
  have := Int32.le_toInt a
  exact add_i (by rw [i_1]; omega) (by rw [i_1]; omega)
theorem nn_i {a : Int32} : ¬ a < 0 ↔ 0 ≤ a.toInt := by rw [lt_i, i_0]; omega
theorem succ_nn {a : Int32} (h0 : ¬ a < 0) (h : a.toInt < 2147483647) : ¬ a + 1 < 0 := by
  rw [nn_i] at *
  rw [add1_i h]
  omega
theorem inB_set {α : Type} {l : List α} {i j : Int32} {v : α} : inB j (setA l i v) = inB j l := by
  simp only [inB, setA_len]
theorem pad_1 (c : FieldType × List Value) : pad 1 [c] = [c] := rfl
def okS (l : Slot) : Prop := l = .unset ∨ ∃ z : Int32, l = .val (.int z)
theorem okS_u : okS .unset := Or.inl rfl
theorem okS_i (z : Int32) : okS (.val (.int z)) := Or.inr ⟨z, rfl⟩
end Jvm.Own
namespace Jvm.Pilot.@@N@@
open Jvm Jvm.ClassFile Sem Op Lib Jvm.Free Jvm.Stand Jvm.LawKit Jvm.RoadKit Bundle Jvm.Own Jvm.Pilot.@@N@@.Jvm.D
/-- frames and words that each method asks -/
def dn : Dn := [(⟨"LutMapper", "<init>", "(I)V"⟩, 1, 12), (⟨"LutMapper", "addInput", "()I"⟩, 0, 0), (⟨"LutMapper", "addAnd", "(II)I"⟩, 7, 111), (⟨"LutMapper", "validLit", "(I)Z"⟩, 0, 0), (⟨"LutMapper", "computeLabel", "(I)I"⟩, 6, 92), (⟨"LutMapper", "maxFlow", "(II)I"⟩, 5, 76), (⟨"LutMapper", "prepareFlow", "(II)V"⟩, 2, 31), (⟨"LutMapper", "markCone", "(II)I"⟩, 1, 14), (⟨"LutMapper", "bitOf", "(II)I"⟩, 0, 0), (⟨"LutMapper", "searchPath", "()Z"⟩, 4, 60), (⟨"LutMapper", "markVisited", "(I)V"⟩, 0, 0), (⟨"LutMapper", "expandExit", "(II)I"⟩, 3, 43), (⟨"LutMapper", "visit", "(IIII)I"⟩, 2, 27), (⟨"LutMapper", "isVisited", "(I)Z"⟩, 1, 14), (⟨"LutMapper", "expandEntry", "(II)I"⟩, 3, 43), (⟨"LutMapper", "isUnit", "(I)Z"⟩, 1, 14), (⟨"LutMapper", "augment", "()V"⟩, 1, 15), (⟨"LutMapper", "applyEdge", "(III)V"⟩, 0, 0), (⟨"LutMapper", "addOutput", "(I)I"⟩, 1, 13), (⟨"LutMapper", "getLabel", "(I)I"⟩, 0, 0), (⟨"LutMapper", "map", "()I"⟩, 8, 125), (⟨"LutMapper", "resetCover", "()V"⟩, 0, 0), (⟨"LutMapper", "selectLut", "(I)V"⟩, 7, 109), (⟨"LutMapper", "chooseCut", "(II)I"⟩, 6, 92), (⟨"LutMapper", "sinkSideCut", "()I"⟩, 4, 58), (⟨"LutMapper", "reach", "(II)I"⟩, 2, 27), (⟨"LutMapper", "reachIntoExit", "(II)I"⟩, 3, 41), (⟨"LutMapper", "reachIntoEntry", "(II)I"⟩, 3, 41), (⟨"LutMapper", "isCut", "(II)Z"⟩, 2, 30), (⟨"LutMapper", "bitCount", "(I)I"⟩, 0, 0), (⟨"LutMapper", "truthOf", "(II)I"⟩, 2, 30), (⟨"LutMapper", "varTable", "(I)I"⟩, 0, 0), (⟨"LutMapper", "litTable", "(I)I"⟩, 0, 0), (⟨"LutMapper", "getMappedDepth", "()I"⟩, 0, 0), (⟨"LutMapper", "cutTruth", "(II)I"⟩, 3, 47), (⟨"LutMapper", "evalGraph", "(I)I"⟩, 2, 30), (⟨"LutMapper", "litVal", "(II)I"⟩, 0, 0), (⟨"LutMapper", "packOutputs", "(I)I"⟩, 1, 15), (⟨"LutMapper", "evalMapped", "(I)I"⟩, 2, 32), (⟨"LutMapper", "lutValue", "(II)I"⟩, 1, 14), (⟨"LutMapperL3", "law", "(II)Z"⟩, 9, 140)]
/- scalars: 0=capacity 1=nodeCount 2=inputCount 3=outputCount 4=srcNode 5=coneMask 6=unitMask 7=visIn 8=visOut 9=visSink 10=mapped 11=mappedDepth 12=neededMask; arrays: 0=kind@1 1=fan0@2 2=fan1@3 3=inputNum@4 4=label@5 5=outLit@6 6=flowInt@7 7=flowEdge@8 8=queue@9 9=prevV@10 10=prevC@11 11=req@12 12=lutLeaves@13 13=lutTruth@14 14=tt@15; longs: []; long arrays: [] -/
def objv (b : Nat) (s : Nat → Int32) : List Value := [.ref (b + 1), .ref (b + 2), .ref (b + 3), .ref (b + 4), .ref (b + 5), .ref (b + 6), .ref (b + 7), .ref (b + 8), .ref (b + 9), .ref (b + 10), .ref (b + 11), .ref (b + 12), .ref (b + 13), .ref (b + 14), .ref (b + 15), .int (s 0), .int (s 1), .int (s 2), .int (s 3), .int (s 10), .int (s 11), .int (s 12), .int (s 4), .int (s 5), .int (s 6), .int (s 7), .int (s 8), .int (s 9)]
def put (b : Nat) (pre : AHeap) (s : Nat → Int32) (A : Nat → List Int32) (post : AHeap) : AHeap := pad b pre ++ ((.object "LutMapper", objv b s) :: (.array .int, (A 0).map Value.int) :: (.array .int, (A 1).map Value.int) :: (.array .int, (A 2).map Value.int) :: (.array .int, (A 3).map Value.int) :: (.array .int, (A 4).map Value.int) :: (.array .int, (A 5).map Value.int) :: (.array .int, (A 6).map Value.int) :: (.array .int, (A 7).map Value.int) :: (.array .int, (A 8).map Value.int) :: (.array .int, (A 9).map Value.int) :: (.array .int, (A 10).map Value.int) :: (.array .int, (A 11).map Value.int) :: (.array .int, (A 12).map Value.int) :: (.array .int, (A 13).map Value.int) :: (.array .int, (A 14).map Value.int) :: post)
theorem put_o {b : Nat} {pre : AHeap} {s : Nat → Int32} {A : Nat → List Int32} {post : AHeap} : (put b pre s A post)[b]? = some (.object "LutMapper", objv b s) := pad_get0 _ _ _
theorem put_a0 {b : Nat} {pre : AHeap} {s : Nat → Int32} {A : Nat → List Int32} {post : AHeap} : (put b pre s A post)[b + 1]? = some (.array .int, (A 0).map Value.int) := pad_get _ _ _ 1
theorem put_w0 {b : Nat} {pre : AHeap} {s : Nat → Int32} {A : Nat → List Int32} {post : AHeap} {l : List Int32} : (put b pre s A post).set (b + 1) (.array .int, l.map Value.int) = put b pre s (ou A 0 l) post := pad_set _ _ _ 1 _
theorem put_a1 {b : Nat} {pre : AHeap} {s : Nat → Int32} {A : Nat → List Int32} {post : AHeap} : (put b pre s A post)[b + 2]? = some (.array .int, (A 1).map Value.int) := pad_get _ _ _ 2
theorem put_w1 {b : Nat} {pre : AHeap} {s : Nat → Int32} {A : Nat → List Int32} {post : AHeap} {l : List Int32} : (put b pre s A post).set (b + 2) (.array .int, l.map Value.int) = put b pre s (ou A 1 l) post := pad_set _ _ _ 2 _
theorem put_a2 {b : Nat} {pre : AHeap} {s : Nat → Int32} {A : Nat → List Int32} {post : AHeap} : (put b pre s A post)[b + 3]? = some (.array .int, (A 2).map Value.int) := pad_get _ _ _ 3
theorem put_w2 {b : Nat} {pre : AHeap} {s : Nat → Int32} {A : Nat → List Int32} {post : AHeap} {l : List Int32} : (put b pre s A post).set (b + 3) (.array .int, l.map Value.int) = put b pre s (ou A 2 l) post := pad_set _ _ _ 3 _
theorem put_a3 {b : Nat} {pre : AHeap} {s : Nat → Int32} {A : Nat → List Int32} {post : AHeap} : (put b pre s A post)[b + 4]? = some (.array .int, (A 3).map Value.int) := pad_get _ _ _ 4
theorem put_w3 {b : Nat} {pre : AHeap} {s : Nat → Int32} {A : Nat → List Int32} {post : AHeap} {l : List Int32} : (put b pre s A post).set (b + 4) (.array .int, l.map Value.int) = put b pre s (ou A 3 l) post := pad_set _ _ _ 4 _
theorem put_a4 {b : Nat} {pre : AHeap} {s : Nat → Int32} {A : Nat → List Int32} {post : AHeap} : (put b pre s A post)[b + 5]? = some (.array .int, (A 4).map Value.int) := pad_get _ _ _ 5
theorem put_w4 {b : Nat} {pre : AHeap} {s : Nat → Int32} {A : Nat → List Int32} {post : AHeap} {l : List Int32} : (put b pre s A post).set (b + 5) (.array .int, l.map Value.int) = put b pre s (ou A 4 l) post := pad_set _ _ _ 5 _
theorem put_a5 {b : Nat} {pre : AHeap} {s : Nat → Int32} {A : Nat → List Int32} {post : AHeap} : (put b pre s A post)[b + 6]? = some (.array .int, (A 5).map Value.int) := pad_get _ _ _ 6
theorem put_w5 {b : Nat} {pre : AHeap} {s : Nat → Int32} {A : Nat → List Int32} {post : AHeap} {l : List Int32} : (put b pre s A post).set (b + 6) (.array .int, l.map Value.int) = put b pre s (ou A 5 l) post := pad_set _ _ _ 6 _
theorem put_a6 {b : Nat} {pre : AHeap} {s : Nat → Int32} {A : Nat → List Int32} {post : AHeap} : (put b pre s A post)[b + 7]? = some (.array .int, (A 6).map Value.int) := pad_get _ _ _ 7
theorem put_w6 {b : Nat} {pre : AHeap} {s : Nat → Int32} {A : Nat → List Int32} {post : AHeap} {l : List Int32} : (put b pre s A post).set (b + 7) (.array .int, l.map Value.int) = put b pre s (ou A 6 l) post := pad_set _ _ _ 7 _
theorem put_a7 {b : Nat} {pre : AHeap} {s : Nat → Int32} {A : Nat → List Int32} {post : AHeap} : (put b pre s A post)[b + 8]? = some (.array .int, (A 7).map Value.int) := pad_get _ _ _ 8
theorem put_w7 {b : Nat} {pre : AHeap} {s : Nat → Int32} {A : Nat → List Int32} {post : AHeap} {l : List Int32} : (put b pre s A post).set (b + 8) (.array .int, l.map Value.int) = put b pre s (ou A 7 l) post := pad_set _ _ _ 8 _
theorem put_a8 {b : Nat} {pre : AHeap} {s : Nat → Int32} {A : Nat → List Int32} {post : AHeap} : (put b pre s A post)[b + 9]? = some (.array .int, (A 8).map Value.int) := pad_get _ _ _ 9
theorem put_w8 {b : Nat} {pre : AHeap} {s : Nat → Int32} {A : Nat → List Int32} {post : AHeap} {l : List Int32} : (put b pre s A post).set (b + 9) (.array .int, l.map Value.int) = put b pre s (ou A 8 l) post := pad_set _ _ _ 9 _
theorem put_a9 {b : Nat} {pre : AHeap} {s : Nat → Int32} {A : Nat → List Int32} {post : AHeap} : (put b pre s A post)[b + 10]? = some (.array .int, (A 9).map Value.int) := pad_get _ _ _ 10
theorem put_w9 {b : Nat} {pre : AHeap} {s : Nat → Int32} {A : Nat → List Int32} {post : AHeap} {l : List Int32} : (put b pre s A post).set (b + 10) (.array .int, l.map Value.int) = put b pre s (ou A 9 l) post := pad_set _ _ _ 10 _
theorem put_a10 {b : Nat} {pre : AHeap} {s : Nat → Int32} {A : Nat → List Int32} {post : AHeap} : (put b pre s A post)[b + 11]? = some (.array .int, (A 10).map Value.int) := pad_get _ _ _ 11
theorem put_w10 {b : Nat} {pre : AHeap} {s : Nat → Int32} {A : Nat → List Int32} {post : AHeap} {l : List Int32} : (put b pre s A post).set (b + 11) (.array .int, l.map Value.int) = put b pre s (ou A 10 l) post := pad_set _ _ _ 11 _
theorem put_a11 {b : Nat} {pre : AHeap} {s : Nat → Int32} {A : Nat → List Int32} {post : AHeap} : (put b pre s A post)[b + 12]? = some (.array .int, (A 11).map Value.int) := pad_get _ _ _ 12
theorem put_w11 {b : Nat} {pre : AHeap} {s : Nat → Int32} {A : Nat → List Int32} {post : AHeap} {l : List Int32} : (put b pre s A post).set (b + 12) (.array .int, l.map Value.int) = put b pre s (ou A 11 l) post := pad_set _ _ _ 12 _
theorem put_a12 {b : Nat} {pre : AHeap} {s : Nat → Int32} {A : Nat → List Int32} {post : AHeap} : (put b pre s A post)[b + 13]? = some (.array .int, (A 12).map Value.int) := pad_get _ _ _ 13
theorem put_w12 {b : Nat} {pre : AHeap} {s : Nat → Int32} {A : Nat → List Int32} {post : AHeap} {l : List Int32} : (put b pre s A post).set (b + 13) (.array .int, l.map Value.int) = put b pre s (ou A 12 l) post := pad_set _ _ _ 13 _
theorem put_a13 {b : Nat} {pre : AHeap} {s : Nat → Int32} {A : Nat → List Int32} {post : AHeap} : (put b pre s A post)[b + 14]? = some (.array .int, (A 13).map Value.int) := pad_get _ _ _ 14
theorem put_w13 {b : Nat} {pre : AHeap} {s : Nat → Int32} {A : Nat → List Int32} {post : AHeap} {l : List Int32} : (put b pre s A post).set (b + 14) (.array .int, l.map Value.int) = put b pre s (ou A 13 l) post := pad_set _ _ _ 14 _
theorem put_a14 {b : Nat} {pre : AHeap} {s : Nat → Int32} {A : Nat → List Int32} {post : AHeap} : (put b pre s A post)[b + 15]? = some (.array .int, (A 14).map Value.int) := pad_get _ _ _ 15
theorem put_w14 {b : Nat} {pre : AHeap} {s : Nat → Int32} {A : Nat → List Int32} {post : AHeap} {l : List Int32} : (put b pre s A post).set (b + 15) (.array .int, l.map Value.int) = put b pre s (ou A 14 l) post := pad_set _ _ _ 15 _
theorem put_s0 {b : Nat} {pre : AHeap} {s : Nat → Int32} {A : Nat → List Int32} {post : AHeap} {v : Int32} : (put b pre s A post).set b (.object "LutMapper", (objv b s).set 15 (.int v)) = put b pre (ou s 0 v) A post := pad_set0 _ _ _ _
theorem put_s1 {b : Nat} {pre : AHeap} {s : Nat → Int32} {A : Nat → List Int32} {post : AHeap} {v : Int32} : (put b pre s A post).set b (.object "LutMapper", (objv b s).set 16 (.int v)) = put b pre (ou s 1 v) A post := pad_set0 _ _ _ _
theorem put_s2 {b : Nat} {pre : AHeap} {s : Nat → Int32} {A : Nat → List Int32} {post : AHeap} {v : Int32} : (put b pre s A post).set b (.object "LutMapper", (objv b s).set 17 (.int v)) = put b pre (ou s 2 v) A post := pad_set0 _ _ _ _
theorem put_s3 {b : Nat} {pre : AHeap} {s : Nat → Int32} {A : Nat → List Int32} {post : AHeap} {v : Int32} : (put b pre s A post).set b (.object "LutMapper", (objv b s).set 18 (.int v)) = put b pre (ou s 3 v) A post := pad_set0 _ _ _ _
theorem put_s10 {b : Nat} {pre : AHeap} {s : Nat → Int32} {A : Nat → List Int32} {post : AHeap} {v : Int32} : (put b pre s A post).set b (.object "LutMapper", (objv b s).set 19 (.int v)) = put b pre (ou s 10 v) A post := pad_set0 _ _ _ _
theorem put_s11 {b : Nat} {pre : AHeap} {s : Nat → Int32} {A : Nat → List Int32} {post : AHeap} {v : Int32} : (put b pre s A post).set b (.object "LutMapper", (objv b s).set 20 (.int v)) = put b pre (ou s 11 v) A post := pad_set0 _ _ _ _
theorem put_s12 {b : Nat} {pre : AHeap} {s : Nat → Int32} {A : Nat → List Int32} {post : AHeap} {v : Int32} : (put b pre s A post).set b (.object "LutMapper", (objv b s).set 21 (.int v)) = put b pre (ou s 12 v) A post := pad_set0 _ _ _ _
theorem put_s4 {b : Nat} {pre : AHeap} {s : Nat → Int32} {A : Nat → List Int32} {post : AHeap} {v : Int32} : (put b pre s A post).set b (.object "LutMapper", (objv b s).set 22 (.int v)) = put b pre (ou s 4 v) A post := pad_set0 _ _ _ _
theorem put_s5 {b : Nat} {pre : AHeap} {s : Nat → Int32} {A : Nat → List Int32} {post : AHeap} {v : Int32} : (put b pre s A post).set b (.object "LutMapper", (objv b s).set 23 (.int v)) = put b pre (ou s 5 v) A post := pad_set0 _ _ _ _
theorem put_s6 {b : Nat} {pre : AHeap} {s : Nat → Int32} {A : Nat → List Int32} {post : AHeap} {v : Int32} : (put b pre s A post).set b (.object "LutMapper", (objv b s).set 24 (.int v)) = put b pre (ou s 6 v) A post := pad_set0 _ _ _ _
theorem put_s7 {b : Nat} {pre : AHeap} {s : Nat → Int32} {A : Nat → List Int32} {post : AHeap} {v : Int32} : (put b pre s A post).set b (.object "LutMapper", (objv b s).set 25 (.int v)) = put b pre (ou s 7 v) A post := pad_set0 _ _ _ _
theorem put_s8 {b : Nat} {pre : AHeap} {s : Nat → Int32} {A : Nat → List Int32} {post : AHeap} {v : Int32} : (put b pre s A post).set b (.object "LutMapper", (objv b s).set 26 (.int v)) = put b pre (ou s 8 v) A post := pad_set0 _ _ _ _
theorem put_s9 {b : Nat} {pre : AHeap} {s : Nat → Int32} {A : Nat → List Int32} {post : AHeap} {v : Int32} : (put b pre s A post).set b (.object "LutMapper", (objv b s).set 27 (.int v)) = put b pre (ou s 9 v) A post := pad_set0 _ _ _ _
theorem put_len {b : Nat} {pre : AHeap} {s : Nat → Int32} {A : Nat → List Int32} {post : AHeap} : (put b pre s A post).length = b + 16 + post.length := by rw [put, List.length_append, pad_len]; simp only [List.length_cons]; omega
theorem inst0 : rInst tables_1 "LutMapper" = some 28 := by decide +kernel
theorem put_tot {b : Nat} {pre : AHeap} {s : Nat → Int32} {A : Nat → List Int32} {post : AHeap} : tot tables_1 (put b pre s A post) = tot tables_1 (pad b pre) + (28 + ((A 0).length + ((A 1).length + ((A 2).length + ((A 3).length + ((A 4).length + ((A 5).length + ((A 6).length + ((A 7).length + ((A 8).length + ((A 9).length + ((A 10).length + ((A 11).length + ((A 12).length + ((A 13).length + ((A 14).length + tot tables_1 post)))))))))))))))) := by rw [put, tot_append]; simp only [tot_cons, cost, List.length_map, inst0, Option.getD_some]
def D0 : List Value := [.null, .null, .null, .null, .null, .null, .null, .null, .null, .null, .null, .null, .null, .null, .null, .int 0, .int 0, .int 0, .int 0, .int 0, .int 0, .int 0, .int 0, .int 0, .int 0, .int 0, .int 0, .int 0]
theorem lay0 : (olay tables_1 "LutMapper").map dflt = D0 := by decide +kernel
abbrev y0 : MethodName := ⟨"LutMapper", "<init>", "(I)V"⟩
abbrev kb0 : ByteArray := prog_1_method_1_code
def M0 (pc : Nat) (ls : List Slot) (st : List Value) (H : AHeap) (Q : Option Value → AHeap → Prop) : Prop := W tables_1 dn 0 y0 prog_1_method_1_code none pc ls st H Q
abbrev y1 : MethodName := ⟨"LutMapper", "addInput", "()I"⟩
abbrev kb1 : ByteArray := prog_1_method_3_code
def M1 (pc : Nat) (ls : List Slot) (st : List Value) (H : AHeap) (Q : Option Value → AHeap → Prop) : Prop := W tables_1 dn 0 y1 prog_1_method_3_code (some .int) pc ls st H Q
abbrev y2 : MethodName := ⟨"LutMapper", "addAnd", "(II)I"⟩
abbrev kb2 : ByteArray := prog_1_method_4_code
def M2 (pc : Nat) (ls : List Slot) (st : List Value) (H : AHeap) (Q : Option Value → AHeap → Prop) : Prop := W tables_1 dn 0 y2 prog_1_method_4_code (some .int) pc ls st H Q
abbrev y3 : MethodName := ⟨"LutMapper", "validLit", "(I)Z"⟩
abbrev kb3 : ByteArray := prog_1_method_18_code
def M3 (pc : Nat) (ls : List Slot) (st : List Value) (H : AHeap) (Q : Option Value → AHeap → Prop) : Prop := W tables_1 dn 0 y3 prog_1_method_18_code (some .boolean) pc ls st H Q
abbrev y4 : MethodName := ⟨"LutMapper", "computeLabel", "(I)I"⟩
abbrev kb4 : ByteArray := prog_1_method_29_code
def M4 (pc : Nat) (ls : List Slot) (st : List Value) (H : AHeap) (Q : Option Value → AHeap → Prop) : Prop := W tables_1 dn 0 y4 prog_1_method_29_code (some .int) pc ls st H Q
abbrev y5 : MethodName := ⟨"LutMapper", "maxFlow", "(II)I"⟩
abbrev kb5 : ByteArray := prog_1_method_31_code
def M5 (pc : Nat) (ls : List Slot) (st : List Value) (H : AHeap) (Q : Option Value → AHeap → Prop) : Prop := W tables_1 dn 0 y5 prog_1_method_31_code (some .int) pc ls st H Q
abbrev y6 : MethodName := ⟨"LutMapper", "prepareFlow", "(II)V"⟩
abbrev kb6 : ByteArray := prog_1_method_30_code
def M6 (pc : Nat) (ls : List Slot) (st : List Value) (H : AHeap) (Q : Option Value → AHeap → Prop) : Prop := W tables_1 dn 0 y6 prog_1_method_30_code none pc ls st H Q
abbrev y7 : MethodName := ⟨"LutMapper", "markCone", "(II)I"⟩
abbrev kb7 : ByteArray := prog_1_method_24_code
def M7 (pc : Nat) (ls : List Slot) (st : List Value) (H : AHeap) (Q : Option Value → AHeap → Prop) : Prop := W tables_1 dn 0 y7 prog_1_method_24_code (some .int) pc ls st H Q
abbrev y8 : MethodName := ⟨"LutMapper", "bitOf", "(II)I"⟩
abbrev kb8 : ByteArray := prog_1_method_19_code
def M8 (pc : Nat) (ls : List Slot) (st : List Value) (H : AHeap) (Q : Option Value → AHeap → Prop) : Prop := W tables_1 dn 0 y8 prog_1_method_19_code (some .int) pc ls st H Q
abbrev y9 : MethodName := ⟨"LutMapper", "searchPath", "()Z"⟩
abbrev kb9 : ByteArray := prog_1_method_35_code
def M9 (pc : Nat) (ls : List Slot) (st : List Value) (H : AHeap) (Q : Option Value → AHeap → Prop) : Prop := W tables_1 dn 0 y9 prog_1_method_35_code (some .boolean) pc ls st H Q
abbrev y10 : MethodName := ⟨"LutMapper", "markVisited", "(I)V"⟩
abbrev kb10 : ByteArray := prog_1_method_33_code
def M10 (pc : Nat) (ls : List Slot) (st : List Value) (H : AHeap) (Q : Option Value → AHeap → Prop) : Prop := W tables_1 dn 0 y10 prog_1_method_33_code none pc ls st H Q
abbrev y11 : MethodName := ⟨"LutMapper", "expandExit", "(II)I"⟩
abbrev kb11 : ByteArray := prog_1_method_37_code
def M11 (pc : Nat) (ls : List Slot) (st : List Value) (H : AHeap) (Q : Option Value → AHeap → Prop) : Prop := W tables_1 dn 0 y11 prog_1_method_37_code (some .int) pc ls st H Q
abbrev y12 : MethodName := ⟨"LutMapper", "visit", "(IIII)I"⟩
abbrev kb12 : ByteArray := prog_1_method_34_code
def M12 (pc : Nat) (ls : List Slot) (st : List Value) (H : AHeap) (Q : Option Value → AHeap → Prop) : Prop := W tables_1 dn 0 y12 prog_1_method_34_code (some .int) pc ls st H Q
abbrev y13 : MethodName := ⟨"LutMapper", "isVisited", "(I)Z"⟩
abbrev kb13 : ByteArray := prog_1_method_32_code
def M13 (pc : Nat) (ls : List Slot) (st : List Value) (H : AHeap) (Q : Option Value → AHeap → Prop) : Prop := W tables_1 dn 0 y13 prog_1_method_32_code (some .boolean) pc ls st H Q
abbrev y14 : MethodName := ⟨"LutMapper", "expandEntry", "(II)I"⟩
abbrev kb14 : ByteArray := prog_1_method_36_code
def M14 (pc : Nat) (ls : List Slot) (st : List Value) (H : AHeap) (Q : Option Value → AHeap → Prop) : Prop := W tables_1 dn 0 y14 prog_1_method_36_code (some .int) pc ls st H Q
abbrev y15 : MethodName := ⟨"LutMapper", "isUnit", "(I)Z"⟩
abbrev kb15 : ByteArray := prog_1_method_21_code
def M15 (pc : Nat) (ls : List Slot) (st : List Value) (H : AHeap) (Q : Option Value → AHeap → Prop) : Prop := W tables_1 dn 0 y15 prog_1_method_21_code (some .boolean) pc ls st H Q
abbrev y16 : MethodName := ⟨"LutMapper", "augment", "()V"⟩
abbrev kb16 : ByteArray := prog_1_method_38_code
def M16 (pc : Nat) (ls : List Slot) (st : List Value) (H : AHeap) (Q : Option Value → AHeap → Prop) : Prop := W tables_1 dn 0 y16 prog_1_method_38_code none pc ls st H Q
abbrev y17 : MethodName := ⟨"LutMapper", "applyEdge", "(III)V"⟩
abbrev kb17 : ByteArray := prog_1_method_39_code
def M17 (pc : Nat) (ls : List Slot) (st : List Value) (H : AHeap) (Q : Option Value → AHeap → Prop) : Prop := W tables_1 dn 0 y17 prog_1_method_39_code none pc ls st H Q
abbrev y18 : MethodName := ⟨"LutMapper", "addOutput", "(I)I"⟩
abbrev kb18 : ByteArray := prog_1_method_5_code
def M18 (pc : Nat) (ls : List Slot) (st : List Value) (H : AHeap) (Q : Option Value → AHeap → Prop) : Prop := W tables_1 dn 0 y18 prog_1_method_5_code (some .int) pc ls st H Q
abbrev y19 : MethodName := ⟨"LutMapper", "getLabel", "(I)I"⟩
abbrev kb19 : ByteArray := prog_1_method_12_code
def M19 (pc : Nat) (ls : List Slot) (st : List Value) (H : AHeap) (Q : Option Value → AHeap → Prop) : Prop := W tables_1 dn 0 y19 prog_1_method_12_code (some .int) pc ls st H Q
abbrev y20 : MethodName := ⟨"LutMapper", "map", "()I"⟩
abbrev kb20 : ByteArray := prog_1_method_14_code
def M20 (pc : Nat) (ls : List Slot) (st : List Value) (H : AHeap) (Q : Option Value → AHeap → Prop) : Prop := W tables_1 dn 0 y20 prog_1_method_14_code (some .int) pc ls st H Q
abbrev y21 : MethodName := ⟨"LutMapper", "resetCover", "()V"⟩
abbrev kb21 : ByteArray := prog_1_method_44_code
def M21 (pc : Nat) (ls : List Slot) (st : List Value) (H : AHeap) (Q : Option Value → AHeap → Prop) : Prop := W tables_1 dn 0 y21 prog_1_method_44_code none pc ls st H Q
abbrev y22 : MethodName := ⟨"LutMapper", "selectLut", "(I)V"⟩
abbrev kb22 : ByteArray := prog_1_method_46_code
def M22 (pc : Nat) (ls : List Slot) (st : List Value) (H : AHeap) (Q : Option Value → AHeap → Prop) : Prop := W tables_1 dn 0 y22 prog_1_method_46_code none pc ls st H Q
abbrev y23 : MethodName := ⟨"LutMapper", "chooseCut", "(II)I"⟩
abbrev kb23 : ByteArray := prog_1_method_45_code
def M23 (pc : Nat) (ls : List Slot) (st : List Value) (H : AHeap) (Q : Option Value → AHeap → Prop) : Prop := W tables_1 dn 0 y23 prog_1_method_45_code (some .int) pc ls st H Q
abbrev y24 : MethodName := ⟨"LutMapper", "sinkSideCut", "()I"⟩
abbrev kb24 : ByteArray := prog_1_method_41_code
def M24 (pc : Nat) (ls : List Slot) (st : List Value) (H : AHeap) (Q : Option Value → AHeap → Prop) : Prop := W tables_1 dn 0 y24 prog_1_method_41_code (some .int) pc ls st H Q
abbrev y25 : MethodName := ⟨"LutMapper", "reach", "(II)I"⟩
abbrev kb25 : ByteArray := prog_1_method_40_code
def M25 (pc : Nat) (ls : List Slot) (st : List Value) (H : AHeap) (Q : Option Value → AHeap → Prop) : Prop := W tables_1 dn 0 y25 prog_1_method_40_code (some .int) pc ls st H Q
abbrev y26 : MethodName := ⟨"LutMapper", "reachIntoExit", "(II)I"⟩
abbrev kb26 : ByteArray := prog_1_method_42_code
def M26 (pc : Nat) (ls : List Slot) (st : List Value) (H : AHeap) (Q : Option Value → AHeap → Prop) : Prop := W tables_1 dn 0 y26 prog_1_method_42_code (some .int) pc ls st H Q
abbrev y27 : MethodName := ⟨"LutMapper", "reachIntoEntry", "(II)I"⟩
abbrev kb27 : ByteArray := prog_1_method_43_code
def M27 (pc : Nat) (ls : List Slot) (st : List Value) (H : AHeap) (Q : Option Value → AHeap → Prop) : Prop := W tables_1 dn 0 y27 prog_1_method_43_code (some .int) pc ls st H Q
abbrev y28 : MethodName := ⟨"LutMapper", "isCut", "(II)Z"⟩
abbrev kb28 : ByteArray := prog_1_method_25_code
def M28 (pc : Nat) (ls : List Slot) (st : List Value) (H : AHeap) (Q : Option Value → AHeap → Prop) : Prop := W tables_1 dn 0 y28 prog_1_method_25_code (some .boolean) pc ls st H Q
abbrev y29 : MethodName := ⟨"LutMapper", "bitCount", "(I)I"⟩
abbrev kb29 : ByteArray := prog_1_method_20_code
def M29 (pc : Nat) (ls : List Slot) (st : List Value) (H : AHeap) (Q : Option Value → AHeap → Prop) : Prop := W tables_1 dn 0 y29 prog_1_method_20_code (some .int) pc ls st H Q
abbrev y30 : MethodName := ⟨"LutMapper", "truthOf", "(II)I"⟩
abbrev kb30 : ByteArray := prog_1_method_28_code
def M30 (pc : Nat) (ls : List Slot) (st : List Value) (H : AHeap) (Q : Option Value → AHeap → Prop) : Prop := W tables_1 dn 0 y30 prog_1_method_28_code (some .int) pc ls st H Q
abbrev y31 : MethodName := ⟨"LutMapper", "varTable", "(I)I"⟩
abbrev kb31 : ByteArray := prog_1_method_26_code
def M31 (pc : Nat) (ls : List Slot) (st : List Value) (H : AHeap) (Q : Option Value → AHeap → Prop) : Prop := W tables_1 dn 0 y31 prog_1_method_26_code (some .int) pc ls st H Q
abbrev y32 : MethodName := ⟨"LutMapper", "litTable", "(I)I"⟩
abbrev kb32 : ByteArray := prog_1_method_27_code
def M32 (pc : Nat) (ls : List Slot) (st : List Value) (H : AHeap) (Q : Option Value → AHeap → Prop) : Prop := W tables_1 dn 0 y32 prog_1_method_27_code (some .int) pc ls st H Q
abbrev y33 : MethodName := ⟨"LutMapper", "getMappedDepth", "()I"⟩
abbrev kb33 : ByteArray := prog_1_method_15_code
def M33 (pc : Nat) (ls : List Slot) (st : List Value) (H : AHeap) (Q : Option Value → AHeap → Prop) : Prop := W tables_1 dn 0 y33 prog_1_method_15_code (some .int) pc ls st H Q
abbrev y34 : MethodName := ⟨"LutMapper", "cutTruth", "(II)I"⟩
abbrev kb34 : ByteArray := prog_1_method_13_code
def M34 (pc : Nat) (ls : List Slot) (st : List Value) (H : AHeap) (Q : Option Value → AHeap → Prop) : Prop := W tables_1 dn 0 y34 prog_1_method_13_code (some .int) pc ls st H Q
abbrev y35 : MethodName := ⟨"LutMapper", "evalGraph", "(I)I"⟩
abbrev kb35 : ByteArray := prog_1_method_16_code
def M35 (pc : Nat) (ls : List Slot) (st : List Value) (H : AHeap) (Q : Option Value → AHeap → Prop) : Prop := W tables_1 dn 0 y35 prog_1_method_16_code (some .int) pc ls st H Q
abbrev y36 : MethodName := ⟨"LutMapper", "litVal", "(II)I"⟩
abbrev kb36 : ByteArray := prog_1_method_22_code
def M36 (pc : Nat) (ls : List Slot) (st : List Value) (H : AHeap) (Q : Option Value → AHeap → Prop) : Prop := W tables_1 dn 0 y36 prog_1_method_22_code (some .int) pc ls st H Q
abbrev y37 : MethodName := ⟨"LutMapper", "packOutputs", "(I)I"⟩
abbrev kb37 : ByteArray := prog_1_method_23_code
def M37 (pc : Nat) (ls : List Slot) (st : List Value) (H : AHeap) (Q : Option Value → AHeap → Prop) : Prop := W tables_1 dn 0 y37 prog_1_method_23_code (some .int) pc ls st H Q
abbrev y38 : MethodName := ⟨"LutMapper", "evalMapped", "(I)I"⟩
abbrev kb38 : ByteArray := prog_1_method_17_code
def M38 (pc : Nat) (ls : List Slot) (st : List Value) (H : AHeap) (Q : Option Value → AHeap → Prop) : Prop := W tables_1 dn 0 y38 prog_1_method_17_code (some .int) pc ls st H Q
abbrev y39 : MethodName := ⟨"LutMapper", "lutValue", "(II)I"⟩
abbrev kb39 : ByteArray := prog_1_method_47_code
def M39 (pc : Nat) (ls : List Slot) (st : List Value) (H : AHeap) (Q : Option Value → AHeap → Prop) : Prop := W tables_1 dn 0 y39 prog_1_method_47_code (some .int) pc ls st H Q
abbrev y40 : MethodName := ⟨"LutMapperL3", "law", "(II)Z"⟩
abbrev kb40 : ByteArray := code
def M40 (pc : Nat) (ls : List Slot) (st : List Value) (H : AHeap) (Q : Option Value → AHeap → Prop) : Prop := W tables_1 dn 0 y40 code (some .boolean) pc ls st H Q
theorem dn_0 : dnOf dn y0 = some (1, 12) := by decide +kernel
theorem rc_0 : rCode tables_1 y0 = some (prog_1_method_1_code, 3, none) := rCode_of (i := 5) rfl (by decide +kernel)
theorem dn_1 : dnOf dn y1 = some (0, 0) := by decide +kernel
theorem rc_1 : rCode tables_1 y1 = some (prog_1_method_3_code, 2, some .int) := rCode_of (i := 58) rfl (by decide +kernel)
theorem dn_2 : dnOf dn y2 = some (7, 111) := by decide +kernel
theorem rc_2 : rCode tables_1 y2 = some (prog_1_method_4_code, 4, some .int) := rCode_of (i := 63) rfl (by decide +kernel)
theorem dn_3 : dnOf dn y3 = some (0, 0) := by decide +kernel
theorem rc_3 : rCode tables_1 y3 = some (prog_1_method_18_code, 2, some .boolean) := rCode_of (i := 67) rfl (by decide +kernel)
theorem dn_4 : dnOf dn y4 = some (6, 92) := by decide +kernel
theorem rc_4 : rCode tables_1 y4 = some (prog_1_method_29_code, 6, some .int) := rCode_of (i := 71) rfl (by decide +kernel)
theorem dn_5 : dnOf dn y5 = some (5, 76) := by decide +kernel
theorem rc_5 : rCode tables_1 y5 = some (prog_1_method_31_code, 5, some .int) := rCode_of (i := 75) rfl (by decide +kernel)
theorem dn_6 : dnOf dn y6 = some (2, 31) := by decide +kernel
theorem rc_6 : rCode tables_1 y6 = some (prog_1_method_30_code, 4, none) := rCode_of (i := 79) rfl (by decide +kernel)
theorem dn_7 : dnOf dn y7 = some (1, 14) := by decide +kernel
theorem rc_7 : rCode tables_1 y7 = some (prog_1_method_24_code, 5, some .int) := rCode_of (i := 85) rfl (by decide +kernel)
theorem dn_8 : dnOf dn y8 = some (0, 0) := by decide +kernel
theorem rc_8 : rCode tables_1 y8 = some (prog_1_method_19_code, 3, some .int) := rCode_of (i := 89) rfl (by decide +kernel)
theorem dn_9 : dnOf dn y9 = some (4, 60) := by decide +kernel
theorem rc_9 : rCode tables_1 y9 = some (prog_1_method_35_code, 5, some .boolean) := rCode_of (i := 97) rfl (by decide +kernel)
theorem dn_10 : dnOf dn y10 = some (0, 0) := by decide +kernel
theorem rc_10 : rCode tables_1 y10 = some (prog_1_method_33_code, 2, none) := rCode_of (i := 107) rfl (by decide +kernel)
theorem dn_11 : dnOf dn y11 = some (3, 43) := by decide +kernel
theorem rc_11 : rCode tables_1 y11 = some (prog_1_method_37_code, 5, some .int) := rCode_of (i := 111) rfl (by decide +kernel)
theorem dn_12 : dnOf dn y12 = some (2, 27) := by decide +kernel
theorem rc_12 : rCode tables_1 y12 = some (prog_1_method_34_code, 5, some .int) := rCode_of (i := 115) rfl (by decide +kernel)
theorem dn_13 : dnOf dn y13 = some (1, 14) := by decide +kernel
theorem rc_13 : rCode tables_1 y13 = some (prog_1_method_32_code, 2, some .boolean) := rCode_of (i := 119) rfl (by decide +kernel)
theorem dn_14 : dnOf dn y14 = some (3, 43) := by decide +kernel
theorem rc_14 : rCode tables_1 y14 = some (prog_1_method_36_code, 6, some .int) := rCode_of (i := 123) rfl (by decide +kernel)
theorem dn_15 : dnOf dn y15 = some (1, 14) := by decide +kernel
theorem rc_15 : rCode tables_1 y15 = some (prog_1_method_21_code, 2, some .boolean) := rCode_of (i := 127) rfl (by decide +kernel)
theorem dn_16 : dnOf dn y16 = some (1, 15) := by decide +kernel
theorem rc_16 : rCode tables_1 y16 = some (prog_1_method_38_code, 5, none) := rCode_of (i := 131) rfl (by decide +kernel)
theorem dn_17 : dnOf dn y17 = some (0, 0) := by decide +kernel
theorem rc_17 : rCode tables_1 y17 = some (prog_1_method_39_code, 4, none) := rCode_of (i := 135) rfl (by decide +kernel)
theorem dn_18 : dnOf dn y18 = some (1, 13) := by decide +kernel
theorem rc_18 : rCode tables_1 y18 = some (prog_1_method_5_code, 3, some .int) := rCode_of (i := 140) rfl (by decide +kernel)
theorem dn_19 : dnOf dn y19 = some (0, 0) := by decide +kernel
theorem rc_19 : rCode tables_1 y19 = some (prog_1_method_12_code, 2, some .int) := rCode_of (i := 145) rfl (by decide +kernel)
theorem dn_20 : dnOf dn y20 = some (8, 125) := by decide +kernel
theorem rc_20 : rCode tables_1 y20 = some (prog_1_method_14_code, 4, some .int) := rCode_of (i := 150) rfl (by decide +kernel)
theorem dn_21 : dnOf dn y21 = some (0, 0) := by decide +kernel
theorem rc_21 : rCode tables_1 y21 = some (prog_1_method_44_code, 2, none) := rCode_of (i := 154) rfl (by decide +kernel)
theorem dn_22 : dnOf dn y22 = some (7, 109) := by decide +kernel
theorem rc_22 : rCode tables_1 y22 = some (prog_1_method_46_code, 5, none) := rCode_of (i := 159) rfl (by decide +kernel)
theorem dn_23 : dnOf dn y23 = some (6, 92) := by decide +kernel
theorem rc_23 : rCode tables_1 y23 = some (prog_1_method_45_code, 6, some .int) := rCode_of (i := 163) rfl (by decide +kernel)
theorem dn_24 : dnOf dn y24 = some (4, 58) := by decide +kernel
theorem rc_24 : rCode tables_1 y24 = some (prog_1_method_41_code, 4, some .int) := rCode_of (i := 167) rfl (by decide +kernel)
theorem dn_25 : dnOf dn y25 = some (2, 27) := by decide +kernel
theorem rc_25 : rCode tables_1 y25 = some (prog_1_method_40_code, 3, some .int) := rCode_of (i := 171) rfl (by decide +kernel)
theorem dn_26 : dnOf dn y26 = some (3, 41) := by decide +kernel
theorem rc_26 : rCode tables_1 y26 = some (prog_1_method_42_code, 5, some .int) := rCode_of (i := 175) rfl (by decide +kernel)
theorem dn_27 : dnOf dn y27 = some (3, 41) := by decide +kernel
theorem rc_27 : rCode tables_1 y27 = some (prog_1_method_43_code, 6, some .int) := rCode_of (i := 179) rfl (by decide +kernel)
theorem dn_28 : dnOf dn y28 = some (2, 30) := by decide +kernel
theorem rc_28 : rCode tables_1 y28 = some (prog_1_method_25_code, 6, some .boolean) := rCode_of (i := 183) rfl (by decide +kernel)
theorem dn_29 : dnOf dn y29 = some (0, 0) := by decide +kernel
theorem rc_29 : rCode tables_1 y29 = some (prog_1_method_20_code, 4, some .int) := rCode_of (i := 187) rfl (by decide +kernel)
theorem dn_30 : dnOf dn y30 = some (2, 30) := by decide +kernel
theorem rc_30 : rCode tables_1 y30 = some (prog_1_method_28_code, 6, some .int) := rCode_of (i := 191) rfl (by decide +kernel)
theorem dn_31 : dnOf dn y31 = some (0, 0) := by decide +kernel
theorem rc_31 : rCode tables_1 y31 = some (prog_1_method_26_code, 2, some .int) := rCode_of (i := 195) rfl (by decide +kernel)
theorem dn_32 : dnOf dn y32 = some (0, 0) := by decide +kernel
theorem rc_32 : rCode tables_1 y32 = some (prog_1_method_27_code, 3, some .int) := rCode_of (i := 201) rfl (by decide +kernel)
theorem dn_33 : dnOf dn y33 = some (0, 0) := by decide +kernel
theorem rc_33 : rCode tables_1 y33 = some (prog_1_method_15_code, 1, some .int) := rCode_of (i := 208) rfl (by decide +kernel)
theorem dn_34 : dnOf dn y34 = some (3, 47) := by decide +kernel
theorem rc_34 : rCode tables_1 y34 = some (prog_1_method_13_code, 3, some .int) := rCode_of (i := 213) rfl (by decide +kernel)
theorem dn_35 : dnOf dn y35 = some (2, 30) := by decide +kernel
theorem rc_35 : rCode tables_1 y35 = some (prog_1_method_16_code, 5, some .int) := rCode_of (i := 218) rfl (by decide +kernel)
theorem dn_36 : dnOf dn y36 = some (0, 0) := by decide +kernel
theorem rc_36 : rCode tables_1 y36 = some (prog_1_method_22_code, 3, some .int) := rCode_of (i := 222) rfl (by decide +kernel)
theorem dn_37 : dnOf dn y37 = some (1, 15) := by decide +kernel
theorem rc_37 : rCode tables_1 y37 = some (prog_1_method_23_code, 4, some .int) := rCode_of (i := 226) rfl (by decide +kernel)
theorem dn_38 : dnOf dn y38 = some (2, 32) := by decide +kernel
theorem rc_38 : rCode tables_1 y38 = some (prog_1_method_17_code, 5, some .int) := rCode_of (i := 231) rfl (by decide +kernel)
theorem dn_39 : dnOf dn y39 = some (1, 14) := by decide +kernel
theorem rc_39 : rCode tables_1 y39 = some (prog_1_method_47_code, 7, some .int) := rCode_of (i := 235) rfl (by decide +kernel)
theorem dn_40 : dnOf dn y40 = some (9, 140) := by decide +kernel
theorem gf_7 : gfR tables_1 "LutMapper" 7 = some ("LutMapper", 0) := by decide +kernel
theorem gf_13 : gfR tables_1 "LutMapper" 13 = some ("LutMapper", 1) := by decide +kernel
theorem gf_16 : gfR tables_1 "LutMapper" 16 = some ("LutMapper", 2) := by decide +kernel
theorem gf_19 : gfR tables_1 "LutMapper" 19 = some ("LutMapper", 3) := by decide +kernel
theorem gf_22 : gfR tables_1 "LutMapper" 22 = some ("LutMapper", 4) := by decide +kernel
theorem gf_25 : gfR tables_1 "LutMapper" 25 = some ("LutMapper", 5) := by decide +kernel
theorem gf_28 : gfR tables_1 "LutMapper" 28 = some ("LutMapper", 6) := by decide +kernel
theorem gf_31 : gfR tables_1 "LutMapper" 31 = some ("LutMapper", 7) := by decide +kernel
theorem gf_34 : gfR tables_1 "LutMapper" 34 = some ("LutMapper", 8) := by decide +kernel
theorem gf_37 : gfR tables_1 "LutMapper" 37 = some ("LutMapper", 9) := by decide +kernel
theorem gf_40 : gfR tables_1 "LutMapper" 40 = some ("LutMapper", 10) := by decide +kernel
theorem gf_43 : gfR tables_1 "LutMapper" 43 = some ("LutMapper", 11) := by decide +kernel
theorem gf_46 : gfR tables_1 "LutMapper" 46 = some ("LutMapper", 12) := by decide +kernel
theorem gf_49 : gfR tables_1 "LutMapper" 49 = some ("LutMapper", 13) := by decide +kernel
theorem gf_52 : gfR tables_1 "LutMapper" 52 = some ("LutMapper", 14) := by decide +kernel
theorem gf_55 : gfR tables_1 "LutMapper" 55 = some ("LutMapper", 15) := by decide +kernel
theorem gf_59 : gfR tables_1 "LutMapper" 59 = some ("LutMapper", 16) := by decide +kernel
theorem gf_62 : gfR tables_1 "LutMapper" 62 = some ("LutMapper", 17) := by decide +kernel
theorem gf_65 : gfR tables_1 "LutMapper" 65 = some ("LutMapper", 18) := by decide +kernel
theorem gf_68 : gfR tables_1 "LutMapper" 68 = some ("LutMapper", 19) := by decide +kernel
theorem gf_72 : gfR tables_1 "LutMapper" 72 = some ("LutMapper", 20) := by decide +kernel
theorem gf_75 : gfR tables_1 "LutMapper" 75 = some ("LutMapper", 21) := by decide +kernel
theorem gf_113 : gfR tables_1 "LutMapper" 113 = some ("LutMapper", 24) := by decide +kernel
theorem gf_136 : gfR tables_1 "LutMapper" 136 = some ("LutMapper", 22) := by decide +kernel
theorem gf_139 : gfR tables_1 "LutMapper" 139 = some ("LutMapper", 23) := by decide +kernel
theorem gf_153 : gfR tables_1 "LutMapper" 153 = some ("LutMapper", 27) := by decide +kernel
theorem gf_156 : gfR tables_1 "LutMapper" 156 = some ("LutMapper", 25) := by decide +kernel
theorem gf_159 : gfR tables_1 "LutMapper" 159 = some ("LutMapper", 26) := by decide +kernel
section Rules
variable {b r q : Nat} {pre : AHeap} {s : Nat → Int32} {A : Nat → List Int32} {post : AHeap} {ls : List Slot} {st : List Value} {H R : AHeap} {Q : Option Value → AHeap → Prop} {x y v z j : Int32} {J1 J2 : Int64} {sc : List Int32} {l0 l1 l2 l3 l4 l5 l6 l7 l8 l9 l10 l11 l12 l13 l14 l15 l16 l17 l18 l19 l20 l21 l22 l23 l24 l25 l26 l27 l28 l29 l30 l31 l32 l33 l34 l35 l36 l37 l38 l39 l40 l41 : Slot}
theorem m0_0 : M0 0 [.val (.ref r), l1, l2] st H Q = M0 1 [.val (.ref r), l1, l2] (.ref r :: st) H Q := w_x (show decode kb0 0 = .ok (.aload_n 0, 1) from by decide +kernel) rfl
theorem m0_1 : M0 1 ls [.ref r] H Q = M0 4 ls [] H Q := w_obj (show decode kb0 1 = .ok (.invokespecial 1, 3) from by decide +kernel) (sl := 0) (by decide +kernel) (by decide)
theorem m0_4 : M0 4 [.val (.ref r), l1, l2] st H Q = M0 5 [.val (.ref r), l1, l2] (.ref r :: st) H Q := w_x (show decode kb0 4 = .ok (.aload_n 0, 1) from by decide +kernel) rfl
theorem m0_5 : M0 5 ls st H Q = M0 7 ls (.int 32 :: st) H Q := w_con (show decode kb0 5 = .ok (.bipush 32, 2) from by decide +kernel) rfl (by decide)
theorem m0_12 : M0 12 [.val (.ref r), l1, l2] st H Q = M0 13 [.val (.ref r), l1, l2] (.ref r :: st) H Q := w_x (show decode kb0 12 = .ok (.aload_n 0, 1) from by decide +kernel) rfl
theorem m0_13 : M0 13 ls st H Q = M0 15 ls (.int 32 :: st) H Q := w_con (show decode kb0 13 = .ok (.bipush 32, 2) from by decide +kernel) rfl (by decide)
theorem m0_20 : M0 20 [.val (.ref r), l1, l2] st H Q = M0 21 [.val (.ref r), l1, l2] (.ref r :: st) H Q := w_x (show decode kb0 20 = .ok (.aload_n 0, 1) from by decide +kernel) rfl
theorem m0_21 : M0 21 ls st H Q = M0 23 ls (.int 32 :: st) H Q := w_con (show decode kb0 21 = .ok (.bipush 32, 2) from by decide +kernel) rfl (by decide)
theorem m0_28 : M0 28 [.val (.ref r), l1, l2] st H Q = M0 29 [.val (.ref r), l1, l2] (.ref r :: st) H Q := w_x (show decode kb0 28 = .ok (.aload_n 0, 1) from by decide +kernel) rfl
theorem m0_29 : M0 29 ls st H Q = M0 31 ls (.int 32 :: st) H Q := w_con (show decode kb0 29 = .ok (.bipush 32, 2) from by decide +kernel) rfl (by decide)
theorem m0_36 : M0 36 [.val (.ref r), l1, l2] st H Q = M0 37 [.val (.ref r), l1, l2] (.ref r :: st) H Q := w_x (show decode kb0 36 = .ok (.aload_n 0, 1) from by decide +kernel) rfl
theorem m0_37 : M0 37 ls st H Q = M0 39 ls (.int 32 :: st) H Q := w_con (show decode kb0 37 = .ok (.bipush 32, 2) from by decide +kernel) rfl (by decide)
theorem m0_44 : M0 44 [.val (.ref r), l1, l2] st H Q = M0 45 [.val (.ref r), l1, l2] (.ref r :: st) H Q := w_x (show decode kb0 44 = .ok (.aload_n 0, 1) from by decide +kernel) rfl
theorem m0_45 : M0 45 ls st H Q = M0 47 ls (.int 8 :: st) H Q := w_con (show decode kb0 45 = .ok (.bipush 8, 2) from by decide +kernel) rfl (by decide)
theorem m0_52 : M0 52 [.val (.ref r), l1, l2] st H Q = M0 53 [.val (.ref r), l1, l2] (.ref r :: st) H Q := w_x (show decode kb0 52 = .ok (.aload_n 0, 1) from by decide +kernel) rfl
theorem m0_53 : M0 53 ls st H Q = M0 55 ls (.int 32 :: st) H Q := w_con (show decode kb0 53 = .ok (.bipush 32, 2) from by decide +kernel) rfl (by decide)
theorem m0_60 : M0 60 [.val (.ref r), l1, l2] st H Q = M0 61 [.val (.ref r), l1, l2] (.ref r :: st) H Q := w_x (show decode kb0 60 = .ok (.aload_n 0, 1) from by decide +kernel) rfl
theorem m0_61 : M0 61 ls st H Q = M0 63 ls (.int 64 :: st) H Q := w_con (show decode kb0 61 = .ok (.bipush 64, 2) from by decide +kernel) rfl (by decide)
theorem m0_68 : M0 68 [.val (.ref r), l1, l2] st H Q = M0 69 [.val (.ref r), l1, l2] (.ref r :: st) H Q := w_x (show decode kb0 68 = .ok (.aload_n 0, 1) from by decide +kernel) rfl
theorem m0_69 : M0 69 ls st H Q = M0 71 ls (.int 65 :: st) H Q := w_con (show decode kb0 69 = .ok (.bipush 65, 2) from by decide +kernel) rfl (by decide)
theorem m0_76 : M0 76 [.val (.ref r), l1, l2] st H Q = M0 77 [.val (.ref r), l1, l2] (.ref r :: st) H Q := w_x (show decode kb0 76 = .ok (.aload_n 0, 1) from by decide +kernel) rfl
theorem m0_77 : M0 77 ls st H Q = M0 79 ls (.int 65 :: st) H Q := w_con (show decode kb0 77 = .ok (.bipush 65, 2) from by decide +kernel) rfl (by decide)
theorem m0_84 : M0 84 [.val (.ref r), l1, l2] st H Q = M0 85 [.val (.ref r), l1, l2] (.ref r :: st) H Q := w_x (show decode kb0 84 = .ok (.aload_n 0, 1) from by decide +kernel) rfl
theorem m0_85 : M0 85 ls st H Q = M0 87 ls (.int 65 :: st) H Q := w_con (show decode kb0 85 = .ok (.bipush 65, 2) from by decide +kernel) rfl (by decide)
theorem m0_92 : M0 92 [.val (.ref r), l1, l2] st H Q = M0 93 [.val (.ref r), l1, l2] (.ref r :: st) H Q := w_x (show decode kb0 92 = .ok (.aload_n 0, 1) from by decide +kernel) rfl
theorem m0_93 : M0 93 ls st H Q = M0 95 ls (.int 32 :: st) H Q := w_con (show decode kb0 93 = .ok (.bipush 32, 2) from by decide +kernel) rfl (by decide)
theorem m0_100 : M0 100 [.val (.ref r), l1, l2] st H Q = M0 101 [.val (.ref r), l1, l2] (.ref r :: st) H Q := w_x (show decode kb0 100 = .ok (.aload_n 0, 1) from by decide +kernel) rfl
theorem m0_101 : M0 101 ls st H Q = M0 103 ls (.int 32 :: st) H Q := w_con (show decode kb0 101 = .ok (.bipush 32, 2) from by decide +kernel) rfl (by decide)
theorem m0_108 : M0 108 [.val (.ref r), l1, l2] st H Q = M0 109 [.val (.ref r), l1, l2] (.ref r :: st) H Q := w_x (show decode kb0 108 = .ok (.aload_n 0, 1) from by decide +kernel) rfl
theorem m0_109 : M0 109 ls st H Q = M0 111 ls (.int 32 :: st) H Q := w_con (show decode kb0 109 = .ok (.bipush 32, 2) from by decide +kernel) rfl (by decide)
theorem m0_116 : M0 116 [.val (.ref r), l1, l2] st H Q = M0 117 [.val (.ref r), l1, l2] (.ref r :: st) H Q := w_x (show decode kb0 116 = .ok (.aload_n 0, 1) from by decide +kernel) rfl
theorem m0_117 : M0 117 ls st H Q = M0 119 ls (.int 32 :: st) H Q := w_con (show decode kb0 117 = .ok (.bipush 32, 2) from by decide +kernel) rfl (by decide)
theorem m0_124 : M0 124 [l0, .val (.int v), l2] st H Q = M0 125 [l0, .val (.int v), l2] (.int v :: st) H Q := w_x (show decode kb0 124 = .ok (.iload_n 1, 1) from by decide +kernel) rfl
theorem m0_125u : M0 125 [l0, l1, .unset] ((.int v) :: st) H Q = M0 126 [l0, l1, .val (.int v)] st H Q := w_st (i := 2) (p := isI) (show decode kb0 125 = .ok (.istore_n 2, 1) from by decide +kernel) rfl rfl rfl rfl rfl rfl
theorem m0_126 : M0 126 [l0, l1, .val (.int v)] st H Q = M0 127 [l0, l1, .val (.int v)] (.int v :: st) H Q := w_x (show decode kb0 126 = .ok (.iload_n 2, 1) from by decide +kernel) rfl
theorem m0_127 : M0 127 ls st H Q = M0 129 ls (.int 8 :: st) H Q := w_con (show decode kb0 127 = .ok (.bipush 8, 2) from by decide +kernel) rfl (by decide)
theorem m0_129 : M0 129 ls (.int y :: .int x :: st) H Q = if x < y then M0 132 ls st H Q else M0 135 ls st H Q := w_icmpN (show decode kb0 129 = .ok (.if_icmp .ge 6, 3) from by decide +kernel) (i_ge x y) rfl
theorem m0_132 : M0 132 ls st H Q = M0 134 ls (.int 8 :: st) H Q := w_con (show decode kb0 132 = .ok (.bipush 8, 2) from by decide +kernel) rfl (by decide)
theorem m0_134i : M0 134 [l0, l1, .val (.int z)] ((.int v) :: st) H Q = M0 135 [l0, l1, .val (.int v)] st H Q := w_st (i := 2) (p := isI) (show decode kb0 134 = .ok (.istore_n 2, 1) from by decide +kernel) rfl rfl rfl rfl rfl rfl
theorem m0_135 : M0 135 [l0, l1, .val (.int v)] st H Q = M0 136 [l0, l1, .val (.int v)] (.int v :: st) H Q := w_x (show decode kb0 135 = .ok (.iload_n 2, 1) from by decide +kernel) rfl
theorem m0_136 : M0 136 ls st H Q = M0 138 ls (.int 32 :: st) H Q := w_con (show decode kb0 136 = .ok (.bipush 32, 2) from by decide +kernel) rfl (by decide)
theorem m0_138 : M0 138 ls (.int y :: .int x :: st) H Q = if y < x then M0 141 ls st H Q else M0 144 ls st H Q := w_icmpN (show decode kb0 138 = .ok (.if_icmp .le 6, 3) from by decide +kernel) (i_le x y) rfl
theorem m0_141 : M0 141 ls st H Q = M0 143 ls (.int 32 :: st) H Q := w_con (show decode kb0 141 = .ok (.bipush 32, 2) from by decide +kernel) rfl (by decide)
theorem m0_143i : M0 143 [l0, l1, .val (.int z)] ((.int v) :: st) H Q = M0 144 [l0, l1, .val (.int v)] st H Q := w_st (i := 2) (p := isI) (show decode kb0 143 = .ok (.istore_n 2, 1) from by decide +kernel) rfl rfl rfl rfl rfl rfl
theorem m0_144 : M0 144 [.val (.ref r), l1, l2] st H Q = M0 145 [.val (.ref r), l1, l2] (.ref r :: st) H Q := w_x (show decode kb0 144 = .ok (.aload_n 0, 1) from by decide +kernel) rfl
theorem m0_145 : M0 145 [l0, l1, .val (.int v)] st H Q = M0 146 [l0, l1, .val (.int v)] (.int v :: st) H Q := w_x (show decode kb0 145 = .ok (.iload_n 2, 1) from by decide +kernel) rfl
theorem pf0_55 : pfR tables_1 y0.cls y0.name 55 = some ("LutMapper", 15, .int) := by decide +kernel
theorem m0_146 : M0 146 ls (.int v :: .ref b :: st) (put b pre s A post) Q = M0 149 ls st (put b pre (ou s 0 v) A post) Q := w_put (show decode kb0 146 = .ok (.putfield 55, 3) from by decide +kernel) pf0_55 put_o (Nat.zero_le _) (by show 15 < 28; omega) rfl put_s0
theorem m0_149 : M0 149 [.val (.ref r), l1, l2] st H Q = M0 150 [.val (.ref r), l1, l2] (.ref r :: st) H Q := w_x (show decode kb0 149 = .ok (.aload_n 0, 1) from by decide +kernel) rfl
theorem m0_150 : M0 150 ls st H Q = M0 151 ls (.int 0 :: st) H Q := w_con (show decode kb0 150 = .ok (.iconst 0, 1) from by decide +kernel) rfl (by decide)
theorem pf0_59 : pfR tables_1 y0.cls y0.name 59 = some ("LutMapper", 16, .int) := by decide +kernel
theorem m0_151 : M0 151 ls (.int v :: .ref b :: st) (put b pre s A post) Q = M0 154 ls st (put b pre (ou s 1 v) A post) Q := w_put (show decode kb0 151 = .ok (.putfield 59, 3) from by decide +kernel) pf0_59 put_o (Nat.zero_le _) (by show 16 < 28; omega) rfl put_s1
theorem m0_154 : M0 154 [.val (.ref r), l1, l2] st H Q = M0 155 [.val (.ref r), l1, l2] (.ref r :: st) H Q := w_x (show decode kb0 154 = .ok (.aload_n 0, 1) from by decide +kernel) rfl
theorem m0_155 : M0 155 ls st H Q = M0 156 ls (.int 0 :: st) H Q := w_con (show decode kb0 155 = .ok (.iconst 0, 1) from by decide +kernel) rfl (by decide)
theorem pf0_62 : pfR tables_1 y0.cls y0.name 62 = some ("LutMapper", 17, .int) := by decide +kernel
theorem m0_156 : M0 156 ls (.int v :: .ref b :: st) (put b pre s A post) Q = M0 159 ls st (put b pre (ou s 2 v) A post) Q := w_put (show decode kb0 156 = .ok (.putfield 62, 3) from by decide +kernel) pf0_62 put_o (Nat.zero_le _) (by show 17 < 28; omega) rfl put_s2
theorem m0_159 : M0 159 [.val (.ref r), l1, l2] st H Q = M0 160 [.val (.ref r), l1, l2] (.ref r :: st) H Q := w_x (show decode kb0 159 = .ok (.aload_n 0, 1) from by decide +kernel) rfl
theorem m0_160 : M0 160 ls st H Q = M0 161 ls (.int 0 :: st) H Q := w_con (show decode kb0 160 = .ok (.iconst 0, 1) from by decide +kernel) rfl (by decide)
theorem pf0_65 : pfR tables_1 y0.cls y0.name 65 = some ("LutMapper", 18, .int) := by decide +kernel
theorem m0_161 : M0 161 ls (.int v :: .ref b :: st) (put b pre s A post) Q = M0 164 ls st (put b pre (ou s 3 v) A post) Q := w_put (show decode kb0 161 = .ok (.putfield 65, 3) from by decide +kernel) pf0_65 put_o (Nat.zero_le _) (by show 18 < 28; omega) rfl put_s3
theorem m0_164 : M0 164 [.val (.ref r), l1, l2] st H Q = M0 165 [.val (.ref r), l1, l2] (.ref r :: st) H Q := w_x (show decode kb0 164 = .ok (.aload_n 0, 1) from by decide +kernel) rfl
theorem m0_165 : M0 165 ls st H Q = M0 166 ls (.int 0 :: st) H Q := w_con (show decode kb0 165 = .ok (.iconst 0, 1) from by decide +kernel) rfl (by decide)
theorem pf0_68 : pfR tables_1 y0.cls y0.name 68 = some ("LutMapper", 19, .boolean) := by decide +kernel
theorem m0_166 : M0 166 ls (.int v :: .ref b :: st) (put b pre s A post) Q = M0 169 ls st (put b pre (ou s 10 (nar .boolean v)) A post) Q := w_put (show decode kb0 166 = .ok (.putfield 68, 3) from by decide +kernel) pf0_68 put_o (Nat.zero_le _) (by show 19 < 28; omega) rfl put_s10
theorem m0_169 : M0 169 [.val (.ref r), l1, l2] st H Q = M0 170 [.val (.ref r), l1, l2] (.ref r :: st) H Q := w_x (show decode kb0 169 = .ok (.aload_n 0, 1) from by decide +kernel) rfl
theorem m0_170 : M0 170 ls st H Q = M0 171 ls (.int 0 :: st) H Q := w_con (show decode kb0 170 = .ok (.iconst 0, 1) from by decide +kernel) rfl (by decide)
theorem pf0_72 : pfR tables_1 y0.cls y0.name 72 = some ("LutMapper", 20, .int) := by decide +kernel
theorem m0_171 : M0 171 ls (.int v :: .ref b :: st) (put b pre s A post) Q = M0 174 ls st (put b pre (ou s 11 v) A post) Q := w_put (show decode kb0 171 = .ok (.putfield 72, 3) from by decide +kernel) pf0_72 put_o (Nat.zero_le _) (by show 20 < 28; omega) rfl put_s11
theorem m0_174 : M0 174 [.val (.ref r), l1, l2] st H Q = M0 175 [.val (.ref r), l1, l2] (.ref r :: st) H Q := w_x (show decode kb0 174 = .ok (.aload_n 0, 1) from by decide +kernel) rfl
theorem m0_175 : M0 175 ls st H Q = M0 176 ls (.int 0 :: st) H Q := w_con (show decode kb0 175 = .ok (.iconst 0, 1) from by decide +kernel) rfl (by decide)
theorem pf0_75 : pfR tables_1 y0.cls y0.name 75 = some ("LutMapper", 21, .int) := by decide +kernel
theorem m0_176 : M0 176 ls (.int v :: .ref b :: st) (put b pre s A post) Q = M0 179 ls st (put b pre (ou s 12 v) A post) Q := w_put (show decode kb0 176 = .ok (.putfield 75, 3) from by decide +kernel) pf0_75 put_o (Nat.zero_le _) (by show 21 < 28; omega) rfl put_s12
theorem m0_179 : M0 179 ls [] H Q = Q none H := w_vret (show decode kb0 179 = .ok (.return_, 1) from by decide +kernel) rfl
theorem m1_0 : M1 0 [.val (.ref r), l1] st H Q = M1 1 [.val (.ref r), l1] (.ref r :: st) H Q := w_x (show decode kb1 0 = .ok (.aload_n 0, 1) from by decide +kernel) rfl
theorem m1_1 : M1 1 ls (.ref b :: st) (put b pre s A post) Q = M1 4 ls (.int (s 1) :: st) (put b pre s A post) Q := w_get (show decode kb1 1 = .ok (.getfield 59, 3) from by decide +kernel) gf_59 put_o rfl
theorem m1_4 : M1 4 [.val (.ref r), l1] st H Q = M1 5 [.val (.ref r), l1] (.ref r :: st) H Q := w_x (show decode kb1 4 = .ok (.aload_n 0, 1) from by decide +kernel) rfl
theorem m1_5 : M1 5 ls (.ref b :: st) (put b pre s A post) Q = M1 8 ls (.int (s 0) :: st) (put b pre s A post) Q := w_get (show decode kb1 5 = .ok (.getfield 55, 3) from by decide +kernel) gf_55 put_o rfl
theorem m1_8 : M1 8 ls (.int y :: .int x :: st) H Q = if x = y then M1 11 ls st H Q else M1 13 ls st H Q := w_icmpN (show decode kb1 8 = .ok (.if_icmp .ne 5, 3) from by decide +kernel) (i_ne x y) rfl
theorem m1_13 : M1 13 [.val (.ref r), l1] st H Q = M1 14 [.val (.ref r), l1] (.ref r :: st) H Q := w_x (show decode kb1 13 = .ok (.aload_n 0, 1) from by decide +kernel) rfl
theorem m1_14 : M1 14 ls (.ref b :: st) (put b pre s A post) Q = M1 17 ls (.int (s 2) :: st) (put b pre s A post) Q := w_get (show decode kb1 14 = .ok (.getfield 62, 3) from by decide +kernel) gf_62 put_o rfl
theorem m1_17 : M1 17 ls st H Q = M1 19 ls (.int 16 :: st) H Q := w_con (show decode kb1 17 = .ok (.bipush 16, 2) from by decide +kernel) rfl (by decide)
theorem m1_19 : M1 19 ls (.int y :: .int x :: st) H Q = if x = y then M1 22 ls st H Q else M1 24 ls st H Q := w_icmpN (show decode kb1 19 = .ok (.if_icmp .ne 5, 3) from by decide +kernel) (i_ne x y) rfl
theorem m1_24 : M1 24 [.val (.ref r), l1] st H Q = M1 25 [.val (.ref r), l1] (.ref r :: st) H Q := w_x (show decode kb1 24 = .ok (.aload_n 0, 1) from by decide +kernel) rfl
theorem m1_25 : M1 25 ls (.ref b :: st) (put b pre s A post) Q = M1 28 ls (.int (s 1) :: st) (put b pre s A post) Q := w_get (show decode kb1 25 = .ok (.getfield 59, 3) from by decide +kernel) gf_59 put_o rfl
theorem m1_28u : M1 28 [l0, .unset] ((.int v) :: st) H Q = M1 29 [l0, .val (.int v)] st H Q := w_st (i := 1) (p := isI) (show decode kb1 28 = .ok (.istore_n 1, 1) from by decide +kernel) rfl rfl rfl rfl rfl rfl
theorem m1_29 : M1 29 [.val (.ref r), l1] st H Q = M1 30 [.val (.ref r), l1] (.ref r :: st) H Q := w_x (show decode kb1 29 = .ok (.aload_n 0, 1) from by decide +kernel) rfl
theorem m1_30 : M1 30 ls (.ref b :: st) (put b pre s A post) Q = M1 33 ls (.ref (b + 1) :: st) (put b pre s A post) Q := w_get (show decode kb1 30 = .ok (.getfield 7, 3) from by decide +kernel) gf_7 put_o rfl
theorem m1_33 : M1 33 [l0, .val (.int v)] st H Q = M1 34 [l0, .val (.int v)] (.int v :: st) H Q := w_x (show decode kb1 33 = .ok (.iload_n 1, 1) from by decide +kernel) rfl
theorem m1_34 : M1 34 ls st H Q = M1 35 ls (.int 1 :: st) H Q := w_con (show decode kb1 34 = .ok (.iconst 1, 1) from by decide +kernel) rfl (by decide)
theorem m1_35  : M1 35 ls (.int v :: .int j :: .ref (b + 1) :: st) (put b pre s A post) Q = (inB j (A 0) ∧ M1 36 ls st (put b pre s (ou A 0 (setA (A 0) j v)) post) Q) := w_ist (show decode kb1 35 = .ok (.iastore, 1) from by decide +kernel) rfl put_a0 (Nat.zero_le _) rfl put_w0
theorem m1_36 : M1 36 [.val (.ref r), l1] st H Q = M1 37 [.val (.ref r), l1] (.ref r :: st) H Q := w_x (show decode kb1 36 = .ok (.aload_n 0, 1) from by decide +kernel) rfl
theorem m1_37 : M1 37 ls (.ref b :: st) (put b pre s A post) Q = M1 40 ls (.ref (b + 2) :: st) (put b pre s A post) Q := w_get (show decode kb1 37 = .ok (.getfield 13, 3) from by decide +kernel) gf_13 put_o rfl
theorem m1_40 : M1 40 [l0, .val (.int v)] st H Q = M1 41 [l0, .val (.int v)] (.int v :: st) H Q := w_x (show decode kb1 40 = .ok (.iload_n 1, 1) from by decide +kernel) rfl
theorem m1_41 : M1 41 ls st H Q = M1 42 ls (.int 0 :: st) H Q := w_con (show decode kb1 41 = .ok (.iconst 0, 1) from by decide +kernel) rfl (by decide)
theorem m1_42  : M1 42 ls (.int v :: .int j :: .ref (b + 2) :: st) (put b pre s A post) Q = (inB j (A 1) ∧ M1 43 ls st (put b pre s (ou A 1 (setA (A 1) j v)) post) Q) := w_ist (show decode kb1 42 = .ok (.iastore, 1) from by decide +kernel) rfl put_a1 (Nat.zero_le _) rfl put_w1
theorem m1_43 : M1 43 [.val (.ref r), l1] st H Q = M1 44 [.val (.ref r), l1] (.ref r :: st) H Q := w_x (show decode kb1 43 = .ok (.aload_n 0, 1) from by decide +kernel) rfl
theorem m1_44 : M1 44 ls (.ref b :: st) (put b pre s A post) Q = M1 47 ls (.ref (b + 3) :: st) (put b pre s A post) Q := w_get (show decode kb1 44 = .ok (.getfield 16, 3) from by decide +kernel) gf_16 put_o rfl
theorem m1_47 : M1 47 [l0, .val (.int v)] st H Q = M1 48 [l0, .val (.int v)] (.int v :: st) H Q := w_x (show decode kb1 47 = .ok (.iload_n 1, 1) from by decide +kernel) rfl
theorem m1_48 : M1 48 ls st H Q = M1 49 ls (.int 0 :: st) H Q := w_con (show decode kb1 48 = .ok (.iconst 0, 1) from by decide +kernel) rfl (by decide)
theorem m1_49  : M1 49 ls (.int v :: .int j :: .ref (b + 3) :: st) (put b pre s A post) Q = (inB j (A 2) ∧ M1 50 ls st (put b pre s (ou A 2 (setA (A 2) j v)) post) Q) := w_ist (show decode kb1 49 = .ok (.iastore, 1) from by decide +kernel) rfl put_a2 (Nat.zero_le _) rfl put_w2
theorem m1_50 : M1 50 [.val (.ref r), l1] st H Q = M1 51 [.val (.ref r), l1] (.ref r :: st) H Q := w_x (show decode kb1 50 = .ok (.aload_n 0, 1) from by decide +kernel) rfl
theorem m1_51 : M1 51 ls (.ref b :: st) (put b pre s A post) Q = M1 54 ls (.ref (b + 4) :: st) (put b pre s A post) Q := w_get (show decode kb1 51 = .ok (.getfield 19, 3) from by decide +kernel) gf_19 put_o rfl
theorem m1_54 : M1 54 [l0, .val (.int v)] st H Q = M1 55 [l0, .val (.int v)] (.int v :: st) H Q := w_x (show decode kb1 54 = .ok (.iload_n 1, 1) from by decide +kernel) rfl
theorem m1_55 : M1 55 [.val (.ref r), l1] st H Q = M1 56 [.val (.ref r), l1] (.ref r :: st) H Q := w_x (show decode kb1 55 = .ok (.aload_n 0, 1) from by decide +kernel) rfl
theorem m1_56 : M1 56 ls (.ref b :: st) (put b pre s A post) Q = M1 59 ls (.int (s 2) :: st) (put b pre s A post) Q := w_get (show decode kb1 56 = .ok (.getfield 62, 3) from by decide +kernel) gf_62 put_o rfl
theorem m1_59  : M1 59 ls (.int v :: .int j :: .ref (b + 4) :: st) (put b pre s A post) Q = (inB j (A 3) ∧ M1 60 ls st (put b pre s (ou A 3 (setA (A 3) j v)) post) Q) := w_ist (show decode kb1 59 = .ok (.iastore, 1) from by decide +kernel) rfl put_a3 (Nat.zero_le _) rfl put_w3
theorem m1_60 : M1 60 [.val (.ref r), l1] st H Q = M1 61 [.val (.ref r), l1] (.ref r :: st) H Q := w_x (show decode kb1 60 = .ok (.aload_n 0, 1) from by decide +kernel) rfl
theorem m1_61 : M1 61 ls (.ref b :: st) (put b pre s A post) Q = M1 64 ls (.ref (b + 5) :: st) (put b pre s A post) Q := w_get (show decode kb1 61 = .ok (.getfield 22, 3) from by decide +kernel) gf_22 put_o rfl
theorem m1_64 : M1 64 [l0, .val (.int v)] st H Q = M1 65 [l0, .val (.int v)] (.int v :: st) H Q := w_x (show decode kb1 64 = .ok (.iload_n 1, 1) from by decide +kernel) rfl
theorem m1_65 : M1 65 ls st H Q = M1 66 ls (.int 0 :: st) H Q := w_con (show decode kb1 65 = .ok (.iconst 0, 1) from by decide +kernel) rfl (by decide)
theorem m1_66  : M1 66 ls (.int v :: .int j :: .ref (b + 5) :: st) (put b pre s A post) Q = (inB j (A 4) ∧ M1 67 ls st (put b pre s (ou A 4 (setA (A 4) j v)) post) Q) := w_ist (show decode kb1 66 = .ok (.iastore, 1) from by decide +kernel) rfl put_a4 (Nat.zero_le _) rfl put_w4
theorem m1_67 : M1 67 [.val (.ref r), l1] st H Q = M1 68 [.val (.ref r), l1] (.ref r :: st) H Q := w_x (show decode kb1 67 = .ok (.aload_n 0, 1) from by decide +kernel) rfl
theorem m1_68 : M1 68 [l0, .val (.int v)] st H Q = M1 69 [l0, .val (.int v)] (.int v :: st) H Q := w_x (show decode kb1 68 = .ok (.iload_n 1, 1) from by decide +kernel) rfl
theorem m1_69 : M1 69 ls st H Q = M1 70 ls (.int 1 :: st) H Q := w_con (show decode kb1 69 = .ok (.iconst 1, 1) from by decide +kernel) rfl (by decide)
theorem m1_70 : M1 70 ls (.int y :: .int x :: st) H Q = M1 71 ls (.int (x + y) :: st) H Q := w_x (show decode kb1 70 = .ok (.iadd, 1) from by decide +kernel) rfl
theorem pf1_59 : pfR tables_1 y1.cls y1.name 59 = some ("LutMapper", 16, .int) := by decide +kernel
theorem m1_71 : M1 71 ls (.int v :: .ref b :: st) (put b pre s A post) Q = M1 74 ls st (put b pre (ou s 1 v) A post) Q := w_put (show decode kb1 71 = .ok (.putfield 59, 3) from by decide +kernel) pf1_59 put_o (Nat.zero_le _) (by show 16 < 28; omega) rfl put_s1
theorem m1_74 : M1 74 [.val (.ref r), l1] st H Q = M1 75 [.val (.ref r), l1] (.ref r :: st) H Q := w_x (show decode kb1 74 = .ok (.aload_n 0, 1) from by decide +kernel) rfl
theorem m1_75 : M1 75 ls ((.ref r) :: st) H Q = M1 76 ls ((.ref r) :: (.ref r) :: st) H Q := w_x (show decode kb1 75 = .ok (.dup, 1) from by decide +kernel) rfl
theorem m1_76 : M1 76 ls (.ref b :: st) (put b pre s A post) Q = M1 79 ls (.int (s 2) :: st) (put b pre s A post) Q := w_get (show decode kb1 76 = .ok (.getfield 62, 3) from by decide +kernel) gf_62 put_o rfl
theorem m1_79 : M1 79 ls st H Q = M1 80 ls (.int 1 :: st) H Q := w_con (show decode kb1 79 = .ok (.iconst 1, 1) from by decide +kernel) rfl (by decide)
theorem m1_80 : M1 80 ls (.int y :: .int x :: st) H Q = M1 81 ls (.int (x + y) :: st) H Q := w_x (show decode kb1 80 = .ok (.iadd, 1) from by decide +kernel) rfl
theorem pf1_62 : pfR tables_1 y1.cls y1.name 62 = some ("LutMapper", 17, .int) := by decide +kernel
theorem m1_81 : M1 81 ls (.int v :: .ref b :: st) (put b pre s A post) Q = M1 84 ls st (put b pre (ou s 2 v) A post) Q := w_put (show decode kb1 81 = .ok (.putfield 62, 3) from by decide +kernel) pf1_62 put_o (Nat.zero_le _) (by show 17 < 28; omega) rfl put_s2
theorem m1_84 : M1 84 [.val (.ref r), l1] st H Q = M1 85 [.val (.ref r), l1] (.ref r :: st) H Q := w_x (show decode kb1 84 = .ok (.aload_n 0, 1) from by decide +kernel) rfl
theorem m1_85 : M1 85 ls st H Q = M1 86 ls (.int 0 :: st) H Q := w_con (show decode kb1 85 = .ok (.iconst 0, 1) from by decide +kernel) rfl (by decide)
theorem pf1_68 : pfR tables_1 y1.cls y1.name 68 = some ("LutMapper", 19, .boolean) := by decide +kernel
theorem m1_86 : M1 86 ls (.int v :: .ref b :: st) (put b pre s A post) Q = M1 89 ls st (put b pre (ou s 10 (nar .boolean v)) A post) Q := w_put (show decode kb1 86 = .ok (.putfield 68, 3) from by decide +kernel) pf1_68 put_o (Nat.zero_le _) (by show 19 < 28; omega) rfl put_s10
theorem m1_89 : M1 89 [l0, .val (.int v)] st H Q = M1 90 [l0, .val (.int v)] (.int v :: st) H Q := w_x (show decode kb1 89 = .ok (.iload_n 1, 1) from by decide +kernel) rfl
theorem m1_90 : M1 90 ls (.int z :: st) H Q = Q (some (.int z)) H := w_iret (show decode kb1 90 = .ok (.ireturn, 1) from by decide +kernel) rfl
theorem m2_0 : M2 0 [.val (.ref r), l1, l2, l3] st H Q = M2 1 [.val (.ref r), l1, l2, l3] (.ref r :: st) H Q := w_x (show decode kb2 0 = .ok (.aload_n 0, 1) from by decide +kernel) rfl
theorem m2_1 : M2 1 ls (.ref b :: st) (put b pre s A post) Q = M2 4 ls (.int (s 1) :: st) (put b pre s A post) Q := w_get (show decode kb2 1 = .ok (.getfield 59, 3) from by decide +kernel) gf_59 put_o rfl
theorem m2_4 : M2 4 [.val (.ref r), l1, l2, l3] st H Q = M2 5 [.val (.ref r), l1, l2, l3] (.ref r :: st) H Q := w_x (show decode kb2 4 = .ok (.aload_n 0, 1) from by decide +kernel) rfl
theorem m2_5 : M2 5 ls (.ref b :: st) (put b pre s A post) Q = M2 8 ls (.int (s 0) :: st) (put b pre s A post) Q := w_get (show decode kb2 5 = .ok (.getfield 55, 3) from by decide +kernel) gf_55 put_o rfl
theorem m2_8 : M2 8 ls (.int y :: .int x :: st) H Q = if x = y then M2 11 ls st H Q else M2 13 ls st H Q := w_icmpN (show decode kb2 8 = .ok (.if_icmp .ne 5, 3) from by decide +kernel) (i_ne x y) rfl
theorem m2_13 : M2 13 [.val (.ref r), l1, l2, l3] st H Q = M2 14 [.val (.ref r), l1, l2, l3] (.ref r :: st) H Q := w_x (show decode kb2 13 = .ok (.aload_n 0, 1) from by decide +kernel) rfl
theorem m2_14 : M2 14 [l0, .val (.int v), l2, l3] st H Q = M2 15 [l0, .val (.int v), l2, l3] (.int v :: st) H Q := w_x (show decode kb2 14 = .ok (.iload_n 1, 1) from by decide +kernel) rfl
theorem cr2_78 : vR tables_1 dn y2 78 = some (true, y3, prog_1_method_18_code, 2, (some .boolean), 1, 98) := pR_of (cR_of (by decide +kernel) rc_3 dn_3 dn_2 (sig := ⟨[.int], some .boolean⟩) (by decide +kernel) (by decide +kernel) rfl rfl) (by decide +kernel) (by decide +kernel)
theorem m2_15 (a0 : Int32) : M2 15 ls [.int a0, .ref b] (put b pre s A post) Q = M3 0 [.val (.ref b), .val (.int a0)] [] (put b pre s A post) (fun v H1 => M2 18 ls (v.toList ++ []) H1 Q) := w_virt (as := [.int a0]) (rest := []) (a := b) (show decode kb2 15 = .ok (.invokevirtual 78, 3) from by decide +kernel) cr2_78 put_o rfl rfl (Nat.le_of_ble_eq_true rfl) (by show 2 ≤ 2; omega) rfl
theorem m2_18 : M2 18 ls (.int x :: st) H Q = if x = 0 then M2 21 ls st H Q else M2 23 ls st H Q := w_ifN (show decode kb2 18 = .ok (.ifCond .ne 5, 3) from by decide +kernel) (z_ne x) rfl
theorem m2_23 : M2 23 [.val (.ref r), l1, l2, l3] st H Q = M2 24 [.val (.ref r), l1, l2, l3] (.ref r :: st) H Q := w_x (show decode kb2 23 = .ok (.aload_n 0, 1) from by decide +kernel) rfl
theorem m2_24 : M2 24 [l0, l1, .val (.int v), l3] st H Q = M2 25 [l0, l1, .val (.int v), l3] (.int v :: st) H Q := w_x (show decode kb2 24 = .ok (.iload_n 2, 1) from by decide +kernel) rfl
theorem m2_25 (a0 : Int32) : M2 25 ls [.int a0, .ref b] (put b pre s A post) Q = M3 0 [.val (.ref b), .val (.int a0)] [] (put b pre s A post) (fun v H1 => M2 28 ls (v.toList ++ []) H1 Q) := w_virt (as := [.int a0]) (rest := []) (a := b) (show decode kb2 25 = .ok (.invokevirtual 78, 3) from by decide +kernel) cr2_78 put_o rfl rfl (Nat.le_of_ble_eq_true rfl) (by show 2 ≤ 2; omega) rfl
theorem m2_28 : M2 28 ls (.int x :: st) H Q = if x = 0 then M2 31 ls st H Q else M2 33 ls st H Q := w_ifN (show decode kb2 28 = .ok (.ifCond .ne 5, 3) from by decide +kernel) (z_ne x) rfl
theorem m2_33 : M2 33 [.val (.ref r), l1, l2, l3] st H Q = M2 34 [.val (.ref r), l1, l2, l3] (.ref r :: st) H Q := w_x (show decode kb2 33 = .ok (.aload_n 0, 1) from by decide +kernel) rfl
theorem m2_34 : M2 34 ls (.ref b :: st) (put b pre s A post) Q = M2 37 ls (.int (s 1) :: st) (put b pre s A post) Q := w_get (show decode kb2 34 = .ok (.getfield 59, 3) from by decide +kernel) gf_59 put_o rfl
theorem m2_37u : M2 37 [l0, l1, l2, .unset] ((.int v) :: st) H Q = M2 38 [l0, l1, l2, .val (.int v)] st H Q := w_st (i := 3) (p := isI) (show decode kb2 37 = .ok (.istore_n 3, 1) from by decide +kernel) rfl rfl rfl rfl rfl rfl
theorem m2_38 : M2 38 [.val (.ref r), l1, l2, l3] st H Q = M2 39 [.val (.ref r), l1, l2, l3] (.ref r :: st) H Q := w_x (show decode kb2 38 = .ok (.aload_n 0, 1) from by decide +kernel) rfl
theorem m2_39 : M2 39 ls (.ref b :: st) (put b pre s A post) Q = M2 42 ls (.ref (b + 1) :: st) (put b pre s A post) Q := w_get (show decode kb2 39 = .ok (.getfield 7, 3) from by decide +kernel) gf_7 put_o rfl
theorem m2_42 : M2 42 [l0, l1, l2, .val (.int v)] st H Q = M2 43 [l0, l1, l2, .val (.int v)] (.int v :: st) H Q := w_x (show decode kb2 42 = .ok (.iload_n 3, 1) from by decide +kernel) rfl
theorem m2_43 : M2 43 ls st H Q = M2 44 ls (.int 2 :: st) H Q := w_con (show decode kb2 43 = .ok (.iconst 2, 1) from by decide +kernel) rfl (by decide)
theorem m2_44  : M2 44 ls (.int v :: .int j :: .ref (b + 1) :: st) (put b pre s A post) Q = (inB j (A 0) ∧ M2 45 ls st (put b pre s (ou A 0 (setA (A 0) j v)) post) Q) := w_ist (show decode kb2 44 = .ok (.iastore, 1) from by decide +kernel) rfl put_a0 (Nat.zero_le _) rfl put_w0
theorem m2_45 : M2 45 [.val (.ref r), l1, l2, l3] st H Q = M2 46 [.val (.ref r), l1, l2, l3] (.ref r :: st) H Q := w_x (show decode kb2 45 = .ok (.aload_n 0, 1) from by decide +kernel) rfl
theorem m2_46 : M2 46 ls (.ref b :: st) (put b pre s A post) Q = M2 49 ls (.ref (b + 2) :: st) (put b pre s A post) Q := w_get (show decode kb2 46 = .ok (.getfield 13, 3) from by decide +kernel) gf_13 put_o rfl
theorem m2_49 : M2 49 [l0, l1, l2, .val (.int v)] st H Q = M2 50 [l0, l1, l2, .val (.int v)] (.int v :: st) H Q := w_x (show decode kb2 49 = .ok (.iload_n 3, 1) from by decide +kernel) rfl
theorem m2_50 : M2 50 [l0, .val (.int v), l2, l3] st H Q = M2 51 [l0, .val (.int v), l2, l3] (.int v :: st) H Q := w_x (show decode kb2 50 = .ok (.iload_n 1, 1) from by decide +kernel) rfl
theorem m2_51  : M2 51 ls (.int v :: .int j :: .ref (b + 2) :: st) (put b pre s A post) Q = (inB j (A 1) ∧ M2 52 ls st (put b pre s (ou A 1 (setA (A 1) j v)) post) Q) := w_ist (show decode kb2 51 = .ok (.iastore, 1) from by decide +kernel) rfl put_a1 (Nat.zero_le _) rfl put_w1
theorem m2_52 : M2 52 [.val (.ref r), l1, l2, l3] st H Q = M2 53 [.val (.ref r), l1, l2, l3] (.ref r :: st) H Q := w_x (show decode kb2 52 = .ok (.aload_n 0, 1) from by decide +kernel) rfl
theorem m2_53 : M2 53 ls (.ref b :: st) (put b pre s A post) Q = M2 56 ls (.ref (b + 3) :: st) (put b pre s A post) Q := w_get (show decode kb2 53 = .ok (.getfield 16, 3) from by decide +kernel) gf_16 put_o rfl
theorem m2_56 : M2 56 [l0, l1, l2, .val (.int v)] st H Q = M2 57 [l0, l1, l2, .val (.int v)] (.int v :: st) H Q := w_x (show decode kb2 56 = .ok (.iload_n 3, 1) from by decide +kernel) rfl
theorem m2_57 : M2 57 [l0, l1, .val (.int v), l3] st H Q = M2 58 [l0, l1, .val (.int v), l3] (.int v :: st) H Q := w_x (show decode kb2 57 = .ok (.iload_n 2, 1) from by decide +kernel) rfl
theorem m2_58  : M2 58 ls (.int v :: .int j :: .ref (b + 3) :: st) (put b pre s A post) Q = (inB j (A 2) ∧ M2 59 ls st (put b pre s (ou A 2 (setA (A 2) j v)) post) Q) := w_ist (show decode kb2 58 = .ok (.iastore, 1) from by decide +kernel) rfl put_a2 (Nat.zero_le _) rfl put_w2
theorem m2_59 : M2 59 [.val (.ref r), l1, l2, l3] st H Q = M2 60 [.val (.ref r), l1, l2, l3] (.ref r :: st) H Q := w_x (show decode kb2 59 = .ok (.aload_n 0, 1) from by decide +kernel) rfl
theorem m2_60 : M2 60 ls (.ref b :: st) (put b pre s A post) Q = M2 63 ls (.ref (b + 4) :: st) (put b pre s A post) Q := w_get (show decode kb2 60 = .ok (.getfield 19, 3) from by decide +kernel) gf_19 put_o rfl
theorem m2_63 : M2 63 [l0, l1, l2, .val (.int v)] st H Q = M2 64 [l0, l1, l2, .val (.int v)] (.int v :: st) H Q := w_x (show decode kb2 63 = .ok (.iload_n 3, 1) from by decide +kernel) rfl
theorem m2_64 : M2 64 ls st H Q = M2 65 ls (.int 0 :: st) H Q := w_con (show decode kb2 64 = .ok (.iconst 0, 1) from by decide +kernel) rfl (by decide)
theorem m2_65  : M2 65 ls (.int v :: .int j :: .ref (b + 4) :: st) (put b pre s A post) Q = (inB j (A 3) ∧ M2 66 ls st (put b pre s (ou A 3 (setA (A 3) j v)) post) Q) := w_ist (show decode kb2 65 = .ok (.iastore, 1) from by decide +kernel) rfl put_a3 (Nat.zero_le _) rfl put_w3
theorem m2_66 : M2 66 [.val (.ref r), l1, l2, l3] st H Q = M2 67 [.val (.ref r), l1, l2, l3] (.ref r :: st) H Q := w_x (show decode kb2 66 = .ok (.aload_n 0, 1) from by decide +kernel) rfl
theorem m2_67 : M2 67 [l0, l1, l2, .val (.int v)] st H Q = M2 68 [l0, l1, l2, .val (.int v)] (.int v :: st) H Q := w_x (show decode kb2 67 = .ok (.iload_n 3, 1) from by decide +kernel) rfl
theorem m2_68 : M2 68 ls st H Q = M2 69 ls (.int 1 :: st) H Q := w_con (show decode kb2 68 = .ok (.iconst 1, 1) from by decide +kernel) rfl (by decide)
theorem m2_69 : M2 69 ls (.int y :: .int x :: st) H Q = M2 70 ls (.int (x + y) :: st) H Q := w_x (show decode kb2 69 = .ok (.iadd, 1) from by decide +kernel) rfl
theorem pf2_59 : pfR tables_1 y2.cls y2.name 59 = some ("LutMapper", 16, .int) := by decide +kernel
theorem m2_70 : M2 70 ls (.int v :: .ref b :: st) (put b pre s A post) Q = M2 73 ls st (put b pre (ou s 1 v) A post) Q := w_put (show decode kb2 70 = .ok (.putfield 59, 3) from by decide +kernel) pf2_59 put_o (Nat.zero_le _) (by show 16 < 28; omega) rfl put_s1
theorem m2_73 : M2 73 [.val (.ref r), l1, l2, l3] st H Q = M2 74 [.val (.ref r), l1, l2, l3] (.ref r :: st) H Q := w_x (show decode kb2 73 = .ok (.aload_n 0, 1) from by decide +kernel) rfl
theorem m2_74 : M2 74 ls st H Q = M2 75 ls (.int 0 :: st) H Q := w_con (show decode kb2 74 = .ok (.iconst 0, 1) from by decide +kernel) rfl (by decide)
theorem pf2_68 : pfR tables_1 y2.cls y2.name 68 = some ("LutMapper", 19, .boolean) := by decide +kernel
theorem m2_75 : M2 75 ls (.int v :: .ref b :: st) (put b pre s A post) Q = M2 78 ls st (put b pre (ou s 10 (nar .boolean v)) A post) Q := w_put (show decode kb2 75 = .ok (.putfield 68, 3) from by decide +kernel) pf2_68 put_o (Nat.zero_le _) (by show 19 < 28; omega) rfl put_s10
theorem m2_78 : M2 78 [.val (.ref r), l1, l2, l3] st H Q = M2 79 [.val (.ref r), l1, l2, l3] (.ref r :: st) H Q := w_x (show decode kb2 78 = .ok (.aload_n 0, 1) from by decide +kernel) rfl
theorem m2_79 : M2 79 ls (.ref b :: st) (put b pre s A post) Q = M2 82 ls (.ref (b + 5) :: st) (put b pre s A post) Q := w_get (show decode kb2 79 = .ok (.getfield 22, 3) from by decide +kernel) gf_22 put_o rfl
theorem m2_82 : M2 82 [l0, l1, l2, .val (.int v)] st H Q = M2 83 [l0, l1, l2, .val (.int v)] (.int v :: st) H Q := w_x (show decode kb2 82 = .ok (.iload_n 3, 1) from by decide +kernel) rfl
theorem m2_83 : M2 83 [.val (.ref r), l1, l2, l3] st H Q = M2 84 [.val (.ref r), l1, l2, l3] (.ref r :: st) H Q := w_x (show decode kb2 83 = .ok (.aload_n 0, 1) from by decide +kernel) rfl
theorem m2_84 : M2 84 [l0, l1, l2, .val (.int v)] st H Q = M2 85 [l0, l1, l2, .val (.int v)] (.int v :: st) H Q := w_x (show decode kb2 84 = .ok (.iload_n 3, 1) from by decide +kernel) rfl
theorem cr2_82 : vR tables_1 dn y2 82 = some (true, y4, prog_1_method_29_code, 6, (some .int), 1, 2) := pR_of (cR_of (by decide +kernel) rc_4 dn_4 dn_2 (sig := ⟨[.int], some .int⟩) (by decide +kernel) (by decide +kernel) rfl rfl) (by decide +kernel) (by decide +kernel)
theorem m2_85 (a0 : Int32) (u0 : Int32) (u1 : Nat) : M2 85 ls [.int a0, .ref b, .int u0, .ref u1] (put b pre s A post) Q = M4 0 [.val (.ref b), .val (.int a0), .unset, .unset, .unset, .unset] [] (put b pre s A post) (fun v H1 => M2 88 ls (v.toList ++ [.int u0, .ref u1]) H1 Q) := w_virt (as := [.int a0]) (rest := [.int u0, .ref u1]) (a := b) (show decode kb2 85 = .ok (.invokevirtual 82, 3) from by decide +kernel) cr2_82 put_o rfl rfl (Nat.le_of_ble_eq_true rfl) (by show 2 ≤ 6; omega) rfl
theorem m2_88  : M2 88 ls (.int v :: .int j :: .ref (b + 5) :: st) (put b pre s A post) Q = (inB j (A 4) ∧ M2 89 ls st (put b pre s (ou A 4 (setA (A 4) j v)) post) Q) := w_ist (show decode kb2 88 = .ok (.iastore, 1) from by decide +kernel) rfl put_a4 (Nat.zero_le _) rfl put_w4
theorem m2_89 : M2 89 [l0, l1, l2, .val (.int v)] st H Q = M2 90 [l0, l1, l2, .val (.int v)] (.int v :: st) H Q := w_x (show decode kb2 89 = .ok (.iload_n 3, 1) from by decide +kernel) rfl
theorem m2_90 : M2 90 ls (.int z :: st) H Q = Q (some (.int z)) H := w_iret (show decode kb2 90 = .ok (.ireturn, 1) from by decide +kernel) rfl
theorem m3_0 : M3 0 [l0, .val (.int v)] st H Q = M3 1 [l0, .val (.int v)] (.int v :: st) H Q := w_x (show decode kb3 0 = .ok (.iload_n 1, 1) from by decide +kernel) rfl
theorem m3_1 : M3 1 ls (.int x :: st) H Q = if x < 0 then M3 18 ls st H Q else M3 4 ls st H Q := w_if (show decode kb3 1 = .ok (.ifCond .lt 17, 3) from by decide +kernel) (z_lt x) rfl
theorem m3_4 : M3 4 [l0, .val (.int v)] st H Q = M3 5 [l0, .val (.int v)] (.int v :: st) H Q := w_x (show decode kb3 4 = .ok (.iload_n 1, 1) from by decide +kernel) rfl
theorem m3_5 : M3 5 ls st H Q = M3 6 ls (.int 2 :: st) H Q := w_con (show decode kb3 5 = .ok (.iconst 2, 1) from by decide +kernel) rfl (by decide)
theorem m3_6 : M3 6 [.val (.ref r), l1] st H Q = M3 7 [.val (.ref r), l1] (.ref r :: st) H Q := w_x (show decode kb3 6 = .ok (.aload_n 0, 1) from by decide +kernel) rfl
theorem m3_7 : M3 7 ls (.ref b :: st) (put b pre s A post) Q = M3 10 ls (.int (s 1) :: st) (put b pre s A post) Q := w_get (show decode kb3 7 = .ok (.getfield 59, 3) from by decide +kernel) gf_59 put_o rfl
theorem m3_10 : M3 10 ls (.int y :: .int x :: st) H Q = M3 11 ls (.int (x * y) :: st) H Q := w_x (show decode kb3 10 = .ok (.imul, 1) from by decide +kernel) rfl
theorem m3_11 : M3 11 ls (.int y :: .int x :: st) H Q = if x < y then M3 14 ls st H Q else M3 18 ls st H Q := w_icmpN (show decode kb3 11 = .ok (.if_icmp .ge 7, 3) from by decide +kernel) (i_ge x y) rfl
theorem m3_14 : M3 14 ls st H Q = M3 15 ls (.int 1 :: st) H Q := w_con (show decode kb3 14 = .ok (.iconst 1, 1) from by decide +kernel) rfl (by decide)
theorem m3_15 : M3 15 ls st H Q = M3 19 ls st H Q := w_x (show decode kb3 15 = .ok (.goto 4, 3) from by decide +kernel) rfl
theorem m3_19 : M3 19 ls (.int z :: st) H Q = Q (some (.int (nar .boolean z))) H := w_iretN (show decode kb3 19 = .ok (.ireturn, 1) from by decide +kernel) rfl (by simp)
theorem m4_0 : M4 0 [.val (.ref r), l1, l2, l3, l4, l5] st H Q = M4 1 [.val (.ref r), l1, l2, l3, l4, l5] (.ref r :: st) H Q := w_x (show decode kb4 0 = .ok (.aload_n 0, 1) from by decide +kernel) rfl
theorem m4_1 : M4 1 ls (.ref b :: st) (put b pre s A post) Q = M4 4 ls (.ref (b + 5) :: st) (put b pre s A post) Q := w_get (show decode kb4 1 = .ok (.getfield 22, 3) from by decide +kernel) gf_22 put_o rfl
theorem m4_4 : M4 4 [.val (.ref r), l1, l2, l3, l4, l5] st H Q = M4 5 [.val (.ref r), l1, l2, l3, l4, l5] (.ref r :: st) H Q := w_x (show decode kb4 4 = .ok (.aload_n 0, 1) from by decide +kernel) rfl
theorem m4_5 : M4 5 ls (.ref b :: st) (put b pre s A post) Q = M4 8 ls (.ref (b + 2) :: st) (put b pre s A post) Q := w_get (show decode kb4 5 = .ok (.getfield 13, 3) from by decide +kernel) gf_13 put_o rfl
theorem m4_8 : M4 8 [l0, .val (.int v), l2, l3, l4, l5] st H Q = M4 9 [l0, .val (.int v), l2, l3, l4, l5] (.int v :: st) H Q := w_x (show decode kb4 8 = .ok (.iload_n 1, 1) from by decide +kernel) rfl
theorem m4_9  : M4 9 ls (.int j :: .ref (b + 2) :: st) (put b pre s A post) Q = (inB j (A 1) ∧ M4 10 ls (.int (getA (A 1) j) :: st) (put b pre s A post) Q) := w_ild (show decode kb4 9 = .ok (.iaload, 1) from by decide +kernel) rfl put_a1
theorem m4_10 : M4 10 ls st H Q = M4 11 ls (.int 1 :: st) H Q := w_con (show decode kb4 10 = .ok (.iconst 1, 1) from by decide +kernel) rfl (by decide)
theorem m4_11 : M4 11 ls (.int y :: .int x :: st) H Q = M4 12 ls (.int (XT.ushr x y) :: st) H Q := w_x (show decode kb4 11 = .ok (.iushr, 1) from by decide +kernel) rfl
theorem m4_12  : M4 12 ls (.int j :: .ref (b + 5) :: st) (put b pre s A post) Q = (inB j (A 4) ∧ M4 13 ls (.int (getA (A 4) j) :: st) (put b pre s A post) Q) := w_ild (show decode kb4 12 = .ok (.iaload, 1) from by decide +kernel) rfl put_a4
theorem m4_13u : M4 13 [l0, l1, .unset, l3, l4, l5] ((.int v) :: st) H Q = M4 14 [l0, l1, .val (.int v), l3, l4, l5] st H Q := w_st (i := 2) (p := isI) (show decode kb4 13 = .ok (.istore_n 2, 1) from by decide +kernel) rfl rfl rfl rfl rfl rfl
theorem m4_14 : M4 14 [.val (.ref r), l1, l2, l3, l4, l5] st H Q = M4 15 [.val (.ref r), l1, l2, l3, l4, l5] (.ref r :: st) H Q := w_x (show decode kb4 14 = .ok (.aload_n 0, 1) from by decide +kernel) rfl
theorem m4_15 : M4 15 ls (.ref b :: st) (put b pre s A post) Q = M4 18 ls (.ref (b + 5) :: st) (put b pre s A post) Q := w_get (show decode kb4 15 = .ok (.getfield 22, 3) from by decide +kernel) gf_22 put_o rfl
theorem m4_18 : M4 18 [.val (.ref r), l1, l2, l3, l4, l5] st H Q = M4 19 [.val (.ref r), l1, l2, l3, l4, l5] (.ref r :: st) H Q := w_x (show decode kb4 18 = .ok (.aload_n 0, 1) from by decide +kernel) rfl
theorem m4_19 : M4 19 ls (.ref b :: st) (put b pre s A post) Q = M4 22 ls (.ref (b + 3) :: st) (put b pre s A post) Q := w_get (show decode kb4 19 = .ok (.getfield 16, 3) from by decide +kernel) gf_16 put_o rfl
theorem m4_22 : M4 22 [l0, .val (.int v), l2, l3, l4, l5] st H Q = M4 23 [l0, .val (.int v), l2, l3, l4, l5] (.int v :: st) H Q := w_x (show decode kb4 22 = .ok (.iload_n 1, 1) from by decide +kernel) rfl
theorem m4_23  : M4 23 ls (.int j :: .ref (b + 3) :: st) (put b pre s A post) Q = (inB j (A 2) ∧ M4 24 ls (.int (getA (A 2) j) :: st) (put b pre s A post) Q) := w_ild (show decode kb4 23 = .ok (.iaload, 1) from by decide +kernel) rfl put_a2
theorem m4_24 : M4 24 ls st H Q = M4 25 ls (.int 1 :: st) H Q := w_con (show decode kb4 24 = .ok (.iconst 1, 1) from by decide +kernel) rfl (by decide)
theorem m4_25 : M4 25 ls (.int y :: .int x :: st) H Q = M4 26 ls (.int (XT.ushr x y) :: st) H Q := w_x (show decode kb4 25 = .ok (.iushr, 1) from by decide +kernel) rfl
theorem m4_26  : M4 26 ls (.int j :: .ref (b + 5) :: st) (put b pre s A post) Q = (inB j (A 4) ∧ M4 27 ls (.int (getA (A 4) j) :: st) (put b pre s A post) Q) := w_ild (show decode kb4 26 = .ok (.iaload, 1) from by decide +kernel) rfl put_a4
theorem m4_27u : M4 27 [l0, l1, l2, .unset, l4, l5] ((.int v) :: st) H Q = M4 28 [l0, l1, l2, .val (.int v), l4, l5] st H Q := w_st (i := 3) (p := isI) (show decode kb4 27 = .ok (.istore_n 3, 1) from by decide +kernel) rfl rfl rfl rfl rfl rfl
theorem m4_28 : M4 28 [l0, l1, .val (.int v), l3, l4, l5] st H Q = M4 29 [l0, l1, .val (.int v), l3, l4, l5] (.int v :: st) H Q := w_x (show decode kb4 28 = .ok (.iload_n 2, 1) from by decide +kernel) rfl
theorem m4_29 : M4 29 [l0, l1, l2, .val (.int v), l4, l5] st H Q = M4 30 [l0, l1, l2, .val (.int v), l4, l5] (.int v :: st) H Q := w_x (show decode kb4 29 = .ok (.iload_n 3, 1) from by decide +kernel) rfl
theorem m4_30 : M4 30 ls (.int y :: .int x :: st) H Q = if y < x then M4 33 ls st H Q else M4 37 ls st H Q := w_icmpN (show decode kb4 30 = .ok (.if_icmp .le 7, 3) from by decide +kernel) (i_le x y) rfl
theorem m4_33 : M4 33 [l0, l1, .val (.int v), l3, l4, l5] st H Q = M4 34 [l0, l1, .val (.int v), l3, l4, l5] (.int v :: st) H Q := w_x (show decode kb4 33 = .ok (.iload_n 2, 1) from by decide +kernel) rfl
theorem m4_34 : M4 34 ls st H Q = M4 38 ls st H Q := w_x (show decode kb4 34 = .ok (.goto 4, 3) from by decide +kernel) rfl
theorem m4_37 : M4 37 [l0, l1, l2, .val (.int v), l4, l5] st H Q = M4 38 [l0, l1, l2, .val (.int v), l4, l5] (.int v :: st) H Q := w_x (show decode kb4 37 = .ok (.iload_n 3, 1) from by decide +kernel) rfl
theorem m4_38u : M4 38 [l0, l1, l2, l3, .unset, l5] ((.int v) :: st) H Q = M4 40 [l0, l1, l2, l3, .val (.int v), l5] st H Q := w_st (i := 4) (p := isI) (show decode kb4 38 = .ok (.istore 4, 2) from by decide +kernel) rfl rfl rfl rfl rfl rfl
theorem m4_40 : M4 40 [l0, l1, l2, l3, .val (.int v), l5] st H Q = M4 42 [l0, l1, l2, l3, .val (.int v), l5] (.int v :: st) H Q := w_x (show decode kb4 40 = .ok (.iload 4, 2) from by decide +kernel) rfl
theorem m4_42 : M4 42 ls (.int x :: st) H Q = if x = 0 then M4 45 ls st H Q else M4 47 ls st H Q := w_ifN (show decode kb4 42 = .ok (.ifCond .ne 5, 3) from by decide +kernel) (z_ne x) rfl
theorem m4_45 : M4 45 ls st H Q = M4 46 ls (.int 1 :: st) H Q := w_con (show decode kb4 45 = .ok (.iconst 1, 1) from by decide +kernel) rfl (by decide)
theorem m4_46 : M4 46 ls (.int z :: st) H Q = Q (some (.int z)) H := w_iret (show decode kb4 46 = .ok (.ireturn, 1) from by decide +kernel) rfl
theorem m4_47 : M4 47 [.val (.ref r), l1, l2, l3, l4, l5] st H Q = M4 48 [.val (.ref r), l1, l2, l3, l4, l5] (.ref r :: st) H Q := w_x (show decode kb4 47 = .ok (.aload_n 0, 1) from by decide +kernel) rfl
theorem m4_48 : M4 48 [l0, .val (.int v), l2, l3, l4, l5] st H Q = M4 49 [l0, .val (.int v), l2, l3, l4, l5] (.int v :: st) H Q := w_x (show decode kb4 48 = .ok (.iload_n 1, 1) from by decide +kernel) rfl
theorem m4_49 : M4 49 [l0, l1, l2, l3, .val (.int v), l5] st H Q = M4 51 [l0, l1, l2, l3, .val (.int v), l5] (.int v :: st) H Q := w_x (show decode kb4 49 = .ok (.iload 4, 2) from by decide +kernel) rfl
theorem cr4_133 : vR tables_1 dn y4 133 = some (true, y5, prog_1_method_31_code, 5, (some .int), 2, 0) := pR_of (cR_of (by decide +kernel) rc_5 dn_5 dn_4 (sig := ⟨[.int, .int], some .int⟩) (by decide +kernel) (by decide +kernel) rfl rfl) (by decide +kernel) (by decide +kernel)
theorem m4_51 (a0 : Int32) (a1 : Int32) : M4 51 ls [.int a1, .int a0, .ref b] (put b pre s A post) Q = M5 0 [.val (.ref b), .val (.int a0), .val (.int a1), .unset, .unset] [] (put b pre s A post) (fun v H1 => M4 54 ls (v.toList ++ []) H1 Q) := w_virt (as := [.int a1, .int a0]) (rest := []) (a := b) (show decode kb4 51 = .ok (.invokevirtual 133, 3) from by decide +kernel) cr4_133 put_o rfl rfl (Nat.le_of_ble_eq_true rfl) (by show 3 ≤ 5; omega) rfl
theorem m4_54u : M4 54 [l0, l1, l2, l3, l4, .unset] ((.int v) :: st) H Q = M4 56 [l0, l1, l2, l3, l4, .val (.int v)] st H Q := w_st (i := 5) (p := isI) (show decode kb4 54 = .ok (.istore 5, 2) from by decide +kernel) rfl rfl rfl rfl rfl rfl
theorem m4_56 : M4 56 [l0, l1, l2, l3, l4, .val (.int v)] st H Q = M4 58 [l0, l1, l2, l3, l4, .val (.int v)] (.int v :: st) H Q := w_x (show decode kb4 56 = .ok (.iload 5, 2) from by decide +kernel) rfl
theorem m4_58 : M4 58 ls st H Q = M4 59 ls (.int 4 :: st) H Q := w_con (show decode kb4 58 = .ok (.iconst 4, 1) from by decide +kernel) rfl (by decide)
theorem m4_59 : M4 59 ls (.int y :: .int x :: st) H Q = if y < x then M4 65 ls st H Q else M4 62 ls st H Q := w_icmp (show decode kb4 59 = .ok (.if_icmp .gt 6, 3) from by decide +kernel) (i_gt x y) rfl
theorem m4_62 : M4 62 [l0, l1, l2, l3, .val (.int v), l5] st H Q = M4 64 [l0, l1, l2, l3, .val (.int v), l5] (.int v :: st) H Q := w_x (show decode kb4 62 = .ok (.iload 4, 2) from by decide +kernel) rfl
theorem m4_64 : M4 64 ls (.int z :: st) H Q = Q (some (.int z)) H := w_iret (show decode kb4 64 = .ok (.ireturn, 1) from by decide +kernel) rfl
theorem m4_65 : M4 65 [l0, l1, l2, l3, .val (.int v), l5] st H Q = M4 67 [l0, l1, l2, l3, .val (.int v), l5] (.int v :: st) H Q := w_x (show decode kb4 65 = .ok (.iload 4, 2) from by decide +kernel) rfl
theorem m4_67 : M4 67 ls st H Q = M4 68 ls (.int 1 :: st) H Q := w_con (show decode kb4 67 = .ok (.iconst 1, 1) from by decide +kernel) rfl (by decide)
theorem m4_68 : M4 68 ls (.int y :: .int x :: st) H Q = M4 69 ls (.int (x + y) :: st) H Q := w_x (show decode kb4 68 = .ok (.iadd, 1) from by decide +kernel) rfl
theorem m4_69 : M4 69 ls (.int z :: st) H Q = Q (some (.int z)) H := w_iret (show decode kb4 69 = .ok (.ireturn, 1) from by decide +kernel) rfl
theorem m5_0 : M5 0 [.val (.ref r), l1, l2, l3, l4] st H Q = M5 1 [.val (.ref r), l1, l2, l3, l4] (.ref r :: st) H Q := w_x (show decode kb5 0 = .ok (.aload_n 0, 1) from by decide +kernel) rfl
theorem m5_1 : M5 1 [l0, .val (.int v), l2, l3, l4] st H Q = M5 2 [l0, .val (.int v), l2, l3, l4] (.int v :: st) H Q := w_x (show decode kb5 1 = .ok (.iload_n 1, 1) from by decide +kernel) rfl
theorem m5_2 : M5 2 [l0, l1, .val (.int v), l3, l4] st H Q = M5 3 [l0, l1, .val (.int v), l3, l4] (.int v :: st) H Q := w_x (show decode kb5 2 = .ok (.iload_n 2, 1) from by decide +kernel) rfl
theorem cr5_142 : vR tables_1 dn y5 142 = some (true, y6, prog_1_method_30_code, 4, none, 2, 30) := pR_of (cR_of (by decide +kernel) rc_6 dn_6 dn_5 (sig := ⟨[.int, .int], none⟩) (by decide +kernel) (by decide +kernel) rfl rfl) (by decide +kernel) (by decide +kernel)
theorem m5_3 (a0 : Int32) (a1 : Int32) : M5 3 ls [.int a1, .int a0, .ref b] (put b pre s A post) Q = M6 0 [.val (.ref b), .val (.int a0), .val (.int a1), .unset] [] (put b pre s A post) (fun v H1 => M5 6 ls (v.toList ++ []) H1 Q) := w_virt (as := [.int a1, .int a0]) (rest := []) (a := b) (show decode kb5 3 = .ok (.invokevirtual 142, 3) from by decide +kernel) cr5_142 put_o rfl rfl (Nat.le_of_ble_eq_true rfl) (by show 3 ≤ 4; omega) rfl
theorem m5_6 : M5 6 ls st H Q = M5 7 ls (.int 0 :: st) H Q := w_con (show decode kb5 6 = .ok (.iconst 0, 1) from by decide +kernel) rfl (by decide)
theorem m5_7u : M5 7 [l0, l1, l2, .unset, l4] ((.int v) :: st) H Q = M5 8 [l0, l1, l2, .val (.int v), l4] st H Q := w_st (i := 3) (p := isI) (show decode kb5 7 = .ok (.istore_n 3, 1) from by decide +kernel) rfl rfl rfl rfl rfl rfl
theorem m5_8 : M5 8 ls st H Q = M5 9 ls (.int 0 :: st) H Q := w_con (show decode kb5 8 = .ok (.iconst 0, 1) from by decide +kernel) rfl (by decide)
theorem m5_9u : M5 9 [l0, l1, l2, l3, .unset] ((.int v) :: st) H Q = M5 11 [l0, l1, l2, l3, .val (.int v)] st H Q := w_st (i := 4) (p := isI) (show decode kb5 9 = .ok (.istore 4, 2) from by decide +kernel) rfl rfl rfl rfl rfl rfl
theorem m5_11 : M5 11 [l0, l1, l2, l3, .val (.int v)] st H Q = M5 13 [l0, l1, l2, l3, .val (.int v)] (.int v :: st) H Q := w_x (show decode kb5 11 = .ok (.iload 4, 2) from by decide +kernel) rfl
theorem m5_13 : M5 13 ls st H Q = M5 14 ls (.int 5 :: st) H Q := w_con (show decode kb5 13 = .ok (.iconst 5, 1) from by decide +kernel) rfl (by decide)
theorem m5_14 : M5 14 ls (.int y :: .int x :: st) H Q = if x < y then M5 17 ls st H Q else M5 39 ls st H Q := w_icmpN (show decode kb5 14 = .ok (.if_icmp .ge 25, 3) from by decide +kernel) (i_ge x y) rfl
theorem m5_17 : M5 17 [.val (.ref r), l1, l2, l3, l4] st H Q = M5 18 [.val (.ref r), l1, l2, l3, l4] (.ref r :: st) H Q := w_x (show decode kb5 17 = .ok (.aload_n 0, 1) from by decide +kernel) rfl
theorem cr5_146 : vR tables_1 dn y5 146 = some (true, y9, prog_1_method_35_code, 5, (some .boolean), 0, 0) := pR_of (cR_of (by decide +kernel) rc_9 dn_9 dn_5 (sig := ⟨[], some .boolean⟩) (by decide +kernel) (by decide +kernel) rfl rfl) (by decide +kernel) (by decide +kernel)
theorem m5_18 : M5 18 ls [.ref b] (put b pre s A post) Q = M9 0 [.val (.ref b), .unset, .unset, .unset, .unset] [] (put b pre s A post) (fun v H1 => M5 21 ls (v.toList ++ []) H1 Q) := w_virt (as := []) (rest := []) (a := b) (show decode kb5 18 = .ok (.invokevirtual 146, 3) from by decide +kernel) cr5_146 put_o rfl rfl (Nat.le_of_ble_eq_true rfl) (by show 1 ≤ 5; omega) rfl
theorem m5_21 : M5 21 ls (.int x :: st) H Q = if x = 0 then M5 24 ls st H Q else M5 26 ls st H Q := w_ifN (show decode kb5 21 = .ok (.ifCond .ne 5, 3) from by decide +kernel) (z_ne x) rfl
theorem m5_24 : M5 24 [l0, l1, l2, .val (.int v), l4] st H Q = M5 25 [l0, l1, l2, .val (.int v), l4] (.int v :: st) H Q := w_x (show decode kb5 24 = .ok (.iload_n 3, 1) from by decide +kernel) rfl
theorem m5_25 : M5 25 ls (.int z :: st) H Q = Q (some (.int z)) H := w_iret (show decode kb5 25 = .ok (.ireturn, 1) from by decide +kernel) rfl
theorem m5_26 : M5 26 [.val (.ref r), l1, l2, l3, l4] st H Q = M5 27 [.val (.ref r), l1, l2, l3, l4] (.ref r :: st) H Q := w_x (show decode kb5 26 = .ok (.aload_n 0, 1) from by decide +kernel) rfl
theorem cr5_150 : vR tables_1 dn y5 150 = some (true, y16, prog_1_method_38_code, 5, none, 0, 45) := pR_of (cR_of (by decide +kernel) rc_16 dn_16 dn_5 (sig := ⟨[], none⟩) (by decide +kernel) (by decide +kernel) rfl rfl) (by decide +kernel) (by decide +kernel)
theorem m5_27 : M5 27 ls [.ref b] (put b pre s A post) Q = M16 0 [.val (.ref b), .unset, .unset, .unset, .unset] [] (put b pre s A post) (fun v H1 => M5 30 ls (v.toList ++ []) H1 Q) := w_virt (as := []) (rest := []) (a := b) (show decode kb5 27 = .ok (.invokevirtual 150, 3) from by decide +kernel) cr5_150 put_o rfl rfl (Nat.le_of_ble_eq_true rfl) (by show 1 ≤ 5; omega) rfl
theorem m5_30 : M5 30 [l0, l1, l2, .val (.int v), l4] st H Q = M5 33 [l0, l1, l2, .val (.int (v + 1)), l4] st H Q := w_iinc (show decode kb5 30 = .ok (.iinc 3 1, 3) from by decide +kernel) rfl (by decide) rfl
theorem m5_33 : M5 33 [l0, l1, l2, l3, .val (.int v)] st H Q = M5 36 [l0, l1, l2, l3, .val (.int (v + 1))] st H Q := w_iinc (show decode kb5 33 = .ok (.iinc 4 1, 3) from by decide +kernel) rfl (by decide) rfl
theorem m5_36 : M5 36 ls st H Q = M5 11 ls st H Q := w_x (show decode kb5 36 = .ok (.goto (-25), 3) from by decide +kernel) rfl
theorem m5_39 : M5 39 [l0, l1, l2, .val (.int v), l4] st H Q = M5 40 [l0, l1, l2, .val (.int v), l4] (.int v :: st) H Q := w_x (show decode kb5 39 = .ok (.iload_n 3, 1) from by decide +kernel) rfl
theorem m5_40 : M5 40 ls (.int z :: st) H Q = Q (some (.int z)) H := w_iret (show decode kb5 40 = .ok (.ireturn, 1) from by decide +kernel) rfl
theorem m6_0 : M6 0 [.val (.ref r), l1, l2, l3] st H Q = M6 1 [.val (.ref r), l1, l2, l3] (.ref r :: st) H Q := w_x (show decode kb6 0 = .ok (.aload_n 0, 1) from by decide +kernel) rfl
theorem m6_1 : M6 1 [l0, .val (.int v), l2, l3] st H Q = M6 2 [l0, .val (.int v), l2, l3] (.int v :: st) H Q := w_x (show decode kb6 1 = .ok (.iload_n 1, 1) from by decide +kernel) rfl
theorem pf6_136 : pfR tables_1 y6.cls y6.name 136 = some ("LutMapper", 22, .int) := by decide +kernel
theorem m6_2 : M6 2 ls (.int v :: .ref b :: st) (put b pre s A post) Q = M6 5 ls st (put b pre (ou s 4 v) A post) Q := w_put (show decode kb6 2 = .ok (.putfield 136, 3) from by decide +kernel) pf6_136 put_o (Nat.zero_le _) (by show 22 < 28; omega) rfl put_s4
theorem m6_5 : M6 5 [.val (.ref r), l1, l2, l3] st H Q = M6 6 [.val (.ref r), l1, l2, l3] (.ref r :: st) H Q := w_x (show decode kb6 5 = .ok (.aload_n 0, 1) from by decide +kernel) rfl
theorem m6_6 : M6 6 [.val (.ref r), l1, l2, l3] st H Q = M6 7 [.val (.ref r), l1, l2, l3] (.ref r :: st) H Q := w_x (show decode kb6 6 = .ok (.aload_n 0, 1) from by decide +kernel) rfl
theorem m6_7 : M6 7 [l0, .val (.int v), l2, l3] st H Q = M6 8 [l0, .val (.int v), l2, l3] (.int v :: st) H Q := w_x (show decode kb6 7 = .ok (.iload_n 1, 1) from by decide +kernel) rfl
theorem m6_8 : M6 8 ls st H Q = M6 9 ls (.int 0 :: st) H Q := w_con (show decode kb6 8 = .ok (.iconst 0, 1) from by decide +kernel) rfl (by decide)
theorem cr6_119 : vR tables_1 dn y6 119 = some (true, y7, prog_1_method_24_code, 5, (some .int), 2, 1) := pR_of (cR_of (by decide +kernel) rc_7 dn_7 dn_6 (sig := ⟨[.int, .int], some .int⟩) (by decide +kernel) (by decide +kernel) rfl rfl) (by decide +kernel) (by decide +kernel)
theorem m6_9 (a0 : Int32) (a1 : Int32) (u0 : Nat) : M6 9 ls [.int a1, .int a0, .ref b, .ref u0] (put b pre s A post) Q = M7 0 [.val (.ref b), .val (.int a0), .val (.int a1), .unset, .unset] [] (put b pre s A post) (fun v H1 => M6 12 ls (v.toList ++ [.ref u0]) H1 Q) := w_virt (as := [.int a1, .int a0]) (rest := [.ref u0]) (a := b) (show decode kb6 9 = .ok (.invokevirtual 119, 3) from by decide +kernel) cr6_119 put_o rfl rfl (Nat.le_of_ble_eq_true rfl) (by show 3 ≤ 5; omega) rfl
theorem pf6_139 : pfR tables_1 y6.cls y6.name 139 = some ("LutMapper", 23, .int) := by decide +kernel
theorem m6_12 : M6 12 ls (.int v :: .ref b :: st) (put b pre s A post) Q = M6 15 ls st (put b pre (ou s 5 v) A post) Q := w_put (show decode kb6 12 = .ok (.putfield 139, 3) from by decide +kernel) pf6_139 put_o (Nat.zero_le _) (by show 23 < 28; omega) rfl put_s5
theorem m6_15 : M6 15 [.val (.ref r), l1, l2, l3] st H Q = M6 16 [.val (.ref r), l1, l2, l3] (.ref r :: st) H Q := w_x (show decode kb6 15 = .ok (.aload_n 0, 1) from by decide +kernel) rfl
theorem m6_16 : M6 16 ls st H Q = M6 17 ls (.int 0 :: st) H Q := w_con (show decode kb6 16 = .ok (.iconst 0, 1) from by decide +kernel) rfl (by decide)
theorem pf6_113 : pfR tables_1 y6.cls y6.name 113 = some ("LutMapper", 24, .int) := by decide +kernel
theorem m6_17 : M6 17 ls (.int v :: .ref b :: st) (put b pre s A post) Q = M6 20 ls st (put b pre (ou s 6 v) A post) Q := w_put (show decode kb6 17 = .ok (.putfield 113, 3) from by decide +kernel) pf6_113 put_o (Nat.zero_le _) (by show 24 < 28; omega) rfl put_s6
theorem m6_20 : M6 20 ls st H Q = M6 21 ls (.int 0 :: st) H Q := w_con (show decode kb6 20 = .ok (.iconst 0, 1) from by decide +kernel) rfl (by decide)
theorem m6_21u : M6 21 [l0, l1, l2, .unset] ((.int v) :: st) H Q = M6 22 [l0, l1, l2, .val (.int v)] st H Q := w_st (i := 3) (p := isI) (show decode kb6 21 = .ok (.istore_n 3, 1) from by decide +kernel) rfl rfl rfl rfl rfl rfl
theorem m6_22 : M6 22 [l0, l1, l2, .val (.int v)] st H Q = M6 23 [l0, l1, l2, .val (.int v)] (.int v :: st) H Q := w_x (show decode kb6 22 = .ok (.iload_n 3, 1) from by decide +kernel) rfl
theorem m6_23 : M6 23 ls st H Q = M6 25 ls (.int 32 :: st) H Q := w_con (show decode kb6 23 = .ok (.bipush 32, 2) from by decide +kernel) rfl (by decide)
theorem m6_25 : M6 25 ls (.int y :: .int x :: st) H Q = if x < y then M6 28 ls st H Q else M6 100 ls st H Q := w_icmpN (show decode kb6 25 = .ok (.if_icmp .ge 75, 3) from by decide +kernel) (i_ge x y) rfl
theorem m6_28 : M6 28 [.val (.ref r), l1, l2, l3] st H Q = M6 29 [.val (.ref r), l1, l2, l3] (.ref r :: st) H Q := w_x (show decode kb6 28 = .ok (.aload_n 0, 1) from by decide +kernel) rfl
theorem m6_29 : M6 29 ls (.ref b :: st) (put b pre s A post) Q = M6 32 ls (.ref (b + 7) :: st) (put b pre s A post) Q := w_get (show decode kb6 29 = .ok (.getfield 28, 3) from by decide +kernel) gf_28 put_o rfl
theorem m6_32 : M6 32 [l0, l1, l2, .val (.int v)] st H Q = M6 33 [l0, l1, l2, .val (.int v)] (.int v :: st) H Q := w_x (show decode kb6 32 = .ok (.iload_n 3, 1) from by decide +kernel) rfl
theorem m6_33 : M6 33 ls st H Q = M6 34 ls (.int 0 :: st) H Q := w_con (show decode kb6 33 = .ok (.iconst 0, 1) from by decide +kernel) rfl (by decide)
theorem m6_34  : M6 34 ls (.int v :: .int j :: .ref (b + 7) :: st) (put b pre s A post) Q = (inB j (A 6) ∧ M6 35 ls st (put b pre s (ou A 6 (setA (A 6) j v)) post) Q) := w_ist (show decode kb6 34 = .ok (.iastore, 1) from by decide +kernel) rfl put_a6 (Nat.zero_le _) rfl put_w6
theorem m6_35 : M6 35 [.val (.ref r), l1, l2, l3] st H Q = M6 36 [.val (.ref r), l1, l2, l3] (.ref r :: st) H Q := w_x (show decode kb6 35 = .ok (.aload_n 0, 1) from by decide +kernel) rfl
theorem m6_36 : M6 36 ls (.ref b :: st) (put b pre s A post) Q = M6 39 ls (.ref (b + 8) :: st) (put b pre s A post) Q := w_get (show decode kb6 36 = .ok (.getfield 31, 3) from by decide +kernel) gf_31 put_o rfl
theorem m6_39 : M6 39 ls st H Q = M6 40 ls (.int 2 :: st) H Q := w_con (show decode kb6 39 = .ok (.iconst 2, 1) from by decide +kernel) rfl (by decide)
theorem m6_40 : M6 40 [l0, l1, l2, .val (.int v)] st H Q = M6 41 [l0, l1, l2, .val (.int v)] (.int v :: st) H Q := w_x (show decode kb6 40 = .ok (.iload_n 3, 1) from by decide +kernel) rfl
theorem m6_41 : M6 41 ls (.int y :: .int x :: st) H Q = M6 42 ls (.int (x * y) :: st) H Q := w_x (show decode kb6 41 = .ok (.imul, 1) from by decide +kernel) rfl
theorem m6_42 : M6 42 ls st H Q = M6 43 ls (.int 0 :: st) H Q := w_con (show decode kb6 42 = .ok (.iconst 0, 1) from by decide +kernel) rfl (by decide)
theorem m6_43  : M6 43 ls (.int v :: .int j :: .ref (b + 8) :: st) (put b pre s A post) Q = (inB j (A 7) ∧ M6 44 ls st (put b pre s (ou A 7 (setA (A 7) j v)) post) Q) := w_ist (show decode kb6 43 = .ok (.iastore, 1) from by decide +kernel) rfl put_a7 (Nat.zero_le _) rfl put_w7
theorem m6_44 : M6 44 [.val (.ref r), l1, l2, l3] st H Q = M6 45 [.val (.ref r), l1, l2, l3] (.ref r :: st) H Q := w_x (show decode kb6 44 = .ok (.aload_n 0, 1) from by decide +kernel) rfl
theorem m6_45 : M6 45 ls (.ref b :: st) (put b pre s A post) Q = M6 48 ls (.ref (b + 8) :: st) (put b pre s A post) Q := w_get (show decode kb6 45 = .ok (.getfield 31, 3) from by decide +kernel) gf_31 put_o rfl
theorem m6_48 : M6 48 ls st H Q = M6 49 ls (.int 2 :: st) H Q := w_con (show decode kb6 48 = .ok (.iconst 2, 1) from by decide +kernel) rfl (by decide)
theorem m6_49 : M6 49 [l0, l1, l2, .val (.int v)] st H Q = M6 50 [l0, l1, l2, .val (.int v)] (.int v :: st) H Q := w_x (show decode kb6 49 = .ok (.iload_n 3, 1) from by decide +kernel) rfl
theorem m6_50 : M6 50 ls (.int y :: .int x :: st) H Q = M6 51 ls (.int (x * y) :: st) H Q := w_x (show decode kb6 50 = .ok (.imul, 1) from by decide +kernel) rfl
theorem m6_51 : M6 51 ls st H Q = M6 52 ls (.int 1 :: st) H Q := w_con (show decode kb6 51 = .ok (.iconst 1, 1) from by decide +kernel) rfl (by decide)
theorem m6_52 : M6 52 ls (.int y :: .int x :: st) H Q = M6 53 ls (.int (x + y) :: st) H Q := w_x (show decode kb6 52 = .ok (.iadd, 1) from by decide +kernel) rfl
theorem m6_53 : M6 53 ls st H Q = M6 54 ls (.int 0 :: st) H Q := w_con (show decode kb6 53 = .ok (.iconst 0, 1) from by decide +kernel) rfl (by decide)
theorem m6_54  : M6 54 ls (.int v :: .int j :: .ref (b + 8) :: st) (put b pre s A post) Q = (inB j (A 7) ∧ M6 55 ls st (put b pre s (ou A 7 (setA (A 7) j v)) post) Q) := w_ist (show decode kb6 54 = .ok (.iastore, 1) from by decide +kernel) rfl put_a7 (Nat.zero_le _) rfl put_w7
theorem m6_55 : M6 55 [l0, l1, l2, .val (.int v)] st H Q = M6 56 [l0, l1, l2, .val (.int v)] (.int v :: st) H Q := w_x (show decode kb6 55 = .ok (.iload_n 3, 1) from by decide +kernel) rfl
theorem m6_56 : M6 56 [l0, .val (.int v), l2, l3] st H Q = M6 57 [l0, .val (.int v), l2, l3] (.int v :: st) H Q := w_x (show decode kb6 56 = .ok (.iload_n 1, 1) from by decide +kernel) rfl
theorem m6_57 : M6 57 ls (.int y :: .int x :: st) H Q = if x < y then M6 60 ls st H Q else M6 94 ls st H Q := w_icmpN (show decode kb6 57 = .ok (.if_icmp .ge 37, 3) from by decide +kernel) (i_ge x y) rfl
theorem m6_60 : M6 60 [.val (.ref r), l1, l2, l3] st H Q = M6 61 [.val (.ref r), l1, l2, l3] (.ref r :: st) H Q := w_x (show decode kb6 60 = .ok (.aload_n 0, 1) from by decide +kernel) rfl
theorem m6_61 : M6 61 [.val (.ref r), l1, l2, l3] st H Q = M6 62 [.val (.ref r), l1, l2, l3] (.ref r :: st) H Q := w_x (show decode kb6 61 = .ok (.aload_n 0, 1) from by decide +kernel) rfl
theorem m6_62 : M6 62 ls (.ref b :: st) (put b pre s A post) Q = M6 65 ls (.int (s 5) :: st) (put b pre s A post) Q := w_get (show decode kb6 62 = .ok (.getfield 139, 3) from by decide +kernel) gf_139 put_o rfl
theorem m6_65 : M6 65 [l0, l1, l2, .val (.int v)] st H Q = M6 66 [l0, l1, l2, .val (.int v)] (.int v :: st) H Q := w_x (show decode kb6 65 = .ok (.iload_n 3, 1) from by decide +kernel) rfl
theorem cr6_97 : vR tables_1 dn y6 97 = some (true, y8, prog_1_method_19_code, 3, (some .int), 2, 17) := pR_of (cR_of (by decide +kernel) rc_8 dn_8 dn_6 (sig := ⟨[.int, .int], some .int⟩) (by decide +kernel) (by decide +kernel) rfl rfl) (by decide +kernel) (by decide +kernel)
theorem m6_66 (a0 : Int32) (a1 : Int32) : M6 66 ls [.int a1, .int a0, .ref b] (put b pre s A post) Q = M8 0 [.val (.ref b), .val (.int a0), .val (.int a1)] [] (put b pre s A post) (fun v H1 => M6 69 ls (v.toList ++ []) H1 Q) := w_virt (as := [.int a1, .int a0]) (rest := []) (a := b) (show decode kb6 66 = .ok (.invokevirtual 97, 3) from by decide +kernel) cr6_97 put_o rfl rfl (Nat.le_of_ble_eq_true rfl) (by show 3 ≤ 3; omega) rfl
theorem m6_69 : M6 69 ls (.int x :: st) H Q = if x = 0 then M6 94 ls st H Q else M6 72 ls st H Q := w_if (show decode kb6 69 = .ok (.ifCond .eq 25, 3) from by decide +kernel) (z_eq x) rfl
theorem m6_72 : M6 72 [.val (.ref r), l1, l2, l3] st H Q = M6 73 [.val (.ref r), l1, l2, l3] (.ref r :: st) H Q := w_x (show decode kb6 72 = .ok (.aload_n 0, 1) from by decide +kernel) rfl
theorem m6_73 : M6 73 ls (.ref b :: st) (put b pre s A post) Q = M6 76 ls (.ref (b + 5) :: st) (put b pre s A post) Q := w_get (show decode kb6 73 = .ok (.getfield 22, 3) from by decide +kernel) gf_22 put_o rfl
theorem m6_76 : M6 76 [l0, l1, l2, .val (.int v)] st H Q = M6 77 [l0, l1, l2, .val (.int v)] (.int v :: st) H Q := w_x (show decode kb6 76 = .ok (.iload_n 3, 1) from by decide +kernel) rfl
theorem m6_77  : M6 77 ls (.int j :: .ref (b + 5) :: st) (put b pre s A post) Q = (inB j (A 4) ∧ M6 78 ls (.int (getA (A 4) j) :: st) (put b pre s A post) Q) := w_ild (show decode kb6 77 = .ok (.iaload, 1) from by decide +kernel) rfl put_a4
theorem m6_78 : M6 78 [l0, l1, .val (.int v), l3] st H Q = M6 79 [l0, l1, .val (.int v), l3] (.int v :: st) H Q := w_x (show decode kb6 78 = .ok (.iload_n 2, 1) from by decide +kernel) rfl
theorem m6_79 : M6 79 ls (.int y :: .int x :: st) H Q = if x < y then M6 82 ls st H Q else M6 94 ls st H Q := w_icmpN (show decode kb6 79 = .ok (.if_icmp .ge 15, 3) from by decide +kernel) (i_ge x y) rfl
theorem m6_82 : M6 82 [.val (.ref r), l1, l2, l3] st H Q = M6 83 [.val (.ref r), l1, l2, l3] (.ref r :: st) H Q := w_x (show decode kb6 82 = .ok (.aload_n 0, 1) from by decide +kernel) rfl
theorem m6_83 : M6 83 ls ((.ref r) :: st) H Q = M6 84 ls ((.ref r) :: (.ref r) :: st) H Q := w_x (show decode kb6 83 = .ok (.dup, 1) from by decide +kernel) rfl
theorem m6_84 : M6 84 ls (.ref b :: st) (put b pre s A post) Q = M6 87 ls (.int (s 6) :: st) (put b pre s A post) Q := w_get (show decode kb6 84 = .ok (.getfield 113, 3) from by decide +kernel) gf_113 put_o rfl
theorem m6_87 : M6 87 ls st H Q = M6 88 ls (.int 1 :: st) H Q := w_con (show decode kb6 87 = .ok (.iconst 1, 1) from by decide +kernel) rfl (by decide)
theorem m6_88 : M6 88 [l0, l1, l2, .val (.int v)] st H Q = M6 89 [l0, l1, l2, .val (.int v)] (.int v :: st) H Q := w_x (show decode kb6 88 = .ok (.iload_n 3, 1) from by decide +kernel) rfl
theorem m6_89 : M6 89 ls (.int y :: .int x :: st) H Q = M6 90 ls (.int (x <<< (y &&& 31)) :: st) H Q := w_x (show decode kb6 89 = .ok (.ishl, 1) from by decide +kernel) rfl
theorem m6_90 : M6 90 ls (.int y :: .int x :: st) H Q = M6 91 ls (.int (x ||| y) :: st) H Q := w_x (show decode kb6 90 = .ok (.ior, 1) from by decide +kernel) rfl
theorem m6_91 : M6 91 ls (.int v :: .ref b :: st) (put b pre s A post) Q = M6 94 ls st (put b pre (ou s 6 v) A post) Q := w_put (show decode kb6 91 = .ok (.putfield 113, 3) from by decide +kernel) pf6_113 put_o (Nat.zero_le _) (by show 24 < 28; omega) rfl put_s6
theorem m6_94 : M6 94 [l0, l1, l2, .val (.int v)] st H Q = M6 97 [l0, l1, l2, .val (.int (v + 1))] st H Q := w_iinc (show decode kb6 94 = .ok (.iinc 3 1, 3) from by decide +kernel) rfl (by decide) rfl
theorem m6_97 : M6 97 ls st H Q = M6 22 ls st H Q := w_x (show decode kb6 97 = .ok (.goto (-75), 3) from by decide +kernel) rfl
theorem m6_100 : M6 100 ls [] H Q = Q none H := w_vret (show decode kb6 100 = .ok (.return_, 1) from by decide +kernel) rfl
theorem m7_0 : M7 0 ls st H Q = M7 1 ls (.int 1 :: st) H Q := w_con (show decode kb7 0 = .ok (.iconst 1, 1) from by decide +kernel) rfl (by decide)
theorem m7_1 : M7 1 [l0, .val (.int v), l2, l3, l4] st H Q = M7 2 [l0, .val (.int v), l2, l3, l4] (.int v :: st) H Q := w_x (show decode kb7 1 = .ok (.iload_n 1, 1) from by decide +kernel) rfl
theorem m7_2 : M7 2 ls (.int y :: .int x :: st) H Q = M7 3 ls (.int (x <<< (y &&& 31)) :: st) H Q := w_x (show decode kb7 2 = .ok (.ishl, 1) from by decide +kernel) rfl
theorem m7_3u : M7 3 [l0, l1, l2, .unset, l4] ((.int v) :: st) H Q = M7 4 [l0, l1, l2, .val (.int v), l4] st H Q := w_st (i := 3) (p := isI) (show decode kb7 3 = .ok (.istore_n 3, 1) from by decide +kernel) rfl rfl rfl rfl rfl rfl
theorem m7_4 : M7 4 [l0, .val (.int v), l2, l3, l4] st H Q = M7 5 [l0, .val (.int v), l2, l3, l4] (.int v :: st) H Q := w_x (show decode kb7 4 = .ok (.iload_n 1, 1) from by decide +kernel) rfl
theorem m7_5u : M7 5 [l0, l1, l2, l3, .unset] ((.int v) :: st) H Q = M7 7 [l0, l1, l2, l3, .val (.int v)] st H Q := w_st (i := 4) (p := isI) (show decode kb7 5 = .ok (.istore 4, 2) from by decide +kernel) rfl rfl rfl rfl rfl rfl
theorem m7_7 : M7 7 [l0, l1, l2, l3, .val (.int v)] st H Q = M7 9 [l0, l1, l2, l3, .val (.int v)] (.int v :: st) H Q := w_x (show decode kb7 7 = .ok (.iload 4, 2) from by decide +kernel) rfl
theorem m7_9 : M7 9 ls (.int x :: st) H Q = if x < 0 then M7 77 ls st H Q else M7 12 ls st H Q := w_if (show decode kb7 9 = .ok (.ifCond .lt 68, 3) from by decide +kernel) (z_lt x) rfl
theorem m7_12 : M7 12 [.val (.ref r), l1, l2, l3, l4] st H Q = M7 13 [.val (.ref r), l1, l2, l3, l4] (.ref r :: st) H Q := w_x (show decode kb7 12 = .ok (.aload_n 0, 1) from by decide +kernel) rfl
theorem m7_13 : M7 13 [l0, l1, l2, .val (.int v), l4] st H Q = M7 14 [l0, l1, l2, .val (.int v), l4] (.int v :: st) H Q := w_x (show decode kb7 13 = .ok (.iload_n 3, 1) from by decide +kernel) rfl
theorem m7_14 : M7 14 [l0, l1, l2, l3, .val (.int v)] st H Q = M7 16 [l0, l1, l2, l3, .val (.int v)] (.int v :: st) H Q := w_x (show decode kb7 14 = .ok (.iload 4, 2) from by decide +kernel) rfl
theorem cr7_97 : vR tables_1 dn y7 97 = some (true, y8, prog_1_method_19_code, 3, (some .int), 2, 0) := pR_of (cR_of (by decide +kernel) rc_8 dn_8 dn_7 (sig := ⟨[.int, .int], some .int⟩) (by decide +kernel) (by decide +kernel) rfl rfl) (by decide +kernel) (by decide +kernel)
theorem m7_16 (a0 : Int32) (a1 : Int32) : M7 16 ls [.int a1, .int a0, .ref b] (put b pre s A post) Q = M8 0 [.val (.ref b), .val (.int a0), .val (.int a1)] [] (put b pre s A post) (fun v H1 => M7 19 ls (v.toList ++ []) H1 Q) := w_virt (as := [.int a1, .int a0]) (rest := []) (a := b) (show decode kb7 16 = .ok (.invokevirtual 97, 3) from by decide +kernel) cr7_97 put_o rfl rfl (Nat.le_of_ble_eq_true rfl) (by show 3 ≤ 3; omega) rfl
theorem m7_19 : M7 19 ls (.int x :: st) H Q = if x = 0 then M7 71 ls st H Q else M7 22 ls st H Q := w_if (show decode kb7 19 = .ok (.ifCond .eq 52, 3) from by decide +kernel) (z_eq x) rfl
theorem m7_22 : M7 22 [.val (.ref r), l1, l2, l3, l4] st H Q = M7 23 [.val (.ref r), l1, l2, l3, l4] (.ref r :: st) H Q := w_x (show decode kb7 22 = .ok (.aload_n 0, 1) from by decide +kernel) rfl
theorem m7_23 : M7 23 [l0, l1, .val (.int v), l3, l4] st H Q = M7 24 [l0, l1, .val (.int v), l3, l4] (.int v :: st) H Q := w_x (show decode kb7 23 = .ok (.iload_n 2, 1) from by decide +kernel) rfl
theorem m7_24 : M7 24 [l0, l1, l2, l3, .val (.int v)] st H Q = M7 26 [l0, l1, l2, l3, .val (.int v)] (.int v :: st) H Q := w_x (show decode kb7 24 = .ok (.iload 4, 2) from by decide +kernel) rfl
theorem m7_26 (a0 : Int32) (a1 : Int32) : M7 26 ls [.int a1, .int a0, .ref b] (put b pre s A post) Q = M8 0 [.val (.ref b), .val (.int a0), .val (.int a1)] [] (put b pre s A post) (fun v H1 => M7 29 ls (v.toList ++ []) H1 Q) := w_virt (as := [.int a1, .int a0]) (rest := []) (a := b) (show decode kb7 26 = .ok (.invokevirtual 97, 3) from by decide +kernel) cr7_97 put_o rfl rfl (Nat.le_of_ble_eq_true rfl) (by show 3 ≤ 3; omega) rfl
theorem m7_29 : M7 29 ls (.int x :: st) H Q = if x = 0 then M7 32 ls st H Q else M7 71 ls st H Q := w_ifN (show decode kb7 29 = .ok (.ifCond .ne 42, 3) from by decide +kernel) (z_ne x) rfl
theorem m7_32 : M7 32 [.val (.ref r), l1, l2, l3, l4] st H Q = M7 33 [.val (.ref r), l1, l2, l3, l4] (.ref r :: st) H Q := w_x (show decode kb7 32 = .ok (.aload_n 0, 1) from by decide +kernel) rfl
theorem m7_33 : M7 33 ls (.ref b :: st) (put b pre s A post) Q = M7 36 ls (.ref (b + 1) :: st) (put b pre s A post) Q := w_get (show decode kb7 33 = .ok (.getfield 7, 3) from by decide +kernel) gf_7 put_o rfl
theorem m7_36 : M7 36 [l0, l1, l2, l3, .val (.int v)] st H Q = M7 38 [l0, l1, l2, l3, .val (.int v)] (.int v :: st) H Q := w_x (show decode kb7 36 = .ok (.iload 4, 2) from by decide +kernel) rfl
theorem m7_38  : M7 38 ls (.int j :: .ref (b + 1) :: st) (put b pre s A post) Q = (inB j (A 0) ∧ M7 39 ls (.int (getA (A 0) j) :: st) (put b pre s A post) Q) := w_ild (show decode kb7 38 = .ok (.iaload, 1) from by decide +kernel) rfl put_a0
theorem m7_39 : M7 39 ls st H Q = M7 40 ls (.int 2 :: st) H Q := w_con (show decode kb7 39 = .ok (.iconst 2, 1) from by decide +kernel) rfl (by decide)
theorem m7_40 : M7 40 ls (.int y :: .int x :: st) H Q = if x = y then M7 43 ls st H Q else M7 71 ls st H Q := w_icmpN (show decode kb7 40 = .ok (.if_icmp .ne 31, 3) from by decide +kernel) (i_ne x y) rfl
theorem m7_43 : M7 43 [l0, l1, l2, .val (.int v), l4] st H Q = M7 44 [l0, l1, l2, .val (.int v), l4] (.int v :: st) H Q := w_x (show decode kb7 43 = .ok (.iload_n 3, 1) from by decide +kernel) rfl
theorem m7_44 : M7 44 ls st H Q = M7 45 ls (.int 1 :: st) H Q := w_con (show decode kb7 44 = .ok (.iconst 1, 1) from by decide +kernel) rfl (by decide)
theorem m7_45 : M7 45 [.val (.ref r), l1, l2, l3, l4] st H Q = M7 46 [.val (.ref r), l1, l2, l3, l4] (.ref r :: st) H Q := w_x (show decode kb7 45 = .ok (.aload_n 0, 1) from by decide +kernel) rfl
theorem m7_46 : M7 46 ls (.ref b :: st) (put b pre s A post) Q = M7 49 ls (.ref (b + 2) :: st) (put b pre s A post) Q := w_get (show decode kb7 46 = .ok (.getfield 13, 3) from by decide +kernel) gf_13 put_o rfl
theorem m7_49 : M7 49 [l0, l1, l2, l3, .val (.int v)] st H Q = M7 51 [l0, l1, l2, l3, .val (.int v)] (.int v :: st) H Q := w_x (show decode kb7 49 = .ok (.iload 4, 2) from by decide +kernel) rfl
theorem m7_51  : M7 51 ls (.int j :: .ref (b + 2) :: st) (put b pre s A post) Q = (inB j (A 1) ∧ M7 52 ls (.int (getA (A 1) j) :: st) (put b pre s A post) Q) := w_ild (show decode kb7 51 = .ok (.iaload, 1) from by decide +kernel) rfl put_a1
theorem m7_52 : M7 52 ls st H Q = M7 53 ls (.int 1 :: st) H Q := w_con (show decode kb7 52 = .ok (.iconst 1, 1) from by decide +kernel) rfl (by decide)
theorem m7_53 : M7 53 ls (.int y :: .int x :: st) H Q = M7 54 ls (.int (XT.ushr x y) :: st) H Q := w_x (show decode kb7 53 = .ok (.iushr, 1) from by decide +kernel) rfl
theorem m7_54 : M7 54 ls (.int y :: .int x :: st) H Q = M7 55 ls (.int (x <<< (y &&& 31)) :: st) H Q := w_x (show decode kb7 54 = .ok (.ishl, 1) from by decide +kernel) rfl
theorem m7_55 : M7 55 ls (.int y :: .int x :: st) H Q = M7 56 ls (.int (x ||| y) :: st) H Q := w_x (show decode kb7 55 = .ok (.ior, 1) from by decide +kernel) rfl
theorem m7_56i : M7 56 [l0, l1, l2, .val (.int z), l4] ((.int v) :: st) H Q = M7 57 [l0, l1, l2, .val (.int v), l4] st H Q := w_st (i := 3) (p := isI) (show decode kb7 56 = .ok (.istore_n 3, 1) from by decide +kernel) rfl rfl rfl rfl rfl rfl
theorem m7_57 : M7 57 [l0, l1, l2, .val (.int v), l4] st H Q = M7 58 [l0, l1, l2, .val (.int v), l4] (.int v :: st) H Q := w_x (show decode kb7 57 = .ok (.iload_n 3, 1) from by decide +kernel) rfl
theorem m7_58 : M7 58 ls st H Q = M7 59 ls (.int 1 :: st) H Q := w_con (show decode kb7 58 = .ok (.iconst 1, 1) from by decide +kernel) rfl (by decide)
theorem m7_59 : M7 59 [.val (.ref r), l1, l2, l3, l4] st H Q = M7 60 [.val (.ref r), l1, l2, l3, l4] (.ref r :: st) H Q := w_x (show decode kb7 59 = .ok (.aload_n 0, 1) from by decide +kernel) rfl
theorem m7_60 : M7 60 ls (.ref b :: st) (put b pre s A post) Q = M7 63 ls (.ref (b + 3) :: st) (put b pre s A post) Q := w_get (show decode kb7 60 = .ok (.getfield 16, 3) from by decide +kernel) gf_16 put_o rfl
theorem m7_63 : M7 63 [l0, l1, l2, l3, .val (.int v)] st H Q = M7 65 [l0, l1, l2, l3, .val (.int v)] (.int v :: st) H Q := w_x (show decode kb7 63 = .ok (.iload 4, 2) from by decide +kernel) rfl
theorem m7_65  : M7 65 ls (.int j :: .ref (b + 3) :: st) (put b pre s A post) Q = (inB j (A 2) ∧ M7 66 ls (.int (getA (A 2) j) :: st) (put b pre s A post) Q) := w_ild (show decode kb7 65 = .ok (.iaload, 1) from by decide +kernel) rfl put_a2
theorem m7_66 : M7 66 ls st H Q = M7 67 ls (.int 1 :: st) H Q := w_con (show decode kb7 66 = .ok (.iconst 1, 1) from by decide +kernel) rfl (by decide)
theorem m7_67 : M7 67 ls (.int y :: .int x :: st) H Q = M7 68 ls (.int (XT.ushr x y) :: st) H Q := w_x (show decode kb7 67 = .ok (.iushr, 1) from by decide +kernel) rfl
theorem m7_68 : M7 68 ls (.int y :: .int x :: st) H Q = M7 69 ls (.int (x <<< (y &&& 31)) :: st) H Q := w_x (show decode kb7 68 = .ok (.ishl, 1) from by decide +kernel) rfl
theorem m7_69 : M7 69 ls (.int y :: .int x :: st) H Q = M7 70 ls (.int (x ||| y) :: st) H Q := w_x (show decode kb7 69 = .ok (.ior, 1) from by decide +kernel) rfl
theorem m7_70i : M7 70 [l0, l1, l2, .val (.int z), l4] ((.int v) :: st) H Q = M7 71 [l0, l1, l2, .val (.int v), l4] st H Q := w_st (i := 3) (p := isI) (show decode kb7 70 = .ok (.istore_n 3, 1) from by decide +kernel) rfl rfl rfl rfl rfl rfl
theorem m7_71 : M7 71 [l0, l1, l2, l3, .val (.int v)] st H Q = M7 74 [l0, l1, l2, l3, .val (.int (v + (-1)))] st H Q := w_iinc (show decode kb7 71 = .ok (.iinc 4 (-1), 3) from by decide +kernel) rfl (by decide) rfl
theorem m7_74 : M7 74 ls st H Q = M7 7 ls st H Q := w_x (show decode kb7 74 = .ok (.goto (-67), 3) from by decide +kernel) rfl
theorem m7_77 : M7 77 [l0, l1, l2, .val (.int v), l4] st H Q = M7 78 [l0, l1, l2, .val (.int v), l4] (.int v :: st) H Q := w_x (show decode kb7 77 = .ok (.iload_n 3, 1) from by decide +kernel) rfl
theorem m7_78 : M7 78 ls (.int z :: st) H Q = Q (some (.int z)) H := w_iret (show decode kb7 78 = .ok (.ireturn, 1) from by decide +kernel) rfl
theorem m8_0 : M8 0 [l0, .val (.int v), l2] st H Q = M8 1 [l0, .val (.int v), l2] (.int v :: st) H Q := w_x (show decode kb8 0 = .ok (.iload_n 1, 1) from by decide +kernel) rfl
theorem m8_1 : M8 1 [l0, l1, .val (.int v)] st H Q = M8 2 [l0, l1, .val (.int v)] (.int v :: st) H Q := w_x (show decode kb8 1 = .ok (.iload_n 2, 1) from by decide +kernel) rfl
theorem m8_2 : M8 2 ls (.int y :: .int x :: st) H Q = M8 3 ls (.int (XT.ushr x y) :: st) H Q := w_x (show decode kb8 2 = .ok (.iushr, 1) from by decide +kernel) rfl
theorem m8_3 : M8 3 ls st H Q = M8 4 ls (.int 1 :: st) H Q := w_con (show decode kb8 3 = .ok (.iconst 1, 1) from by decide +kernel) rfl (by decide)
theorem m8_4 : M8 4 ls (.int y :: .int x :: st) H Q = M8 5 ls (.int (x &&& y) :: st) H Q := w_x (show decode kb8 4 = .ok (.iand, 1) from by decide +kernel) rfl
theorem m8_5 : M8 5 ls (.int z :: st) H Q = Q (some (.int z)) H := w_iret (show decode kb8 5 = .ok (.ireturn, 1) from by decide +kernel) rfl
theorem m9_0 : M9 0 ls st H Q = M9 1 ls (.int 2 :: st) H Q := w_con (show decode kb9 0 = .ok (.iconst 2, 1) from by decide +kernel) rfl (by decide)
theorem m9_1 : M9 1 [.val (.ref r), l1, l2, l3, l4] st H Q = M9 2 [.val (.ref r), l1, l2, l3, l4] (.ref r :: st) H Q := w_x (show decode kb9 1 = .ok (.aload_n 0, 1) from by decide +kernel) rfl
theorem m9_2 : M9 2 ls (.ref b :: st) (put b pre s A post) Q = M9 5 ls (.int (s 4) :: st) (put b pre s A post) Q := w_get (show decode kb9 2 = .ok (.getfield 136, 3) from by decide +kernel) gf_136 put_o rfl
theorem m9_5 : M9 5 ls (.int y :: .int x :: st) H Q = M9 6 ls (.int (x * y) :: st) H Q := w_x (show decode kb9 5 = .ok (.imul, 1) from by decide +kernel) rfl
theorem m9_6 : M9 6 ls st H Q = M9 7 ls (.int 1 :: st) H Q := w_con (show decode kb9 6 = .ok (.iconst 1, 1) from by decide +kernel) rfl (by decide)
theorem m9_7 : M9 7 ls (.int y :: .int x :: st) H Q = M9 8 ls (.int (x + y) :: st) H Q := w_x (show decode kb9 7 = .ok (.iadd, 1) from by decide +kernel) rfl
theorem m9_8u : M9 8 [l0, .unset, l2, l3, l4] ((.int v) :: st) H Q = M9 9 [l0, .val (.int v), l2, l3, l4] st H Q := w_st (i := 1) (p := isI) (show decode kb9 8 = .ok (.istore_n 1, 1) from by decide +kernel) rfl rfl rfl rfl rfl rfl
theorem m9_9 : M9 9 [.val (.ref r), l1, l2, l3, l4] st H Q = M9 10 [.val (.ref r), l1, l2, l3, l4] (.ref r :: st) H Q := w_x (show decode kb9 9 = .ok (.aload_n 0, 1) from by decide +kernel) rfl
theorem m9_10 : M9 10 ls st H Q = M9 11 ls (.int 0 :: st) H Q := w_con (show decode kb9 10 = .ok (.iconst 0, 1) from by decide +kernel) rfl (by decide)
theorem pf9_156 : pfR tables_1 y9.cls y9.name 156 = some ("LutMapper", 25, .int) := by decide +kernel
theorem m9_11 : M9 11 ls (.int v :: .ref b :: st) (put b pre s A post) Q = M9 14 ls st (put b pre (ou s 7 v) A post) Q := w_put (show decode kb9 11 = .ok (.putfield 156, 3) from by decide +kernel) pf9_156 put_o (Nat.zero_le _) (by show 25 < 28; omega) rfl put_s7
theorem m9_14 : M9 14 [.val (.ref r), l1, l2, l3, l4] st H Q = M9 15 [.val (.ref r), l1, l2, l3, l4] (.ref r :: st) H Q := w_x (show decode kb9 14 = .ok (.aload_n 0, 1) from by decide +kernel) rfl
theorem m9_15 : M9 15 ls st H Q = M9 16 ls (.int 0 :: st) H Q := w_con (show decode kb9 15 = .ok (.iconst 0, 1) from by decide +kernel) rfl (by decide)
theorem pf9_159 : pfR tables_1 y9.cls y9.name 159 = some ("LutMapper", 26, .int) := by decide +kernel
theorem m9_16 : M9 16 ls (.int v :: .ref b :: st) (put b pre s A post) Q = M9 19 ls st (put b pre (ou s 8 v) A post) Q := w_put (show decode kb9 16 = .ok (.putfield 159, 3) from by decide +kernel) pf9_159 put_o (Nat.zero_le _) (by show 26 < 28; omega) rfl put_s8
theorem m9_19 : M9 19 [.val (.ref r), l1, l2, l3, l4] st H Q = M9 20 [.val (.ref r), l1, l2, l3, l4] (.ref r :: st) H Q := w_x (show decode kb9 19 = .ok (.aload_n 0, 1) from by decide +kernel) rfl
theorem m9_20 : M9 20 ls st H Q = M9 21 ls (.int 0 :: st) H Q := w_con (show decode kb9 20 = .ok (.iconst 0, 1) from by decide +kernel) rfl (by decide)
theorem pf9_153 : pfR tables_1 y9.cls y9.name 153 = some ("LutMapper", 27, .boolean) := by decide +kernel
theorem m9_21 : M9 21 ls (.int v :: .ref b :: st) (put b pre s A post) Q = M9 24 ls st (put b pre (ou s 9 (nar .boolean v)) A post) Q := w_put (show decode kb9 21 = .ok (.putfield 153, 3) from by decide +kernel) pf9_153 put_o (Nat.zero_le _) (by show 27 < 28; omega) rfl put_s9
theorem m9_24 : M9 24 [.val (.ref r), l1, l2, l3, l4] st H Q = M9 25 [.val (.ref r), l1, l2, l3, l4] (.ref r :: st) H Q := w_x (show decode kb9 24 = .ok (.aload_n 0, 1) from by decide +kernel) rfl
theorem m9_25 : M9 25 [l0, .val (.int v), l2, l3, l4] st H Q = M9 26 [l0, .val (.int v), l2, l3, l4] (.int v :: st) H Q := w_x (show decode kb9 25 = .ok (.iload_n 1, 1) from by decide +kernel) rfl
theorem cr9_165 : vR tables_1 dn y9 165 = some (true, y10, prog_1_method_33_code, 2, none, 1, 47) := pR_of (cR_of (by decide +kernel) rc_10 dn_10 dn_9 (sig := ⟨[.int], none⟩) (by decide +kernel) (by decide +kernel) rfl rfl) (by decide +kernel) (by decide +kernel)
theorem m9_26 (a0 : Int32) : M9 26 ls [.int a0, .ref b] (put b pre s A post) Q = M10 0 [.val (.ref b), .val (.int a0)] [] (put b pre s A post) (fun v H1 => M9 29 ls (v.toList ++ []) H1 Q) := w_virt (as := [.int a0]) (rest := []) (a := b) (show decode kb9 26 = .ok (.invokevirtual 165, 3) from by decide +kernel) cr9_165 put_o rfl rfl (Nat.le_of_ble_eq_true rfl) (by show 2 ≤ 2; omega) rfl
theorem m9_29 : M9 29 [.val (.ref r), l1, l2, l3, l4] st H Q = M9 30 [.val (.ref r), l1, l2, l3, l4] (.ref r :: st) H Q := w_x (show decode kb9 29 = .ok (.aload_n 0, 1) from by decide +kernel) rfl
theorem m9_30 : M9 30 ls (.ref b :: st) (put b pre s A post) Q = M9 33 ls (.ref (b + 10) :: st) (put b pre s A post) Q := w_get (show decode kb9 30 = .ok (.getfield 37, 3) from by decide +kernel) gf_37 put_o rfl
theorem m9_33 : M9 33 [l0, .val (.int v), l2, l3, l4] st H Q = M9 34 [l0, .val (.int v), l2, l3, l4] (.int v :: st) H Q := w_x (show decode kb9 33 = .ok (.iload_n 1, 1) from by decide +kernel) rfl
theorem m9_34 : M9 34 [l0, .val (.int v), l2, l3, l4] st H Q = M9 35 [l0, .val (.int v), l2, l3, l4] (.int v :: st) H Q := w_x (show decode kb9 34 = .ok (.iload_n 1, 1) from by decide +kernel) rfl
theorem m9_35  : M9 35 ls (.int v :: .int j :: .ref (b + 10) :: st) (put b pre s A post) Q = (inB j (A 9) ∧ M9 36 ls st (put b pre s (ou A 9 (setA (A 9) j v)) post) Q) := w_ist (show decode kb9 35 = .ok (.iastore, 1) from by decide +kernel) rfl put_a9 (Nat.zero_le _) rfl put_w9
theorem m9_36 : M9 36 [.val (.ref r), l1, l2, l3, l4] st H Q = M9 37 [.val (.ref r), l1, l2, l3, l4] (.ref r :: st) H Q := w_x (show decode kb9 36 = .ok (.aload_n 0, 1) from by decide +kernel) rfl
theorem m9_37 : M9 37 ls (.ref b :: st) (put b pre s A post) Q = M9 40 ls (.ref (b + 11) :: st) (put b pre s A post) Q := w_get (show decode kb9 37 = .ok (.getfield 40, 3) from by decide +kernel) gf_40 put_o rfl
theorem m9_40 : M9 40 [l0, .val (.int v), l2, l3, l4] st H Q = M9 41 [l0, .val (.int v), l2, l3, l4] (.int v :: st) H Q := w_x (show decode kb9 40 = .ok (.iload_n 1, 1) from by decide +kernel) rfl
theorem m9_41 : M9 41 ls st H Q = M9 42 ls (.int (-1) :: st) H Q := w_con (show decode kb9 41 = .ok (.iconst (-1), 1) from by decide +kernel) rfl (by decide)
theorem m9_42  : M9 42 ls (.int v :: .int j :: .ref (b + 11) :: st) (put b pre s A post) Q = (inB j (A 10) ∧ M9 43 ls st (put b pre s (ou A 10 (setA (A 10) j v)) post) Q) := w_ist (show decode kb9 42 = .ok (.iastore, 1) from by decide +kernel) rfl put_a10 (Nat.zero_le _) rfl put_w10
theorem m9_43 : M9 43 [.val (.ref r), l1, l2, l3, l4] st H Q = M9 44 [.val (.ref r), l1, l2, l3, l4] (.ref r :: st) H Q := w_x (show decode kb9 43 = .ok (.aload_n 0, 1) from by decide +kernel) rfl
theorem m9_44 : M9 44 ls (.ref b :: st) (put b pre s A post) Q = M9 47 ls (.ref (b + 9) :: st) (put b pre s A post) Q := w_get (show decode kb9 44 = .ok (.getfield 34, 3) from by decide +kernel) gf_34 put_o rfl
theorem m9_47 : M9 47 ls st H Q = M9 48 ls (.int 0 :: st) H Q := w_con (show decode kb9 47 = .ok (.iconst 0, 1) from by decide +kernel) rfl (by decide)
theorem m9_48 : M9 48 [l0, .val (.int v), l2, l3, l4] st H Q = M9 49 [l0, .val (.int v), l2, l3, l4] (.int v :: st) H Q := w_x (show decode kb9 48 = .ok (.iload_n 1, 1) from by decide +kernel) rfl
theorem m9_49  : M9 49 ls (.int v :: .int j :: .ref (b + 9) :: st) (put b pre s A post) Q = (inB j (A 8) ∧ M9 50 ls st (put b pre s (ou A 8 (setA (A 8) j v)) post) Q) := w_ist (show decode kb9 49 = .ok (.iastore, 1) from by decide +kernel) rfl put_a8 (Nat.zero_le _) rfl put_w8
theorem m9_50 : M9 50 ls st H Q = M9 51 ls (.int 1 :: st) H Q := w_con (show decode kb9 50 = .ok (.iconst 1, 1) from by decide +kernel) rfl (by decide)
theorem m9_51u : M9 51 [l0, l1, .unset, l3, l4] ((.int v) :: st) H Q = M9 52 [l0, l1, .val (.int v), l3, l4] st H Q := w_st (i := 2) (p := isI) (show decode kb9 51 = .ok (.istore_n 2, 1) from by decide +kernel) rfl rfl rfl rfl rfl rfl
theorem m9_52 : M9 52 ls st H Q = M9 53 ls (.int 0 :: st) H Q := w_con (show decode kb9 52 = .ok (.iconst 0, 1) from by decide +kernel) rfl (by decide)
theorem m9_53u : M9 53 [l0, l1, l2, .unset, l4] ((.int v) :: st) H Q = M9 54 [l0, l1, l2, .val (.int v), l4] st H Q := w_st (i := 3) (p := isI) (show decode kb9 53 = .ok (.istore_n 3, 1) from by decide +kernel) rfl rfl rfl rfl rfl rfl
theorem m9_54 : M9 54 [l0, l1, l2, .val (.int v), l4] st H Q = M9 55 [l0, l1, l2, .val (.int v), l4] (.int v :: st) H Q := w_x (show decode kb9 54 = .ok (.iload_n 3, 1) from by decide +kernel) rfl
theorem m9_55 : M9 55 [l0, l1, .val (.int v), l3, l4] st H Q = M9 56 [l0, l1, .val (.int v), l3, l4] (.int v :: st) H Q := w_x (show decode kb9 55 = .ok (.iload_n 2, 1) from by decide +kernel) rfl
theorem m9_56 : M9 56 ls (.int y :: .int x :: st) H Q = if x < y then M9 59 ls st H Q else M9 114 ls st H Q := w_icmpN (show decode kb9 56 = .ok (.if_icmp .ge 58, 3) from by decide +kernel) (i_ge x y) rfl
theorem m9_59 : M9 59 [l0, l1, l2, .val (.int v), l4] st H Q = M9 60 [l0, l1, l2, .val (.int v), l4] (.int v :: st) H Q := w_x (show decode kb9 59 = .ok (.iload_n 3, 1) from by decide +kernel) rfl
theorem m9_60 : M9 60 ls st H Q = M9 62 ls (.int 65 :: st) H Q := w_con (show decode kb9 60 = .ok (.bipush 65, 2) from by decide +kernel) rfl (by decide)
theorem m9_62 : M9 62 ls (.int y :: .int x :: st) H Q = if x < y then M9 65 ls st H Q else M9 114 ls st H Q := w_icmpN (show decode kb9 62 = .ok (.if_icmp .ge 52, 3) from by decide +kernel) (i_ge x y) rfl
theorem m9_65 : M9 65 [.val (.ref r), l1, l2, l3, l4] st H Q = M9 66 [.val (.ref r), l1, l2, l3, l4] (.ref r :: st) H Q := w_x (show decode kb9 65 = .ok (.aload_n 0, 1) from by decide +kernel) rfl
theorem m9_66 : M9 66 ls (.ref b :: st) (put b pre s A post) Q = M9 69 ls (.ref (b + 9) :: st) (put b pre s A post) Q := w_get (show decode kb9 66 = .ok (.getfield 34, 3) from by decide +kernel) gf_34 put_o rfl
theorem m9_69 : M9 69 [l0, l1, l2, .val (.int v), l4] st H Q = M9 70 [l0, l1, l2, .val (.int v), l4] (.int v :: st) H Q := w_x (show decode kb9 69 = .ok (.iload_n 3, 1) from by decide +kernel) rfl
theorem m9_70  : M9 70 ls (.int j :: .ref (b + 9) :: st) (put b pre s A post) Q = (inB j (A 8) ∧ M9 71 ls (.int (getA (A 8) j) :: st) (put b pre s A post) Q) := w_ild (show decode kb9 70 = .ok (.iaload, 1) from by decide +kernel) rfl put_a8
theorem m9_71u : M9 71 [l0, l1, l2, l3, .unset] ((.int v) :: st) H Q = M9 73 [l0, l1, l2, l3, .val (.int v)] st H Q := w_st (i := 4) (p := isI) (show decode kb9 71 = .ok (.istore 4, 2) from by decide +kernel) rfl rfl rfl rfl rfl rfl
theorem m9_71i : M9 71 [l0, l1, l2, l3, .val (.int z)] ((.int v) :: st) H Q = M9 73 [l0, l1, l2, l3, .val (.int v)] st H Q := w_st (i := 4) (p := isI) (show decode kb9 71 = .ok (.istore 4, 2) from by decide +kernel) rfl rfl rfl rfl rfl rfl
theorem m9_71r : M9 71 [l0, l1, l2, l3, .val (.ref q)] ((.int v) :: st) H Q = M9 73 [l0, l1, l2, l3, .val (.int v)] st H Q := w_st (i := 4) (p := isI) (show decode kb9 71 = .ok (.istore 4, 2) from by decide +kernel) rfl rfl rfl rfl rfl rfl
theorem m9_73 : M9 73 [l0, l1, l2, l3, .val (.int v)] st H Q = M9 75 [l0, l1, l2, l3, .val (.int v)] (.int v :: st) H Q := w_x (show decode kb9 73 = .ok (.iload 4, 2) from by decide +kernel) rfl
theorem m9_75 : M9 75 ls st H Q = M9 76 ls (.int 1 :: st) H Q := w_con (show decode kb9 75 = .ok (.iconst 1, 1) from by decide +kernel) rfl (by decide)
theorem m9_76 : M9 76 ls (.int y :: .int x :: st) H Q = M9 77 ls (.int (x &&& y) :: st) H Q := w_x (show decode kb9 76 = .ok (.iand, 1) from by decide +kernel) rfl
theorem m9_77 : M9 77 ls (.int x :: st) H Q = if x = 0 then M9 80 ls st H Q else M9 91 ls st H Q := w_ifN (show decode kb9 77 = .ok (.ifCond .ne 14, 3) from by decide +kernel) (z_ne x) rfl
theorem m9_80 : M9 80 [.val (.ref r), l1, l2, l3, l4] st H Q = M9 81 [.val (.ref r), l1, l2, l3, l4] (.ref r :: st) H Q := w_x (show decode kb9 80 = .ok (.aload_n 0, 1) from by decide +kernel) rfl
theorem m9_81 : M9 81 [l0, l1, l2, l3, .val (.int v)] st H Q = M9 83 [l0, l1, l2, l3, .val (.int v)] (.int v :: st) H Q := w_x (show decode kb9 81 = .ok (.iload 4, 2) from by decide +kernel) rfl
theorem m9_83 : M9 83 [l0, l1, .val (.int v), l3, l4] st H Q = M9 84 [l0, l1, .val (.int v), l3, l4] (.int v :: st) H Q := w_x (show decode kb9 83 = .ok (.iload_n 2, 1) from by decide +kernel) rfl
theorem cr9_168 : vR tables_1 dn y9 168 = some (true, y14, prog_1_method_36_code, 6, (some .int), 2, 0) := pR_of (cR_of (by decide +kernel) rc_14 dn_14 dn_9 (sig := ⟨[.int, .int], some .int⟩) (by decide +kernel) (by decide +kernel) rfl rfl) (by decide +kernel) (by decide +kernel)
theorem m9_84 (a0 : Int32) (a1 : Int32) : M9 84 ls [.int a1, .int a0, .ref b] (put b pre s A post) Q = M14 0 [.val (.ref b), .val (.int a0), .val (.int a1), .unset, .unset, .unset] [] (put b pre s A post) (fun v H1 => M9 87 ls (v.toList ++ []) H1 Q) := w_virt (as := [.int a1, .int a0]) (rest := []) (a := b) (show decode kb9 84 = .ok (.invokevirtual 168, 3) from by decide +kernel) cr9_168 put_o rfl rfl (Nat.le_of_ble_eq_true rfl) (by show 3 ≤ 6; omega) rfl
theorem m9_87i : M9 87 [l0, l1, .val (.int z), l3, l4] ((.int v) :: st) H Q = M9 88 [l0, l1, .val (.int v), l3, l4] st H Q := w_st (i := 2) (p := isI) (show decode kb9 87 = .ok (.istore_n 2, 1) from by decide +kernel) rfl rfl rfl rfl rfl rfl
theorem m9_88 : M9 88 ls st H Q = M9 99 ls st H Q := w_x (show decode kb9 88 = .ok (.goto 11, 3) from by decide +kernel) rfl
theorem m9_91 : M9 91 [.val (.ref r), l1, l2, l3, l4] st H Q = M9 92 [.val (.ref r), l1, l2, l3, l4] (.ref r :: st) H Q := w_x (show decode kb9 91 = .ok (.aload_n 0, 1) from by decide +kernel) rfl
theorem m9_92 : M9 92 [l0, l1, l2, l3, .val (.int v)] st H Q = M9 94 [l0, l1, l2, l3, .val (.int v)] (.int v :: st) H Q := w_x (show decode kb9 92 = .ok (.iload 4, 2) from by decide +kernel) rfl
theorem m9_94 : M9 94 [l0, l1, .val (.int v), l3, l4] st H Q = M9 95 [l0, l1, .val (.int v), l3, l4] (.int v :: st) H Q := w_x (show decode kb9 94 = .ok (.iload_n 2, 1) from by decide +kernel) rfl
theorem cr9_171 : vR tables_1 dn y9 171 = some (true, y11, prog_1_method_37_code, 5, (some .int), 2, 1) := pR_of (cR_of (by decide +kernel) rc_11 dn_11 dn_9 (sig := ⟨[.int, .int], some .int⟩) (by decide +kernel) (by decide +kernel) rfl rfl) (by decide +kernel) (by decide +kernel)
theorem m9_95 (a0 : Int32) (a1 : Int32) : M9 95 ls [.int a1, .int a0, .ref b] (put b pre s A post) Q = M11 0 [.val (.ref b), .val (.int a0), .val (.int a1), .unset, .unset] [] (put b pre s A post) (fun v H1 => M9 98 ls (v.toList ++ []) H1 Q) := w_virt (as := [.int a1, .int a0]) (rest := []) (a := b) (show decode kb9 95 = .ok (.invokevirtual 171, 3) from by decide +kernel) cr9_171 put_o rfl rfl (Nat.le_of_ble_eq_true rfl) (by show 3 ≤ 5; omega) rfl
theorem m9_98i : M9 98 [l0, l1, .val (.int z), l3, l4] ((.int v) :: st) H Q = M9 99 [l0, l1, .val (.int v), l3, l4] st H Q := w_st (i := 2) (p := isI) (show decode kb9 98 = .ok (.istore_n 2, 1) from by decide +kernel) rfl rfl rfl rfl rfl rfl
theorem m9_99 : M9 99 [.val (.ref r), l1, l2, l3, l4] st H Q = M9 100 [.val (.ref r), l1, l2, l3, l4] (.ref r :: st) H Q := w_x (show decode kb9 99 = .ok (.aload_n 0, 1) from by decide +kernel) rfl
theorem m9_100 : M9 100 ls (.ref b :: st) (put b pre s A post) Q = M9 103 ls (.int (s 9) :: st) (put b pre s A post) Q := w_get (show decode kb9 100 = .ok (.getfield 153, 3) from by decide +kernel) gf_153 put_o rfl
theorem m9_103 : M9 103 ls (.int x :: st) H Q = if x = 0 then M9 108 ls st H Q else M9 106 ls st H Q := w_if (show decode kb9 103 = .ok (.ifCond .eq 5, 3) from by decide +kernel) (z_eq x) rfl
theorem m9_106 : M9 106 ls st H Q = M9 107 ls (.int 1 :: st) H Q := w_con (show decode kb9 106 = .ok (.iconst 1, 1) from by decide +kernel) rfl (by decide)
theorem m9_107 : M9 107 ls (.int z :: st) H Q = Q (some (.int (nar .boolean z))) H := w_iretN (show decode kb9 107 = .ok (.ireturn, 1) from by decide +kernel) rfl (by simp)
theorem m9_108 : M9 108 [l0, l1, l2, .val (.int v), l4] st H Q = M9 111 [l0, l1, l2, .val (.int (v + 1)), l4] st H Q := w_iinc (show decode kb9 108 = .ok (.iinc 3 1, 3) from by decide +kernel) rfl (by decide) rfl
theorem m9_111 : M9 111 ls st H Q = M9 54 ls st H Q := w_x (show decode kb9 111 = .ok (.goto (-57), 3) from by decide +kernel) rfl
theorem m9_114 : M9 114 ls st H Q = M9 115 ls (.int 0 :: st) H Q := w_con (show decode kb9 114 = .ok (.iconst 0, 1) from by decide +kernel) rfl (by decide)
theorem m9_115 : M9 115 ls (.int z :: st) H Q = Q (some (.int (nar .boolean z))) H := w_iretN (show decode kb9 115 = .ok (.ireturn, 1) from by decide +kernel) rfl (by simp)
theorem m10_0 : M10 0 [l0, .val (.int v)] st H Q = M10 1 [l0, .val (.int v)] (.int v :: st) H Q := w_x (show decode kb10 0 = .ok (.iload_n 1, 1) from by decide +kernel) rfl
theorem m10_1 : M10 1 ls st H Q = M10 3 ls (.int 64 :: st) H Q := w_con (show decode kb10 1 = .ok (.bipush 64, 2) from by decide +kernel) rfl (by decide)
theorem m10_3 : M10 3 ls (.int y :: .int x :: st) H Q = if x = y then M10 6 ls st H Q else M10 14 ls st H Q := w_icmpN (show decode kb10 3 = .ok (.if_icmp .ne 11, 3) from by decide +kernel) (i_ne x y) rfl
theorem m10_6 : M10 6 [.val (.ref r), l1] st H Q = M10 7 [.val (.ref r), l1] (.ref r :: st) H Q := w_x (show decode kb10 6 = .ok (.aload_n 0, 1) from by decide +kernel) rfl
theorem m10_7 : M10 7 ls st H Q = M10 8 ls (.int 1 :: st) H Q := w_con (show decode kb10 7 = .ok (.iconst 1, 1) from by decide +kernel) rfl (by decide)
theorem pf10_153 : pfR tables_1 y10.cls y10.name 153 = some ("LutMapper", 27, .boolean) := by decide +kernel
theorem m10_8 : M10 8 ls (.int v :: .ref b :: st) (put b pre s A post) Q = M10 11 ls st (put b pre (ou s 9 (nar .boolean v)) A post) Q := w_put (show decode kb10 8 = .ok (.putfield 153, 3) from by decide +kernel) pf10_153 put_o (Nat.zero_le _) (by show 27 < 28; omega) rfl put_s9
theorem m10_11 : M10 11 ls st H Q = M10 51 ls st H Q := w_x (show decode kb10 11 = .ok (.goto 40, 3) from by decide +kernel) rfl
theorem m10_14 : M10 14 [l0, .val (.int v)] st H Q = M10 15 [l0, .val (.int v)] (.int v :: st) H Q := w_x (show decode kb10 14 = .ok (.iload_n 1, 1) from by decide +kernel) rfl
theorem m10_15 : M10 15 ls st H Q = M10 16 ls (.int 1 :: st) H Q := w_con (show decode kb10 15 = .ok (.iconst 1, 1) from by decide +kernel) rfl (by decide)
theorem m10_16 : M10 16 ls (.int y :: .int x :: st) H Q = M10 17 ls (.int (x &&& y) :: st) H Q := w_x (show decode kb10 16 = .ok (.iand, 1) from by decide +kernel) rfl
theorem m10_17 : M10 17 ls (.int x :: st) H Q = if x = 0 then M10 20 ls st H Q else M10 37 ls st H Q := w_ifN (show decode kb10 17 = .ok (.ifCond .ne 20, 3) from by decide +kernel) (z_ne x) rfl
theorem m10_20 : M10 20 [.val (.ref r), l1] st H Q = M10 21 [.val (.ref r), l1] (.ref r :: st) H Q := w_x (show decode kb10 20 = .ok (.aload_n 0, 1) from by decide +kernel) rfl
theorem m10_21 : M10 21 ls ((.ref r) :: st) H Q = M10 22 ls ((.ref r) :: (.ref r) :: st) H Q := w_x (show decode kb10 21 = .ok (.dup, 1) from by decide +kernel) rfl
theorem m10_22 : M10 22 ls (.ref b :: st) (put b pre s A post) Q = M10 25 ls (.int (s 7) :: st) (put b pre s A post) Q := w_get (show decode kb10 22 = .ok (.getfield 156, 3) from by decide +kernel) gf_156 put_o rfl
theorem m10_25 : M10 25 ls st H Q = M10 26 ls (.int 1 :: st) H Q := w_con (show decode kb10 25 = .ok (.iconst 1, 1) from by decide +kernel) rfl (by decide)
theorem m10_26 : M10 26 [l0, .val (.int v)] st H Q = M10 27 [l0, .val (.int v)] (.int v :: st) H Q := w_x (show decode kb10 26 = .ok (.iload_n 1, 1) from by decide +kernel) rfl
theorem m10_27 : M10 27 ls st H Q = M10 28 ls (.int 1 :: st) H Q := w_con (show decode kb10 27 = .ok (.iconst 1, 1) from by decide +kernel) rfl (by decide)
theorem m10_28 : M10 28 ls (.int y :: .int x :: st) H Q = M10 29 ls (.int (XT.ushr x y) :: st) H Q := w_x (show decode kb10 28 = .ok (.iushr, 1) from by decide +kernel) rfl
theorem m10_29 : M10 29 ls (.int y :: .int x :: st) H Q = M10 30 ls (.int (x <<< (y &&& 31)) :: st) H Q := w_x (show decode kb10 29 = .ok (.ishl, 1) from by decide +kernel) rfl
theorem m10_30 : M10 30 ls (.int y :: .int x :: st) H Q = M10 31 ls (.int (x ||| y) :: st) H Q := w_x (show decode kb10 30 = .ok (.ior, 1) from by decide +kernel) rfl
theorem pf10_156 : pfR tables_1 y10.cls y10.name 156 = some ("LutMapper", 25, .int) := by decide +kernel
theorem m10_31 : M10 31 ls (.int v :: .ref b :: st) (put b pre s A post) Q = M10 34 ls st (put b pre (ou s 7 v) A post) Q := w_put (show decode kb10 31 = .ok (.putfield 156, 3) from by decide +kernel) pf10_156 put_o (Nat.zero_le _) (by show 25 < 28; omega) rfl put_s7
theorem m10_34 : M10 34 ls st H Q = M10 51 ls st H Q := w_x (show decode kb10 34 = .ok (.goto 17, 3) from by decide +kernel) rfl
theorem m10_37 : M10 37 [.val (.ref r), l1] st H Q = M10 38 [.val (.ref r), l1] (.ref r :: st) H Q := w_x (show decode kb10 37 = .ok (.aload_n 0, 1) from by decide +kernel) rfl
theorem m10_38 : M10 38 ls ((.ref r) :: st) H Q = M10 39 ls ((.ref r) :: (.ref r) :: st) H Q := w_x (show decode kb10 38 = .ok (.dup, 1) from by decide +kernel) rfl
theorem m10_39 : M10 39 ls (.ref b :: st) (put b pre s A post) Q = M10 42 ls (.int (s 8) :: st) (put b pre s A post) Q := w_get (show decode kb10 39 = .ok (.getfield 159, 3) from by decide +kernel) gf_159 put_o rfl
theorem m10_42 : M10 42 ls st H Q = M10 43 ls (.int 1 :: st) H Q := w_con (show decode kb10 42 = .ok (.iconst 1, 1) from by decide +kernel) rfl (by decide)
theorem m10_43 : M10 43 [l0, .val (.int v)] st H Q = M10 44 [l0, .val (.int v)] (.int v :: st) H Q := w_x (show decode kb10 43 = .ok (.iload_n 1, 1) from by decide +kernel) rfl
theorem m10_44 : M10 44 ls st H Q = M10 45 ls (.int 1 :: st) H Q := w_con (show decode kb10 44 = .ok (.iconst 1, 1) from by decide +kernel) rfl (by decide)
theorem m10_45 : M10 45 ls (.int y :: .int x :: st) H Q = M10 46 ls (.int (XT.ushr x y) :: st) H Q := w_x (show decode kb10 45 = .ok (.iushr, 1) from by decide +kernel) rfl
theorem m10_46 : M10 46 ls (.int y :: .int x :: st) H Q = M10 47 ls (.int (x <<< (y &&& 31)) :: st) H Q := w_x (show decode kb10 46 = .ok (.ishl, 1) from by decide +kernel) rfl
theorem m10_47 : M10 47 ls (.int y :: .int x :: st) H Q = M10 48 ls (.int (x ||| y) :: st) H Q := w_x (show decode kb10 47 = .ok (.ior, 1) from by decide +kernel) rfl
theorem pf10_159 : pfR tables_1 y10.cls y10.name 159 = some ("LutMapper", 26, .int) := by decide +kernel
theorem m10_48 : M10 48 ls (.int v :: .ref b :: st) (put b pre s A post) Q = M10 51 ls st (put b pre (ou s 8 v) A post) Q := w_put (show decode kb10 48 = .ok (.putfield 159, 3) from by decide +kernel) pf10_159 put_o (Nat.zero_le _) (by show 26 < 28; omega) rfl put_s8
theorem m10_51 : M10 51 ls [] H Q = Q none H := w_vret (show decode kb10 51 = .ok (.return_, 1) from by decide +kernel) rfl
theorem m11_0 : M11 0 [l0, .val (.int v), l2, l3, l4] st H Q = M11 1 [l0, .val (.int v), l2, l3, l4] (.int v :: st) H Q := w_x (show decode kb11 0 = .ok (.iload_n 1, 1) from by decide +kernel) rfl
theorem m11_1 : M11 1 ls st H Q = M11 2 ls (.int 1 :: st) H Q := w_con (show decode kb11 1 = .ok (.iconst 1, 1) from by decide +kernel) rfl (by decide)
theorem m11_2 : M11 2 ls (.int y :: .int x :: st) H Q = M11 3 ls (.int (XT.ushr x y) :: st) H Q := w_x (show decode kb11 2 = .ok (.iushr, 1) from by decide +kernel) rfl
theorem m11_3u : M11 3 [l0, l1, l2, .unset, l4] ((.int v) :: st) H Q = M11 4 [l0, l1, l2, .val (.int v), l4] st H Q := w_st (i := 3) (p := isI) (show decode kb11 3 = .ok (.istore_n 3, 1) from by decide +kernel) rfl rfl rfl rfl rfl rfl
theorem m11_4 : M11 4 [l0, l1, .val (.int v), l3, l4] st H Q = M11 5 [l0, l1, .val (.int v), l3, l4] (.int v :: st) H Q := w_x (show decode kb11 4 = .ok (.iload_n 2, 1) from by decide +kernel) rfl
theorem m11_5u : M11 5 [l0, l1, l2, l3, .unset] ((.int v) :: st) H Q = M11 7 [l0, l1, l2, l3, .val (.int v)] st H Q := w_st (i := 4) (p := isI) (show decode kb11 5 = .ok (.istore 4, 2) from by decide +kernel) rfl rfl rfl rfl rfl rfl
theorem m11_7 : M11 7 [.val (.ref r), l1, l2, l3, l4] st H Q = M11 8 [.val (.ref r), l1, l2, l3, l4] (.ref r :: st) H Q := w_x (show decode kb11 7 = .ok (.aload_n 0, 1) from by decide +kernel) rfl
theorem m11_8 : M11 8 ls (.ref b :: st) (put b pre s A post) Q = M11 11 ls (.ref (b + 1) :: st) (put b pre s A post) Q := w_get (show decode kb11 8 = .ok (.getfield 7, 3) from by decide +kernel) gf_7 put_o rfl
theorem m11_11 : M11 11 [l0, l1, l2, .val (.int v), l4] st H Q = M11 12 [l0, l1, l2, .val (.int v), l4] (.int v :: st) H Q := w_x (show decode kb11 11 = .ok (.iload_n 3, 1) from by decide +kernel) rfl
theorem m11_12  : M11 12 ls (.int j :: .ref (b + 1) :: st) (put b pre s A post) Q = (inB j (A 0) ∧ M11 13 ls (.int (getA (A 0) j) :: st) (put b pre s A post) Q) := w_ild (show decode kb11 12 = .ok (.iaload, 1) from by decide +kernel) rfl put_a0
theorem m11_13 : M11 13 ls st H Q = M11 14 ls (.int 1 :: st) H Q := w_con (show decode kb11 13 = .ok (.iconst 1, 1) from by decide +kernel) rfl (by decide)
theorem m11_14 : M11 14 ls (.int y :: .int x :: st) H Q = if x = y then M11 17 ls st H Q else M11 33 ls st H Q := w_icmpN (show decode kb11 14 = .ok (.if_icmp .ne 19, 3) from by decide +kernel) (i_ne x y) rfl
theorem m11_17 : M11 17 [.val (.ref r), l1, l2, l3, l4] st H Q = M11 18 [.val (.ref r), l1, l2, l3, l4] (.ref r :: st) H Q := w_x (show decode kb11 17 = .ok (.aload_n 0, 1) from by decide +kernel) rfl
theorem m11_18 : M11 18 ls st H Q = M11 20 ls (.int 64 :: st) H Q := w_con (show decode kb11 18 = .ok (.bipush 64, 2) from by decide +kernel) rfl (by decide)
theorem m11_20 : M11 20 [l0, .val (.int v), l2, l3, l4] st H Q = M11 21 [l0, .val (.int v), l2, l3, l4] (.int v :: st) H Q := w_x (show decode kb11 20 = .ok (.iload_n 1, 1) from by decide +kernel) rfl
theorem m11_21 : M11 21 ls st H Q = M11 23 ls (.int 6 :: st) H Q := w_con (show decode kb11 21 = .ok (.bipush 6, 2) from by decide +kernel) rfl (by decide)
theorem m11_23 : M11 23 [l0, l1, l2, l3, .val (.int v)] st H Q = M11 25 [l0, l1, l2, l3, .val (.int v)] (.int v :: st) H Q := w_x (show decode kb11 23 = .ok (.iload 4, 2) from by decide +kernel) rfl
theorem cr11_177 : vR tables_1 dn y11 177 = some (true, y12, prog_1_method_34_code, 5, (some .int), 4, 0) := pR_of (cR_of (by decide +kernel) rc_12 dn_12 dn_11 (sig := ⟨[.int, .int, .int, .int], some .int⟩) (by decide +kernel) (by decide +kernel) rfl rfl) (by decide +kernel) (by decide +kernel)
theorem m11_25 (a0 : Int32) (a1 : Int32) (a2 : Int32) (a3 : Int32) : M11 25 ls [.int a3, .int a2, .int a1, .int a0, .ref b] (put b pre s A post) Q = M12 0 [.val (.ref b), .val (.int a0), .val (.int a1), .val (.int a2), .val (.int a3)] [] (put b pre s A post) (fun v H1 => M11 28 ls (v.toList ++ []) H1 Q) := w_virt (as := [.int a3, .int a2, .int a1, .int a0]) (rest := []) (a := b) (show decode kb11 25 = .ok (.invokevirtual 177, 3) from by decide +kernel) cr11_177 put_o rfl rfl (Nat.le_of_ble_eq_true rfl) (by show 5 ≤ 5; omega) rfl
theorem m11_28i : M11 28 [l0, l1, l2, l3, .val (.int z)] ((.int v) :: st) H Q = M11 30 [l0, l1, l2, l3, .val (.int v)] st H Q := w_st (i := 4) (p := isI) (show decode kb11 28 = .ok (.istore 4, 2) from by decide +kernel) rfl rfl rfl rfl rfl rfl
theorem m11_30 : M11 30 ls st H Q = M11 73 ls st H Q := w_x (show decode kb11 30 = .ok (.goto 43, 3) from by decide +kernel) rfl
theorem m11_33 : M11 33 [.val (.ref r), l1, l2, l3, l4] st H Q = M11 34 [.val (.ref r), l1, l2, l3, l4] (.ref r :: st) H Q := w_x (show decode kb11 33 = .ok (.aload_n 0, 1) from by decide +kernel) rfl
theorem m11_34 : M11 34 ls st H Q = M11 35 ls (.int 2 :: st) H Q := w_con (show decode kb11 34 = .ok (.iconst 2, 1) from by decide +kernel) rfl (by decide)
theorem m11_35 : M11 35 [.val (.ref r), l1, l2, l3, l4] st H Q = M11 36 [.val (.ref r), l1, l2, l3, l4] (.ref r :: st) H Q := w_x (show decode kb11 35 = .ok (.aload_n 0, 1) from by decide +kernel) rfl
theorem m11_36 : M11 36 ls (.ref b :: st) (put b pre s A post) Q = M11 39 ls (.ref (b + 2) :: st) (put b pre s A post) Q := w_get (show decode kb11 36 = .ok (.getfield 13, 3) from by decide +kernel) gf_13 put_o rfl
theorem m11_39 : M11 39 [l0, l1, l2, .val (.int v), l4] st H Q = M11 40 [l0, l1, l2, .val (.int v), l4] (.int v :: st) H Q := w_x (show decode kb11 39 = .ok (.iload_n 3, 1) from by decide +kernel) rfl
theorem m11_40  : M11 40 ls (.int j :: .ref (b + 2) :: st) (put b pre s A post) Q = (inB j (A 1) ∧ M11 41 ls (.int (getA (A 1) j) :: st) (put b pre s A post) Q) := w_ild (show decode kb11 40 = .ok (.iaload, 1) from by decide +kernel) rfl put_a1
theorem m11_41 : M11 41 ls st H Q = M11 42 ls (.int 1 :: st) H Q := w_con (show decode kb11 41 = .ok (.iconst 1, 1) from by decide +kernel) rfl (by decide)
theorem m11_42 : M11 42 ls (.int y :: .int x :: st) H Q = M11 43 ls (.int (XT.ushr x y) :: st) H Q := w_x (show decode kb11 42 = .ok (.iushr, 1) from by decide +kernel) rfl
theorem m11_43 : M11 43 ls (.int y :: .int x :: st) H Q = M11 44 ls (.int (x * y) :: st) H Q := w_x (show decode kb11 43 = .ok (.imul, 1) from by decide +kernel) rfl
theorem m11_44 : M11 44 [l0, .val (.int v), l2, l3, l4] st H Q = M11 45 [l0, .val (.int v), l2, l3, l4] (.int v :: st) H Q := w_x (show decode kb11 44 = .ok (.iload_n 1, 1) from by decide +kernel) rfl
theorem m11_45 : M11 45 ls st H Q = M11 46 ls (.int 2 :: st) H Q := w_con (show decode kb11 45 = .ok (.iconst 2, 1) from by decide +kernel) rfl (by decide)
theorem m11_46 : M11 46 [l0, l1, l2, l3, .val (.int v)] st H Q = M11 48 [l0, l1, l2, l3, .val (.int v)] (.int v :: st) H Q := w_x (show decode kb11 46 = .ok (.iload 4, 2) from by decide +kernel) rfl
theorem m11_48 (a0 : Int32) (a1 : Int32) (a2 : Int32) (a3 : Int32) : M11 48 ls [.int a3, .int a2, .int a1, .int a0, .ref b] (put b pre s A post) Q = M12 0 [.val (.ref b), .val (.int a0), .val (.int a1), .val (.int a2), .val (.int a3)] [] (put b pre s A post) (fun v H1 => M11 51 ls (v.toList ++ []) H1 Q) := w_virt (as := [.int a3, .int a2, .int a1, .int a0]) (rest := []) (a := b) (show decode kb11 48 = .ok (.invokevirtual 177, 3) from by decide +kernel) cr11_177 put_o rfl rfl (Nat.le_of_ble_eq_true rfl) (by show 5 ≤ 5; omega) rfl
theorem m11_51i : M11 51 [l0, l1, l2, l3, .val (.int z)] ((.int v) :: st) H Q = M11 53 [l0, l1, l2, l3, .val (.int v)] st H Q := w_st (i := 4) (p := isI) (show decode kb11 51 = .ok (.istore 4, 2) from by decide +kernel) rfl rfl rfl rfl rfl rfl
theorem m11_53 : M11 53 [.val (.ref r), l1, l2, l3, l4] st H Q = M11 54 [.val (.ref r), l1, l2, l3, l4] (.ref r :: st) H Q := w_x (show decode kb11 53 = .ok (.aload_n 0, 1) from by decide +kernel) rfl
theorem m11_54 : M11 54 ls st H Q = M11 55 ls (.int 2 :: st) H Q := w_con (show decode kb11 54 = .ok (.iconst 2, 1) from by decide +kernel) rfl (by decide)
theorem m11_55 : M11 55 [.val (.ref r), l1, l2, l3, l4] st H Q = M11 56 [.val (.ref r), l1, l2, l3, l4] (.ref r :: st) H Q := w_x (show decode kb11 55 = .ok (.aload_n 0, 1) from by decide +kernel) rfl
theorem m11_56 : M11 56 ls (.ref b :: st) (put b pre s A post) Q = M11 59 ls (.ref (b + 3) :: st) (put b pre s A post) Q := w_get (show decode kb11 56 = .ok (.getfield 16, 3) from by decide +kernel) gf_16 put_o rfl
theorem m11_59 : M11 59 [l0, l1, l2, .val (.int v), l4] st H Q = M11 60 [l0, l1, l2, .val (.int v), l4] (.int v :: st) H Q := w_x (show decode kb11 59 = .ok (.iload_n 3, 1) from by decide +kernel) rfl
theorem m11_60  : M11 60 ls (.int j :: .ref (b + 3) :: st) (put b pre s A post) Q = (inB j (A 2) ∧ M11 61 ls (.int (getA (A 2) j) :: st) (put b pre s A post) Q) := w_ild (show decode kb11 60 = .ok (.iaload, 1) from by decide +kernel) rfl put_a2
theorem m11_61 : M11 61 ls st H Q = M11 62 ls (.int 1 :: st) H Q := w_con (show decode kb11 61 = .ok (.iconst 1, 1) from by decide +kernel) rfl (by decide)
theorem m11_62 : M11 62 ls (.int y :: .int x :: st) H Q = M11 63 ls (.int (XT.ushr x y) :: st) H Q := w_x (show decode kb11 62 = .ok (.iushr, 1) from by decide +kernel) rfl
theorem m11_63 : M11 63 ls (.int y :: .int x :: st) H Q = M11 64 ls (.int (x * y) :: st) H Q := w_x (show decode kb11 63 = .ok (.imul, 1) from by decide +kernel) rfl
theorem m11_64 : M11 64 [l0, .val (.int v), l2, l3, l4] st H Q = M11 65 [l0, .val (.int v), l2, l3, l4] (.int v :: st) H Q := w_x (show decode kb11 64 = .ok (.iload_n 1, 1) from by decide +kernel) rfl
theorem m11_65 : M11 65 ls st H Q = M11 66 ls (.int 3 :: st) H Q := w_con (show decode kb11 65 = .ok (.iconst 3, 1) from by decide +kernel) rfl (by decide)
theorem m11_66 : M11 66 [l0, l1, l2, l3, .val (.int v)] st H Q = M11 68 [l0, l1, l2, l3, .val (.int v)] (.int v :: st) H Q := w_x (show decode kb11 66 = .ok (.iload 4, 2) from by decide +kernel) rfl
theorem m11_68 (a0 : Int32) (a1 : Int32) (a2 : Int32) (a3 : Int32) : M11 68 ls [.int a3, .int a2, .int a1, .int a0, .ref b] (put b pre s A post) Q = M12 0 [.val (.ref b), .val (.int a0), .val (.int a1), .val (.int a2), .val (.int a3)] [] (put b pre s A post) (fun v H1 => M11 71 ls (v.toList ++ []) H1 Q) := w_virt (as := [.int a3, .int a2, .int a1, .int a0]) (rest := []) (a := b) (show decode kb11 68 = .ok (.invokevirtual 177, 3) from by decide +kernel) cr11_177 put_o rfl rfl (Nat.le_of_ble_eq_true rfl) (by show 5 ≤ 5; omega) rfl
theorem m11_71i : M11 71 [l0, l1, l2, l3, .val (.int z)] ((.int v) :: st) H Q = M11 73 [l0, l1, l2, l3, .val (.int v)] st H Q := w_st (i := 4) (p := isI) (show decode kb11 71 = .ok (.istore 4, 2) from by decide +kernel) rfl rfl rfl rfl rfl rfl
theorem m11_73 : M11 73 [l0, l1, l2, .val (.int v), l4] st H Q = M11 74 [l0, l1, l2, .val (.int v), l4] (.int v :: st) H Q := w_x (show decode kb11 73 = .ok (.iload_n 3, 1) from by decide +kernel) rfl
theorem m11_74 : M11 74 [.val (.ref r), l1, l2, l3, l4] st H Q = M11 75 [.val (.ref r), l1, l2, l3, l4] (.ref r :: st) H Q := w_x (show decode kb11 74 = .ok (.aload_n 0, 1) from by decide +kernel) rfl
theorem m11_75 : M11 75 ls (.ref b :: st) (put b pre s A post) Q = M11 78 ls (.int (s 4) :: st) (put b pre s A post) Q := w_get (show decode kb11 75 = .ok (.getfield 136, 3) from by decide +kernel) gf_136 put_o rfl
theorem m11_78 : M11 78 ls (.int y :: .int x :: st) H Q = if x = y then M11 103 ls st H Q else M11 81 ls st H Q := w_icmp (show decode kb11 78 = .ok (.if_icmp .eq 25, 3) from by decide +kernel) (i_eq x y) rfl
theorem m11_81 : M11 81 [.val (.ref r), l1, l2, l3, l4] st H Q = M11 82 [.val (.ref r), l1, l2, l3, l4] (.ref r :: st) H Q := w_x (show decode kb11 81 = .ok (.aload_n 0, 1) from by decide +kernel) rfl
theorem m11_82 : M11 82 ls (.ref b :: st) (put b pre s A post) Q = M11 85 ls (.ref (b + 7) :: st) (put b pre s A post) Q := w_get (show decode kb11 82 = .ok (.getfield 28, 3) from by decide +kernel) gf_28 put_o rfl
theorem m11_85 : M11 85 [l0, l1, l2, .val (.int v), l4] st H Q = M11 86 [l0, l1, l2, .val (.int v), l4] (.int v :: st) H Q := w_x (show decode kb11 85 = .ok (.iload_n 3, 1) from by decide +kernel) rfl
theorem m11_86  : M11 86 ls (.int j :: .ref (b + 7) :: st) (put b pre s A post) Q = (inB j (A 6) ∧ M11 87 ls (.int (getA (A 6) j) :: st) (put b pre s A post) Q) := w_ild (show decode kb11 86 = .ok (.iaload, 1) from by decide +kernel) rfl put_a6
theorem m11_87 : M11 87 ls (.int x :: st) H Q = if 0 < x then M11 90 ls st H Q else M11 103 ls st H Q := w_ifN (show decode kb11 87 = .ok (.ifCond .le 16, 3) from by decide +kernel) (z_le x) rfl
theorem m11_90 : M11 90 [.val (.ref r), l1, l2, l3, l4] st H Q = M11 91 [.val (.ref r), l1, l2, l3, l4] (.ref r :: st) H Q := w_x (show decode kb11 90 = .ok (.aload_n 0, 1) from by decide +kernel) rfl
theorem m11_91 : M11 91 [l0, .val (.int v), l2, l3, l4] st H Q = M11 92 [l0, .val (.int v), l2, l3, l4] (.int v :: st) H Q := w_x (show decode kb11 91 = .ok (.iload_n 1, 1) from by decide +kernel) rfl
theorem m11_92 : M11 92 ls st H Q = M11 93 ls (.int 1 :: st) H Q := w_con (show decode kb11 92 = .ok (.iconst 1, 1) from by decide +kernel) rfl (by decide)
theorem m11_93 : M11 93 ls (.int y :: .int x :: st) H Q = M11 94 ls (.int (x - y) :: st) H Q := w_x (show decode kb11 93 = .ok (.isub, 1) from by decide +kernel) rfl
theorem m11_94 : M11 94 [l0, .val (.int v), l2, l3, l4] st H Q = M11 95 [l0, .val (.int v), l2, l3, l4] (.int v :: st) H Q := w_x (show decode kb11 94 = .ok (.iload_n 1, 1) from by decide +kernel) rfl
theorem m11_95 : M11 95 ls st H Q = M11 96 ls (.int 1 :: st) H Q := w_con (show decode kb11 95 = .ok (.iconst 1, 1) from by decide +kernel) rfl (by decide)
theorem m11_96 : M11 96 [l0, l1, l2, l3, .val (.int v)] st H Q = M11 98 [l0, l1, l2, l3, .val (.int v)] (.int v :: st) H Q := w_x (show decode kb11 96 = .ok (.iload 4, 2) from by decide +kernel) rfl
theorem m11_98 (a0 : Int32) (a1 : Int32) (a2 : Int32) (a3 : Int32) : M11 98 ls [.int a3, .int a2, .int a1, .int a0, .ref b] (put b pre s A post) Q = M12 0 [.val (.ref b), .val (.int a0), .val (.int a1), .val (.int a2), .val (.int a3)] [] (put b pre s A post) (fun v H1 => M11 101 ls (v.toList ++ []) H1 Q) := w_virt (as := [.int a3, .int a2, .int a1, .int a0]) (rest := []) (a := b) (show decode kb11 98 = .ok (.invokevirtual 177, 3) from by decide +kernel) cr11_177 put_o rfl rfl (Nat.le_of_ble_eq_true rfl) (by show 5 ≤ 5; omega) rfl
theorem m11_101i : M11 101 [l0, l1, l2, l3, .val (.int z)] ((.int v) :: st) H Q = M11 103 [l0, l1, l2, l3, .val (.int v)] st H Q := w_st (i := 4) (p := isI) (show decode kb11 101 = .ok (.istore 4, 2) from by decide +kernel) rfl rfl rfl rfl rfl rfl
theorem m11_103 : M11 103 [l0, l1, l2, l3, .val (.int v)] st H Q = M11 105 [l0, l1, l2, l3, .val (.int v)] (.int v :: st) H Q := w_x (show decode kb11 103 = .ok (.iload 4, 2) from by decide +kernel) rfl
theorem m11_105 : M11 105 ls (.int z :: st) H Q = Q (some (.int z)) H := w_iret (show decode kb11 105 = .ok (.ireturn, 1) from by decide +kernel) rfl
theorem m12_0 : M12 0 [.val (.ref r), l1, l2, l3, l4] st H Q = M12 1 [.val (.ref r), l1, l2, l3, l4] (.ref r :: st) H Q := w_x (show decode kb12 0 = .ok (.aload_n 0, 1) from by decide +kernel) rfl
theorem m12_1 : M12 1 [l0, .val (.int v), l2, l3, l4] st H Q = M12 2 [l0, .val (.int v), l2, l3, l4] (.int v :: st) H Q := w_x (show decode kb12 1 = .ok (.iload_n 1, 1) from by decide +kernel) rfl
theorem cr12_162 : vR tables_1 dn y12 162 = some (true, y13, prog_1_method_32_code, 2, (some .boolean), 1, 0) := pR_of (cR_of (by decide +kernel) rc_13 dn_13 dn_12 (sig := ⟨[.int], some .boolean⟩) (by decide +kernel) (by decide +kernel) rfl rfl) (by decide +kernel) (by decide +kernel)
theorem m12_2 (a0 : Int32) : M12 2 ls [.int a0, .ref b] (put b pre s A post) Q = M13 0 [.val (.ref b), .val (.int a0)] [] (put b pre s A post) (fun v H1 => M12 5 ls (v.toList ++ []) H1 Q) := w_virt (as := [.int a0]) (rest := []) (a := b) (show decode kb12 2 = .ok (.invokevirtual 162, 3) from by decide +kernel) cr12_162 put_o rfl rfl (Nat.le_of_ble_eq_true rfl) (by show 2 ≤ 2; omega) rfl
theorem m12_5 : M12 5 ls (.int x :: st) H Q = if x = 0 then M12 11 ls st H Q else M12 8 ls st H Q := w_if (show decode kb12 5 = .ok (.ifCond .eq 6, 3) from by decide +kernel) (z_eq x) rfl
theorem m12_8 : M12 8 [l0, l1, l2, l3, .val (.int v)] st H Q = M12 10 [l0, l1, l2, l3, .val (.int v)] (.int v :: st) H Q := w_x (show decode kb12 8 = .ok (.iload 4, 2) from by decide +kernel) rfl
theorem m12_10 : M12 10 ls (.int z :: st) H Q = Q (some (.int z)) H := w_iret (show decode kb12 10 = .ok (.ireturn, 1) from by decide +kernel) rfl
theorem m12_11 : M12 11 [.val (.ref r), l1, l2, l3, l4] st H Q = M12 12 [.val (.ref r), l1, l2, l3, l4] (.ref r :: st) H Q := w_x (show decode kb12 11 = .ok (.aload_n 0, 1) from by decide +kernel) rfl
theorem m12_12 : M12 12 [l0, .val (.int v), l2, l3, l4] st H Q = M12 13 [l0, .val (.int v), l2, l3, l4] (.int v :: st) H Q := w_x (show decode kb12 12 = .ok (.iload_n 1, 1) from by decide +kernel) rfl
theorem cr12_165 : vR tables_1 dn y12 165 = some (true, y10, prog_1_method_33_code, 2, none, 1, 14) := pR_of (cR_of (by decide +kernel) rc_10 dn_10 dn_12 (sig := ⟨[.int], none⟩) (by decide +kernel) (by decide +kernel) rfl rfl) (by decide +kernel) (by decide +kernel)
theorem m12_13 (a0 : Int32) : M12 13 ls [.int a0, .ref b] (put b pre s A post) Q = M10 0 [.val (.ref b), .val (.int a0)] [] (put b pre s A post) (fun v H1 => M12 16 ls (v.toList ++ []) H1 Q) := w_virt (as := [.int a0]) (rest := []) (a := b) (show decode kb12 13 = .ok (.invokevirtual 165, 3) from by decide +kernel) cr12_165 put_o rfl rfl (Nat.le_of_ble_eq_true rfl) (by show 2 ≤ 2; omega) rfl
theorem m12_16 : M12 16 [.val (.ref r), l1, l2, l3, l4] st H Q = M12 17 [.val (.ref r), l1, l2, l3, l4] (.ref r :: st) H Q := w_x (show decode kb12 16 = .ok (.aload_n 0, 1) from by decide +kernel) rfl
theorem m12_17 : M12 17 ls (.ref b :: st) (put b pre s A post) Q = M12 20 ls (.ref (b + 10) :: st) (put b pre s A post) Q := w_get (show decode kb12 17 = .ok (.getfield 37, 3) from by decide +kernel) gf_37 put_o rfl
theorem m12_20 : M12 20 [l0, .val (.int v), l2, l3, l4] st H Q = M12 21 [l0, .val (.int v), l2, l3, l4] (.int v :: st) H Q := w_x (show decode kb12 20 = .ok (.iload_n 1, 1) from by decide +kernel) rfl
theorem m12_21 : M12 21 [l0, l1, .val (.int v), l3, l4] st H Q = M12 22 [l0, l1, .val (.int v), l3, l4] (.int v :: st) H Q := w_x (show decode kb12 21 = .ok (.iload_n 2, 1) from by decide +kernel) rfl
theorem m12_22  : M12 22 ls (.int v :: .int j :: .ref (b + 10) :: st) (put b pre s A post) Q = (inB j (A 9) ∧ M12 23 ls st (put b pre s (ou A 9 (setA (A 9) j v)) post) Q) := w_ist (show decode kb12 22 = .ok (.iastore, 1) from by decide +kernel) rfl put_a9 (Nat.zero_le _) rfl put_w9
theorem m12_23 : M12 23 [.val (.ref r), l1, l2, l3, l4] st H Q = M12 24 [.val (.ref r), l1, l2, l3, l4] (.ref r :: st) H Q := w_x (show decode kb12 23 = .ok (.aload_n 0, 1) from by decide +kernel) rfl
theorem m12_24 : M12 24 ls (.ref b :: st) (put b pre s A post) Q = M12 27 ls (.ref (b + 11) :: st) (put b pre s A post) Q := w_get (show decode kb12 24 = .ok (.getfield 40, 3) from by decide +kernel) gf_40 put_o rfl
theorem m12_27 : M12 27 [l0, .val (.int v), l2, l3, l4] st H Q = M12 28 [l0, .val (.int v), l2, l3, l4] (.int v :: st) H Q := w_x (show decode kb12 27 = .ok (.iload_n 1, 1) from by decide +kernel) rfl
theorem m12_28 : M12 28 [l0, l1, l2, .val (.int v), l4] st H Q = M12 29 [l0, l1, l2, .val (.int v), l4] (.int v :: st) H Q := w_x (show decode kb12 28 = .ok (.iload_n 3, 1) from by decide +kernel) rfl
theorem m12_29  : M12 29 ls (.int v :: .int j :: .ref (b + 11) :: st) (put b pre s A post) Q = (inB j (A 10) ∧ M12 30 ls st (put b pre s (ou A 10 (setA (A 10) j v)) post) Q) := w_ist (show decode kb12 29 = .ok (.iastore, 1) from by decide +kernel) rfl put_a10 (Nat.zero_le _) rfl put_w10
theorem m12_30 : M12 30 [l0, .val (.int v), l2, l3, l4] st H Q = M12 31 [l0, .val (.int v), l2, l3, l4] (.int v :: st) H Q := w_x (show decode kb12 30 = .ok (.iload_n 1, 1) from by decide +kernel) rfl
theorem m12_31 : M12 31 ls st H Q = M12 33 ls (.int 64 :: st) H Q := w_con (show decode kb12 31 = .ok (.bipush 64, 2) from by decide +kernel) rfl (by decide)
theorem m12_33 : M12 33 ls (.int y :: .int x :: st) H Q = if x = y then M12 43 ls st H Q else M12 36 ls st H Q := w_icmp (show decode kb12 33 = .ok (.if_icmp .eq 10, 3) from by decide +kernel) (i_eq x y) rfl
theorem m12_36 : M12 36 [l0, l1, l2, l3, .val (.int v)] st H Q = M12 38 [l0, l1, l2, l3, .val (.int v)] (.int v :: st) H Q := w_x (show decode kb12 36 = .ok (.iload 4, 2) from by decide +kernel) rfl
theorem m12_38 : M12 38 ls st H Q = M12 40 ls (.int 65 :: st) H Q := w_con (show decode kb12 38 = .ok (.bipush 65, 2) from by decide +kernel) rfl (by decide)
theorem m12_40 : M12 40 ls (.int y :: .int x :: st) H Q = if x < y then M12 46 ls st H Q else M12 43 ls st H Q := w_icmp (show decode kb12 40 = .ok (.if_icmp .lt 6, 3) from by decide +kernel) (i_lt x y) rfl
theorem m12_43 : M12 43 [l0, l1, l2, l3, .val (.int v)] st H Q = M12 45 [l0, l1, l2, l3, .val (.int v)] (.int v :: st) H Q := w_x (show decode kb12 43 = .ok (.iload 4, 2) from by decide +kernel) rfl
theorem m12_45 : M12 45 ls (.int z :: st) H Q = Q (some (.int z)) H := w_iret (show decode kb12 45 = .ok (.ireturn, 1) from by decide +kernel) rfl
theorem m12_46 : M12 46 [.val (.ref r), l1, l2, l3, l4] st H Q = M12 47 [.val (.ref r), l1, l2, l3, l4] (.ref r :: st) H Q := w_x (show decode kb12 46 = .ok (.aload_n 0, 1) from by decide +kernel) rfl
theorem m12_47 : M12 47 ls (.ref b :: st) (put b pre s A post) Q = M12 50 ls (.ref (b + 9) :: st) (put b pre s A post) Q := w_get (show decode kb12 47 = .ok (.getfield 34, 3) from by decide +kernel) gf_34 put_o rfl
theorem m12_50 : M12 50 [l0, l1, l2, l3, .val (.int v)] st H Q = M12 52 [l0, l1, l2, l3, .val (.int v)] (.int v :: st) H Q := w_x (show decode kb12 50 = .ok (.iload 4, 2) from by decide +kernel) rfl
theorem m12_52 : M12 52 [l0, .val (.int v), l2, l3, l4] st H Q = M12 53 [l0, .val (.int v), l2, l3, l4] (.int v :: st) H Q := w_x (show decode kb12 52 = .ok (.iload_n 1, 1) from by decide +kernel) rfl
theorem m12_53  : M12 53 ls (.int v :: .int j :: .ref (b + 9) :: st) (put b pre s A post) Q = (inB j (A 8) ∧ M12 54 ls st (put b pre s (ou A 8 (setA (A 8) j v)) post) Q) := w_ist (show decode kb12 53 = .ok (.iastore, 1) from by decide +kernel) rfl put_a8 (Nat.zero_le _) rfl put_w8
theorem m12_54 : M12 54 [l0, l1, l2, l3, .val (.int v)] st H Q = M12 56 [l0, l1, l2, l3, .val (.int v)] (.int v :: st) H Q := w_x (show decode kb12 54 = .ok (.iload 4, 2) from by decide +kernel) rfl
theorem m12_56 : M12 56 ls st H Q = M12 57 ls (.int 1 :: st) H Q := w_con (show decode kb12 56 = .ok (.iconst 1, 1) from by decide +kernel) rfl (by decide)
theorem m12_57 : M12 57 ls (.int y :: .int x :: st) H Q = M12 58 ls (.int (x + y) :: st) H Q := w_x (show decode kb12 57 = .ok (.iadd, 1) from by decide +kernel) rfl
theorem m12_58 : M12 58 ls (.int z :: st) H Q = Q (some (.int z)) H := w_iret (show decode kb12 58 = .ok (.ireturn, 1) from by decide +kernel) rfl
theorem m13_0 : M13 0 [l0, .val (.int v)] st H Q = M13 1 [l0, .val (.int v)] (.int v :: st) H Q := w_x (show decode kb13 0 = .ok (.iload_n 1, 1) from by decide +kernel) rfl
theorem m13_1 : M13 1 ls st H Q = M13 3 ls (.int 64 :: st) H Q := w_con (show decode kb13 1 = .ok (.bipush 64, 2) from by decide +kernel) rfl (by decide)
theorem m13_3 : M13 3 ls (.int y :: .int x :: st) H Q = if x = y then M13 6 ls st H Q else M13 11 ls st H Q := w_icmpN (show decode kb13 3 = .ok (.if_icmp .ne 8, 3) from by decide +kernel) (i_ne x y) rfl
theorem m13_6 : M13 6 [.val (.ref r), l1] st H Q = M13 7 [.val (.ref r), l1] (.ref r :: st) H Q := w_x (show decode kb13 6 = .ok (.aload_n 0, 1) from by decide +kernel) rfl
theorem m13_7 : M13 7 ls (.ref b :: st) (put b pre s A post) Q = M13 10 ls (.int (s 9) :: st) (put b pre s A post) Q := w_get (show decode kb13 7 = .ok (.getfield 153, 3) from by decide +kernel) gf_153 put_o rfl
theorem m13_10 : M13 10 ls (.int z :: st) H Q = Q (some (.int (nar .boolean z))) H := w_iretN (show decode kb13 10 = .ok (.ireturn, 1) from by decide +kernel) rfl (by simp)
theorem m13_11 : M13 11 [l0, .val (.int v)] st H Q = M13 12 [l0, .val (.int v)] (.int v :: st) H Q := w_x (show decode kb13 11 = .ok (.iload_n 1, 1) from by decide +kernel) rfl
theorem m13_12 : M13 12 ls st H Q = M13 13 ls (.int 1 :: st) H Q := w_con (show decode kb13 12 = .ok (.iconst 1, 1) from by decide +kernel) rfl (by decide)
theorem m13_13 : M13 13 ls (.int y :: .int x :: st) H Q = M13 14 ls (.int (x &&& y) :: st) H Q := w_x (show decode kb13 13 = .ok (.iand, 1) from by decide +kernel) rfl
theorem m13_14 : M13 14 ls (.int x :: st) H Q = if x = 0 then M13 17 ls st H Q else M13 37 ls st H Q := w_ifN (show decode kb13 14 = .ok (.ifCond .ne 23, 3) from by decide +kernel) (z_ne x) rfl
theorem m13_17 : M13 17 [.val (.ref r), l1] st H Q = M13 18 [.val (.ref r), l1] (.ref r :: st) H Q := w_x (show decode kb13 17 = .ok (.aload_n 0, 1) from by decide +kernel) rfl
theorem m13_18 : M13 18 [.val (.ref r), l1] st H Q = M13 19 [.val (.ref r), l1] (.ref r :: st) H Q := w_x (show decode kb13 18 = .ok (.aload_n 0, 1) from by decide +kernel) rfl
theorem m13_19 : M13 19 ls (.ref b :: st) (put b pre s A post) Q = M13 22 ls (.int (s 7) :: st) (put b pre s A post) Q := w_get (show decode kb13 19 = .ok (.getfield 156, 3) from by decide +kernel) gf_156 put_o rfl
theorem m13_22 : M13 22 [l0, .val (.int v)] st H Q = M13 23 [l0, .val (.int v)] (.int v :: st) H Q := w_x (show decode kb13 22 = .ok (.iload_n 1, 1) from by decide +kernel) rfl
theorem m13_23 : M13 23 ls st H Q = M13 24 ls (.int 1 :: st) H Q := w_con (show decode kb13 23 = .ok (.iconst 1, 1) from by decide +kernel) rfl (by decide)
theorem m13_24 : M13 24 ls (.int y :: .int x :: st) H Q = M13 25 ls (.int (XT.ushr x y) :: st) H Q := w_x (show decode kb13 24 = .ok (.iushr, 1) from by decide +kernel) rfl
theorem cr13_97 : vR tables_1 dn y13 97 = some (true, y8, prog_1_method_19_code, 3, (some .int), 2, 0) := pR_of (cR_of (by decide +kernel) rc_8 dn_8 dn_13 (sig := ⟨[.int, .int], some .int⟩) (by decide +kernel) (by decide +kernel) rfl rfl) (by decide +kernel) (by decide +kernel)
theorem m13_25 (a0 : Int32) (a1 : Int32) : M13 25 ls [.int a1, .int a0, .ref b] (put b pre s A post) Q = M8 0 [.val (.ref b), .val (.int a0), .val (.int a1)] [] (put b pre s A post) (fun v H1 => M13 28 ls (v.toList ++ []) H1 Q) := w_virt (as := [.int a1, .int a0]) (rest := []) (a := b) (show decode kb13 25 = .ok (.invokevirtual 97, 3) from by decide +kernel) cr13_97 put_o rfl rfl (Nat.le_of_ble_eq_true rfl) (by show 3 ≤ 3; omega) rfl
theorem m13_28 : M13 28 ls (.int x :: st) H Q = if x = 0 then M13 35 ls st H Q else M13 31 ls st H Q := w_if (show decode kb13 28 = .ok (.ifCond .eq 7, 3) from by decide +kernel) (z_eq x) rfl
theorem m13_31 : M13 31 ls st H Q = M13 32 ls (.int 1 :: st) H Q := w_con (show decode kb13 31 = .ok (.iconst 1, 1) from by decide +kernel) rfl (by decide)
theorem m13_32 : M13 32 ls st H Q = M13 36 ls st H Q := w_x (show decode kb13 32 = .ok (.goto 4, 3) from by decide +kernel) rfl
theorem m13_35 : M13 35 ls st H Q = M13 36 ls (.int 0 :: st) H Q := w_con (show decode kb13 35 = .ok (.iconst 0, 1) from by decide +kernel) rfl (by decide)
theorem m13_36 : M13 36 ls (.int z :: st) H Q = Q (some (.int (nar .boolean z))) H := w_iretN (show decode kb13 36 = .ok (.ireturn, 1) from by decide +kernel) rfl (by simp)
theorem m13_37 : M13 37 [.val (.ref r), l1] st H Q = M13 38 [.val (.ref r), l1] (.ref r :: st) H Q := w_x (show decode kb13 37 = .ok (.aload_n 0, 1) from by decide +kernel) rfl
theorem m13_38 : M13 38 [.val (.ref r), l1] st H Q = M13 39 [.val (.ref r), l1] (.ref r :: st) H Q := w_x (show decode kb13 38 = .ok (.aload_n 0, 1) from by decide +kernel) rfl
theorem m13_39 : M13 39 ls (.ref b :: st) (put b pre s A post) Q = M13 42 ls (.int (s 8) :: st) (put b pre s A post) Q := w_get (show decode kb13 39 = .ok (.getfield 159, 3) from by decide +kernel) gf_159 put_o rfl
theorem m13_42 : M13 42 [l0, .val (.int v)] st H Q = M13 43 [l0, .val (.int v)] (.int v :: st) H Q := w_x (show decode kb13 42 = .ok (.iload_n 1, 1) from by decide +kernel) rfl
theorem m13_43 : M13 43 ls st H Q = M13 44 ls (.int 1 :: st) H Q := w_con (show decode kb13 43 = .ok (.iconst 1, 1) from by decide +kernel) rfl (by decide)
theorem m13_44 : M13 44 ls (.int y :: .int x :: st) H Q = M13 45 ls (.int (XT.ushr x y) :: st) H Q := w_x (show decode kb13 44 = .ok (.iushr, 1) from by decide +kernel) rfl
theorem m13_45 (a0 : Int32) (a1 : Int32) : M13 45 ls [.int a1, .int a0, .ref b] (put b pre s A post) Q = M8 0 [.val (.ref b), .val (.int a0), .val (.int a1)] [] (put b pre s A post) (fun v H1 => M13 48 ls (v.toList ++ []) H1 Q) := w_virt (as := [.int a1, .int a0]) (rest := []) (a := b) (show decode kb13 45 = .ok (.invokevirtual 97, 3) from by decide +kernel) cr13_97 put_o rfl rfl (Nat.le_of_ble_eq_true rfl) (by show 3 ≤ 3; omega) rfl
theorem m13_48 : M13 48 ls (.int x :: st) H Q = if x = 0 then M13 55 ls st H Q else M13 51 ls st H Q := w_if (show decode kb13 48 = .ok (.ifCond .eq 7, 3) from by decide +kernel) (z_eq x) rfl
theorem m13_51 : M13 51 ls st H Q = M13 52 ls (.int 1 :: st) H Q := w_con (show decode kb13 51 = .ok (.iconst 1, 1) from by decide +kernel) rfl (by decide)
theorem m13_52 : M13 52 ls st H Q = M13 56 ls st H Q := w_x (show decode kb13 52 = .ok (.goto 4, 3) from by decide +kernel) rfl
theorem m13_55 : M13 55 ls st H Q = M13 56 ls (.int 0 :: st) H Q := w_con (show decode kb13 55 = .ok (.iconst 0, 1) from by decide +kernel) rfl (by decide)
theorem m13_56 : M13 56 ls (.int z :: st) H Q = Q (some (.int (nar .boolean z))) H := w_iretN (show decode kb13 56 = .ok (.ireturn, 1) from by decide +kernel) rfl (by simp)
theorem m14_0 : M14 0 [l0, .val (.int v), l2, l3, l4, l5] st H Q = M14 1 [l0, .val (.int v), l2, l3, l4, l5] (.int v :: st) H Q := w_x (show decode kb14 0 = .ok (.iload_n 1, 1) from by decide +kernel) rfl
theorem m14_1 : M14 1 ls st H Q = M14 2 ls (.int 1 :: st) H Q := w_con (show decode kb14 1 = .ok (.iconst 1, 1) from by decide +kernel) rfl (by decide)
theorem m14_2 : M14 2 ls (.int y :: .int x :: st) H Q = M14 3 ls (.int (XT.ushr x y) :: st) H Q := w_x (show decode kb14 2 = .ok (.iushr, 1) from by decide +kernel) rfl
theorem m14_3u : M14 3 [l0, l1, l2, .unset, l4, l5] ((.int v) :: st) H Q = M14 4 [l0, l1, l2, .val (.int v), l4, l5] st H Q := w_st (i := 3) (p := isI) (show decode kb14 3 = .ok (.istore_n 3, 1) from by decide +kernel) rfl rfl rfl rfl rfl rfl
theorem m14_4 : M14 4 [l0, l1, .val (.int v), l3, l4, l5] st H Q = M14 5 [l0, l1, .val (.int v), l3, l4, l5] (.int v :: st) H Q := w_x (show decode kb14 4 = .ok (.iload_n 2, 1) from by decide +kernel) rfl
theorem m14_5u : M14 5 [l0, l1, l2, l3, .unset, l5] ((.int v) :: st) H Q = M14 7 [l0, l1, l2, l3, .val (.int v), l5] st H Q := w_st (i := 4) (p := isI) (show decode kb14 5 = .ok (.istore 4, 2) from by decide +kernel) rfl rfl rfl rfl rfl rfl
theorem m14_7 : M14 7 [.val (.ref r), l1, l2, l3, l4, l5] st H Q = M14 8 [.val (.ref r), l1, l2, l3, l4, l5] (.ref r :: st) H Q := w_x (show decode kb14 7 = .ok (.aload_n 0, 1) from by decide +kernel) rfl
theorem m14_8 : M14 8 [l0, l1, l2, .val (.int v), l4, l5] st H Q = M14 9 [l0, l1, l2, .val (.int v), l4, l5] (.int v :: st) H Q := w_x (show decode kb14 8 = .ok (.iload_n 3, 1) from by decide +kernel) rfl
theorem cr14_174 : vR tables_1 dn y14 174 = some (true, y15, prog_1_method_21_code, 2, (some .boolean), 1, 16) := pR_of (cR_of (by decide +kernel) rc_15 dn_15 dn_14 (sig := ⟨[.int], some .boolean⟩) (by decide +kernel) (by decide +kernel) rfl rfl) (by decide +kernel) (by decide +kernel)
theorem m14_9 (a0 : Int32) : M14 9 ls [.int a0, .ref b] (put b pre s A post) Q = M15 0 [.val (.ref b), .val (.int a0)] [] (put b pre s A post) (fun v H1 => M14 12 ls (v.toList ++ []) H1 Q) := w_virt (as := [.int a0]) (rest := []) (a := b) (show decode kb14 9 = .ok (.invokevirtual 174, 3) from by decide +kernel) cr14_174 put_o rfl rfl (Nat.le_of_ble_eq_true rfl) (by show 2 ≤ 2; omega) rfl
theorem m14_12 : M14 12 ls (.int x :: st) H Q = if x = 0 then M14 24 ls st H Q else M14 15 ls st H Q := w_if (show decode kb14 12 = .ok (.ifCond .eq 12, 3) from by decide +kernel) (z_eq x) rfl
theorem m14_15 : M14 15 [.val (.ref r), l1, l2, l3, l4, l5] st H Q = M14 16 [.val (.ref r), l1, l2, l3, l4, l5] (.ref r :: st) H Q := w_x (show decode kb14 15 = .ok (.aload_n 0, 1) from by decide +kernel) rfl
theorem m14_16 : M14 16 ls (.ref b :: st) (put b pre s A post) Q = M14 19 ls (.ref (b + 7) :: st) (put b pre s A post) Q := w_get (show decode kb14 16 = .ok (.getfield 28, 3) from by decide +kernel) gf_28 put_o rfl
theorem m14_19 : M14 19 [l0, l1, l2, .val (.int v), l4, l5] st H Q = M14 20 [l0, l1, l2, .val (.int v), l4, l5] (.int v :: st) H Q := w_x (show decode kb14 19 = .ok (.iload_n 3, 1) from by decide +kernel) rfl
theorem m14_20  : M14 20 ls (.int j :: .ref (b + 7) :: st) (put b pre s A post) Q = (inB j (A 6) ∧ M14 21 ls (.int (getA (A 6) j) :: st) (put b pre s A post) Q) := w_ild (show decode kb14 20 = .ok (.iaload, 1) from by decide +kernel) rfl put_a6
theorem m14_21 : M14 21 ls (.int x :: st) H Q = if x = 0 then M14 24 ls st H Q else M14 37 ls st H Q := w_ifN (show decode kb14 21 = .ok (.ifCond .ne 16, 3) from by decide +kernel) (z_ne x) rfl
theorem m14_24 : M14 24 [.val (.ref r), l1, l2, l3, l4, l5] st H Q = M14 25 [.val (.ref r), l1, l2, l3, l4, l5] (.ref r :: st) H Q := w_x (show decode kb14 24 = .ok (.aload_n 0, 1) from by decide +kernel) rfl
theorem m14_25 : M14 25 [l0, .val (.int v), l2, l3, l4, l5] st H Q = M14 26 [l0, .val (.int v), l2, l3, l4, l5] (.int v :: st) H Q := w_x (show decode kb14 25 = .ok (.iload_n 1, 1) from by decide +kernel) rfl
theorem m14_26 : M14 26 ls st H Q = M14 27 ls (.int 1 :: st) H Q := w_con (show decode kb14 26 = .ok (.iconst 1, 1) from by decide +kernel) rfl (by decide)
theorem m14_27 : M14 27 ls (.int y :: .int x :: st) H Q = M14 28 ls (.int (x + y) :: st) H Q := w_x (show decode kb14 27 = .ok (.iadd, 1) from by decide +kernel) rfl
theorem m14_28 : M14 28 [l0, .val (.int v), l2, l3, l4, l5] st H Q = M14 29 [l0, .val (.int v), l2, l3, l4, l5] (.int v :: st) H Q := w_x (show decode kb14 28 = .ok (.iload_n 1, 1) from by decide +kernel) rfl
theorem m14_29 : M14 29 ls st H Q = M14 30 ls (.int 0 :: st) H Q := w_con (show decode kb14 29 = .ok (.iconst 0, 1) from by decide +kernel) rfl (by decide)
theorem m14_30 : M14 30 [l0, l1, l2, l3, .val (.int v), l5] st H Q = M14 32 [l0, l1, l2, l3, .val (.int v), l5] (.int v :: st) H Q := w_x (show decode kb14 30 = .ok (.iload 4, 2) from by decide +kernel) rfl
theorem cr14_177 : vR tables_1 dn y14 177 = some (true, y12, prog_1_method_34_code, 5, (some .int), 4, 0) := pR_of (cR_of (by decide +kernel) rc_12 dn_12 dn_14 (sig := ⟨[.int, .int, .int, .int], some .int⟩) (by decide +kernel) (by decide +kernel) rfl rfl) (by decide +kernel) (by decide +kernel)
theorem m14_32 (a0 : Int32) (a1 : Int32) (a2 : Int32) (a3 : Int32) : M14 32 ls [.int a3, .int a2, .int a1, .int a0, .ref b] (put b pre s A post) Q = M12 0 [.val (.ref b), .val (.int a0), .val (.int a1), .val (.int a2), .val (.int a3)] [] (put b pre s A post) (fun v H1 => M14 35 ls (v.toList ++ []) H1 Q) := w_virt (as := [.int a3, .int a2, .int a1, .int a0]) (rest := []) (a := b) (show decode kb14 32 = .ok (.invokevirtual 177, 3) from by decide +kernel) cr14_177 put_o rfl rfl (Nat.le_of_ble_eq_true rfl) (by show 5 ≤ 5; omega) rfl
theorem m14_35i : M14 35 [l0, l1, l2, l3, .val (.int z), l5] ((.int v) :: st) H Q = M14 37 [l0, l1, l2, l3, .val (.int v), l5] st H Q := w_st (i := 4) (p := isI) (show decode kb14 35 = .ok (.istore 4, 2) from by decide +kernel) rfl rfl rfl rfl rfl rfl
theorem m14_37 : M14 37 [l0, l1, l2, .val (.int v), l4, l5] st H Q = M14 38 [l0, l1, l2, .val (.int v), l4, l5] (.int v :: st) H Q := w_x (show decode kb14 37 = .ok (.iload_n 3, 1) from by decide +kernel) rfl
theorem m14_38 : M14 38 ls st H Q = M14 39 ls (.int 1 :: st) H Q := w_con (show decode kb14 38 = .ok (.iconst 1, 1) from by decide +kernel) rfl (by decide)
theorem m14_39 : M14 39 ls (.int y :: .int x :: st) H Q = M14 40 ls (.int (x + y) :: st) H Q := w_x (show decode kb14 39 = .ok (.iadd, 1) from by decide +kernel) rfl
theorem m14_40u : M14 40 [l0, l1, l2, l3, l4, .unset] ((.int v) :: st) H Q = M14 42 [l0, l1, l2, l3, l4, .val (.int v)] st H Q := w_st (i := 5) (p := isI) (show decode kb14 40 = .ok (.istore 5, 2) from by decide +kernel) rfl rfl rfl rfl rfl rfl
theorem m14_42 : M14 42 [l0, l1, l2, l3, l4, .val (.int v)] st H Q = M14 44 [l0, l1, l2, l3, l4, .val (.int v)] (.int v :: st) H Q := w_x (show decode kb14 42 = .ok (.iload 5, 2) from by decide +kernel) rfl
theorem m14_44 : M14 44 [.val (.ref r), l1, l2, l3, l4, l5] st H Q = M14 45 [.val (.ref r), l1, l2, l3, l4, l5] (.ref r :: st) H Q := w_x (show decode kb14 44 = .ok (.aload_n 0, 1) from by decide +kernel) rfl
theorem m14_45 : M14 45 ls (.ref b :: st) (put b pre s A post) Q = M14 48 ls (.int (s 4) :: st) (put b pre s A post) Q := w_get (show decode kb14 45 = .ok (.getfield 136, 3) from by decide +kernel) gf_136 put_o rfl
theorem m14_48 : M14 48 ls (.int y :: .int x :: st) H Q = if y < x then M14 175 ls st H Q else M14 51 ls st H Q := w_icmp (show decode kb14 48 = .ok (.if_icmp .gt 127, 3) from by decide +kernel) (i_gt x y) rfl
theorem m14_51 : M14 51 [l0, l1, l2, l3, l4, .val (.int v)] st H Q = M14 53 [l0, l1, l2, l3, l4, .val (.int v)] (.int v :: st) H Q := w_x (show decode kb14 51 = .ok (.iload 5, 2) from by decide +kernel) rfl
theorem m14_53 : M14 53 ls st H Q = M14 55 ls (.int 32 :: st) H Q := w_con (show decode kb14 53 = .ok (.bipush 32, 2) from by decide +kernel) rfl (by decide)
theorem m14_55 : M14 55 ls (.int y :: .int x :: st) H Q = if x < y then M14 58 ls st H Q else M14 175 ls st H Q := w_icmpN (show decode kb14 55 = .ok (.if_icmp .ge 120, 3) from by decide +kernel) (i_ge x y) rfl
theorem m14_58 : M14 58 [.val (.ref r), l1, l2, l3, l4, l5] st H Q = M14 59 [.val (.ref r), l1, l2, l3, l4, l5] (.ref r :: st) H Q := w_x (show decode kb14 58 = .ok (.aload_n 0, 1) from by decide +kernel) rfl
theorem m14_59 : M14 59 [.val (.ref r), l1, l2, l3, l4, l5] st H Q = M14 60 [.val (.ref r), l1, l2, l3, l4, l5] (.ref r :: st) H Q := w_x (show decode kb14 59 = .ok (.aload_n 0, 1) from by decide +kernel) rfl
theorem m14_60 : M14 60 ls (.ref b :: st) (put b pre s A post) Q = M14 63 ls (.int (s 5) :: st) (put b pre s A post) Q := w_get (show decode kb14 60 = .ok (.getfield 139, 3) from by decide +kernel) gf_139 put_o rfl
theorem m14_63 : M14 63 [l0, l1, l2, l3, l4, .val (.int v)] st H Q = M14 65 [l0, l1, l2, l3, l4, .val (.int v)] (.int v :: st) H Q := w_x (show decode kb14 63 = .ok (.iload 5, 2) from by decide +kernel) rfl
theorem cr14_97 : vR tables_1 dn y14 97 = some (true, y8, prog_1_method_19_code, 3, (some .int), 2, 29) := pR_of (cR_of (by decide +kernel) rc_8 dn_8 dn_14 (sig := ⟨[.int, .int], some .int⟩) (by decide +kernel) (by decide +kernel) rfl rfl) (by decide +kernel) (by decide +kernel)
theorem m14_65 (a0 : Int32) (a1 : Int32) : M14 65 ls [.int a1, .int a0, .ref b] (put b pre s A post) Q = M8 0 [.val (.ref b), .val (.int a0), .val (.int a1)] [] (put b pre s A post) (fun v H1 => M14 68 ls (v.toList ++ []) H1 Q) := w_virt (as := [.int a1, .int a0]) (rest := []) (a := b) (show decode kb14 65 = .ok (.invokevirtual 97, 3) from by decide +kernel) cr14_97 put_o rfl rfl (Nat.le_of_ble_eq_true rfl) (by show 3 ≤ 3; omega) rfl
theorem m14_68 : M14 68 ls (.int x :: st) H Q = if x = 0 then M14 169 ls st H Q else M14 71 ls st H Q := w_if (show decode kb14 68 = .ok (.ifCond .eq 101, 3) from by decide +kernel) (z_eq x) rfl
theorem m14_71 : M14 71 [.val (.ref r), l1, l2, l3, l4, l5] st H Q = M14 72 [.val (.ref r), l1, l2, l3, l4, l5] (.ref r :: st) H Q := w_x (show decode kb14 71 = .ok (.aload_n 0, 1) from by decide +kernel) rfl
theorem m14_72 : M14 72 ls (.ref b :: st) (put b pre s A post) Q = M14 75 ls (.ref (b + 1) :: st) (put b pre s A post) Q := w_get (show decode kb14 72 = .ok (.getfield 7, 3) from by decide +kernel) gf_7 put_o rfl
theorem m14_75 : M14 75 [l0, l1, l2, l3, l4, .val (.int v)] st H Q = M14 77 [l0, l1, l2, l3, l4, .val (.int v)] (.int v :: st) H Q := w_x (show decode kb14 75 = .ok (.iload 5, 2) from by decide +kernel) rfl
theorem m14_77  : M14 77 ls (.int j :: .ref (b + 1) :: st) (put b pre s A post) Q = (inB j (A 0) ∧ M14 78 ls (.int (getA (A 0) j) :: st) (put b pre s A post) Q) := w_ild (show decode kb14 77 = .ok (.iaload, 1) from by decide +kernel) rfl put_a0
theorem m14_78 : M14 78 ls st H Q = M14 79 ls (.int 2 :: st) H Q := w_con (show decode kb14 78 = .ok (.iconst 2, 1) from by decide +kernel) rfl (by decide)
theorem m14_79 : M14 79 ls (.int y :: .int x :: st) H Q = if x = y then M14 85 ls st H Q else M14 82 ls st H Q := w_icmp (show decode kb14 79 = .ok (.if_icmp .eq 6, 3) from by decide +kernel) (i_eq x y) rfl
theorem m14_82 : M14 82 ls st H Q = M14 169 ls st H Q := w_x (show decode kb14 82 = .ok (.goto 87, 3) from by decide +kernel) rfl
theorem m14_85 : M14 85 [.val (.ref r), l1, l2, l3, l4, l5] st H Q = M14 86 [.val (.ref r), l1, l2, l3, l4, l5] (.ref r :: st) H Q := w_x (show decode kb14 85 = .ok (.aload_n 0, 1) from by decide +kernel) rfl
theorem m14_86 : M14 86 ls (.ref b :: st) (put b pre s A post) Q = M14 89 ls (.ref (b + 2) :: st) (put b pre s A post) Q := w_get (show decode kb14 86 = .ok (.getfield 13, 3) from by decide +kernel) gf_13 put_o rfl
theorem m14_89 : M14 89 [l0, l1, l2, l3, l4, .val (.int v)] st H Q = M14 91 [l0, l1, l2, l3, l4, .val (.int v)] (.int v :: st) H Q := w_x (show decode kb14 89 = .ok (.iload 5, 2) from by decide +kernel) rfl
theorem m14_91  : M14 91 ls (.int j :: .ref (b + 2) :: st) (put b pre s A post) Q = (inB j (A 1) ∧ M14 92 ls (.int (getA (A 1) j) :: st) (put b pre s A post) Q) := w_ild (show decode kb14 91 = .ok (.iaload, 1) from by decide +kernel) rfl put_a1
theorem m14_92 : M14 92 ls st H Q = M14 93 ls (.int 1 :: st) H Q := w_con (show decode kb14 92 = .ok (.iconst 1, 1) from by decide +kernel) rfl (by decide)
theorem m14_93 : M14 93 ls (.int y :: .int x :: st) H Q = M14 94 ls (.int (XT.ushr x y) :: st) H Q := w_x (show decode kb14 93 = .ok (.iushr, 1) from by decide +kernel) rfl
theorem m14_94 : M14 94 [l0, l1, l2, .val (.int v), l4, l5] st H Q = M14 95 [l0, l1, l2, .val (.int v), l4, l5] (.int v :: st) H Q := w_x (show decode kb14 94 = .ok (.iload_n 3, 1) from by decide +kernel) rfl
theorem m14_95 : M14 95 ls (.int y :: .int x :: st) H Q = if x = y then M14 98 ls st H Q else M14 126 ls st H Q := w_icmpN (show decode kb14 95 = .ok (.if_icmp .ne 31, 3) from by decide +kernel) (i_ne x y) rfl
theorem m14_98 : M14 98 [.val (.ref r), l1, l2, l3, l4, l5] st H Q = M14 99 [.val (.ref r), l1, l2, l3, l4, l5] (.ref r :: st) H Q := w_x (show decode kb14 98 = .ok (.aload_n 0, 1) from by decide +kernel) rfl
theorem m14_99 : M14 99 ls (.ref b :: st) (put b pre s A post) Q = M14 102 ls (.ref (b + 8) :: st) (put b pre s A post) Q := w_get (show decode kb14 99 = .ok (.getfield 31, 3) from by decide +kernel) gf_31 put_o rfl
theorem m14_102 : M14 102 ls st H Q = M14 103 ls (.int 2 :: st) H Q := w_con (show decode kb14 102 = .ok (.iconst 2, 1) from by decide +kernel) rfl (by decide)
theorem m14_103 : M14 103 [l0, l1, l2, l3, l4, .val (.int v)] st H Q = M14 105 [l0, l1, l2, l3, l4, .val (.int v)] (.int v :: st) H Q := w_x (show decode kb14 103 = .ok (.iload 5, 2) from by decide +kernel) rfl
theorem m14_105 : M14 105 ls (.int y :: .int x :: st) H Q = M14 106 ls (.int (x * y) :: st) H Q := w_x (show decode kb14 105 = .ok (.imul, 1) from by decide +kernel) rfl
theorem m14_106  : M14 106 ls (.int j :: .ref (b + 8) :: st) (put b pre s A post) Q = (inB j (A 7) ∧ M14 107 ls (.int (getA (A 7) j) :: st) (put b pre s A post) Q) := w_ild (show decode kb14 106 = .ok (.iaload, 1) from by decide +kernel) rfl put_a7
theorem m14_107 : M14 107 ls (.int x :: st) H Q = if 0 < x then M14 110 ls st H Q else M14 126 ls st H Q := w_ifN (show decode kb14 107 = .ok (.ifCond .le 19, 3) from by decide +kernel) (z_le x) rfl
theorem m14_110 : M14 110 [.val (.ref r), l1, l2, l3, l4, l5] st H Q = M14 111 [.val (.ref r), l1, l2, l3, l4, l5] (.ref r :: st) H Q := w_x (show decode kb14 110 = .ok (.aload_n 0, 1) from by decide +kernel) rfl
theorem m14_111 : M14 111 ls st H Q = M14 112 ls (.int 2 :: st) H Q := w_con (show decode kb14 111 = .ok (.iconst 2, 1) from by decide +kernel) rfl (by decide)
theorem m14_112 : M14 112 [l0, l1, l2, l3, l4, .val (.int v)] st H Q = M14 114 [l0, l1, l2, l3, l4, .val (.int v)] (.int v :: st) H Q := w_x (show decode kb14 112 = .ok (.iload 5, 2) from by decide +kernel) rfl
theorem m14_114 : M14 114 ls (.int y :: .int x :: st) H Q = M14 115 ls (.int (x * y) :: st) H Q := w_x (show decode kb14 114 = .ok (.imul, 1) from by decide +kernel) rfl
theorem m14_115 : M14 115 ls st H Q = M14 116 ls (.int 1 :: st) H Q := w_con (show decode kb14 115 = .ok (.iconst 1, 1) from by decide +kernel) rfl (by decide)
theorem m14_116 : M14 116 ls (.int y :: .int x :: st) H Q = M14 117 ls (.int (x + y) :: st) H Q := w_x (show decode kb14 116 = .ok (.iadd, 1) from by decide +kernel) rfl
theorem m14_117 : M14 117 [l0, .val (.int v), l2, l3, l4, l5] st H Q = M14 118 [l0, .val (.int v), l2, l3, l4, l5] (.int v :: st) H Q := w_x (show decode kb14 117 = .ok (.iload_n 1, 1) from by decide +kernel) rfl
theorem m14_118 : M14 118 ls st H Q = M14 119 ls (.int 4 :: st) H Q := w_con (show decode kb14 118 = .ok (.iconst 4, 1) from by decide +kernel) rfl (by decide)
theorem m14_119 : M14 119 [l0, l1, l2, l3, .val (.int v), l5] st H Q = M14 121 [l0, l1, l2, l3, .val (.int v), l5] (.int v :: st) H Q := w_x (show decode kb14 119 = .ok (.iload 4, 2) from by decide +kernel) rfl
theorem m14_121 (a0 : Int32) (a1 : Int32) (a2 : Int32) (a3 : Int32) : M14 121 ls [.int a3, .int a2, .int a1, .int a0, .ref b] (put b pre s A post) Q = M12 0 [.val (.ref b), .val (.int a0), .val (.int a1), .val (.int a2), .val (.int a3)] [] (put b pre s A post) (fun v H1 => M14 124 ls (v.toList ++ []) H1 Q) := w_virt (as := [.int a3, .int a2, .int a1, .int a0]) (rest := []) (a := b) (show decode kb14 121 = .ok (.invokevirtual 177, 3) from by decide +kernel) cr14_177 put_o rfl rfl (Nat.le_of_ble_eq_true rfl) (by show 5 ≤ 5; omega) rfl
theorem m14_124i : M14 124 [l0, l1, l2, l3, .val (.int z), l5] ((.int v) :: st) H Q = M14 126 [l0, l1, l2, l3, .val (.int v), l5] st H Q := w_st (i := 4) (p := isI) (show decode kb14 124 = .ok (.istore 4, 2) from by decide +kernel) rfl rfl rfl rfl rfl rfl
theorem m14_126 : M14 126 [.val (.ref r), l1, l2, l3, l4, l5] st H Q = M14 127 [.val (.ref r), l1, l2, l3, l4, l5] (.ref r :: st) H Q := w_x (show decode kb14 126 = .ok (.aload_n 0, 1) from by decide +kernel) rfl
theorem m14_127 : M14 127 ls (.ref b :: st) (put b pre s A post) Q = M14 130 ls (.ref (b + 3) :: st) (put b pre s A post) Q := w_get (show decode kb14 127 = .ok (.getfield 16, 3) from by decide +kernel) gf_16 put_o rfl
theorem m14_130 : M14 130 [l0, l1, l2, l3, l4, .val (.int v)] st H Q = M14 132 [l0, l1, l2, l3, l4, .val (.int v)] (.int v :: st) H Q := w_x (show decode kb14 130 = .ok (.iload 5, 2) from by decide +kernel) rfl
theorem m14_132  : M14 132 ls (.int j :: .ref (b + 3) :: st) (put b pre s A post) Q = (inB j (A 2) ∧ M14 133 ls (.int (getA (A 2) j) :: st) (put b pre s A post) Q) := w_ild (show decode kb14 132 = .ok (.iaload, 1) from by decide +kernel) rfl put_a2
theorem m14_133 : M14 133 ls st H Q = M14 134 ls (.int 1 :: st) H Q := w_con (show decode kb14 133 = .ok (.iconst 1, 1) from by decide +kernel) rfl (by decide)
theorem m14_134 : M14 134 ls (.int y :: .int x :: st) H Q = M14 135 ls (.int (XT.ushr x y) :: st) H Q := w_x (show decode kb14 134 = .ok (.iushr, 1) from by decide +kernel) rfl
theorem m14_135 : M14 135 [l0, l1, l2, .val (.int v), l4, l5] st H Q = M14 136 [l0, l1, l2, .val (.int v), l4, l5] (.int v :: st) H Q := w_x (show decode kb14 135 = .ok (.iload_n 3, 1) from by decide +kernel) rfl
theorem m14_136 : M14 136 ls (.int y :: .int x :: st) H Q = if x = y then M14 139 ls st H Q else M14 169 ls st H Q := w_icmpN (show decode kb14 136 = .ok (.if_icmp .ne 33, 3) from by decide +kernel) (i_ne x y) rfl
theorem m14_139 : M14 139 [.val (.ref r), l1, l2, l3, l4, l5] st H Q = M14 140 [.val (.ref r), l1, l2, l3, l4, l5] (.ref r :: st) H Q := w_x (show decode kb14 139 = .ok (.aload_n 0, 1) from by decide +kernel) rfl
theorem m14_140 : M14 140 ls (.ref b :: st) (put b pre s A post) Q = M14 143 ls (.ref (b + 8) :: st) (put b pre s A post) Q := w_get (show decode kb14 140 = .ok (.getfield 31, 3) from by decide +kernel) gf_31 put_o rfl
theorem m14_143 : M14 143 ls st H Q = M14 144 ls (.int 2 :: st) H Q := w_con (show decode kb14 143 = .ok (.iconst 2, 1) from by decide +kernel) rfl (by decide)
theorem m14_144 : M14 144 [l0, l1, l2, l3, l4, .val (.int v)] st H Q = M14 146 [l0, l1, l2, l3, l4, .val (.int v)] (.int v :: st) H Q := w_x (show decode kb14 144 = .ok (.iload 5, 2) from by decide +kernel) rfl
theorem m14_146 : M14 146 ls (.int y :: .int x :: st) H Q = M14 147 ls (.int (x * y) :: st) H Q := w_x (show decode kb14 146 = .ok (.imul, 1) from by decide +kernel) rfl
theorem m14_147 : M14 147 ls st H Q = M14 148 ls (.int 1 :: st) H Q := w_con (show decode kb14 147 = .ok (.iconst 1, 1) from by decide +kernel) rfl (by decide)
theorem m14_148 : M14 148 ls (.int y :: .int x :: st) H Q = M14 149 ls (.int (x + y) :: st) H Q := w_x (show decode kb14 148 = .ok (.iadd, 1) from by decide +kernel) rfl
theorem m14_149  : M14 149 ls (.int j :: .ref (b + 8) :: st) (put b pre s A post) Q = (inB j (A 7) ∧ M14 150 ls (.int (getA (A 7) j) :: st) (put b pre s A post) Q) := w_ild (show decode kb14 149 = .ok (.iaload, 1) from by decide +kernel) rfl put_a7
theorem m14_150 : M14 150 ls (.int x :: st) H Q = if 0 < x then M14 153 ls st H Q else M14 169 ls st H Q := w_ifN (show decode kb14 150 = .ok (.ifCond .le 19, 3) from by decide +kernel) (z_le x) rfl
theorem m14_153 : M14 153 [.val (.ref r), l1, l2, l3, l4, l5] st H Q = M14 154 [.val (.ref r), l1, l2, l3, l4, l5] (.ref r :: st) H Q := w_x (show decode kb14 153 = .ok (.aload_n 0, 1) from by decide +kernel) rfl
theorem m14_154 : M14 154 ls st H Q = M14 155 ls (.int 2 :: st) H Q := w_con (show decode kb14 154 = .ok (.iconst 2, 1) from by decide +kernel) rfl (by decide)
theorem m14_155 : M14 155 [l0, l1, l2, l3, l4, .val (.int v)] st H Q = M14 157 [l0, l1, l2, l3, l4, .val (.int v)] (.int v :: st) H Q := w_x (show decode kb14 155 = .ok (.iload 5, 2) from by decide +kernel) rfl
theorem m14_157 : M14 157 ls (.int y :: .int x :: st) H Q = M14 158 ls (.int (x * y) :: st) H Q := w_x (show decode kb14 157 = .ok (.imul, 1) from by decide +kernel) rfl
theorem m14_158 : M14 158 ls st H Q = M14 159 ls (.int 1 :: st) H Q := w_con (show decode kb14 158 = .ok (.iconst 1, 1) from by decide +kernel) rfl (by decide)
theorem m14_159 : M14 159 ls (.int y :: .int x :: st) H Q = M14 160 ls (.int (x + y) :: st) H Q := w_x (show decode kb14 159 = .ok (.iadd, 1) from by decide +kernel) rfl
theorem m14_160 : M14 160 [l0, .val (.int v), l2, l3, l4, l5] st H Q = M14 161 [l0, .val (.int v), l2, l3, l4, l5] (.int v :: st) H Q := w_x (show decode kb14 160 = .ok (.iload_n 1, 1) from by decide +kernel) rfl
theorem m14_161 : M14 161 ls st H Q = M14 162 ls (.int 5 :: st) H Q := w_con (show decode kb14 161 = .ok (.iconst 5, 1) from by decide +kernel) rfl (by decide)
theorem m14_162 : M14 162 [l0, l1, l2, l3, .val (.int v), l5] st H Q = M14 164 [l0, l1, l2, l3, .val (.int v), l5] (.int v :: st) H Q := w_x (show decode kb14 162 = .ok (.iload 4, 2) from by decide +kernel) rfl
theorem m14_164 (a0 : Int32) (a1 : Int32) (a2 : Int32) (a3 : Int32) : M14 164 ls [.int a3, .int a2, .int a1, .int a0, .ref b] (put b pre s A post) Q = M12 0 [.val (.ref b), .val (.int a0), .val (.int a1), .val (.int a2), .val (.int a3)] [] (put b pre s A post) (fun v H1 => M14 167 ls (v.toList ++ []) H1 Q) := w_virt (as := [.int a3, .int a2, .int a1, .int a0]) (rest := []) (a := b) (show decode kb14 164 = .ok (.invokevirtual 177, 3) from by decide +kernel) cr14_177 put_o rfl rfl (Nat.le_of_ble_eq_true rfl) (by show 5 ≤ 5; omega) rfl
theorem m14_167i : M14 167 [l0, l1, l2, l3, .val (.int z), l5] ((.int v) :: st) H Q = M14 169 [l0, l1, l2, l3, .val (.int v), l5] st H Q := w_st (i := 4) (p := isI) (show decode kb14 167 = .ok (.istore 4, 2) from by decide +kernel) rfl rfl rfl rfl rfl rfl
theorem m14_169 : M14 169 [l0, l1, l2, l3, l4, .val (.int v)] st H Q = M14 172 [l0, l1, l2, l3, l4, .val (.int (v + 1))] st H Q := w_iinc (show decode kb14 169 = .ok (.iinc 5 1, 3) from by decide +kernel) rfl (by decide) rfl
theorem m14_172 : M14 172 ls st H Q = M14 42 ls st H Q := w_x (show decode kb14 172 = .ok (.goto (-130), 3) from by decide +kernel) rfl
theorem m14_175 : M14 175 [l0, l1, l2, l3, .val (.int v), l5] st H Q = M14 177 [l0, l1, l2, l3, .val (.int v), l5] (.int v :: st) H Q := w_x (show decode kb14 175 = .ok (.iload 4, 2) from by decide +kernel) rfl
theorem m14_177 : M14 177 ls (.int z :: st) H Q = Q (some (.int z)) H := w_iret (show decode kb14 177 = .ok (.ireturn, 1) from by decide +kernel) rfl
theorem m15_0 : M15 0 [.val (.ref r), l1] st H Q = M15 1 [.val (.ref r), l1] (.ref r :: st) H Q := w_x (show decode kb15 0 = .ok (.aload_n 0, 1) from by decide +kernel) rfl
theorem m15_1 : M15 1 [.val (.ref r), l1] st H Q = M15 2 [.val (.ref r), l1] (.ref r :: st) H Q := w_x (show decode kb15 1 = .ok (.aload_n 0, 1) from by decide +kernel) rfl
theorem m15_2 : M15 2 ls (.ref b :: st) (put b pre s A post) Q = M15 5 ls (.int (s 6) :: st) (put b pre s A post) Q := w_get (show decode kb15 2 = .ok (.getfield 113, 3) from by decide +kernel) gf_113 put_o rfl
theorem m15_5 : M15 5 [l0, .val (.int v)] st H Q = M15 6 [l0, .val (.int v)] (.int v :: st) H Q := w_x (show decode kb15 5 = .ok (.iload_n 1, 1) from by decide +kernel) rfl
theorem cr15_97 : vR tables_1 dn y15 97 = some (true, y8, prog_1_method_19_code, 3, (some .int), 2, 0) := pR_of (cR_of (by decide +kernel) rc_8 dn_8 dn_15 (sig := ⟨[.int, .int], some .int⟩) (by decide +kernel) (by decide +kernel) rfl rfl) (by decide +kernel) (by decide +kernel)
theorem m15_6 (a0 : Int32) (a1 : Int32) : M15 6 ls [.int a1, .int a0, .ref b] (put b pre s A post) Q = M8 0 [.val (.ref b), .val (.int a0), .val (.int a1)] [] (put b pre s A post) (fun v H1 => M15 9 ls (v.toList ++ []) H1 Q) := w_virt (as := [.int a1, .int a0]) (rest := []) (a := b) (show decode kb15 6 = .ok (.invokevirtual 97, 3) from by decide +kernel) cr15_97 put_o rfl rfl (Nat.le_of_ble_eq_true rfl) (by show 3 ≤ 3; omega) rfl
theorem m15_9 : M15 9 ls (.int x :: st) H Q = if x = 0 then M15 16 ls st H Q else M15 12 ls st H Q := w_if (show decode kb15 9 = .ok (.ifCond .eq 7, 3) from by decide +kernel) (z_eq x) rfl
theorem m15_12 : M15 12 ls st H Q = M15 13 ls (.int 1 :: st) H Q := w_con (show decode kb15 12 = .ok (.iconst 1, 1) from by decide +kernel) rfl (by decide)
theorem m15_13 : M15 13 ls st H Q = M15 17 ls st H Q := w_x (show decode kb15 13 = .ok (.goto 4, 3) from by decide +kernel) rfl
theorem m15_16 : M15 16 ls st H Q = M15 17 ls (.int 0 :: st) H Q := w_con (show decode kb15 16 = .ok (.iconst 0, 1) from by decide +kernel) rfl (by decide)
theorem m15_17 : M15 17 ls (.int z :: st) H Q = Q (some (.int (nar .boolean z))) H := w_iretN (show decode kb15 17 = .ok (.ireturn, 1) from by decide +kernel) rfl (by simp)
theorem m16_0 : M16 0 ls st H Q = M16 1 ls (.int 2 :: st) H Q := w_con (show decode kb16 0 = .ok (.iconst 2, 1) from by decide +kernel) rfl (by decide)
theorem m16_1 : M16 1 [.val (.ref r), l1, l2, l3, l4] st H Q = M16 2 [.val (.ref r), l1, l2, l3, l4] (.ref r :: st) H Q := w_x (show decode kb16 1 = .ok (.aload_n 0, 1) from by decide +kernel) rfl
theorem m16_2 : M16 2 ls (.ref b :: st) (put b pre s A post) Q = M16 5 ls (.int (s 4) :: st) (put b pre s A post) Q := w_get (show decode kb16 2 = .ok (.getfield 136, 3) from by decide +kernel) gf_136 put_o rfl
theorem m16_5 : M16 5 ls (.int y :: .int x :: st) H Q = M16 6 ls (.int (x * y) :: st) H Q := w_x (show decode kb16 5 = .ok (.imul, 1) from by decide +kernel) rfl
theorem m16_6 : M16 6 ls st H Q = M16 7 ls (.int 1 :: st) H Q := w_con (show decode kb16 6 = .ok (.iconst 1, 1) from by decide +kernel) rfl (by decide)
theorem m16_7 : M16 7 ls (.int y :: .int x :: st) H Q = M16 8 ls (.int (x + y) :: st) H Q := w_x (show decode kb16 7 = .ok (.iadd, 1) from by decide +kernel) rfl
theorem m16_8u : M16 8 [l0, .unset, l2, l3, l4] ((.int v) :: st) H Q = M16 9 [l0, .val (.int v), l2, l3, l4] st H Q := w_st (i := 1) (p := isI) (show decode kb16 8 = .ok (.istore_n 1, 1) from by decide +kernel) rfl rfl rfl rfl rfl rfl
theorem m16_9 : M16 9 ls st H Q = M16 11 ls (.int 64 :: st) H Q := w_con (show decode kb16 9 = .ok (.bipush 64, 2) from by decide +kernel) rfl (by decide)
theorem m16_11u : M16 11 [l0, l1, .unset, l3, l4] ((.int v) :: st) H Q = M16 12 [l0, l1, .val (.int v), l3, l4] st H Q := w_st (i := 2) (p := isI) (show decode kb16 11 = .ok (.istore_n 2, 1) from by decide +kernel) rfl rfl rfl rfl rfl rfl
theorem m16_12 : M16 12 ls st H Q = M16 13 ls (.int 0 :: st) H Q := w_con (show decode kb16 12 = .ok (.iconst 0, 1) from by decide +kernel) rfl (by decide)
theorem m16_13u : M16 13 [l0, l1, l2, .unset, l4] ((.int v) :: st) H Q = M16 14 [l0, l1, l2, .val (.int v), l4] st H Q := w_st (i := 3) (p := isI) (show decode kb16 13 = .ok (.istore_n 3, 1) from by decide +kernel) rfl rfl rfl rfl rfl rfl
theorem m16_14 : M16 14 [l0, l1, l2, .val (.int v), l4] st H Q = M16 15 [l0, l1, l2, .val (.int v), l4] (.int v :: st) H Q := w_x (show decode kb16 14 = .ok (.iload_n 3, 1) from by decide +kernel) rfl
theorem m16_15 : M16 15 ls st H Q = M16 17 ls (.int 66 :: st) H Q := w_con (show decode kb16 15 = .ok (.bipush 66, 2) from by decide +kernel) rfl (by decide)
theorem m16_17 : M16 17 ls (.int y :: .int x :: st) H Q = if x < y then M16 20 ls st H Q else M16 55 ls st H Q := w_icmpN (show decode kb16 17 = .ok (.if_icmp .ge 38, 3) from by decide +kernel) (i_ge x y) rfl
theorem m16_20 : M16 20 [l0, l1, .val (.int v), l3, l4] st H Q = M16 21 [l0, l1, .val (.int v), l3, l4] (.int v :: st) H Q := w_x (show decode kb16 20 = .ok (.iload_n 2, 1) from by decide +kernel) rfl
theorem m16_21 : M16 21 [l0, .val (.int v), l2, l3, l4] st H Q = M16 22 [l0, .val (.int v), l2, l3, l4] (.int v :: st) H Q := w_x (show decode kb16 21 = .ok (.iload_n 1, 1) from by decide +kernel) rfl
theorem m16_22 : M16 22 ls (.int y :: .int x :: st) H Q = if x = y then M16 55 ls st H Q else M16 25 ls st H Q := w_icmp (show decode kb16 22 = .ok (.if_icmp .eq 33, 3) from by decide +kernel) (i_eq x y) rfl
theorem m16_25 : M16 25 [.val (.ref r), l1, l2, l3, l4] st H Q = M16 26 [.val (.ref r), l1, l2, l3, l4] (.ref r :: st) H Q := w_x (show decode kb16 25 = .ok (.aload_n 0, 1) from by decide +kernel) rfl
theorem m16_26 : M16 26 ls (.ref b :: st) (put b pre s A post) Q = M16 29 ls (.ref (b + 10) :: st) (put b pre s A post) Q := w_get (show decode kb16 26 = .ok (.getfield 37, 3) from by decide +kernel) gf_37 put_o rfl
theorem m16_29 : M16 29 [l0, l1, .val (.int v), l3, l4] st H Q = M16 30 [l0, l1, .val (.int v), l3, l4] (.int v :: st) H Q := w_x (show decode kb16 29 = .ok (.iload_n 2, 1) from by decide +kernel) rfl
theorem m16_30  : M16 30 ls (.int j :: .ref (b + 10) :: st) (put b pre s A post) Q = (inB j (A 9) ∧ M16 31 ls (.int (getA (A 9) j) :: st) (put b pre s A post) Q) := w_ild (show decode kb16 30 = .ok (.iaload, 1) from by decide +kernel) rfl put_a9
theorem m16_31u : M16 31 [l0, l1, l2, l3, .unset] ((.int v) :: st) H Q = M16 33 [l0, l1, l2, l3, .val (.int v)] st H Q := w_st (i := 4) (p := isI) (show decode kb16 31 = .ok (.istore 4, 2) from by decide +kernel) rfl rfl rfl rfl rfl rfl
theorem m16_31i : M16 31 [l0, l1, l2, l3, .val (.int z)] ((.int v) :: st) H Q = M16 33 [l0, l1, l2, l3, .val (.int v)] st H Q := w_st (i := 4) (p := isI) (show decode kb16 31 = .ok (.istore 4, 2) from by decide +kernel) rfl rfl rfl rfl rfl rfl
theorem m16_31r : M16 31 [l0, l1, l2, l3, .val (.ref q)] ((.int v) :: st) H Q = M16 33 [l0, l1, l2, l3, .val (.int v)] st H Q := w_st (i := 4) (p := isI) (show decode kb16 31 = .ok (.istore 4, 2) from by decide +kernel) rfl rfl rfl rfl rfl rfl
theorem m16_33 : M16 33 [.val (.ref r), l1, l2, l3, l4] st H Q = M16 34 [.val (.ref r), l1, l2, l3, l4] (.ref r :: st) H Q := w_x (show decode kb16 33 = .ok (.aload_n 0, 1) from by decide +kernel) rfl
theorem m16_34 : M16 34 [l0, l1, l2, l3, .val (.int v)] st H Q = M16 36 [l0, l1, l2, l3, .val (.int v)] (.int v :: st) H Q := w_x (show decode kb16 34 = .ok (.iload 4, 2) from by decide +kernel) rfl
theorem m16_36 : M16 36 [l0, l1, .val (.int v), l3, l4] st H Q = M16 37 [l0, l1, .val (.int v), l3, l4] (.int v :: st) H Q := w_x (show decode kb16 36 = .ok (.iload_n 2, 1) from by decide +kernel) rfl
theorem m16_37 : M16 37 [.val (.ref r), l1, l2, l3, l4] st H Q = M16 38 [.val (.ref r), l1, l2, l3, l4] (.ref r :: st) H Q := w_x (show decode kb16 37 = .ok (.aload_n 0, 1) from by decide +kernel) rfl
theorem m16_38 : M16 38 ls (.ref b :: st) (put b pre s A post) Q = M16 41 ls (.ref (b + 11) :: st) (put b pre s A post) Q := w_get (show decode kb16 38 = .ok (.getfield 40, 3) from by decide +kernel) gf_40 put_o rfl
theorem m16_41 : M16 41 [l0, l1, .val (.int v), l3, l4] st H Q = M16 42 [l0, l1, .val (.int v), l3, l4] (.int v :: st) H Q := w_x (show decode kb16 41 = .ok (.iload_n 2, 1) from by decide +kernel) rfl
theorem m16_42  : M16 42 ls (.int j :: .ref (b + 11) :: st) (put b pre s A post) Q = (inB j (A 10) ∧ M16 43 ls (.int (getA (A 10) j) :: st) (put b pre s A post) Q) := w_ild (show decode kb16 42 = .ok (.iaload, 1) from by decide +kernel) rfl put_a10
theorem cr16_181 : vR tables_1 dn y16 181 = some (true, y17, prog_1_method_39_code, 4, none, 3, 0) := pR_of (cR_of (by decide +kernel) rc_17 dn_17 dn_16 (sig := ⟨[.int, .int, .int], none⟩) (by decide +kernel) (by decide +kernel) rfl rfl) (by decide +kernel) (by decide +kernel)
theorem m16_43 (a0 : Int32) (a1 : Int32) (a2 : Int32) : M16 43 ls [.int a2, .int a1, .int a0, .ref b] (put b pre s A post) Q = M17 0 [.val (.ref b), .val (.int a0), .val (.int a1), .val (.int a2)] [] (put b pre s A post) (fun v H1 => M16 46 ls (v.toList ++ []) H1 Q) := w_virt (as := [.int a2, .int a1, .int a0]) (rest := []) (a := b) (show decode kb16 43 = .ok (.invokevirtual 181, 3) from by decide +kernel) cr16_181 put_o rfl rfl (Nat.le_of_ble_eq_true rfl) (by show 4 ≤ 4; omega) rfl
theorem m16_46 : M16 46 [l0, l1, l2, l3, .val (.int v)] st H Q = M16 48 [l0, l1, l2, l3, .val (.int v)] (.int v :: st) H Q := w_x (show decode kb16 46 = .ok (.iload 4, 2) from by decide +kernel) rfl
theorem m16_48i : M16 48 [l0, l1, .val (.int z), l3, l4] ((.int v) :: st) H Q = M16 49 [l0, l1, .val (.int v), l3, l4] st H Q := w_st (i := 2) (p := isI) (show decode kb16 48 = .ok (.istore_n 2, 1) from by decide +kernel) rfl rfl rfl rfl rfl rfl
theorem m16_49 : M16 49 [l0, l1, l2, .val (.int v), l4] st H Q = M16 52 [l0, l1, l2, .val (.int (v + 1)), l4] st H Q := w_iinc (show decode kb16 49 = .ok (.iinc 3 1, 3) from by decide +kernel) rfl (by decide) rfl
theorem m16_52 : M16 52 ls st H Q = M16 14 ls st H Q := w_x (show decode kb16 52 = .ok (.goto (-38), 3) from by decide +kernel) rfl
theorem m16_55 : M16 55 ls [] H Q = Q none H := w_vret (show decode kb16 55 = .ok (.return_, 1) from by decide +kernel) rfl
theorem m17_0 : M17 0 [l0, l1, l2, .val (.int v)] st H Q = M17 1 [l0, l1, l2, .val (.int v)] (.int v :: st) H Q := w_x (show decode kb17 0 = .ok (.iload_n 3, 1) from by decide +kernel) rfl
theorem m17_1 : M17 1 ls (.int x :: st) H Q = if x = 0 then M17 4 ls st H Q else M17 19 ls st H Q := w_ifN (show decode kb17 1 = .ok (.ifCond .ne 18, 3) from by decide +kernel) (z_ne x) rfl
theorem m17_4 : M17 4 [.val (.ref r), l1, l2, l3] st H Q = M17 5 [.val (.ref r), l1, l2, l3] (.ref r :: st) H Q := w_x (show decode kb17 4 = .ok (.aload_n 0, 1) from by decide +kernel) rfl
theorem m17_5 : M17 5 ls (.ref b :: st) (put b pre s A post) Q = M17 8 ls (.ref (b + 7) :: st) (put b pre s A post) Q := w_get (show decode kb17 5 = .ok (.getfield 28, 3) from by decide +kernel) gf_28 put_o rfl
theorem m17_8 : M17 8 [l0, l1, .val (.int v), l3] st H Q = M17 9 [l0, l1, .val (.int v), l3] (.int v :: st) H Q := w_x (show decode kb17 8 = .ok (.iload_n 2, 1) from by decide +kernel) rfl
theorem m17_9 : M17 9 ls st H Q = M17 10 ls (.int 1 :: st) H Q := w_con (show decode kb17 9 = .ok (.iconst 1, 1) from by decide +kernel) rfl (by decide)
theorem m17_10 : M17 10 ls (.int y :: .int x :: st) H Q = M17 11 ls (.int (XT.ushr x y) :: st) H Q := w_x (show decode kb17 10 = .ok (.iushr, 1) from by decide +kernel) rfl
theorem m17_11 : M17 11 ls (.int x :: .ref q :: st) H Q = M17 12 ls (.int x :: .ref q :: .int x :: .ref q :: st) H Q := w_x (show decode kb17 11 = .ok (.dup2, 1) from by decide +kernel) rfl
theorem m17_12  : M17 12 ls (.int j :: .ref (b + 7) :: st) (put b pre s A post) Q = (inB j (A 6) ∧ M17 13 ls (.int (getA (A 6) j) :: st) (put b pre s A post) Q) := w_ild (show decode kb17 12 = .ok (.iaload, 1) from by decide +kernel) rfl put_a6
theorem m17_13 : M17 13 ls st H Q = M17 14 ls (.int 1 :: st) H Q := w_con (show decode kb17 13 = .ok (.iconst 1, 1) from by decide +kernel) rfl (by decide)
theorem m17_14 : M17 14 ls (.int y :: .int x :: st) H Q = M17 15 ls (.int (x + y) :: st) H Q := w_x (show decode kb17 14 = .ok (.iadd, 1) from by decide +kernel) rfl
theorem m17_15  : M17 15 ls (.int v :: .int j :: .ref (b + 7) :: st) (put b pre s A post) Q = (inB j (A 6) ∧ M17 16 ls st (put b pre s (ou A 6 (setA (A 6) j v)) post) Q) := w_ist (show decode kb17 15 = .ok (.iastore, 1) from by decide +kernel) rfl put_a6 (Nat.zero_le _) rfl put_w6
theorem m17_16 : M17 16 ls st H Q = M17 128 ls st H Q := w_x (show decode kb17 16 = .ok (.goto 112, 3) from by decide +kernel) rfl
theorem m17_19 : M17 19 [l0, l1, l2, .val (.int v)] st H Q = M17 20 [l0, l1, l2, .val (.int v)] (.int v :: st) H Q := w_x (show decode kb17 19 = .ok (.iload_n 3, 1) from by decide +kernel) rfl
theorem m17_20 : M17 20 ls st H Q = M17 21 ls (.int 1 :: st) H Q := w_con (show decode kb17 20 = .ok (.iconst 1, 1) from by decide +kernel) rfl (by decide)
theorem m17_21 : M17 21 ls (.int y :: .int x :: st) H Q = if x = y then M17 24 ls st H Q else M17 39 ls st H Q := w_icmpN (show decode kb17 21 = .ok (.if_icmp .ne 18, 3) from by decide +kernel) (i_ne x y) rfl
theorem m17_39 : M17 39 [l0, l1, l2, .val (.int v)] st H Q = M17 40 [l0, l1, l2, .val (.int v)] (.int v :: st) H Q := w_x (show decode kb17 39 = .ok (.iload_n 3, 1) from by decide +kernel) rfl
theorem m17_40 : M17 40 ls st H Q = M17 41 ls (.int 2 :: st) H Q := w_con (show decode kb17 40 = .ok (.iconst 2, 1) from by decide +kernel) rfl (by decide)
theorem m17_41 : M17 41 ls (.int y :: .int x :: st) H Q = if x = y then M17 44 ls st H Q else M17 61 ls st H Q := w_icmpN (show decode kb17 41 = .ok (.if_icmp .ne 20, 3) from by decide +kernel) (i_ne x y) rfl
theorem m17_44 : M17 44 [.val (.ref r), l1, l2, l3] st H Q = M17 45 [.val (.ref r), l1, l2, l3] (.ref r :: st) H Q := w_x (show decode kb17 44 = .ok (.aload_n 0, 1) from by decide +kernel) rfl
theorem m17_45 : M17 45 ls (.ref b :: st) (put b pre s A post) Q = M17 48 ls (.ref (b + 8) :: st) (put b pre s A post) Q := w_get (show decode kb17 45 = .ok (.getfield 31, 3) from by decide +kernel) gf_31 put_o rfl
theorem m17_48 : M17 48 ls st H Q = M17 49 ls (.int 2 :: st) H Q := w_con (show decode kb17 48 = .ok (.iconst 2, 1) from by decide +kernel) rfl (by decide)
theorem m17_49 : M17 49 [l0, .val (.int v), l2, l3] st H Q = M17 50 [l0, .val (.int v), l2, l3] (.int v :: st) H Q := w_x (show decode kb17 49 = .ok (.iload_n 1, 1) from by decide +kernel) rfl
theorem m17_50 : M17 50 ls st H Q = M17 51 ls (.int 1 :: st) H Q := w_con (show decode kb17 50 = .ok (.iconst 1, 1) from by decide +kernel) rfl (by decide)
theorem m17_51 : M17 51 ls (.int y :: .int x :: st) H Q = M17 52 ls (.int (XT.ushr x y) :: st) H Q := w_x (show decode kb17 51 = .ok (.iushr, 1) from by decide +kernel) rfl
theorem m17_52 : M17 52 ls (.int y :: .int x :: st) H Q = M17 53 ls (.int (x * y) :: st) H Q := w_x (show decode kb17 52 = .ok (.imul, 1) from by decide +kernel) rfl
theorem m17_53 : M17 53 ls (.int x :: .ref q :: st) H Q = M17 54 ls (.int x :: .ref q :: .int x :: .ref q :: st) H Q := w_x (show decode kb17 53 = .ok (.dup2, 1) from by decide +kernel) rfl
theorem m17_54  : M17 54 ls (.int j :: .ref (b + 8) :: st) (put b pre s A post) Q = (inB j (A 7) ∧ M17 55 ls (.int (getA (A 7) j) :: st) (put b pre s A post) Q) := w_ild (show decode kb17 54 = .ok (.iaload, 1) from by decide +kernel) rfl put_a7
theorem m17_55 : M17 55 ls st H Q = M17 56 ls (.int 1 :: st) H Q := w_con (show decode kb17 55 = .ok (.iconst 1, 1) from by decide +kernel) rfl (by decide)
theorem m17_56 : M17 56 ls (.int y :: .int x :: st) H Q = M17 57 ls (.int (x + y) :: st) H Q := w_x (show decode kb17 56 = .ok (.iadd, 1) from by decide +kernel) rfl
theorem m17_57  : M17 57 ls (.int v :: .int j :: .ref (b + 8) :: st) (put b pre s A post) Q = (inB j (A 7) ∧ M17 58 ls st (put b pre s (ou A 7 (setA (A 7) j v)) post) Q) := w_ist (show decode kb17 57 = .ok (.iastore, 1) from by decide +kernel) rfl put_a7 (Nat.zero_le _) rfl put_w7
theorem m17_58 : M17 58 ls st H Q = M17 128 ls st H Q := w_x (show decode kb17 58 = .ok (.goto 70, 3) from by decide +kernel) rfl
theorem m17_61 : M17 61 [l0, l1, l2, .val (.int v)] st H Q = M17 62 [l0, l1, l2, .val (.int v)] (.int v :: st) H Q := w_x (show decode kb17 61 = .ok (.iload_n 3, 1) from by decide +kernel) rfl
theorem m17_62 : M17 62 ls st H Q = M17 63 ls (.int 3 :: st) H Q := w_con (show decode kb17 62 = .ok (.iconst 3, 1) from by decide +kernel) rfl (by decide)
theorem m17_63 : M17 63 ls (.int y :: .int x :: st) H Q = if x = y then M17 66 ls st H Q else M17 85 ls st H Q := w_icmpN (show decode kb17 63 = .ok (.if_icmp .ne 22, 3) from by decide +kernel) (i_ne x y) rfl
theorem m17_66 : M17 66 [.val (.ref r), l1, l2, l3] st H Q = M17 67 [.val (.ref r), l1, l2, l3] (.ref r :: st) H Q := w_x (show decode kb17 66 = .ok (.aload_n 0, 1) from by decide +kernel) rfl
theorem m17_67 : M17 67 ls (.ref b :: st) (put b pre s A post) Q = M17 70 ls (.ref (b + 8) :: st) (put b pre s A post) Q := w_get (show decode kb17 67 = .ok (.getfield 31, 3) from by decide +kernel) gf_31 put_o rfl
theorem m17_70 : M17 70 ls st H Q = M17 71 ls (.int 2 :: st) H Q := w_con (show decode kb17 70 = .ok (.iconst 2, 1) from by decide +kernel) rfl (by decide)
theorem m17_71 : M17 71 [l0, .val (.int v), l2, l3] st H Q = M17 72 [l0, .val (.int v), l2, l3] (.int v :: st) H Q := w_x (show decode kb17 71 = .ok (.iload_n 1, 1) from by decide +kernel) rfl
theorem m17_72 : M17 72 ls st H Q = M17 73 ls (.int 1 :: st) H Q := w_con (show decode kb17 72 = .ok (.iconst 1, 1) from by decide +kernel) rfl (by decide)
theorem m17_73 : M17 73 ls (.int y :: .int x :: st) H Q = M17 74 ls (.int (XT.ushr x y) :: st) H Q := w_x (show decode kb17 73 = .ok (.iushr, 1) from by decide +kernel) rfl
theorem m17_74 : M17 74 ls (.int y :: .int x :: st) H Q = M17 75 ls (.int (x * y) :: st) H Q := w_x (show decode kb17 74 = .ok (.imul, 1) from by decide +kernel) rfl
theorem m17_75 : M17 75 ls st H Q = M17 76 ls (.int 1 :: st) H Q := w_con (show decode kb17 75 = .ok (.iconst 1, 1) from by decide +kernel) rfl (by decide)
theorem m17_76 : M17 76 ls (.int y :: .int x :: st) H Q = M17 77 ls (.int (x + y) :: st) H Q := w_x (show decode kb17 76 = .ok (.iadd, 1) from by decide +kernel) rfl
theorem m17_77 : M17 77 ls (.int x :: .ref q :: st) H Q = M17 78 ls (.int x :: .ref q :: .int x :: .ref q :: st) H Q := w_x (show decode kb17 77 = .ok (.dup2, 1) from by decide +kernel) rfl
theorem m17_78  : M17 78 ls (.int j :: .ref (b + 8) :: st) (put b pre s A post) Q = (inB j (A 7) ∧ M17 79 ls (.int (getA (A 7) j) :: st) (put b pre s A post) Q) := w_ild (show decode kb17 78 = .ok (.iaload, 1) from by decide +kernel) rfl put_a7
theorem m17_79 : M17 79 ls st H Q = M17 80 ls (.int 1 :: st) H Q := w_con (show decode kb17 79 = .ok (.iconst 1, 1) from by decide +kernel) rfl (by decide)
theorem m17_80 : M17 80 ls (.int y :: .int x :: st) H Q = M17 81 ls (.int (x + y) :: st) H Q := w_x (show decode kb17 80 = .ok (.iadd, 1) from by decide +kernel) rfl
theorem m17_81  : M17 81 ls (.int v :: .int j :: .ref (b + 8) :: st) (put b pre s A post) Q = (inB j (A 7) ∧ M17 82 ls st (put b pre s (ou A 7 (setA (A 7) j v)) post) Q) := w_ist (show decode kb17 81 = .ok (.iastore, 1) from by decide +kernel) rfl put_a7 (Nat.zero_le _) rfl put_w7
theorem m17_82 : M17 82 ls st H Q = M17 128 ls st H Q := w_x (show decode kb17 82 = .ok (.goto 46, 3) from by decide +kernel) rfl
theorem m17_85 : M17 85 [l0, l1, l2, .val (.int v)] st H Q = M17 86 [l0, l1, l2, .val (.int v)] (.int v :: st) H Q := w_x (show decode kb17 85 = .ok (.iload_n 3, 1) from by decide +kernel) rfl
theorem m17_86 : M17 86 ls st H Q = M17 87 ls (.int 4 :: st) H Q := w_con (show decode kb17 86 = .ok (.iconst 4, 1) from by decide +kernel) rfl (by decide)
theorem m17_87 : M17 87 ls (.int y :: .int x :: st) H Q = if x = y then M17 90 ls st H Q else M17 107 ls st H Q := w_icmpN (show decode kb17 87 = .ok (.if_icmp .ne 20, 3) from by decide +kernel) (i_ne x y) rfl
theorem m17_107 : M17 107 [l0, l1, l2, .val (.int v)] st H Q = M17 108 [l0, l1, l2, .val (.int v)] (.int v :: st) H Q := w_x (show decode kb17 107 = .ok (.iload_n 3, 1) from by decide +kernel) rfl
theorem m17_108 : M17 108 ls st H Q = M17 109 ls (.int 5 :: st) H Q := w_con (show decode kb17 108 = .ok (.iconst 5, 1) from by decide +kernel) rfl (by decide)
theorem m17_109 : M17 109 ls (.int y :: .int x :: st) H Q = if x = y then M17 112 ls st H Q else M17 128 ls st H Q := w_icmpN (show decode kb17 109 = .ok (.if_icmp .ne 19, 3) from by decide +kernel) (i_ne x y) rfl
theorem m17_128 : M17 128 ls [] H Q = Q none H := w_vret (show decode kb17 128 = .ok (.return_, 1) from by decide +kernel) rfl
theorem m18_0 : M18 0 [.val (.ref r), l1, l2] st H Q = M18 1 [.val (.ref r), l1, l2] (.ref r :: st) H Q := w_x (show decode kb18 0 = .ok (.aload_n 0, 1) from by decide +kernel) rfl
theorem m18_1 : M18 1 ls (.ref b :: st) (put b pre s A post) Q = M18 4 ls (.int (s 3) :: st) (put b pre s A post) Q := w_get (show decode kb18 1 = .ok (.getfield 65, 3) from by decide +kernel) gf_65 put_o rfl
theorem m18_4 : M18 4 ls st H Q = M18 6 ls (.int 8 :: st) H Q := w_con (show decode kb18 4 = .ok (.bipush 8, 2) from by decide +kernel) rfl (by decide)
theorem m18_6 : M18 6 ls (.int y :: .int x :: st) H Q = if x = y then M18 9 ls st H Q else M18 11 ls st H Q := w_icmpN (show decode kb18 6 = .ok (.if_icmp .ne 5, 3) from by decide +kernel) (i_ne x y) rfl
theorem m18_11 : M18 11 [.val (.ref r), l1, l2] st H Q = M18 12 [.val (.ref r), l1, l2] (.ref r :: st) H Q := w_x (show decode kb18 11 = .ok (.aload_n 0, 1) from by decide +kernel) rfl
theorem m18_12 : M18 12 [l0, .val (.int v), l2] st H Q = M18 13 [l0, .val (.int v), l2] (.int v :: st) H Q := w_x (show decode kb18 12 = .ok (.iload_n 1, 1) from by decide +kernel) rfl
theorem cr18_78 : vR tables_1 dn y18 78 = some (true, y3, prog_1_method_18_code, 2, (some .boolean), 1, 0) := pR_of (cR_of (by decide +kernel) rc_3 dn_3 dn_18 (sig := ⟨[.int], some .boolean⟩) (by decide +kernel) (by decide +kernel) rfl rfl) (by decide +kernel) (by decide +kernel)
theorem m18_13 (a0 : Int32) : M18 13 ls [.int a0, .ref b] (put b pre s A post) Q = M3 0 [.val (.ref b), .val (.int a0)] [] (put b pre s A post) (fun v H1 => M18 16 ls (v.toList ++ []) H1 Q) := w_virt (as := [.int a0]) (rest := []) (a := b) (show decode kb18 13 = .ok (.invokevirtual 78, 3) from by decide +kernel) cr18_78 put_o rfl rfl (Nat.le_of_ble_eq_true rfl) (by show 2 ≤ 2; omega) rfl
theorem m18_16 : M18 16 ls (.int x :: st) H Q = if x = 0 then M18 19 ls st H Q else M18 21 ls st H Q := w_ifN (show decode kb18 16 = .ok (.ifCond .ne 5, 3) from by decide +kernel) (z_ne x) rfl
theorem m18_21 : M18 21 [.val (.ref r), l1, l2] st H Q = M18 22 [.val (.ref r), l1, l2] (.ref r :: st) H Q := w_x (show decode kb18 21 = .ok (.aload_n 0, 1) from by decide +kernel) rfl
theorem m18_22 : M18 22 ls (.ref b :: st) (put b pre s A post) Q = M18 25 ls (.int (s 3) :: st) (put b pre s A post) Q := w_get (show decode kb18 22 = .ok (.getfield 65, 3) from by decide +kernel) gf_65 put_o rfl
theorem m18_25u : M18 25 [l0, l1, .unset] ((.int v) :: st) H Q = M18 26 [l0, l1, .val (.int v)] st H Q := w_st (i := 2) (p := isI) (show decode kb18 25 = .ok (.istore_n 2, 1) from by decide +kernel) rfl rfl rfl rfl rfl rfl
theorem m18_26 : M18 26 [.val (.ref r), l1, l2] st H Q = M18 27 [.val (.ref r), l1, l2] (.ref r :: st) H Q := w_x (show decode kb18 26 = .ok (.aload_n 0, 1) from by decide +kernel) rfl
theorem m18_27 : M18 27 ls (.ref b :: st) (put b pre s A post) Q = M18 30 ls (.ref (b + 6) :: st) (put b pre s A post) Q := w_get (show decode kb18 27 = .ok (.getfield 25, 3) from by decide +kernel) gf_25 put_o rfl
theorem m18_30 : M18 30 [l0, l1, .val (.int v)] st H Q = M18 31 [l0, l1, .val (.int v)] (.int v :: st) H Q := w_x (show decode kb18 30 = .ok (.iload_n 2, 1) from by decide +kernel) rfl
theorem m18_31 : M18 31 [l0, .val (.int v), l2] st H Q = M18 32 [l0, .val (.int v), l2] (.int v :: st) H Q := w_x (show decode kb18 31 = .ok (.iload_n 1, 1) from by decide +kernel) rfl
theorem m18_32  : M18 32 ls (.int v :: .int j :: .ref (b + 6) :: st) (put b pre s A post) Q = (inB j (A 5) ∧ M18 33 ls st (put b pre s (ou A 5 (setA (A 5) j v)) post) Q) := w_ist (show decode kb18 32 = .ok (.iastore, 1) from by decide +kernel) rfl put_a5 (Nat.zero_le _) rfl put_w5
theorem m18_33 : M18 33 [.val (.ref r), l1, l2] st H Q = M18 34 [.val (.ref r), l1, l2] (.ref r :: st) H Q := w_x (show decode kb18 33 = .ok (.aload_n 0, 1) from by decide +kernel) rfl
theorem m18_34 : M18 34 [l0, l1, .val (.int v)] st H Q = M18 35 [l0, l1, .val (.int v)] (.int v :: st) H Q := w_x (show decode kb18 34 = .ok (.iload_n 2, 1) from by decide +kernel) rfl
theorem m18_35 : M18 35 ls st H Q = M18 36 ls (.int 1 :: st) H Q := w_con (show decode kb18 35 = .ok (.iconst 1, 1) from by decide +kernel) rfl (by decide)
theorem m18_36 : M18 36 ls (.int y :: .int x :: st) H Q = M18 37 ls (.int (x + y) :: st) H Q := w_x (show decode kb18 36 = .ok (.iadd, 1) from by decide +kernel) rfl
theorem pf18_65 : pfR tables_1 y18.cls y18.name 65 = some ("LutMapper", 18, .int) := by decide +kernel
theorem m18_37 : M18 37 ls (.int v :: .ref b :: st) (put b pre s A post) Q = M18 40 ls st (put b pre (ou s 3 v) A post) Q := w_put (show decode kb18 37 = .ok (.putfield 65, 3) from by decide +kernel) pf18_65 put_o (Nat.zero_le _) (by show 18 < 28; omega) rfl put_s3
theorem m18_40 : M18 40 [.val (.ref r), l1, l2] st H Q = M18 41 [.val (.ref r), l1, l2] (.ref r :: st) H Q := w_x (show decode kb18 40 = .ok (.aload_n 0, 1) from by decide +kernel) rfl
theorem m18_41 : M18 41 ls st H Q = M18 42 ls (.int 0 :: st) H Q := w_con (show decode kb18 41 = .ok (.iconst 0, 1) from by decide +kernel) rfl (by decide)
theorem pf18_68 : pfR tables_1 y18.cls y18.name 68 = some ("LutMapper", 19, .boolean) := by decide +kernel
theorem m18_42 : M18 42 ls (.int v :: .ref b :: st) (put b pre s A post) Q = M18 45 ls st (put b pre (ou s 10 (nar .boolean v)) A post) Q := w_put (show decode kb18 42 = .ok (.putfield 68, 3) from by decide +kernel) pf18_68 put_o (Nat.zero_le _) (by show 19 < 28; omega) rfl put_s10
theorem m18_45 : M18 45 [l0, l1, .val (.int v)] st H Q = M18 46 [l0, l1, .val (.int v)] (.int v :: st) H Q := w_x (show decode kb18 45 = .ok (.iload_n 2, 1) from by decide +kernel) rfl
theorem m18_46 : M18 46 ls (.int z :: st) H Q = Q (some (.int z)) H := w_iret (show decode kb18 46 = .ok (.ireturn, 1) from by decide +kernel) rfl
theorem m19_0 : M19 0 [l0, .val (.int v)] st H Q = M19 1 [l0, .val (.int v)] (.int v :: st) H Q := w_x (show decode kb19 0 = .ok (.iload_n 1, 1) from by decide +kernel) rfl
theorem m19_1 : M19 1 ls (.int x :: st) H Q = if x < 0 then M19 12 ls st H Q else M19 4 ls st H Q := w_if (show decode kb19 1 = .ok (.ifCond .lt 11, 3) from by decide +kernel) (z_lt x) rfl
theorem m19_4 : M19 4 [l0, .val (.int v)] st H Q = M19 5 [l0, .val (.int v)] (.int v :: st) H Q := w_x (show decode kb19 4 = .ok (.iload_n 1, 1) from by decide +kernel) rfl
theorem m19_5 : M19 5 [.val (.ref r), l1] st H Q = M19 6 [.val (.ref r), l1] (.ref r :: st) H Q := w_x (show decode kb19 5 = .ok (.aload_n 0, 1) from by decide +kernel) rfl
theorem m19_6 : M19 6 ls (.ref b :: st) (put b pre s A post) Q = M19 9 ls (.int (s 1) :: st) (put b pre s A post) Q := w_get (show decode kb19 6 = .ok (.getfield 59, 3) from by decide +kernel) gf_59 put_o rfl
theorem m19_9 : M19 9 ls (.int y :: .int x :: st) H Q = if x < y then M19 14 ls st H Q else M19 12 ls st H Q := w_icmp (show decode kb19 9 = .ok (.if_icmp .lt 5, 3) from by decide +kernel) (i_lt x y) rfl
theorem m19_14 : M19 14 [.val (.ref r), l1] st H Q = M19 15 [.val (.ref r), l1] (.ref r :: st) H Q := w_x (show decode kb19 14 = .ok (.aload_n 0, 1) from by decide +kernel) rfl
theorem m19_15 : M19 15 ls (.ref b :: st) (put b pre s A post) Q = M19 18 ls (.ref (b + 5) :: st) (put b pre s A post) Q := w_get (show decode kb19 15 = .ok (.getfield 22, 3) from by decide +kernel) gf_22 put_o rfl
theorem m19_18 : M19 18 [l0, .val (.int v)] st H Q = M19 19 [l0, .val (.int v)] (.int v :: st) H Q := w_x (show decode kb19 18 = .ok (.iload_n 1, 1) from by decide +kernel) rfl
theorem m19_19  : M19 19 ls (.int j :: .ref (b + 5) :: st) (put b pre s A post) Q = (inB j (A 4) ∧ M19 20 ls (.int (getA (A 4) j) :: st) (put b pre s A post) Q) := w_ild (show decode kb19 19 = .ok (.iaload, 1) from by decide +kernel) rfl put_a4
theorem m19_20 : M19 20 ls (.int z :: st) H Q = Q (some (.int z)) H := w_iret (show decode kb19 20 = .ok (.ireturn, 1) from by decide +kernel) rfl
theorem m20_0 : M20 0 [.val (.ref r), l1, l2, l3] st H Q = M20 1 [.val (.ref r), l1, l2, l3] (.ref r :: st) H Q := w_x (show decode kb20 0 = .ok (.aload_n 0, 1) from by decide +kernel) rfl
theorem m20_1 : M20 1 ls (.ref b :: st) (put b pre s A post) Q = M20 4 ls (.int (s 3) :: st) (put b pre s A post) Q := w_get (show decode kb20 1 = .ok (.getfield 65, 3) from by decide +kernel) gf_65 put_o rfl
theorem m20_4 : M20 4 ls (.int x :: st) H Q = if x = 0 then M20 7 ls st H Q else M20 9 ls st H Q := w_ifN (show decode kb20 4 = .ok (.ifCond .ne 5, 3) from by decide +kernel) (z_ne x) rfl
theorem m20_9 : M20 9 ls st H Q = M20 10 ls (.int 0 :: st) H Q := w_con (show decode kb20 9 = .ok (.iconst 0, 1) from by decide +kernel) rfl (by decide)
theorem m20_10u : M20 10 [l0, .unset, l2, l3] ((.int v) :: st) H Q = M20 11 [l0, .val (.int v), l2, l3] st H Q := w_st (i := 1) (p := isI) (show decode kb20 10 = .ok (.istore_n 1, 1) from by decide +kernel) rfl rfl rfl rfl rfl rfl
theorem m20_11 : M20 11 ls st H Q = M20 12 ls (.int 0 :: st) H Q := w_con (show decode kb20 11 = .ok (.iconst 0, 1) from by decide +kernel) rfl (by decide)
theorem m20_12u : M20 12 [l0, l1, .unset, l3] ((.int v) :: st) H Q = M20 13 [l0, l1, .val (.int v), l3] st H Q := w_st (i := 2) (p := isI) (show decode kb20 12 = .ok (.istore_n 2, 1) from by decide +kernel) rfl rfl rfl rfl rfl rfl
theorem m20_13 : M20 13 [l0, l1, .val (.int v), l3] st H Q = M20 14 [l0, l1, .val (.int v), l3] (.int v :: st) H Q := w_x (show decode kb20 13 = .ok (.iload_n 2, 1) from by decide +kernel) rfl
theorem m20_14 : M20 14 [.val (.ref r), l1, l2, l3] st H Q = M20 15 [.val (.ref r), l1, l2, l3] (.ref r :: st) H Q := w_x (show decode kb20 14 = .ok (.aload_n 0, 1) from by decide +kernel) rfl
theorem m20_15 : M20 15 ls (.ref b :: st) (put b pre s A post) Q = M20 18 ls (.int (s 3) :: st) (put b pre s A post) Q := w_get (show decode kb20 15 = .ok (.getfield 65, 3) from by decide +kernel) gf_65 put_o rfl
theorem m20_18 : M20 18 ls (.int y :: .int x :: st) H Q = if x < y then M20 21 ls st H Q else M20 59 ls st H Q := w_icmpN (show decode kb20 18 = .ok (.if_icmp .ge 41, 3) from by decide +kernel) (i_ge x y) rfl
theorem m20_21 : M20 21 [l0, l1, .val (.int v), l3] st H Q = M20 22 [l0, l1, .val (.int v), l3] (.int v :: st) H Q := w_x (show decode kb20 21 = .ok (.iload_n 2, 1) from by decide +kernel) rfl
theorem m20_22 : M20 22 ls st H Q = M20 24 ls (.int 8 :: st) H Q := w_con (show decode kb20 22 = .ok (.bipush 8, 2) from by decide +kernel) rfl (by decide)
theorem m20_24 : M20 24 ls (.int y :: .int x :: st) H Q = if x < y then M20 27 ls st H Q else M20 59 ls st H Q := w_icmpN (show decode kb20 24 = .ok (.if_icmp .ge 35, 3) from by decide +kernel) (i_ge x y) rfl
theorem m20_27 : M20 27 [.val (.ref r), l1, l2, l3] st H Q = M20 28 [.val (.ref r), l1, l2, l3] (.ref r :: st) H Q := w_x (show decode kb20 27 = .ok (.aload_n 0, 1) from by decide +kernel) rfl
theorem m20_28 : M20 28 ls (.ref b :: st) (put b pre s A post) Q = M20 31 ls (.ref (b + 6) :: st) (put b pre s A post) Q := w_get (show decode kb20 28 = .ok (.getfield 25, 3) from by decide +kernel) gf_25 put_o rfl
theorem m20_31 : M20 31 [l0, l1, .val (.int v), l3] st H Q = M20 32 [l0, l1, .val (.int v), l3] (.int v :: st) H Q := w_x (show decode kb20 31 = .ok (.iload_n 2, 1) from by decide +kernel) rfl
theorem m20_32  : M20 32 ls (.int j :: .ref (b + 6) :: st) (put b pre s A post) Q = (inB j (A 5) ∧ M20 33 ls (.int (getA (A 5) j) :: st) (put b pre s A post) Q) := w_ild (show decode kb20 32 = .ok (.iaload, 1) from by decide +kernel) rfl put_a5
theorem m20_33 : M20 33 ls st H Q = M20 34 ls (.int 1 :: st) H Q := w_con (show decode kb20 33 = .ok (.iconst 1, 1) from by decide +kernel) rfl (by decide)
theorem m20_34 : M20 34 ls (.int y :: .int x :: st) H Q = M20 35 ls (.int (XT.ushr x y) :: st) H Q := w_x (show decode kb20 34 = .ok (.iushr, 1) from by decide +kernel) rfl
theorem m20_35u : M20 35 [l0, l1, l2, .unset] ((.int v) :: st) H Q = M20 36 [l0, l1, l2, .val (.int v)] st H Q := w_st (i := 3) (p := isI) (show decode kb20 35 = .ok (.istore_n 3, 1) from by decide +kernel) rfl rfl rfl rfl rfl rfl
theorem m20_35i : M20 35 [l0, l1, l2, .val (.int z)] ((.int v) :: st) H Q = M20 36 [l0, l1, l2, .val (.int v)] st H Q := w_st (i := 3) (p := isI) (show decode kb20 35 = .ok (.istore_n 3, 1) from by decide +kernel) rfl rfl rfl rfl rfl rfl
theorem m20_35r : M20 35 [l0, l1, l2, .val (.ref q)] ((.int v) :: st) H Q = M20 36 [l0, l1, l2, .val (.int v)] st H Q := w_st (i := 3) (p := isI) (show decode kb20 35 = .ok (.istore_n 3, 1) from by decide +kernel) rfl rfl rfl rfl rfl rfl
theorem m20_36 : M20 36 [.val (.ref r), l1, l2, l3] st H Q = M20 37 [.val (.ref r), l1, l2, l3] (.ref r :: st) H Q := w_x (show decode kb20 36 = .ok (.aload_n 0, 1) from by decide +kernel) rfl
theorem m20_37 : M20 37 ls (.ref b :: st) (put b pre s A post) Q = M20 40 ls (.ref (b + 5) :: st) (put b pre s A post) Q := w_get (show decode kb20 37 = .ok (.getfield 22, 3) from by decide +kernel) gf_22 put_o rfl
theorem m20_40 : M20 40 [l0, l1, l2, .val (.int v)] st H Q = M20 41 [l0, l1, l2, .val (.int v)] (.int v :: st) H Q := w_x (show decode kb20 40 = .ok (.iload_n 3, 1) from by decide +kernel) rfl
theorem m20_41  : M20 41 ls (.int j :: .ref (b + 5) :: st) (put b pre s A post) Q = (inB j (A 4) ∧ M20 42 ls (.int (getA (A 4) j) :: st) (put b pre s A post) Q) := w_ild (show decode kb20 41 = .ok (.iaload, 1) from by decide +kernel) rfl put_a4
theorem m20_42 : M20 42 [l0, .val (.int v), l2, l3] st H Q = M20 43 [l0, .val (.int v), l2, l3] (.int v :: st) H Q := w_x (show decode kb20 42 = .ok (.iload_n 1, 1) from by decide +kernel) rfl
theorem m20_43 : M20 43 ls (.int y :: .int x :: st) H Q = if y < x then M20 46 ls st H Q else M20 53 ls st H Q := w_icmpN (show decode kb20 43 = .ok (.if_icmp .le 10, 3) from by decide +kernel) (i_le x y) rfl
theorem m20_46 : M20 46 [.val (.ref r), l1, l2, l3] st H Q = M20 47 [.val (.ref r), l1, l2, l3] (.ref r :: st) H Q := w_x (show decode kb20 46 = .ok (.aload_n 0, 1) from by decide +kernel) rfl
theorem m20_47 : M20 47 ls (.ref b :: st) (put b pre s A post) Q = M20 50 ls (.ref (b + 5) :: st) (put b pre s A post) Q := w_get (show decode kb20 47 = .ok (.getfield 22, 3) from by decide +kernel) gf_22 put_o rfl
theorem m20_50 : M20 50 [l0, l1, l2, .val (.int v)] st H Q = M20 51 [l0, l1, l2, .val (.int v)] (.int v :: st) H Q := w_x (show decode kb20 50 = .ok (.iload_n 3, 1) from by decide +kernel) rfl
theorem m20_51  : M20 51 ls (.int j :: .ref (b + 5) :: st) (put b pre s A post) Q = (inB j (A 4) ∧ M20 52 ls (.int (getA (A 4) j) :: st) (put b pre s A post) Q) := w_ild (show decode kb20 51 = .ok (.iaload, 1) from by decide +kernel) rfl put_a4
theorem m20_52i : M20 52 [l0, .val (.int z), l2, l3] ((.int v) :: st) H Q = M20 53 [l0, .val (.int v), l2, l3] st H Q := w_st (i := 1) (p := isI) (show decode kb20 52 = .ok (.istore_n 1, 1) from by decide +kernel) rfl rfl rfl rfl rfl rfl
theorem m20_53 : M20 53 [l0, l1, .val (.int v), l3] st H Q = M20 56 [l0, l1, .val (.int (v + 1)), l3] st H Q := w_iinc (show decode kb20 53 = .ok (.iinc 2 1, 3) from by decide +kernel) rfl (by decide) rfl
theorem m20_56 : M20 56 ls st H Q = M20 13 ls st H Q := w_x (show decode kb20 56 = .ok (.goto (-43), 3) from by decide +kernel) rfl
theorem m20_59 : M20 59 [.val (.ref r), l1, l2, l3] st H Q = M20 60 [.val (.ref r), l1, l2, l3] (.ref r :: st) H Q := w_x (show decode kb20 59 = .ok (.aload_n 0, 1) from by decide +kernel) rfl
theorem cr20_94 : vR tables_1 dn y20 94 = some (true, y21, prog_1_method_44_code, 2, none, 0, 112) := pR_of (cR_of (by decide +kernel) rc_21 dn_21 dn_20 (sig := ⟨[], none⟩) (by decide +kernel) (by decide +kernel) rfl rfl) (by decide +kernel) (by decide +kernel)
theorem m20_60 : M20 60 ls [.ref b] (put b pre s A post) Q = M21 0 [.val (.ref b), .unset] [] (put b pre s A post) (fun v H1 => M20 63 ls (v.toList ++ []) H1 Q) := w_virt (as := []) (rest := []) (a := b) (show decode kb20 60 = .ok (.invokevirtual 94, 3) from by decide +kernel) cr20_94 put_o rfl rfl (Nat.le_of_ble_eq_true rfl) (by show 1 ≤ 2; omega) rfl
theorem m20_63 : M20 63 ls st H Q = M20 64 ls (.int 0 :: st) H Q := w_con (show decode kb20 63 = .ok (.iconst 0, 1) from by decide +kernel) rfl (by decide)
theorem m20_64i : M20 64 [l0, l1, .val (.int z), l3] ((.int v) :: st) H Q = M20 65 [l0, l1, .val (.int v), l3] st H Q := w_st (i := 2) (p := isI) (show decode kb20 64 = .ok (.istore_n 2, 1) from by decide +kernel) rfl rfl rfl rfl rfl rfl
theorem m20_65 : M20 65 [l0, l1, .val (.int v), l3] st H Q = M20 66 [l0, l1, .val (.int v), l3] (.int v :: st) H Q := w_x (show decode kb20 65 = .ok (.iload_n 2, 1) from by decide +kernel) rfl
theorem m20_66 : M20 66 [.val (.ref r), l1, l2, l3] st H Q = M20 67 [.val (.ref r), l1, l2, l3] (.ref r :: st) H Q := w_x (show decode kb20 66 = .ok (.aload_n 0, 1) from by decide +kernel) rfl
theorem m20_67 : M20 67 ls (.ref b :: st) (put b pre s A post) Q = M20 70 ls (.int (s 3) :: st) (put b pre s A post) Q := w_get (show decode kb20 67 = .ok (.getfield 65, 3) from by decide +kernel) gf_65 put_o rfl
theorem m20_70 : M20 70 ls (.int y :: .int x :: st) H Q = if x < y then M20 73 ls st H Q else M20 123 ls st H Q := w_icmpN (show decode kb20 70 = .ok (.if_icmp .ge 53, 3) from by decide +kernel) (i_ge x y) rfl
theorem m20_73 : M20 73 [l0, l1, .val (.int v), l3] st H Q = M20 74 [l0, l1, .val (.int v), l3] (.int v :: st) H Q := w_x (show decode kb20 73 = .ok (.iload_n 2, 1) from by decide +kernel) rfl
theorem m20_74 : M20 74 ls st H Q = M20 76 ls (.int 8 :: st) H Q := w_con (show decode kb20 74 = .ok (.bipush 8, 2) from by decide +kernel) rfl (by decide)
theorem m20_76 : M20 76 ls (.int y :: .int x :: st) H Q = if x < y then M20 79 ls st H Q else M20 123 ls st H Q := w_icmpN (show decode kb20 76 = .ok (.if_icmp .ge 47, 3) from by decide +kernel) (i_ge x y) rfl
theorem m20_79 : M20 79 [.val (.ref r), l1, l2, l3] st H Q = M20 80 [.val (.ref r), l1, l2, l3] (.ref r :: st) H Q := w_x (show decode kb20 79 = .ok (.aload_n 0, 1) from by decide +kernel) rfl
theorem m20_80 : M20 80 ls (.ref b :: st) (put b pre s A post) Q = M20 83 ls (.ref (b + 6) :: st) (put b pre s A post) Q := w_get (show decode kb20 80 = .ok (.getfield 25, 3) from by decide +kernel) gf_25 put_o rfl
theorem m20_83 : M20 83 [l0, l1, .val (.int v), l3] st H Q = M20 84 [l0, l1, .val (.int v), l3] (.int v :: st) H Q := w_x (show decode kb20 83 = .ok (.iload_n 2, 1) from by decide +kernel) rfl
theorem m20_84  : M20 84 ls (.int j :: .ref (b + 6) :: st) (put b pre s A post) Q = (inB j (A 5) ∧ M20 85 ls (.int (getA (A 5) j) :: st) (put b pre s A post) Q) := w_ild (show decode kb20 84 = .ok (.iaload, 1) from by decide +kernel) rfl put_a5
theorem m20_85 : M20 85 ls st H Q = M20 86 ls (.int 1 :: st) H Q := w_con (show decode kb20 85 = .ok (.iconst 1, 1) from by decide +kernel) rfl (by decide)
theorem m20_86 : M20 86 ls (.int y :: .int x :: st) H Q = M20 87 ls (.int (XT.ushr x y) :: st) H Q := w_x (show decode kb20 86 = .ok (.iushr, 1) from by decide +kernel) rfl
theorem m20_87u : M20 87 [l0, l1, l2, .unset] ((.int v) :: st) H Q = M20 88 [l0, l1, l2, .val (.int v)] st H Q := w_st (i := 3) (p := isI) (show decode kb20 87 = .ok (.istore_n 3, 1) from by decide +kernel) rfl rfl rfl rfl rfl rfl
theorem m20_87i : M20 87 [l0, l1, l2, .val (.int z)] ((.int v) :: st) H Q = M20 88 [l0, l1, l2, .val (.int v)] st H Q := w_st (i := 3) (p := isI) (show decode kb20 87 = .ok (.istore_n 3, 1) from by decide +kernel) rfl rfl rfl rfl rfl rfl
theorem m20_87r : M20 87 [l0, l1, l2, .val (.ref q)] ((.int v) :: st) H Q = M20 88 [l0, l1, l2, .val (.int v)] st H Q := w_st (i := 3) (p := isI) (show decode kb20 87 = .ok (.istore_n 3, 1) from by decide +kernel) rfl rfl rfl rfl rfl rfl
theorem m20_88 : M20 88 [.val (.ref r), l1, l2, l3] st H Q = M20 89 [.val (.ref r), l1, l2, l3] (.ref r :: st) H Q := w_x (show decode kb20 88 = .ok (.aload_n 0, 1) from by decide +kernel) rfl
theorem m20_89 : M20 89 ls (.ref b :: st) (put b pre s A post) Q = M20 92 ls (.ref (b + 1) :: st) (put b pre s A post) Q := w_get (show decode kb20 89 = .ok (.getfield 7, 3) from by decide +kernel) gf_7 put_o rfl
theorem m20_92 : M20 92 [l0, l1, l2, .val (.int v)] st H Q = M20 93 [l0, l1, l2, .val (.int v)] (.int v :: st) H Q := w_x (show decode kb20 92 = .ok (.iload_n 3, 1) from by decide +kernel) rfl
theorem m20_93  : M20 93 ls (.int j :: .ref (b + 1) :: st) (put b pre s A post) Q = (inB j (A 0) ∧ M20 94 ls (.int (getA (A 0) j) :: st) (put b pre s A post) Q) := w_ild (show decode kb20 93 = .ok (.iaload, 1) from by decide +kernel) rfl put_a0
theorem m20_94 : M20 94 ls st H Q = M20 95 ls (.int 2 :: st) H Q := w_con (show decode kb20 94 = .ok (.iconst 2, 1) from by decide +kernel) rfl (by decide)
theorem m20_95 : M20 95 ls (.int y :: .int x :: st) H Q = if x = y then M20 98 ls st H Q else M20 117 ls st H Q := w_icmpN (show decode kb20 95 = .ok (.if_icmp .ne 22, 3) from by decide +kernel) (i_ne x y) rfl
theorem m20_98 : M20 98 [.val (.ref r), l1, l2, l3] st H Q = M20 99 [.val (.ref r), l1, l2, l3] (.ref r :: st) H Q := w_x (show decode kb20 98 = .ok (.aload_n 0, 1) from by decide +kernel) rfl
theorem m20_99 : M20 99 ls ((.ref r) :: st) H Q = M20 100 ls ((.ref r) :: (.ref r) :: st) H Q := w_x (show decode kb20 99 = .ok (.dup, 1) from by decide +kernel) rfl
theorem m20_100 : M20 100 ls (.ref b :: st) (put b pre s A post) Q = M20 103 ls (.int (s 12) :: st) (put b pre s A post) Q := w_get (show decode kb20 100 = .ok (.getfield 75, 3) from by decide +kernel) gf_75 put_o rfl
theorem m20_103 : M20 103 ls st H Q = M20 104 ls (.int 1 :: st) H Q := w_con (show decode kb20 103 = .ok (.iconst 1, 1) from by decide +kernel) rfl (by decide)
theorem m20_104 : M20 104 [l0, l1, l2, .val (.int v)] st H Q = M20 105 [l0, l1, l2, .val (.int v)] (.int v :: st) H Q := w_x (show decode kb20 104 = .ok (.iload_n 3, 1) from by decide +kernel) rfl
theorem m20_105 : M20 105 ls (.int y :: .int x :: st) H Q = M20 106 ls (.int (x <<< (y &&& 31)) :: st) H Q := w_x (show decode kb20 105 = .ok (.ishl, 1) from by decide +kernel) rfl
theorem m20_106 : M20 106 ls (.int y :: .int x :: st) H Q = M20 107 ls (.int (x ||| y) :: st) H Q := w_x (show decode kb20 106 = .ok (.ior, 1) from by decide +kernel) rfl
theorem pf20_75 : pfR tables_1 y20.cls y20.name 75 = some ("LutMapper", 21, .int) := by decide +kernel
theorem m20_107 : M20 107 ls (.int v :: .ref b :: st) (put b pre s A post) Q = M20 110 ls st (put b pre (ou s 12 v) A post) Q := w_put (show decode kb20 107 = .ok (.putfield 75, 3) from by decide +kernel) pf20_75 put_o (Nat.zero_le _) (by show 21 < 28; omega) rfl put_s12
theorem m20_110 : M20 110 [.val (.ref r), l1, l2, l3] st H Q = M20 111 [.val (.ref r), l1, l2, l3] (.ref r :: st) H Q := w_x (show decode kb20 110 = .ok (.aload_n 0, 1) from by decide +kernel) rfl
theorem m20_111 : M20 111 ls (.ref b :: st) (put b pre s A post) Q = M20 114 ls (.ref (b + 12) :: st) (put b pre s A post) Q := w_get (show decode kb20 111 = .ok (.getfield 43, 3) from by decide +kernel) gf_43 put_o rfl
theorem m20_114 : M20 114 [l0, l1, l2, .val (.int v)] st H Q = M20 115 [l0, l1, l2, .val (.int v)] (.int v :: st) H Q := w_x (show decode kb20 114 = .ok (.iload_n 3, 1) from by decide +kernel) rfl
theorem m20_115 : M20 115 [l0, .val (.int v), l2, l3] st H Q = M20 116 [l0, .val (.int v), l2, l3] (.int v :: st) H Q := w_x (show decode kb20 115 = .ok (.iload_n 1, 1) from by decide +kernel) rfl
theorem m20_116  : M20 116 ls (.int v :: .int j :: .ref (b + 12) :: st) (put b pre s A post) Q = (inB j (A 11) ∧ M20 117 ls st (put b pre s (ou A 11 (setA (A 11) j v)) post) Q) := w_ist (show decode kb20 116 = .ok (.iastore, 1) from by decide +kernel) rfl put_a11 (Nat.zero_le _) rfl put_w11
theorem m20_117 : M20 117 [l0, l1, .val (.int v), l3] st H Q = M20 120 [l0, l1, .val (.int (v + 1)), l3] st H Q := w_iinc (show decode kb20 117 = .ok (.iinc 2 1, 3) from by decide +kernel) rfl (by decide) rfl
theorem m20_120 : M20 120 ls st H Q = M20 65 ls st H Q := w_x (show decode kb20 120 = .ok (.goto (-55), 3) from by decide +kernel) rfl
theorem m20_123 : M20 123 [.val (.ref r), l1, l2, l3] st H Q = M20 124 [.val (.ref r), l1, l2, l3] (.ref r :: st) H Q := w_x (show decode kb20 123 = .ok (.aload_n 0, 1) from by decide +kernel) rfl
theorem m20_124 : M20 124 ls (.ref b :: st) (put b pre s A post) Q = M20 127 ls (.int (s 1) :: st) (put b pre s A post) Q := w_get (show decode kb20 124 = .ok (.getfield 59, 3) from by decide +kernel) gf_59 put_o rfl
theorem m20_127 : M20 127 ls st H Q = M20 128 ls (.int 1 :: st) H Q := w_con (show decode kb20 127 = .ok (.iconst 1, 1) from by decide +kernel) rfl (by decide)
theorem m20_128 : M20 128 ls (.int y :: .int x :: st) H Q = M20 129 ls (.int (x - y) :: st) H Q := w_x (show decode kb20 128 = .ok (.isub, 1) from by decide +kernel) rfl
theorem m20_129i : M20 129 [l0, l1, .val (.int z), l3] ((.int v) :: st) H Q = M20 130 [l0, l1, .val (.int v), l3] st H Q := w_st (i := 2) (p := isI) (show decode kb20 129 = .ok (.istore_n 2, 1) from by decide +kernel) rfl rfl rfl rfl rfl rfl
theorem m20_130 : M20 130 [l0, l1, .val (.int v), l3] st H Q = M20 131 [l0, l1, .val (.int v), l3] (.int v :: st) H Q := w_x (show decode kb20 130 = .ok (.iload_n 2, 1) from by decide +kernel) rfl
theorem m20_131 : M20 131 ls (.int x :: st) H Q = if x < 0 then M20 167 ls st H Q else M20 134 ls st H Q := w_if (show decode kb20 131 = .ok (.ifCond .lt 36, 3) from by decide +kernel) (z_lt x) rfl
theorem m20_134 : M20 134 [.val (.ref r), l1, l2, l3] st H Q = M20 135 [.val (.ref r), l1, l2, l3] (.ref r :: st) H Q := w_x (show decode kb20 134 = .ok (.aload_n 0, 1) from by decide +kernel) rfl
theorem m20_135 : M20 135 [.val (.ref r), l1, l2, l3] st H Q = M20 136 [.val (.ref r), l1, l2, l3] (.ref r :: st) H Q := w_x (show decode kb20 135 = .ok (.aload_n 0, 1) from by decide +kernel) rfl
theorem m20_136 : M20 136 ls (.ref b :: st) (put b pre s A post) Q = M20 139 ls (.int (s 12) :: st) (put b pre s A post) Q := w_get (show decode kb20 136 = .ok (.getfield 75, 3) from by decide +kernel) gf_75 put_o rfl
theorem m20_139 : M20 139 [l0, l1, .val (.int v), l3] st H Q = M20 140 [l0, l1, .val (.int v), l3] (.int v :: st) H Q := w_x (show decode kb20 139 = .ok (.iload_n 2, 1) from by decide +kernel) rfl
theorem cr20_97 : vR tables_1 dn y20 97 = some (true, y8, prog_1_method_19_code, 3, (some .int), 2, 111) := pR_of (cR_of (by decide +kernel) rc_8 dn_8 dn_20 (sig := ⟨[.int, .int], some .int⟩) (by decide +kernel) (by decide +kernel) rfl rfl) (by decide +kernel) (by decide +kernel)
theorem m20_140 (a0 : Int32) (a1 : Int32) : M20 140 ls [.int a1, .int a0, .ref b] (put b pre s A post) Q = M8 0 [.val (.ref b), .val (.int a0), .val (.int a1)] [] (put b pre s A post) (fun v H1 => M20 143 ls (v.toList ++ []) H1 Q) := w_virt (as := [.int a1, .int a0]) (rest := []) (a := b) (show decode kb20 140 = .ok (.invokevirtual 97, 3) from by decide +kernel) cr20_97 put_o rfl rfl (Nat.le_of_ble_eq_true rfl) (by show 3 ≤ 3; omega) rfl
theorem m20_143 : M20 143 ls (.int x :: st) H Q = if x = 0 then M20 161 ls st H Q else M20 146 ls st H Q := w_if (show decode kb20 143 = .ok (.ifCond .eq 18, 3) from by decide +kernel) (z_eq x) rfl
theorem m20_146 : M20 146 [.val (.ref r), l1, l2, l3] st H Q = M20 147 [.val (.ref r), l1, l2, l3] (.ref r :: st) H Q := w_x (show decode kb20 146 = .ok (.aload_n 0, 1) from by decide +kernel) rfl
theorem m20_147 : M20 147 ls (.ref b :: st) (put b pre s A post) Q = M20 150 ls (.ref (b + 1) :: st) (put b pre s A post) Q := w_get (show decode kb20 147 = .ok (.getfield 7, 3) from by decide +kernel) gf_7 put_o rfl
theorem m20_150 : M20 150 [l0, l1, .val (.int v), l3] st H Q = M20 151 [l0, l1, .val (.int v), l3] (.int v :: st) H Q := w_x (show decode kb20 150 = .ok (.iload_n 2, 1) from by decide +kernel) rfl
theorem m20_151  : M20 151 ls (.int j :: .ref (b + 1) :: st) (put b pre s A post) Q = (inB j (A 0) ∧ M20 152 ls (.int (getA (A 0) j) :: st) (put b pre s A post) Q) := w_ild (show decode kb20 151 = .ok (.iaload, 1) from by decide +kernel) rfl put_a0
theorem m20_152 : M20 152 ls st H Q = M20 153 ls (.int 2 :: st) H Q := w_con (show decode kb20 152 = .ok (.iconst 2, 1) from by decide +kernel) rfl (by decide)
theorem m20_153 : M20 153 ls (.int y :: .int x :: st) H Q = if x = y then M20 156 ls st H Q else M20 161 ls st H Q := w_icmpN (show decode kb20 153 = .ok (.if_icmp .ne 8, 3) from by decide +kernel) (i_ne x y) rfl
theorem m20_156 : M20 156 [.val (.ref r), l1, l2, l3] st H Q = M20 157 [.val (.ref r), l1, l2, l3] (.ref r :: st) H Q := w_x (show decode kb20 156 = .ok (.aload_n 0, 1) from by decide +kernel) rfl
theorem m20_157 : M20 157 [l0, l1, .val (.int v), l3] st H Q = M20 158 [l0, l1, .val (.int v), l3] (.int v :: st) H Q := w_x (show decode kb20 157 = .ok (.iload_n 2, 1) from by decide +kernel) rfl
theorem cr20_100 : vR tables_1 dn y20 100 = some (true, y22, prog_1_method_46_code, 5, none, 1, 0) := pR_of (cR_of (by decide +kernel) rc_22 dn_22 dn_20 (sig := ⟨[.int], none⟩) (by decide +kernel) (by decide +kernel) rfl rfl) (by decide +kernel) (by decide +kernel)
theorem m20_158 (a0 : Int32) : M20 158 ls [.int a0, .ref b] (put b pre s A post) Q = M22 0 [.val (.ref b), .val (.int a0), .unset, .unset, .unset] [] (put b pre s A post) (fun v H1 => M20 161 ls (v.toList ++ []) H1 Q) := w_virt (as := [.int a0]) (rest := []) (a := b) (show decode kb20 158 = .ok (.invokevirtual 100, 3) from by decide +kernel) cr20_100 put_o rfl rfl (Nat.le_of_ble_eq_true rfl) (by show 2 ≤ 5; omega) rfl
theorem m20_161 : M20 161 [l0, l1, .val (.int v), l3] st H Q = M20 164 [l0, l1, .val (.int (v + (-1))), l3] st H Q := w_iinc (show decode kb20 161 = .ok (.iinc 2 (-1), 3) from by decide +kernel) rfl (by decide) rfl
theorem m20_164 : M20 164 ls st H Q = M20 130 ls st H Q := w_x (show decode kb20 164 = .ok (.goto (-34), 3) from by decide +kernel) rfl
theorem m20_167 : M20 167 [.val (.ref r), l1, l2, l3] st H Q = M20 168 [.val (.ref r), l1, l2, l3] (.ref r :: st) H Q := w_x (show decode kb20 167 = .ok (.aload_n 0, 1) from by decide +kernel) rfl
theorem m20_168 : M20 168 ls st H Q = M20 169 ls (.int 1 :: st) H Q := w_con (show decode kb20 168 = .ok (.iconst 1, 1) from by decide +kernel) rfl (by decide)
theorem pf20_68 : pfR tables_1 y20.cls y20.name 68 = some ("LutMapper", 19, .boolean) := by decide +kernel
theorem m20_169 : M20 169 ls (.int v :: .ref b :: st) (put b pre s A post) Q = M20 172 ls st (put b pre (ou s 10 (nar .boolean v)) A post) Q := w_put (show decode kb20 169 = .ok (.putfield 68, 3) from by decide +kernel) pf20_68 put_o (Nat.zero_le _) (by show 19 < 28; omega) rfl put_s10
theorem m20_172 : M20 172 [.val (.ref r), l1, l2, l3] st H Q = M20 173 [.val (.ref r), l1, l2, l3] (.ref r :: st) H Q := w_x (show decode kb20 172 = .ok (.aload_n 0, 1) from by decide +kernel) rfl
theorem m20_173 : M20 173 [l0, .val (.int v), l2, l3] st H Q = M20 174 [l0, .val (.int v), l2, l3] (.int v :: st) H Q := w_x (show decode kb20 173 = .ok (.iload_n 1, 1) from by decide +kernel) rfl
theorem pf20_72 : pfR tables_1 y20.cls y20.name 72 = some ("LutMapper", 20, .int) := by decide +kernel
theorem m20_174 : M20 174 ls (.int v :: .ref b :: st) (put b pre s A post) Q = M20 177 ls st (put b pre (ou s 11 v) A post) Q := w_put (show decode kb20 174 = .ok (.putfield 72, 3) from by decide +kernel) pf20_72 put_o (Nat.zero_le _) (by show 20 < 28; omega) rfl put_s11
theorem m20_177 : M20 177 [l0, .val (.int v), l2, l3] st H Q = M20 178 [l0, .val (.int v), l2, l3] (.int v :: st) H Q := w_x (show decode kb20 177 = .ok (.iload_n 1, 1) from by decide +kernel) rfl
theorem m20_178 : M20 178 ls (.int z :: st) H Q = Q (some (.int z)) H := w_iret (show decode kb20 178 = .ok (.ireturn, 1) from by decide +kernel) rfl
theorem m21_0 : M21 0 [.val (.ref r), l1] st H Q = M21 1 [.val (.ref r), l1] (.ref r :: st) H Q := w_x (show decode kb21 0 = .ok (.aload_n 0, 1) from by decide +kernel) rfl
theorem m21_1 : M21 1 ls st H Q = M21 2 ls (.int 0 :: st) H Q := w_con (show decode kb21 1 = .ok (.iconst 0, 1) from by decide +kernel) rfl (by decide)
theorem pf21_75 : pfR tables_1 y21.cls y21.name 75 = some ("LutMapper", 21, .int) := by decide +kernel
theorem m21_2 : M21 2 ls (.int v :: .ref b :: st) (put b pre s A post) Q = M21 5 ls st (put b pre (ou s 12 v) A post) Q := w_put (show decode kb21 2 = .ok (.putfield 75, 3) from by decide +kernel) pf21_75 put_o (Nat.zero_le _) (by show 21 < 28; omega) rfl put_s12
theorem m21_5 : M21 5 ls st H Q = M21 6 ls (.int 0 :: st) H Q := w_con (show decode kb21 5 = .ok (.iconst 0, 1) from by decide +kernel) rfl (by decide)
theorem m21_6u : M21 6 [l0, .unset] ((.int v) :: st) H Q = M21 7 [l0, .val (.int v)] st H Q := w_st (i := 1) (p := isI) (show decode kb21 6 = .ok (.istore_n 1, 1) from by decide +kernel) rfl rfl rfl rfl rfl rfl
theorem m21_7 : M21 7 [l0, .val (.int v)] st H Q = M21 8 [l0, .val (.int v)] (.int v :: st) H Q := w_x (show decode kb21 7 = .ok (.iload_n 1, 1) from by decide +kernel) rfl
theorem m21_8 : M21 8 ls st H Q = M21 10 ls (.int 32 :: st) H Q := w_con (show decode kb21 8 = .ok (.bipush 32, 2) from by decide +kernel) rfl (by decide)
theorem m21_10 : M21 10 ls (.int y :: .int x :: st) H Q = if x < y then M21 13 ls st H Q else M21 41 ls st H Q := w_icmpN (show decode kb21 10 = .ok (.if_icmp .ge 31, 3) from by decide +kernel) (i_ge x y) rfl
theorem m21_13 : M21 13 [.val (.ref r), l1] st H Q = M21 14 [.val (.ref r), l1] (.ref r :: st) H Q := w_x (show decode kb21 13 = .ok (.aload_n 0, 1) from by decide +kernel) rfl
theorem m21_14 : M21 14 ls (.ref b :: st) (put b pre s A post) Q = M21 17 ls (.ref (b + 12) :: st) (put b pre s A post) Q := w_get (show decode kb21 14 = .ok (.getfield 43, 3) from by decide +kernel) gf_43 put_o rfl
theorem m21_17 : M21 17 [l0, .val (.int v)] st H Q = M21 18 [l0, .val (.int v)] (.int v :: st) H Q := w_x (show decode kb21 17 = .ok (.iload_n 1, 1) from by decide +kernel) rfl
theorem m21_18 : M21 18 ls st H Q = M21 20 ls (.int 1048576 :: st) H Q := w_ldc (show decode kb21 18 = .ok (.ldc 194, 2) from by decide +kernel) (by decide +kernel)
theorem m21_20  : M21 20 ls (.int v :: .int j :: .ref (b + 12) :: st) (put b pre s A post) Q = (inB j (A 11) ∧ M21 21 ls st (put b pre s (ou A 11 (setA (A 11) j v)) post) Q) := w_ist (show decode kb21 20 = .ok (.iastore, 1) from by decide +kernel) rfl put_a11 (Nat.zero_le _) rfl put_w11
theorem m21_21 : M21 21 [.val (.ref r), l1] st H Q = M21 22 [.val (.ref r), l1] (.ref r :: st) H Q := w_x (show decode kb21 21 = .ok (.aload_n 0, 1) from by decide +kernel) rfl
theorem m21_22 : M21 22 ls (.ref b :: st) (put b pre s A post) Q = M21 25 ls (.ref (b + 13) :: st) (put b pre s A post) Q := w_get (show decode kb21 22 = .ok (.getfield 46, 3) from by decide +kernel) gf_46 put_o rfl
theorem m21_25 : M21 25 [l0, .val (.int v)] st H Q = M21 26 [l0, .val (.int v)] (.int v :: st) H Q := w_x (show decode kb21 25 = .ok (.iload_n 1, 1) from by decide +kernel) rfl
theorem m21_26 : M21 26 ls st H Q = M21 27 ls (.int 0 :: st) H Q := w_con (show decode kb21 26 = .ok (.iconst 0, 1) from by decide +kernel) rfl (by decide)
theorem m21_27  : M21 27 ls (.int v :: .int j :: .ref (b + 13) :: st) (put b pre s A post) Q = (inB j (A 12) ∧ M21 28 ls st (put b pre s (ou A 12 (setA (A 12) j v)) post) Q) := w_ist (show decode kb21 27 = .ok (.iastore, 1) from by decide +kernel) rfl put_a12 (Nat.zero_le _) rfl put_w12
theorem m21_28 : M21 28 [.val (.ref r), l1] st H Q = M21 29 [.val (.ref r), l1] (.ref r :: st) H Q := w_x (show decode kb21 28 = .ok (.aload_n 0, 1) from by decide +kernel) rfl
theorem m21_29 : M21 29 ls (.ref b :: st) (put b pre s A post) Q = M21 32 ls (.ref (b + 14) :: st) (put b pre s A post) Q := w_get (show decode kb21 29 = .ok (.getfield 49, 3) from by decide +kernel) gf_49 put_o rfl
theorem m21_32 : M21 32 [l0, .val (.int v)] st H Q = M21 33 [l0, .val (.int v)] (.int v :: st) H Q := w_x (show decode kb21 32 = .ok (.iload_n 1, 1) from by decide +kernel) rfl
theorem m21_33 : M21 33 ls st H Q = M21 34 ls (.int 0 :: st) H Q := w_con (show decode kb21 33 = .ok (.iconst 0, 1) from by decide +kernel) rfl (by decide)
theorem m21_34  : M21 34 ls (.int v :: .int j :: .ref (b + 14) :: st) (put b pre s A post) Q = (inB j (A 13) ∧ M21 35 ls st (put b pre s (ou A 13 (setA (A 13) j v)) post) Q) := w_ist (show decode kb21 34 = .ok (.iastore, 1) from by decide +kernel) rfl put_a13 (Nat.zero_le _) rfl put_w13
theorem m21_35 : M21 35 [l0, .val (.int v)] st H Q = M21 38 [l0, .val (.int (v + 1))] st H Q := w_iinc (show decode kb21 35 = .ok (.iinc 1 1, 3) from by decide +kernel) rfl (by decide) rfl
theorem m21_38 : M21 38 ls st H Q = M21 7 ls st H Q := w_x (show decode kb21 38 = .ok (.goto (-31), 3) from by decide +kernel) rfl
theorem m21_41 : M21 41 ls [] H Q = Q none H := w_vret (show decode kb21 41 = .ok (.return_, 1) from by decide +kernel) rfl
theorem m22_0 : M22 0 [.val (.ref r), l1, l2, l3, l4] st H Q = M22 1 [.val (.ref r), l1, l2, l3, l4] (.ref r :: st) H Q := w_x (show decode kb22 0 = .ok (.aload_n 0, 1) from by decide +kernel) rfl
theorem m22_1 : M22 1 ls (.ref b :: st) (put b pre s A post) Q = M22 4 ls (.ref (b + 12) :: st) (put b pre s A post) Q := w_get (show decode kb22 1 = .ok (.getfield 43, 3) from by decide +kernel) gf_43 put_o rfl
theorem m22_4 : M22 4 [l0, .val (.int v), l2, l3, l4] st H Q = M22 5 [l0, .val (.int v), l2, l3, l4] (.int v :: st) H Q := w_x (show decode kb22 4 = .ok (.iload_n 1, 1) from by decide +kernel) rfl
theorem m22_5  : M22 5 ls (.int j :: .ref (b + 12) :: st) (put b pre s A post) Q = (inB j (A 11) ∧ M22 6 ls (.int (getA (A 11) j) :: st) (put b pre s A post) Q) := w_ild (show decode kb22 5 = .ok (.iaload, 1) from by decide +kernel) rfl put_a11
theorem m22_6u : M22 6 [l0, l1, .unset, l3, l4] ((.int v) :: st) H Q = M22 7 [l0, l1, .val (.int v), l3, l4] st H Q := w_st (i := 2) (p := isI) (show decode kb22 6 = .ok (.istore_n 2, 1) from by decide +kernel) rfl rfl rfl rfl rfl rfl
theorem m22_7 : M22 7 [.val (.ref r), l1, l2, l3, l4] st H Q = M22 8 [.val (.ref r), l1, l2, l3, l4] (.ref r :: st) H Q := w_x (show decode kb22 7 = .ok (.aload_n 0, 1) from by decide +kernel) rfl
theorem m22_8 : M22 8 [l0, .val (.int v), l2, l3, l4] st H Q = M22 9 [l0, .val (.int v), l2, l3, l4] (.int v :: st) H Q := w_x (show decode kb22 8 = .ok (.iload_n 1, 1) from by decide +kernel) rfl
theorem m22_9 : M22 9 [l0, l1, .val (.int v), l3, l4] st H Q = M22 10 [l0, l1, .val (.int v), l3, l4] (.int v :: st) H Q := w_x (show decode kb22 9 = .ok (.iload_n 2, 1) from by decide +kernel) rfl
theorem cr22_199 : vR tables_1 dn y22 199 = some (true, y23, prog_1_method_45_code, 6, (some .int), 2, 0) := pR_of (cR_of (by decide +kernel) rc_23 dn_23 dn_22 (sig := ⟨[.int, .int], some .int⟩) (by decide +kernel) (by decide +kernel) rfl rfl) (by decide +kernel) (by decide +kernel)
theorem m22_10 (a0 : Int32) (a1 : Int32) : M22 10 ls [.int a1, .int a0, .ref b] (put b pre s A post) Q = M23 0 [.val (.ref b), .val (.int a0), .val (.int a1), .unset, .unset, .unset] [] (put b pre s A post) (fun v H1 => M22 13 ls (v.toList ++ []) H1 Q) := w_virt (as := [.int a1, .int a0]) (rest := []) (a := b) (show decode kb22 10 = .ok (.invokevirtual 199, 3) from by decide +kernel) cr22_199 put_o rfl rfl (Nat.le_of_ble_eq_true rfl) (by show 3 ≤ 6; omega) rfl
theorem m22_13u : M22 13 [l0, l1, l2, .unset, l4] ((.int v) :: st) H Q = M22 14 [l0, l1, l2, .val (.int v), l4] st H Q := w_st (i := 3) (p := isI) (show decode kb22 13 = .ok (.istore_n 3, 1) from by decide +kernel) rfl rfl rfl rfl rfl rfl
theorem m22_14 : M22 14 [.val (.ref r), l1, l2, l3, l4] st H Q = M22 15 [.val (.ref r), l1, l2, l3, l4] (.ref r :: st) H Q := w_x (show decode kb22 14 = .ok (.aload_n 0, 1) from by decide +kernel) rfl
theorem m22_15 : M22 15 ls (.ref b :: st) (put b pre s A post) Q = M22 18 ls (.ref (b + 13) :: st) (put b pre s A post) Q := w_get (show decode kb22 15 = .ok (.getfield 46, 3) from by decide +kernel) gf_46 put_o rfl
theorem m22_18 : M22 18 [l0, .val (.int v), l2, l3, l4] st H Q = M22 19 [l0, .val (.int v), l2, l3, l4] (.int v :: st) H Q := w_x (show decode kb22 18 = .ok (.iload_n 1, 1) from by decide +kernel) rfl
theorem m22_19 : M22 19 [l0, l1, l2, .val (.int v), l4] st H Q = M22 20 [l0, l1, l2, .val (.int v), l4] (.int v :: st) H Q := w_x (show decode kb22 19 = .ok (.iload_n 3, 1) from by decide +kernel) rfl
theorem m22_20  : M22 20 ls (.int v :: .int j :: .ref (b + 13) :: st) (put b pre s A post) Q = (inB j (A 12) ∧ M22 21 ls st (put b pre s (ou A 12 (setA (A 12) j v)) post) Q) := w_ist (show decode kb22 20 = .ok (.iastore, 1) from by decide +kernel) rfl put_a12 (Nat.zero_le _) rfl put_w12
theorem m22_21 : M22 21 [.val (.ref r), l1, l2, l3, l4] st H Q = M22 22 [.val (.ref r), l1, l2, l3, l4] (.ref r :: st) H Q := w_x (show decode kb22 21 = .ok (.aload_n 0, 1) from by decide +kernel) rfl
theorem m22_22 : M22 22 ls (.ref b :: st) (put b pre s A post) Q = M22 25 ls (.ref (b + 14) :: st) (put b pre s A post) Q := w_get (show decode kb22 22 = .ok (.getfield 49, 3) from by decide +kernel) gf_49 put_o rfl
theorem m22_25 : M22 25 [l0, .val (.int v), l2, l3, l4] st H Q = M22 26 [l0, .val (.int v), l2, l3, l4] (.int v :: st) H Q := w_x (show decode kb22 25 = .ok (.iload_n 1, 1) from by decide +kernel) rfl
theorem m22_26 : M22 26 [.val (.ref r), l1, l2, l3, l4] st H Q = M22 27 [.val (.ref r), l1, l2, l3, l4] (.ref r :: st) H Q := w_x (show decode kb22 26 = .ok (.aload_n 0, 1) from by decide +kernel) rfl
theorem m22_27 : M22 27 [l0, .val (.int v), l2, l3, l4] st H Q = M22 28 [l0, .val (.int v), l2, l3, l4] (.int v :: st) H Q := w_x (show decode kb22 27 = .ok (.iload_n 1, 1) from by decide +kernel) rfl
theorem m22_28 : M22 28 [l0, l1, l2, .val (.int v), l4] st H Q = M22 29 [l0, l1, l2, .val (.int v), l4] (.int v :: st) H Q := w_x (show decode kb22 28 = .ok (.iload_n 3, 1) from by decide +kernel) rfl
theorem cr22_90 : vR tables_1 dn y22 90 = some (true, y30, prog_1_method_28_code, 6, (some .int), 2, 62) := pR_of (cR_of (by decide +kernel) rc_30 dn_30 dn_22 (sig := ⟨[.int, .int], some .int⟩) (by decide +kernel) (by decide +kernel) rfl rfl) (by decide +kernel) (by decide +kernel)
theorem m22_29 (a0 : Int32) (a1 : Int32) (u0 : Int32) (u1 : Nat) : M22 29 ls [.int a1, .int a0, .ref b, .int u0, .ref u1] (put b pre s A post) Q = M30 0 [.val (.ref b), .val (.int a0), .val (.int a1), .unset, .unset, .unset] [] (put b pre s A post) (fun v H1 => M22 32 ls (v.toList ++ [.int u0, .ref u1]) H1 Q) := w_virt (as := [.int a1, .int a0]) (rest := [.int u0, .ref u1]) (a := b) (show decode kb22 29 = .ok (.invokevirtual 90, 3) from by decide +kernel) cr22_90 put_o rfl rfl (Nat.le_of_ble_eq_true rfl) (by show 3 ≤ 6; omega) rfl
theorem m22_32  : M22 32 ls (.int v :: .int j :: .ref (b + 14) :: st) (put b pre s A post) Q = (inB j (A 13) ∧ M22 33 ls st (put b pre s (ou A 13 (setA (A 13) j v)) post) Q) := w_ist (show decode kb22 32 = .ok (.iastore, 1) from by decide +kernel) rfl put_a13 (Nat.zero_le _) rfl put_w13
theorem m22_33 : M22 33 ls st H Q = M22 34 ls (.int 0 :: st) H Q := w_con (show decode kb22 33 = .ok (.iconst 0, 1) from by decide +kernel) rfl (by decide)
theorem m22_34u : M22 34 [l0, l1, l2, l3, .unset] ((.int v) :: st) H Q = M22 36 [l0, l1, l2, l3, .val (.int v)] st H Q := w_st (i := 4) (p := isI) (show decode kb22 34 = .ok (.istore 4, 2) from by decide +kernel) rfl rfl rfl rfl rfl rfl
theorem m22_36 : M22 36 [l0, l1, l2, l3, .val (.int v)] st H Q = M22 38 [l0, l1, l2, l3, .val (.int v)] (.int v :: st) H Q := w_x (show decode kb22 36 = .ok (.iload 4, 2) from by decide +kernel) rfl
theorem m22_38 : M22 38 [l0, .val (.int v), l2, l3, l4] st H Q = M22 39 [l0, .val (.int v), l2, l3, l4] (.int v :: st) H Q := w_x (show decode kb22 38 = .ok (.iload_n 1, 1) from by decide +kernel) rfl
theorem m22_39 : M22 39 ls (.int y :: .int x :: st) H Q = if x < y then M22 42 ls st H Q else M22 108 ls st H Q := w_icmpN (show decode kb22 39 = .ok (.if_icmp .ge 69, 3) from by decide +kernel) (i_ge x y) rfl
theorem m22_42 : M22 42 [.val (.ref r), l1, l2, l3, l4] st H Q = M22 43 [.val (.ref r), l1, l2, l3, l4] (.ref r :: st) H Q := w_x (show decode kb22 42 = .ok (.aload_n 0, 1) from by decide +kernel) rfl
theorem m22_43 : M22 43 [l0, l1, l2, .val (.int v), l4] st H Q = M22 44 [l0, l1, l2, .val (.int v), l4] (.int v :: st) H Q := w_x (show decode kb22 43 = .ok (.iload_n 3, 1) from by decide +kernel) rfl
theorem m22_44 : M22 44 [l0, l1, l2, l3, .val (.int v)] st H Q = M22 46 [l0, l1, l2, l3, .val (.int v)] (.int v :: st) H Q := w_x (show decode kb22 44 = .ok (.iload 4, 2) from by decide +kernel) rfl
theorem cr22_97 : vR tables_1 dn y22 97 = some (true, y8, prog_1_method_19_code, 3, (some .int), 2, 95) := pR_of (cR_of (by decide +kernel) rc_8 dn_8 dn_22 (sig := ⟨[.int, .int], some .int⟩) (by decide +kernel) (by decide +kernel) rfl rfl) (by decide +kernel) (by decide +kernel)
theorem m22_46 (a0 : Int32) (a1 : Int32) : M22 46 ls [.int a1, .int a0, .ref b] (put b pre s A post) Q = M8 0 [.val (.ref b), .val (.int a0), .val (.int a1)] [] (put b pre s A post) (fun v H1 => M22 49 ls (v.toList ++ []) H1 Q) := w_virt (as := [.int a1, .int a0]) (rest := []) (a := b) (show decode kb22 46 = .ok (.invokevirtual 97, 3) from by decide +kernel) cr22_97 put_o rfl rfl (Nat.le_of_ble_eq_true rfl) (by show 3 ≤ 3; omega) rfl
theorem m22_49 : M22 49 ls (.int x :: st) H Q = if x = 0 then M22 102 ls st H Q else M22 52 ls st H Q := w_if (show decode kb22 49 = .ok (.ifCond .eq 53, 3) from by decide +kernel) (z_eq x) rfl
theorem m22_52 : M22 52 [.val (.ref r), l1, l2, l3, l4] st H Q = M22 53 [.val (.ref r), l1, l2, l3, l4] (.ref r :: st) H Q := w_x (show decode kb22 52 = .ok (.aload_n 0, 1) from by decide +kernel) rfl
theorem m22_53 : M22 53 ls (.ref b :: st) (put b pre s A post) Q = M22 56 ls (.ref (b + 1) :: st) (put b pre s A post) Q := w_get (show decode kb22 53 = .ok (.getfield 7, 3) from by decide +kernel) gf_7 put_o rfl
theorem m22_56 : M22 56 [l0, l1, l2, l3, .val (.int v)] st H Q = M22 58 [l0, l1, l2, l3, .val (.int v)] (.int v :: st) H Q := w_x (show decode kb22 56 = .ok (.iload 4, 2) from by decide +kernel) rfl
theorem m22_58  : M22 58 ls (.int j :: .ref (b + 1) :: st) (put b pre s A post) Q = (inB j (A 0) ∧ M22 59 ls (.int (getA (A 0) j) :: st) (put b pre s A post) Q) := w_ild (show decode kb22 58 = .ok (.iaload, 1) from by decide +kernel) rfl put_a0
theorem m22_59 : M22 59 ls st H Q = M22 60 ls (.int 2 :: st) H Q := w_con (show decode kb22 59 = .ok (.iconst 2, 1) from by decide +kernel) rfl (by decide)
theorem m22_60 : M22 60 ls (.int y :: .int x :: st) H Q = if x = y then M22 66 ls st H Q else M22 63 ls st H Q := w_icmp (show decode kb22 60 = .ok (.if_icmp .eq 6, 3) from by decide +kernel) (i_eq x y) rfl
theorem m22_63 : M22 63 ls st H Q = M22 102 ls st H Q := w_x (show decode kb22 63 = .ok (.goto 39, 3) from by decide +kernel) rfl
theorem m22_66 : M22 66 [.val (.ref r), l1, l2, l3, l4] st H Q = M22 67 [.val (.ref r), l1, l2, l3, l4] (.ref r :: st) H Q := w_x (show decode kb22 66 = .ok (.aload_n 0, 1) from by decide +kernel) rfl
theorem m22_67 : M22 67 ls ((.ref r) :: st) H Q = M22 68 ls ((.ref r) :: (.ref r) :: st) H Q := w_x (show decode kb22 67 = .ok (.dup, 1) from by decide +kernel) rfl
theorem m22_68 : M22 68 ls (.ref b :: st) (put b pre s A post) Q = M22 71 ls (.int (s 12) :: st) (put b pre s A post) Q := w_get (show decode kb22 68 = .ok (.getfield 75, 3) from by decide +kernel) gf_75 put_o rfl
theorem m22_71 : M22 71 ls st H Q = M22 72 ls (.int 1 :: st) H Q := w_con (show decode kb22 71 = .ok (.iconst 1, 1) from by decide +kernel) rfl (by decide)
theorem m22_72 : M22 72 [l0, l1, l2, l3, .val (.int v)] st H Q = M22 74 [l0, l1, l2, l3, .val (.int v)] (.int v :: st) H Q := w_x (show decode kb22 72 = .ok (.iload 4, 2) from by decide +kernel) rfl
theorem m22_74 : M22 74 ls (.int y :: .int x :: st) H Q = M22 75 ls (.int (x <<< (y &&& 31)) :: st) H Q := w_x (show decode kb22 74 = .ok (.ishl, 1) from by decide +kernel) rfl
theorem m22_75 : M22 75 ls (.int y :: .int x :: st) H Q = M22 76 ls (.int (x ||| y) :: st) H Q := w_x (show decode kb22 75 = .ok (.ior, 1) from by decide +kernel) rfl
theorem pf22_75 : pfR tables_1 y22.cls y22.name 75 = some ("LutMapper", 21, .int) := by decide +kernel
theorem m22_76 : M22 76 ls (.int v :: .ref b :: st) (put b pre s A post) Q = M22 79 ls st (put b pre (ou s 12 v) A post) Q := w_put (show decode kb22 76 = .ok (.putfield 75, 3) from by decide +kernel) pf22_75 put_o (Nat.zero_le _) (by show 21 < 28; omega) rfl put_s12
theorem m22_79 : M22 79 [.val (.ref r), l1, l2, l3, l4] st H Q = M22 80 [.val (.ref r), l1, l2, l3, l4] (.ref r :: st) H Q := w_x (show decode kb22 79 = .ok (.aload_n 0, 1) from by decide +kernel) rfl
theorem m22_80 : M22 80 ls (.ref b :: st) (put b pre s A post) Q = M22 83 ls (.ref (b + 12) :: st) (put b pre s A post) Q := w_get (show decode kb22 80 = .ok (.getfield 43, 3) from by decide +kernel) gf_43 put_o rfl
theorem m22_83 : M22 83 [l0, l1, l2, l3, .val (.int v)] st H Q = M22 85 [l0, l1, l2, l3, .val (.int v)] (.int v :: st) H Q := w_x (show decode kb22 83 = .ok (.iload 4, 2) from by decide +kernel) rfl
theorem m22_85  : M22 85 ls (.int j :: .ref (b + 12) :: st) (put b pre s A post) Q = (inB j (A 11) ∧ M22 86 ls (.int (getA (A 11) j) :: st) (put b pre s A post) Q) := w_ild (show decode kb22 85 = .ok (.iaload, 1) from by decide +kernel) rfl put_a11
theorem m22_86 : M22 86 [l0, l1, .val (.int v), l3, l4] st H Q = M22 87 [l0, l1, .val (.int v), l3, l4] (.int v :: st) H Q := w_x (show decode kb22 86 = .ok (.iload_n 2, 1) from by decide +kernel) rfl
theorem m22_87 : M22 87 ls st H Q = M22 88 ls (.int 1 :: st) H Q := w_con (show decode kb22 87 = .ok (.iconst 1, 1) from by decide +kernel) rfl (by decide)
theorem m22_88 : M22 88 ls (.int y :: .int x :: st) H Q = M22 89 ls (.int (x - y) :: st) H Q := w_x (show decode kb22 88 = .ok (.isub, 1) from by decide +kernel) rfl
theorem m22_89 : M22 89 ls (.int y :: .int x :: st) H Q = if y < x then M22 92 ls st H Q else M22 102 ls st H Q := w_icmpN (show decode kb22 89 = .ok (.if_icmp .le 13, 3) from by decide +kernel) (i_le x y) rfl
theorem m22_92 : M22 92 [.val (.ref r), l1, l2, l3, l4] st H Q = M22 93 [.val (.ref r), l1, l2, l3, l4] (.ref r :: st) H Q := w_x (show decode kb22 92 = .ok (.aload_n 0, 1) from by decide +kernel) rfl
theorem m22_93 : M22 93 ls (.ref b :: st) (put b pre s A post) Q = M22 96 ls (.ref (b + 12) :: st) (put b pre s A post) Q := w_get (show decode kb22 93 = .ok (.getfield 43, 3) from by decide +kernel) gf_43 put_o rfl
theorem m22_96 : M22 96 [l0, l1, l2, l3, .val (.int v)] st H Q = M22 98 [l0, l1, l2, l3, .val (.int v)] (.int v :: st) H Q := w_x (show decode kb22 96 = .ok (.iload 4, 2) from by decide +kernel) rfl
theorem m22_98 : M22 98 [l0, l1, .val (.int v), l3, l4] st H Q = M22 99 [l0, l1, .val (.int v), l3, l4] (.int v :: st) H Q := w_x (show decode kb22 98 = .ok (.iload_n 2, 1) from by decide +kernel) rfl
theorem m22_99 : M22 99 ls st H Q = M22 100 ls (.int 1 :: st) H Q := w_con (show decode kb22 99 = .ok (.iconst 1, 1) from by decide +kernel) rfl (by decide)
theorem m22_100 : M22 100 ls (.int y :: .int x :: st) H Q = M22 101 ls (.int (x - y) :: st) H Q := w_x (show decode kb22 100 = .ok (.isub, 1) from by decide +kernel) rfl
theorem m22_101  : M22 101 ls (.int v :: .int j :: .ref (b + 12) :: st) (put b pre s A post) Q = (inB j (A 11) ∧ M22 102 ls st (put b pre s (ou A 11 (setA (A 11) j v)) post) Q) := w_ist (show decode kb22 101 = .ok (.iastore, 1) from by decide +kernel) rfl put_a11 (Nat.zero_le _) rfl put_w11
theorem m22_102 : M22 102 [l0, l1, l2, l3, .val (.int v)] st H Q = M22 105 [l0, l1, l2, l3, .val (.int (v + 1))] st H Q := w_iinc (show decode kb22 102 = .ok (.iinc 4 1, 3) from by decide +kernel) rfl (by decide) rfl
theorem m22_105 : M22 105 ls st H Q = M22 36 ls st H Q := w_x (show decode kb22 105 = .ok (.goto (-69), 3) from by decide +kernel) rfl
theorem m22_108 : M22 108 ls [] H Q = Q none H := w_vret (show decode kb22 108 = .ok (.return_, 1) from by decide +kernel) rfl
theorem m23_0 : M23 0 [.val (.ref r), l1, l2, l3, l4, l5] st H Q = M23 1 [.val (.ref r), l1, l2, l3, l4, l5] (.ref r :: st) H Q := w_x (show decode kb23 0 = .ok (.aload_n 0, 1) from by decide +kernel) rfl
theorem m23_1 : M23 1 [l0, .val (.int v), l2, l3, l4, l5] st H Q = M23 2 [l0, .val (.int v), l2, l3, l4, l5] (.int v :: st) H Q := w_x (show decode kb23 1 = .ok (.iload_n 1, 1) from by decide +kernel) rfl
theorem m23_2 : M23 2 [l0, l1, .val (.int v), l3, l4, l5] st H Q = M23 3 [l0, l1, .val (.int v), l3, l4, l5] (.int v :: st) H Q := w_x (show decode kb23 2 = .ok (.iload_n 2, 1) from by decide +kernel) rfl
theorem cr23_133 : vR tables_1 dn y23 133 = some (true, y5, prog_1_method_31_code, 5, (some .int), 2, 0) := pR_of (cR_of (by decide +kernel) rc_5 dn_5 dn_23 (sig := ⟨[.int, .int], some .int⟩) (by decide +kernel) (by decide +kernel) rfl rfl) (by decide +kernel) (by decide +kernel)
theorem m23_3 (a0 : Int32) (a1 : Int32) : M23 3 ls [.int a1, .int a0, .ref b] (put b pre s A post) Q = M5 0 [.val (.ref b), .val (.int a0), .val (.int a1), .unset, .unset] [] (put b pre s A post) (fun v H1 => M23 6 ls (v.toList ++ []) H1 Q) := w_virt (as := [.int a1, .int a0]) (rest := []) (a := b) (show decode kb23 3 = .ok (.invokevirtual 133, 3) from by decide +kernel) cr23_133 put_o rfl rfl (Nat.le_of_ble_eq_true rfl) (by show 3 ≤ 5; omega) rfl
theorem m23_6u : M23 6 [l0, l1, l2, .unset, l4, l5] ((.int v) :: st) H Q = M23 7 [l0, l1, l2, .val (.int v), l4, l5] st H Q := w_st (i := 3) (p := isI) (show decode kb23 6 = .ok (.istore_n 3, 1) from by decide +kernel) rfl rfl rfl rfl rfl rfl
theorem m23_7 : M23 7 ls st H Q = M23 8 ls (.int 0 :: st) H Q := w_con (show decode kb23 7 = .ok (.iconst 0, 1) from by decide +kernel) rfl (by decide)
theorem m23_8u : M23 8 [l0, l1, l2, l3, .unset, l5] ((.int v) :: st) H Q = M23 10 [l0, l1, l2, l3, .val (.int v), l5] st H Q := w_st (i := 4) (p := isI) (show decode kb23 8 = .ok (.istore 4, 2) from by decide +kernel) rfl rfl rfl rfl rfl rfl
theorem m23_10 : M23 10 [l0, l1, l2, .val (.int v), l4, l5] st H Q = M23 11 [l0, l1, l2, .val (.int v), l4, l5] (.int v :: st) H Q := w_x (show decode kb23 10 = .ok (.iload_n 3, 1) from by decide +kernel) rfl
theorem m23_11 : M23 11 ls st H Q = M23 12 ls (.int 4 :: st) H Q := w_con (show decode kb23 11 = .ok (.iconst 4, 1) from by decide +kernel) rfl (by decide)
theorem m23_12 : M23 12 ls (.int y :: .int x :: st) H Q = if y < x then M23 37 ls st H Q else M23 15 ls st H Q := w_icmp (show decode kb23 12 = .ok (.if_icmp .gt 25, 3) from by decide +kernel) (i_gt x y) rfl
theorem m23_15 : M23 15 [.val (.ref r), l1, l2, l3, l4, l5] st H Q = M23 16 [.val (.ref r), l1, l2, l3, l4, l5] (.ref r :: st) H Q := w_x (show decode kb23 15 = .ok (.aload_n 0, 1) from by decide +kernel) rfl
theorem cr23_195 : vR tables_1 dn y23 195 = some (true, y24, prog_1_method_41_code, 4, (some .int), 0, 19) := pR_of (cR_of (by decide +kernel) rc_24 dn_24 dn_23 (sig := ⟨[], some .int⟩) (by decide +kernel) (by decide +kernel) rfl rfl) (by decide +kernel) (by decide +kernel)
theorem m23_16 : M23 16 ls [.ref b] (put b pre s A post) Q = M24 0 [.val (.ref b), .unset, .unset, .unset] [] (put b pre s A post) (fun v H1 => M23 19 ls (v.toList ++ []) H1 Q) := w_virt (as := []) (rest := []) (a := b) (show decode kb23 16 = .ok (.invokevirtual 195, 3) from by decide +kernel) cr23_195 put_o rfl rfl (Nat.le_of_ble_eq_true rfl) (by show 1 ≤ 4; omega) rfl
theorem m23_19i : M23 19 [l0, l1, l2, l3, .val (.int z), l5] ((.int v) :: st) H Q = M23 21 [l0, l1, l2, l3, .val (.int v), l5] st H Q := w_st (i := 4) (p := isI) (show decode kb23 19 = .ok (.istore 4, 2) from by decide +kernel) rfl rfl rfl rfl rfl rfl
theorem m23_21 : M23 21 [.val (.ref r), l1, l2, l3, l4, l5] st H Q = M23 22 [.val (.ref r), l1, l2, l3, l4, l5] (.ref r :: st) H Q := w_x (show decode kb23 21 = .ok (.aload_n 0, 1) from by decide +kernel) rfl
theorem m23_22 : M23 22 [l0, .val (.int v), l2, l3, l4, l5] st H Q = M23 23 [l0, .val (.int v), l2, l3, l4, l5] (.int v :: st) H Q := w_x (show decode kb23 22 = .ok (.iload_n 1, 1) from by decide +kernel) rfl
theorem m23_23 : M23 23 [l0, l1, l2, l3, .val (.int v), l5] st H Q = M23 25 [l0, l1, l2, l3, .val (.int v), l5] (.int v :: st) H Q := w_x (show decode kb23 23 = .ok (.iload 4, 2) from by decide +kernel) rfl
theorem cr23_119 : vR tables_1 dn y23 119 = some (true, y7, prog_1_method_24_code, 5, (some .int), 2, 62) := pR_of (cR_of (by decide +kernel) rc_7 dn_7 dn_23 (sig := ⟨[.int, .int], some .int⟩) (by decide +kernel) (by decide +kernel) rfl rfl) (by decide +kernel) (by decide +kernel)
theorem m23_25 (a0 : Int32) (a1 : Int32) : M23 25 ls [.int a1, .int a0, .ref b] (put b pre s A post) Q = M7 0 [.val (.ref b), .val (.int a0), .val (.int a1), .unset, .unset] [] (put b pre s A post) (fun v H1 => M23 28 ls (v.toList ++ []) H1 Q) := w_virt (as := [.int a1, .int a0]) (rest := []) (a := b) (show decode kb23 25 = .ok (.invokevirtual 119, 3) from by decide +kernel) cr23_119 put_o rfl rfl (Nat.le_of_ble_eq_true rfl) (by show 3 ≤ 5; omega) rfl
theorem m23_28u : M23 28 [l0, l1, l2, l3, l4, .unset] ((.int v) :: st) H Q = M23 30 [l0, l1, l2, l3, l4, .val (.int v)] st H Q := w_st (i := 5) (p := isI) (show decode kb23 28 = .ok (.istore 5, 2) from by decide +kernel) rfl rfl rfl rfl rfl rfl
theorem m23_30 : M23 30 [l0, l1, l2, l3, .val (.int v), l5] st H Q = M23 32 [l0, l1, l2, l3, .val (.int v), l5] (.int v :: st) H Q := w_x (show decode kb23 30 = .ok (.iload 4, 2) from by decide +kernel) rfl
theorem m23_32 : M23 32 [l0, l1, l2, l3, l4, .val (.int v)] st H Q = M23 34 [l0, l1, l2, l3, l4, .val (.int v)] (.int v :: st) H Q := w_x (show decode kb23 32 = .ok (.iload 5, 2) from by decide +kernel) rfl
theorem m23_34 : M23 34 ls (.int y :: .int x :: st) H Q = M23 35 ls (.int (x &&& y) :: st) H Q := w_x (show decode kb23 34 = .ok (.iand, 1) from by decide +kernel) rfl
theorem m23_35i : M23 35 [l0, l1, l2, l3, .val (.int z), l5] ((.int v) :: st) H Q = M23 37 [l0, l1, l2, l3, .val (.int v), l5] st H Q := w_st (i := 4) (p := isI) (show decode kb23 35 = .ok (.istore 4, 2) from by decide +kernel) rfl rfl rfl rfl rfl rfl
theorem m23_37 : M23 37 [l0, l1, l2, l3, .val (.int v), l5] st H Q = M23 39 [l0, l1, l2, l3, .val (.int v), l5] (.int v :: st) H Q := w_x (show decode kb23 37 = .ok (.iload 4, 2) from by decide +kernel) rfl
theorem m23_39 : M23 39 ls (.int x :: st) H Q = if x = 0 then M23 52 ls st H Q else M23 42 ls st H Q := w_if (show decode kb23 39 = .ok (.ifCond .eq 13, 3) from by decide +kernel) (z_eq x) rfl
theorem m23_42 : M23 42 [.val (.ref r), l1, l2, l3, l4, l5] st H Q = M23 43 [.val (.ref r), l1, l2, l3, l4, l5] (.ref r :: st) H Q := w_x (show decode kb23 42 = .ok (.aload_n 0, 1) from by decide +kernel) rfl
theorem m23_43 : M23 43 [l0, .val (.int v), l2, l3, l4, l5] st H Q = M23 44 [l0, .val (.int v), l2, l3, l4, l5] (.int v :: st) H Q := w_x (show decode kb23 43 = .ok (.iload_n 1, 1) from by decide +kernel) rfl
theorem m23_44 : M23 44 [l0, l1, l2, l3, .val (.int v), l5] st H Q = M23 46 [l0, l1, l2, l3, .val (.int v), l5] (.int v :: st) H Q := w_x (show decode kb23 44 = .ok (.iload 4, 2) from by decide +kernel) rfl
theorem cr23_86 : vR tables_1 dn y23 86 = some (true, y28, prog_1_method_25_code, 6, (some .boolean), 2, 45) := pR_of (cR_of (by decide +kernel) rc_28 dn_28 dn_23 (sig := ⟨[.int, .int], some .boolean⟩) (by decide +kernel) (by decide +kernel) rfl rfl) (by decide +kernel) (by decide +kernel)
theorem m23_46 (a0 : Int32) (a1 : Int32) : M23 46 ls [.int a1, .int a0, .ref b] (put b pre s A post) Q = M28 0 [.val (.ref b), .val (.int a0), .val (.int a1), .unset, .unset, .unset] [] (put b pre s A post) (fun v H1 => M23 49 ls (v.toList ++ []) H1 Q) := w_virt (as := [.int a1, .int a0]) (rest := []) (a := b) (show decode kb23 46 = .ok (.invokevirtual 86, 3) from by decide +kernel) cr23_86 put_o rfl rfl (Nat.le_of_ble_eq_true rfl) (by show 3 ≤ 6; omega) rfl
theorem m23_49 : M23 49 ls (.int x :: st) H Q = if x = 0 then M23 52 ls st H Q else M23 75 ls st H Q := w_ifN (show decode kb23 49 = .ok (.ifCond .ne 26, 3) from by decide +kernel) (z_ne x) rfl
theorem m23_75 : M23 75 [l0, l1, l2, l3, .val (.int v), l5] st H Q = M23 77 [l0, l1, l2, l3, .val (.int v), l5] (.int v :: st) H Q := w_x (show decode kb23 75 = .ok (.iload 4, 2) from by decide +kernel) rfl
theorem m23_77 : M23 77 ls (.int z :: st) H Q = Q (some (.int z)) H := w_iret (show decode kb23 77 = .ok (.ireturn, 1) from by decide +kernel) rfl
theorem m24_0 : M24 0 [.val (.ref r), l1, l2, l3] st H Q = M24 1 [.val (.ref r), l1, l2, l3] (.ref r :: st) H Q := w_x (show decode kb24 0 = .ok (.aload_n 0, 1) from by decide +kernel) rfl
theorem m24_1 : M24 1 ls st H Q = M24 2 ls (.int 0 :: st) H Q := w_con (show decode kb24 1 = .ok (.iconst 0, 1) from by decide +kernel) rfl (by decide)
theorem pf24_156 : pfR tables_1 y24.cls y24.name 156 = some ("LutMapper", 25, .int) := by decide +kernel
theorem m24_2 : M24 2 ls (.int v :: .ref b :: st) (put b pre s A post) Q = M24 5 ls st (put b pre (ou s 7 v) A post) Q := w_put (show decode kb24 2 = .ok (.putfield 156, 3) from by decide +kernel) pf24_156 put_o (Nat.zero_le _) (by show 25 < 28; omega) rfl put_s7
theorem m24_5 : M24 5 [.val (.ref r), l1, l2, l3] st H Q = M24 6 [.val (.ref r), l1, l2, l3] (.ref r :: st) H Q := w_x (show decode kb24 5 = .ok (.aload_n 0, 1) from by decide +kernel) rfl
theorem m24_6 : M24 6 ls st H Q = M24 7 ls (.int 0 :: st) H Q := w_con (show decode kb24 6 = .ok (.iconst 0, 1) from by decide +kernel) rfl (by decide)
theorem pf24_159 : pfR tables_1 y24.cls y24.name 159 = some ("LutMapper", 26, .int) := by decide +kernel
theorem m24_7 : M24 7 ls (.int v :: .ref b :: st) (put b pre s A post) Q = M24 10 ls st (put b pre (ou s 8 v) A post) Q := w_put (show decode kb24 7 = .ok (.putfield 159, 3) from by decide +kernel) pf24_159 put_o (Nat.zero_le _) (by show 26 < 28; omega) rfl put_s8
theorem m24_10 : M24 10 [.val (.ref r), l1, l2, l3] st H Q = M24 11 [.val (.ref r), l1, l2, l3] (.ref r :: st) H Q := w_x (show decode kb24 10 = .ok (.aload_n 0, 1) from by decide +kernel) rfl
theorem m24_11 : M24 11 ls st H Q = M24 12 ls (.int 1 :: st) H Q := w_con (show decode kb24 11 = .ok (.iconst 1, 1) from by decide +kernel) rfl (by decide)
theorem pf24_153 : pfR tables_1 y24.cls y24.name 153 = some ("LutMapper", 27, .boolean) := by decide +kernel
theorem m24_12 : M24 12 ls (.int v :: .ref b :: st) (put b pre s A post) Q = M24 15 ls st (put b pre (ou s 9 (nar .boolean v)) A post) Q := w_put (show decode kb24 12 = .ok (.putfield 153, 3) from by decide +kernel) pf24_153 put_o (Nat.zero_le _) (by show 27 < 28; omega) rfl put_s9
theorem m24_15 : M24 15 ls st H Q = M24 16 ls (.int 0 :: st) H Q := w_con (show decode kb24 15 = .ok (.iconst 0, 1) from by decide +kernel) rfl (by decide)
theorem m24_16u : M24 16 [l0, .unset, l2, l3] ((.int v) :: st) H Q = M24 17 [l0, .val (.int v), l2, l3] st H Q := w_st (i := 1) (p := isI) (show decode kb24 16 = .ok (.istore_n 1, 1) from by decide +kernel) rfl rfl rfl rfl rfl rfl
theorem m24_17 : M24 17 ls st H Q = M24 18 ls (.int 0 :: st) H Q := w_con (show decode kb24 17 = .ok (.iconst 0, 1) from by decide +kernel) rfl (by decide)
theorem m24_18u : M24 18 [l0, l1, .unset, l3] ((.int v) :: st) H Q = M24 19 [l0, l1, .val (.int v), l3] st H Q := w_st (i := 2) (p := isI) (show decode kb24 18 = .ok (.istore_n 2, 1) from by decide +kernel) rfl rfl rfl rfl rfl rfl
theorem m24_19 : M24 19 [l0, l1, .val (.int v), l3] st H Q = M24 20 [l0, l1, .val (.int v), l3] (.int v :: st) H Q := w_x (show decode kb24 19 = .ok (.iload_n 2, 1) from by decide +kernel) rfl
theorem m24_20 : M24 20 [.val (.ref r), l1, l2, l3] st H Q = M24 21 [.val (.ref r), l1, l2, l3] (.ref r :: st) H Q := w_x (show decode kb24 20 = .ok (.aload_n 0, 1) from by decide +kernel) rfl
theorem m24_21 : M24 21 ls (.ref b :: st) (put b pre s A post) Q = M24 24 ls (.int (s 4) :: st) (put b pre s A post) Q := w_get (show decode kb24 21 = .ok (.getfield 136, 3) from by decide +kernel) gf_136 put_o rfl
theorem m24_24 : M24 24 ls (.int y :: .int x :: st) H Q = if x < y then M24 27 ls st H Q else M24 66 ls st H Q := w_icmpN (show decode kb24 24 = .ok (.if_icmp .ge 42, 3) from by decide +kernel) (i_ge x y) rfl
theorem m24_27 : M24 27 [.val (.ref r), l1, l2, l3] st H Q = M24 28 [.val (.ref r), l1, l2, l3] (.ref r :: st) H Q := w_x (show decode kb24 27 = .ok (.aload_n 0, 1) from by decide +kernel) rfl
theorem m24_28 : M24 28 [.val (.ref r), l1, l2, l3] st H Q = M24 29 [.val (.ref r), l1, l2, l3] (.ref r :: st) H Q := w_x (show decode kb24 28 = .ok (.aload_n 0, 1) from by decide +kernel) rfl
theorem m24_29 : M24 29 ls (.ref b :: st) (put b pre s A post) Q = M24 32 ls (.int (s 5) :: st) (put b pre s A post) Q := w_get (show decode kb24 29 = .ok (.getfield 139, 3) from by decide +kernel) gf_139 put_o rfl
theorem m24_32 : M24 32 [l0, l1, .val (.int v), l3] st H Q = M24 33 [l0, l1, .val (.int v), l3] (.int v :: st) H Q := w_x (show decode kb24 32 = .ok (.iload_n 2, 1) from by decide +kernel) rfl
theorem cr24_97 : vR tables_1 dn y24 97 = some (true, y8, prog_1_method_19_code, 3, (some .int), 2, 44) := pR_of (cR_of (by decide +kernel) rc_8 dn_8 dn_24 (sig := ⟨[.int, .int], some .int⟩) (by decide +kernel) (by decide +kernel) rfl rfl) (by decide +kernel) (by decide +kernel)
theorem m24_33 (a0 : Int32) (a1 : Int32) : M24 33 ls [.int a1, .int a0, .ref b] (put b pre s A post) Q = M8 0 [.val (.ref b), .val (.int a0), .val (.int a1)] [] (put b pre s A post) (fun v H1 => M24 36 ls (v.toList ++ []) H1 Q) := w_virt (as := [.int a1, .int a0]) (rest := []) (a := b) (show decode kb24 33 = .ok (.invokevirtual 97, 3) from by decide +kernel) cr24_97 put_o rfl rfl (Nat.le_of_ble_eq_true rfl) (by show 3 ≤ 3; omega) rfl
theorem m24_36 : M24 36 ls (.int x :: st) H Q = if x = 0 then M24 60 ls st H Q else M24 39 ls st H Q := w_if (show decode kb24 36 = .ok (.ifCond .eq 24, 3) from by decide +kernel) (z_eq x) rfl
theorem m24_39 : M24 39 [.val (.ref r), l1, l2, l3] st H Q = M24 40 [.val (.ref r), l1, l2, l3] (.ref r :: st) H Q := w_x (show decode kb24 39 = .ok (.aload_n 0, 1) from by decide +kernel) rfl
theorem m24_40 : M24 40 ls (.ref b :: st) (put b pre s A post) Q = M24 43 ls (.ref (b + 1) :: st) (put b pre s A post) Q := w_get (show decode kb24 40 = .ok (.getfield 7, 3) from by decide +kernel) gf_7 put_o rfl
theorem m24_43 : M24 43 [l0, l1, .val (.int v), l3] st H Q = M24 44 [l0, l1, .val (.int v), l3] (.int v :: st) H Q := w_x (show decode kb24 43 = .ok (.iload_n 2, 1) from by decide +kernel) rfl
theorem m24_44  : M24 44 ls (.int j :: .ref (b + 1) :: st) (put b pre s A post) Q = (inB j (A 0) ∧ M24 45 ls (.int (getA (A 0) j) :: st) (put b pre s A post) Q) := w_ild (show decode kb24 44 = .ok (.iaload, 1) from by decide +kernel) rfl put_a0
theorem m24_45 : M24 45 ls st H Q = M24 46 ls (.int 1 :: st) H Q := w_con (show decode kb24 45 = .ok (.iconst 1, 1) from by decide +kernel) rfl (by decide)
theorem m24_46 : M24 46 ls (.int y :: .int x :: st) H Q = if x = y then M24 49 ls st H Q else M24 60 ls st H Q := w_icmpN (show decode kb24 46 = .ok (.if_icmp .ne 14, 3) from by decide +kernel) (i_ne x y) rfl
theorem m24_49 : M24 49 [.val (.ref r), l1, l2, l3] st H Q = M24 50 [.val (.ref r), l1, l2, l3] (.ref r :: st) H Q := w_x (show decode kb24 49 = .ok (.aload_n 0, 1) from by decide +kernel) rfl
theorem m24_50 : M24 50 ls st H Q = M24 51 ls (.int 2 :: st) H Q := w_con (show decode kb24 50 = .ok (.iconst 2, 1) from by decide +kernel) rfl (by decide)
theorem m24_51 : M24 51 [l0, l1, .val (.int v), l3] st H Q = M24 52 [l0, l1, .val (.int v), l3] (.int v :: st) H Q := w_x (show decode kb24 51 = .ok (.iload_n 2, 1) from by decide +kernel) rfl
theorem m24_52 : M24 52 ls (.int y :: .int x :: st) H Q = M24 53 ls (.int (x * y) :: st) H Q := w_x (show decode kb24 52 = .ok (.imul, 1) from by decide +kernel) rfl
theorem m24_53 : M24 53 ls st H Q = M24 54 ls (.int 1 :: st) H Q := w_con (show decode kb24 53 = .ok (.iconst 1, 1) from by decide +kernel) rfl (by decide)
theorem m24_54 : M24 54 ls (.int y :: .int x :: st) H Q = M24 55 ls (.int (x + y) :: st) H Q := w_x (show decode kb24 54 = .ok (.iadd, 1) from by decide +kernel) rfl
theorem m24_55 : M24 55 [l0, .val (.int v), l2, l3] st H Q = M24 56 [l0, .val (.int v), l2, l3] (.int v :: st) H Q := w_x (show decode kb24 55 = .ok (.iload_n 1, 1) from by decide +kernel) rfl
theorem cr24_185 : vR tables_1 dn y24 185 = some (true, y25, prog_1_method_40_code, 3, (some .int), 2, 17) := pR_of (cR_of (by decide +kernel) rc_25 dn_25 dn_24 (sig := ⟨[.int, .int], some .int⟩) (by decide +kernel) (by decide +kernel) rfl rfl) (by decide +kernel) (by decide +kernel)
theorem m24_56 (a0 : Int32) (a1 : Int32) : M24 56 ls [.int a1, .int a0, .ref b] (put b pre s A post) Q = M25 0 [.val (.ref b), .val (.int a0), .val (.int a1)] [] (put b pre s A post) (fun v H1 => M24 59 ls (v.toList ++ []) H1 Q) := w_virt (as := [.int a1, .int a0]) (rest := []) (a := b) (show decode kb24 56 = .ok (.invokevirtual 185, 3) from by decide +kernel) cr24_185 put_o rfl rfl (Nat.le_of_ble_eq_true rfl) (by show 3 ≤ 3; omega) rfl
theorem m24_59i : M24 59 [l0, .val (.int z), l2, l3] ((.int v) :: st) H Q = M24 60 [l0, .val (.int v), l2, l3] st H Q := w_st (i := 1) (p := isI) (show decode kb24 59 = .ok (.istore_n 1, 1) from by decide +kernel) rfl rfl rfl rfl rfl rfl
theorem m24_60 : M24 60 [l0, l1, .val (.int v), l3] st H Q = M24 63 [l0, l1, .val (.int (v + 1)), l3] st H Q := w_iinc (show decode kb24 60 = .ok (.iinc 2 1, 3) from by decide +kernel) rfl (by decide) rfl
theorem m24_63 : M24 63 ls st H Q = M24 19 ls st H Q := w_x (show decode kb24 63 = .ok (.goto (-44), 3) from by decide +kernel) rfl
theorem m24_66 : M24 66 ls st H Q = M24 67 ls (.int 0 :: st) H Q := w_con (show decode kb24 66 = .ok (.iconst 0, 1) from by decide +kernel) rfl (by decide)
theorem m24_67i : M24 67 [l0, l1, .val (.int z), l3] ((.int v) :: st) H Q = M24 68 [l0, l1, .val (.int v), l3] st H Q := w_st (i := 2) (p := isI) (show decode kb24 67 = .ok (.istore_n 2, 1) from by decide +kernel) rfl rfl rfl rfl rfl rfl
theorem m24_68 : M24 68 [l0, l1, .val (.int v), l3] st H Q = M24 69 [l0, l1, .val (.int v), l3] (.int v :: st) H Q := w_x (show decode kb24 68 = .ok (.iload_n 2, 1) from by decide +kernel) rfl
theorem m24_69 : M24 69 [l0, .val (.int v), l2, l3] st H Q = M24 70 [l0, .val (.int v), l2, l3] (.int v :: st) H Q := w_x (show decode kb24 69 = .ok (.iload_n 1, 1) from by decide +kernel) rfl
theorem m24_70 : M24 70 ls (.int y :: .int x :: st) H Q = if x < y then M24 73 ls st H Q else M24 115 ls st H Q := w_icmpN (show decode kb24 70 = .ok (.if_icmp .ge 45, 3) from by decide +kernel) (i_ge x y) rfl
theorem m24_73 : M24 73 [l0, l1, .val (.int v), l3] st H Q = M24 74 [l0, l1, .val (.int v), l3] (.int v :: st) H Q := w_x (show decode kb24 73 = .ok (.iload_n 2, 1) from by decide +kernel) rfl
theorem m24_74 : M24 74 ls st H Q = M24 76 ls (.int 65 :: st) H Q := w_con (show decode kb24 74 = .ok (.bipush 65, 2) from by decide +kernel) rfl (by decide)
theorem m24_76 : M24 76 ls (.int y :: .int x :: st) H Q = if x < y then M24 79 ls st H Q else M24 115 ls st H Q := w_icmpN (show decode kb24 76 = .ok (.if_icmp .ge 39, 3) from by decide +kernel) (i_ge x y) rfl
theorem m24_79 : M24 79 [.val (.ref r), l1, l2, l3] st H Q = M24 80 [.val (.ref r), l1, l2, l3] (.ref r :: st) H Q := w_x (show decode kb24 79 = .ok (.aload_n 0, 1) from by decide +kernel) rfl
theorem m24_80 : M24 80 ls (.ref b :: st) (put b pre s A post) Q = M24 83 ls (.ref (b + 9) :: st) (put b pre s A post) Q := w_get (show decode kb24 80 = .ok (.getfield 34, 3) from by decide +kernel) gf_34 put_o rfl
theorem m24_83 : M24 83 [l0, l1, .val (.int v), l3] st H Q = M24 84 [l0, l1, .val (.int v), l3] (.int v :: st) H Q := w_x (show decode kb24 83 = .ok (.iload_n 2, 1) from by decide +kernel) rfl
theorem m24_84  : M24 84 ls (.int j :: .ref (b + 9) :: st) (put b pre s A post) Q = (inB j (A 8) ∧ M24 85 ls (.int (getA (A 8) j) :: st) (put b pre s A post) Q) := w_ild (show decode kb24 84 = .ok (.iaload, 1) from by decide +kernel) rfl put_a8
theorem m24_85u : M24 85 [l0, l1, l2, .unset] ((.int v) :: st) H Q = M24 86 [l0, l1, l2, .val (.int v)] st H Q := w_st (i := 3) (p := isI) (show decode kb24 85 = .ok (.istore_n 3, 1) from by decide +kernel) rfl rfl rfl rfl rfl rfl
theorem m24_85i : M24 85 [l0, l1, l2, .val (.int z)] ((.int v) :: st) H Q = M24 86 [l0, l1, l2, .val (.int v)] st H Q := w_st (i := 3) (p := isI) (show decode kb24 85 = .ok (.istore_n 3, 1) from by decide +kernel) rfl rfl rfl rfl rfl rfl
theorem m24_85r : M24 85 [l0, l1, l2, .val (.ref q)] ((.int v) :: st) H Q = M24 86 [l0, l1, l2, .val (.int v)] st H Q := w_st (i := 3) (p := isI) (show decode kb24 85 = .ok (.istore_n 3, 1) from by decide +kernel) rfl rfl rfl rfl rfl rfl
theorem m24_86 : M24 86 [l0, l1, l2, .val (.int v)] st H Q = M24 87 [l0, l1, l2, .val (.int v)] (.int v :: st) H Q := w_x (show decode kb24 86 = .ok (.iload_n 3, 1) from by decide +kernel) rfl
theorem m24_87 : M24 87 ls st H Q = M24 88 ls (.int 1 :: st) H Q := w_con (show decode kb24 87 = .ok (.iconst 1, 1) from by decide +kernel) rfl (by decide)
theorem m24_88 : M24 88 ls (.int y :: .int x :: st) H Q = M24 89 ls (.int (x &&& y) :: st) H Q := w_x (show decode kb24 88 = .ok (.iand, 1) from by decide +kernel) rfl
theorem m24_89 : M24 89 ls (.int x :: st) H Q = if x = 0 then M24 102 ls st H Q else M24 92 ls st H Q := w_if (show decode kb24 89 = .ok (.ifCond .eq 13, 3) from by decide +kernel) (z_eq x) rfl
theorem m24_92 : M24 92 [.val (.ref r), l1, l2, l3] st H Q = M24 93 [.val (.ref r), l1, l2, l3] (.ref r :: st) H Q := w_x (show decode kb24 92 = .ok (.aload_n 0, 1) from by decide +kernel) rfl
theorem m24_93 : M24 93 [l0, l1, l2, .val (.int v)] st H Q = M24 94 [l0, l1, l2, .val (.int v)] (.int v :: st) H Q := w_x (show decode kb24 93 = .ok (.iload_n 3, 1) from by decide +kernel) rfl
theorem m24_94 : M24 94 [l0, .val (.int v), l2, l3] st H Q = M24 95 [l0, .val (.int v), l2, l3] (.int v :: st) H Q := w_x (show decode kb24 94 = .ok (.iload_n 1, 1) from by decide +kernel) rfl
theorem cr24_188 : vR tables_1 dn y24 188 = some (true, y26, prog_1_method_42_code, 5, (some .int), 2, 1) := pR_of (cR_of (by decide +kernel) rc_26 dn_26 dn_24 (sig := ⟨[.int, .int], some .int⟩) (by decide +kernel) (by decide +kernel) rfl rfl) (by decide +kernel) (by decide +kernel)
theorem m24_95 (a0 : Int32) (a1 : Int32) : M24 95 ls [.int a1, .int a0, .ref b] (put b pre s A post) Q = M26 0 [.val (.ref b), .val (.int a0), .val (.int a1), .unset, .unset] [] (put b pre s A post) (fun v H1 => M24 98 ls (v.toList ++ []) H1 Q) := w_virt (as := [.int a1, .int a0]) (rest := []) (a := b) (show decode kb24 95 = .ok (.invokevirtual 188, 3) from by decide +kernel) cr24_188 put_o rfl rfl (Nat.le_of_ble_eq_true rfl) (by show 3 ≤ 5; omega) rfl
theorem m24_98i : M24 98 [l0, .val (.int z), l2, l3] ((.int v) :: st) H Q = M24 99 [l0, .val (.int v), l2, l3] st H Q := w_st (i := 1) (p := isI) (show decode kb24 98 = .ok (.istore_n 1, 1) from by decide +kernel) rfl rfl rfl rfl rfl rfl
theorem m24_99 : M24 99 ls st H Q = M24 109 ls st H Q := w_x (show decode kb24 99 = .ok (.goto 10, 3) from by decide +kernel) rfl
theorem m24_102 : M24 102 [.val (.ref r), l1, l2, l3] st H Q = M24 103 [.val (.ref r), l1, l2, l3] (.ref r :: st) H Q := w_x (show decode kb24 102 = .ok (.aload_n 0, 1) from by decide +kernel) rfl
theorem m24_103 : M24 103 [l0, l1, l2, .val (.int v)] st H Q = M24 104 [l0, l1, l2, .val (.int v)] (.int v :: st) H Q := w_x (show decode kb24 103 = .ok (.iload_n 3, 1) from by decide +kernel) rfl
theorem m24_104 : M24 104 [l0, .val (.int v), l2, l3] st H Q = M24 105 [l0, .val (.int v), l2, l3] (.int v :: st) H Q := w_x (show decode kb24 104 = .ok (.iload_n 1, 1) from by decide +kernel) rfl
theorem cr24_191 : vR tables_1 dn y24 191 = some (true, y27, prog_1_method_43_code, 6, (some .int), 2, 0) := pR_of (cR_of (by decide +kernel) rc_27 dn_27 dn_24 (sig := ⟨[.int, .int], some .int⟩) (by decide +kernel) (by decide +kernel) rfl rfl) (by decide +kernel) (by decide +kernel)
theorem m24_105 (a0 : Int32) (a1 : Int32) : M24 105 ls [.int a1, .int a0, .ref b] (put b pre s A post) Q = M27 0 [.val (.ref b), .val (.int a0), .val (.int a1), .unset, .unset, .unset] [] (put b pre s A post) (fun v H1 => M24 108 ls (v.toList ++ []) H1 Q) := w_virt (as := [.int a1, .int a0]) (rest := []) (a := b) (show decode kb24 105 = .ok (.invokevirtual 191, 3) from by decide +kernel) cr24_191 put_o rfl rfl (Nat.le_of_ble_eq_true rfl) (by show 3 ≤ 6; omega) rfl
theorem m24_108i : M24 108 [l0, .val (.int z), l2, l3] ((.int v) :: st) H Q = M24 109 [l0, .val (.int v), l2, l3] st H Q := w_st (i := 1) (p := isI) (show decode kb24 108 = .ok (.istore_n 1, 1) from by decide +kernel) rfl rfl rfl rfl rfl rfl
theorem m24_109 : M24 109 [l0, l1, .val (.int v), l3] st H Q = M24 112 [l0, l1, .val (.int (v + 1)), l3] st H Q := w_iinc (show decode kb24 109 = .ok (.iinc 2 1, 3) from by decide +kernel) rfl (by decide) rfl
theorem m24_112 : M24 112 ls st H Q = M24 68 ls st H Q := w_x (show decode kb24 112 = .ok (.goto (-44), 3) from by decide +kernel) rfl
theorem m24_115 : M24 115 ls st H Q = M24 116 ls (.int 0 :: st) H Q := w_con (show decode kb24 115 = .ok (.iconst 0, 1) from by decide +kernel) rfl (by decide)
theorem m24_116i : M24 116 [l0, l1, .val (.int z), l3] ((.int v) :: st) H Q = M24 117 [l0, l1, .val (.int v), l3] st H Q := w_st (i := 2) (p := isI) (show decode kb24 116 = .ok (.istore_n 2, 1) from by decide +kernel) rfl rfl rfl rfl rfl rfl
theorem m24_117 : M24 117 ls st H Q = M24 118 ls (.int 0 :: st) H Q := w_con (show decode kb24 117 = .ok (.iconst 0, 1) from by decide +kernel) rfl (by decide)
theorem m24_118u : M24 118 [l0, l1, l2, .unset] ((.int v) :: st) H Q = M24 119 [l0, l1, l2, .val (.int v)] st H Q := w_st (i := 3) (p := isI) (show decode kb24 118 = .ok (.istore_n 3, 1) from by decide +kernel) rfl rfl rfl rfl rfl rfl
theorem m24_118i : M24 118 [l0, l1, l2, .val (.int z)] ((.int v) :: st) H Q = M24 119 [l0, l1, l2, .val (.int v)] st H Q := w_st (i := 3) (p := isI) (show decode kb24 118 = .ok (.istore_n 3, 1) from by decide +kernel) rfl rfl rfl rfl rfl rfl
theorem m24_118r : M24 118 [l0, l1, l2, .val (.ref q)] ((.int v) :: st) H Q = M24 119 [l0, l1, l2, .val (.int v)] st H Q := w_st (i := 3) (p := isI) (show decode kb24 118 = .ok (.istore_n 3, 1) from by decide +kernel) rfl rfl rfl rfl rfl rfl
theorem m24_119 : M24 119 [l0, l1, l2, .val (.int v)] st H Q = M24 120 [l0, l1, l2, .val (.int v)] (.int v :: st) H Q := w_x (show decode kb24 119 = .ok (.iload_n 3, 1) from by decide +kernel) rfl
theorem m24_120 : M24 120 [.val (.ref r), l1, l2, l3] st H Q = M24 121 [.val (.ref r), l1, l2, l3] (.ref r :: st) H Q := w_x (show decode kb24 120 = .ok (.aload_n 0, 1) from by decide +kernel) rfl
theorem m24_121 : M24 121 ls (.ref b :: st) (put b pre s A post) Q = M24 124 ls (.int (s 4) :: st) (put b pre s A post) Q := w_get (show decode kb24 121 = .ok (.getfield 136, 3) from by decide +kernel) gf_136 put_o rfl
theorem m24_124 : M24 124 ls (.int y :: .int x :: st) H Q = if x < y then M24 127 ls st H Q else M24 171 ls st H Q := w_icmpN (show decode kb24 124 = .ok (.if_icmp .ge 47, 3) from by decide +kernel) (i_ge x y) rfl
theorem m24_127 : M24 127 [.val (.ref r), l1, l2, l3] st H Q = M24 128 [.val (.ref r), l1, l2, l3] (.ref r :: st) H Q := w_x (show decode kb24 127 = .ok (.aload_n 0, 1) from by decide +kernel) rfl
theorem m24_128 : M24 128 [l0, l1, l2, .val (.int v)] st H Q = M24 129 [l0, l1, l2, .val (.int v)] (.int v :: st) H Q := w_x (show decode kb24 128 = .ok (.iload_n 3, 1) from by decide +kernel) rfl
theorem cr24_174 : vR tables_1 dn y24 174 = some (true, y15, prog_1_method_21_code, 2, (some .boolean), 1, 31) := pR_of (cR_of (by decide +kernel) rc_15 dn_15 dn_24 (sig := ⟨[.int], some .boolean⟩) (by decide +kernel) (by decide +kernel) rfl rfl) (by decide +kernel) (by decide +kernel)
theorem m24_129 (a0 : Int32) : M24 129 ls [.int a0, .ref b] (put b pre s A post) Q = M15 0 [.val (.ref b), .val (.int a0)] [] (put b pre s A post) (fun v H1 => M24 132 ls (v.toList ++ []) H1 Q) := w_virt (as := [.int a0]) (rest := []) (a := b) (show decode kb24 129 = .ok (.invokevirtual 174, 3) from by decide +kernel) cr24_174 put_o rfl rfl (Nat.le_of_ble_eq_true rfl) (by show 2 ≤ 2; omega) rfl
theorem m24_132 : M24 132 ls (.int x :: st) H Q = if x = 0 then M24 165 ls st H Q else M24 135 ls st H Q := w_if (show decode kb24 132 = .ok (.ifCond .eq 33, 3) from by decide +kernel) (z_eq x) rfl
theorem m24_135 : M24 135 [.val (.ref r), l1, l2, l3] st H Q = M24 136 [.val (.ref r), l1, l2, l3] (.ref r :: st) H Q := w_x (show decode kb24 135 = .ok (.aload_n 0, 1) from by decide +kernel) rfl
theorem m24_136 : M24 136 [.val (.ref r), l1, l2, l3] st H Q = M24 137 [.val (.ref r), l1, l2, l3] (.ref r :: st) H Q := w_x (show decode kb24 136 = .ok (.aload_n 0, 1) from by decide +kernel) rfl
theorem m24_137 : M24 137 ls (.ref b :: st) (put b pre s A post) Q = M24 140 ls (.int (s 8) :: st) (put b pre s A post) Q := w_get (show decode kb24 137 = .ok (.getfield 159, 3) from by decide +kernel) gf_159 put_o rfl
theorem m24_140 : M24 140 [l0, l1, l2, .val (.int v)] st H Q = M24 141 [l0, l1, l2, .val (.int v)] (.int v :: st) H Q := w_x (show decode kb24 140 = .ok (.iload_n 3, 1) from by decide +kernel) rfl
theorem m24_141 (a0 : Int32) (a1 : Int32) : M24 141 ls [.int a1, .int a0, .ref b] (put b pre s A post) Q = M8 0 [.val (.ref b), .val (.int a0), .val (.int a1)] [] (put b pre s A post) (fun v H1 => M24 144 ls (v.toList ++ []) H1 Q) := w_virt (as := [.int a1, .int a0]) (rest := []) (a := b) (show decode kb24 141 = .ok (.invokevirtual 97, 3) from by decide +kernel) cr24_97 put_o rfl rfl (Nat.le_of_ble_eq_true rfl) (by show 3 ≤ 3; omega) rfl
theorem m24_144 : M24 144 ls (.int x :: st) H Q = if x = 0 then M24 165 ls st H Q else M24 147 ls st H Q := w_if (show decode kb24 144 = .ok (.ifCond .eq 21, 3) from by decide +kernel) (z_eq x) rfl
theorem m24_147 : M24 147 [.val (.ref r), l1, l2, l3] st H Q = M24 148 [.val (.ref r), l1, l2, l3] (.ref r :: st) H Q := w_x (show decode kb24 147 = .ok (.aload_n 0, 1) from by decide +kernel) rfl
theorem m24_148 : M24 148 [.val (.ref r), l1, l2, l3] st H Q = M24 149 [.val (.ref r), l1, l2, l3] (.ref r :: st) H Q := w_x (show decode kb24 148 = .ok (.aload_n 0, 1) from by decide +kernel) rfl
theorem m24_149 : M24 149 ls (.ref b :: st) (put b pre s A post) Q = M24 152 ls (.int (s 7) :: st) (put b pre s A post) Q := w_get (show decode kb24 149 = .ok (.getfield 156, 3) from by decide +kernel) gf_156 put_o rfl
theorem m24_152 : M24 152 [l0, l1, l2, .val (.int v)] st H Q = M24 153 [l0, l1, l2, .val (.int v)] (.int v :: st) H Q := w_x (show decode kb24 152 = .ok (.iload_n 3, 1) from by decide +kernel) rfl
theorem m24_153 (a0 : Int32) (a1 : Int32) : M24 153 ls [.int a1, .int a0, .ref b] (put b pre s A post) Q = M8 0 [.val (.ref b), .val (.int a0), .val (.int a1)] [] (put b pre s A post) (fun v H1 => M24 156 ls (v.toList ++ []) H1 Q) := w_virt (as := [.int a1, .int a0]) (rest := []) (a := b) (show decode kb24 153 = .ok (.invokevirtual 97, 3) from by decide +kernel) cr24_97 put_o rfl rfl (Nat.le_of_ble_eq_true rfl) (by show 3 ≤ 3; omega) rfl
theorem m24_156 : M24 156 ls (.int x :: st) H Q = if x = 0 then M24 159 ls st H Q else M24 165 ls st H Q := w_ifN (show decode kb24 156 = .ok (.ifCond .ne 9, 3) from by decide +kernel) (z_ne x) rfl
theorem m24_159 : M24 159 [l0, l1, .val (.int v), l3] st H Q = M24 160 [l0, l1, .val (.int v), l3] (.int v :: st) H Q := w_x (show decode kb24 159 = .ok (.iload_n 2, 1) from by decide +kernel) rfl
theorem m24_160 : M24 160 ls st H Q = M24 161 ls (.int 1 :: st) H Q := w_con (show decode kb24 160 = .ok (.iconst 1, 1) from by decide +kernel) rfl (by decide)
theorem m24_161 : M24 161 [l0, l1, l2, .val (.int v)] st H Q = M24 162 [l0, l1, l2, .val (.int v)] (.int v :: st) H Q := w_x (show decode kb24 161 = .ok (.iload_n 3, 1) from by decide +kernel) rfl
theorem m24_162 : M24 162 ls (.int y :: .int x :: st) H Q = M24 163 ls (.int (x <<< (y &&& 31)) :: st) H Q := w_x (show decode kb24 162 = .ok (.ishl, 1) from by decide +kernel) rfl
theorem m24_163 : M24 163 ls (.int y :: .int x :: st) H Q = M24 164 ls (.int (x ||| y) :: st) H Q := w_x (show decode kb24 163 = .ok (.ior, 1) from by decide +kernel) rfl
theorem m24_164i : M24 164 [l0, l1, .val (.int z), l3] ((.int v) :: st) H Q = M24 165 [l0, l1, .val (.int v), l3] st H Q := w_st (i := 2) (p := isI) (show decode kb24 164 = .ok (.istore_n 2, 1) from by decide +kernel) rfl rfl rfl rfl rfl rfl
theorem m24_165 : M24 165 [l0, l1, l2, .val (.int v)] st H Q = M24 168 [l0, l1, l2, .val (.int (v + 1))] st H Q := w_iinc (show decode kb24 165 = .ok (.iinc 3 1, 3) from by decide +kernel) rfl (by decide) rfl
theorem m24_168 : M24 168 ls st H Q = M24 119 ls st H Q := w_x (show decode kb24 168 = .ok (.goto (-49), 3) from by decide +kernel) rfl
theorem m24_171 : M24 171 [l0, l1, .val (.int v), l3] st H Q = M24 172 [l0, l1, .val (.int v), l3] (.int v :: st) H Q := w_x (show decode kb24 171 = .ok (.iload_n 2, 1) from by decide +kernel) rfl
theorem m24_172 : M24 172 ls (.int z :: st) H Q = Q (some (.int z)) H := w_iret (show decode kb24 172 = .ok (.ireturn, 1) from by decide +kernel) rfl
theorem m25_0 : M25 0 [.val (.ref r), l1, l2] st H Q = M25 1 [.val (.ref r), l1, l2] (.ref r :: st) H Q := w_x (show decode kb25 0 = .ok (.aload_n 0, 1) from by decide +kernel) rfl
theorem m25_1 : M25 1 [l0, .val (.int v), l2] st H Q = M25 2 [l0, .val (.int v), l2] (.int v :: st) H Q := w_x (show decode kb25 1 = .ok (.iload_n 1, 1) from by decide +kernel) rfl
theorem cr25_162 : vR tables_1 dn y25 162 = some (true, y13, prog_1_method_32_code, 2, (some .boolean), 1, 0) := pR_of (cR_of (by decide +kernel) rc_13 dn_13 dn_25 (sig := ⟨[.int], some .boolean⟩) (by decide +kernel) (by decide +kernel) rfl rfl) (by decide +kernel) (by decide +kernel)
theorem m25_2 (a0 : Int32) : M25 2 ls [.int a0, .ref b] (put b pre s A post) Q = M13 0 [.val (.ref b), .val (.int a0)] [] (put b pre s A post) (fun v H1 => M25 5 ls (v.toList ++ []) H1 Q) := w_virt (as := [.int a0]) (rest := []) (a := b) (show decode kb25 2 = .ok (.invokevirtual 162, 3) from by decide +kernel) cr25_162 put_o rfl rfl (Nat.le_of_ble_eq_true rfl) (by show 2 ≤ 2; omega) rfl
theorem m25_5 : M25 5 ls (.int x :: st) H Q = if x = 0 then M25 8 ls st H Q else M25 14 ls st H Q := w_ifN (show decode kb25 5 = .ok (.ifCond .ne 9, 3) from by decide +kernel) (z_ne x) rfl
theorem m25_8 : M25 8 [l0, l1, .val (.int v)] st H Q = M25 9 [l0, l1, .val (.int v)] (.int v :: st) H Q := w_x (show decode kb25 8 = .ok (.iload_n 2, 1) from by decide +kernel) rfl
theorem m25_9 : M25 9 ls st H Q = M25 11 ls (.int 65 :: st) H Q := w_con (show decode kb25 9 = .ok (.bipush 65, 2) from by decide +kernel) rfl (by decide)
theorem m25_11 : M25 11 ls (.int y :: .int x :: st) H Q = if x < y then M25 16 ls st H Q else M25 14 ls st H Q := w_icmp (show decode kb25 11 = .ok (.if_icmp .lt 5, 3) from by decide +kernel) (i_lt x y) rfl
theorem m25_14 : M25 14 [l0, l1, .val (.int v)] st H Q = M25 15 [l0, l1, .val (.int v)] (.int v :: st) H Q := w_x (show decode kb25 14 = .ok (.iload_n 2, 1) from by decide +kernel) rfl
theorem m25_15 : M25 15 ls (.int z :: st) H Q = Q (some (.int z)) H := w_iret (show decode kb25 15 = .ok (.ireturn, 1) from by decide +kernel) rfl
theorem m25_16 : M25 16 [.val (.ref r), l1, l2] st H Q = M25 17 [.val (.ref r), l1, l2] (.ref r :: st) H Q := w_x (show decode kb25 16 = .ok (.aload_n 0, 1) from by decide +kernel) rfl
theorem m25_17 : M25 17 [l0, .val (.int v), l2] st H Q = M25 18 [l0, .val (.int v), l2] (.int v :: st) H Q := w_x (show decode kb25 17 = .ok (.iload_n 1, 1) from by decide +kernel) rfl
theorem cr25_165 : vR tables_1 dn y25 165 = some (true, y10, prog_1_method_33_code, 2, none, 1, 14) := pR_of (cR_of (by decide +kernel) rc_10 dn_10 dn_25 (sig := ⟨[.int], none⟩) (by decide +kernel) (by decide +kernel) rfl rfl) (by decide +kernel) (by decide +kernel)
theorem m25_18 (a0 : Int32) : M25 18 ls [.int a0, .ref b] (put b pre s A post) Q = M10 0 [.val (.ref b), .val (.int a0)] [] (put b pre s A post) (fun v H1 => M25 21 ls (v.toList ++ []) H1 Q) := w_virt (as := [.int a0]) (rest := []) (a := b) (show decode kb25 18 = .ok (.invokevirtual 165, 3) from by decide +kernel) cr25_165 put_o rfl rfl (Nat.le_of_ble_eq_true rfl) (by show 2 ≤ 2; omega) rfl
theorem m25_21 : M25 21 [.val (.ref r), l1, l2] st H Q = M25 22 [.val (.ref r), l1, l2] (.ref r :: st) H Q := w_x (show decode kb25 21 = .ok (.aload_n 0, 1) from by decide +kernel) rfl
theorem m25_22 : M25 22 ls (.ref b :: st) (put b pre s A post) Q = M25 25 ls (.ref (b + 9) :: st) (put b pre s A post) Q := w_get (show decode kb25 22 = .ok (.getfield 34, 3) from by decide +kernel) gf_34 put_o rfl
theorem m25_25 : M25 25 [l0, l1, .val (.int v)] st H Q = M25 26 [l0, l1, .val (.int v)] (.int v :: st) H Q := w_x (show decode kb25 25 = .ok (.iload_n 2, 1) from by decide +kernel) rfl
theorem m25_26 : M25 26 [l0, .val (.int v), l2] st H Q = M25 27 [l0, .val (.int v), l2] (.int v :: st) H Q := w_x (show decode kb25 26 = .ok (.iload_n 1, 1) from by decide +kernel) rfl
theorem m25_27  : M25 27 ls (.int v :: .int j :: .ref (b + 9) :: st) (put b pre s A post) Q = (inB j (A 8) ∧ M25 28 ls st (put b pre s (ou A 8 (setA (A 8) j v)) post) Q) := w_ist (show decode kb25 27 = .ok (.iastore, 1) from by decide +kernel) rfl put_a8 (Nat.zero_le _) rfl put_w8
theorem m25_28 : M25 28 [l0, l1, .val (.int v)] st H Q = M25 29 [l0, l1, .val (.int v)] (.int v :: st) H Q := w_x (show decode kb25 28 = .ok (.iload_n 2, 1) from by decide +kernel) rfl
theorem m25_29 : M25 29 ls st H Q = M25 30 ls (.int 1 :: st) H Q := w_con (show decode kb25 29 = .ok (.iconst 1, 1) from by decide +kernel) rfl (by decide)
theorem m25_30 : M25 30 ls (.int y :: .int x :: st) H Q = M25 31 ls (.int (x + y) :: st) H Q := w_x (show decode kb25 30 = .ok (.iadd, 1) from by decide +kernel) rfl
theorem m25_31 : M25 31 ls (.int z :: st) H Q = Q (some (.int z)) H := w_iret (show decode kb25 31 = .ok (.ireturn, 1) from by decide +kernel) rfl
theorem m26_0 : M26 0 [l0, .val (.int v), l2, l3, l4] st H Q = M26 1 [l0, .val (.int v), l2, l3, l4] (.int v :: st) H Q := w_x (show decode kb26 0 = .ok (.iload_n 1, 1) from by decide +kernel) rfl
theorem m26_1 : M26 1 ls st H Q = M26 2 ls (.int 1 :: st) H Q := w_con (show decode kb26 1 = .ok (.iconst 1, 1) from by decide +kernel) rfl (by decide)
theorem m26_2 : M26 2 ls (.int y :: .int x :: st) H Q = M26 3 ls (.int (XT.ushr x y) :: st) H Q := w_x (show decode kb26 2 = .ok (.iushr, 1) from by decide +kernel) rfl
theorem m26_3u : M26 3 [l0, l1, l2, .unset, l4] ((.int v) :: st) H Q = M26 4 [l0, l1, l2, .val (.int v), l4] st H Q := w_st (i := 3) (p := isI) (show decode kb26 3 = .ok (.istore_n 3, 1) from by decide +kernel) rfl rfl rfl rfl rfl rfl
theorem m26_4 : M26 4 [l0, l1, .val (.int v), l3, l4] st H Q = M26 5 [l0, l1, .val (.int v), l3, l4] (.int v :: st) H Q := w_x (show decode kb26 4 = .ok (.iload_n 2, 1) from by decide +kernel) rfl
theorem m26_5u : M26 5 [l0, l1, l2, l3, .unset] ((.int v) :: st) H Q = M26 7 [l0, l1, l2, l3, .val (.int v)] st H Q := w_st (i := 4) (p := isI) (show decode kb26 5 = .ok (.istore 4, 2) from by decide +kernel) rfl rfl rfl rfl rfl rfl
theorem m26_7 : M26 7 [l0, l1, l2, .val (.int v), l4] st H Q = M26 8 [l0, l1, l2, .val (.int v), l4] (.int v :: st) H Q := w_x (show decode kb26 7 = .ok (.iload_n 3, 1) from by decide +kernel) rfl
theorem m26_8 : M26 8 [.val (.ref r), l1, l2, l3, l4] st H Q = M26 9 [.val (.ref r), l1, l2, l3, l4] (.ref r :: st) H Q := w_x (show decode kb26 8 = .ok (.aload_n 0, 1) from by decide +kernel) rfl
theorem m26_9 : M26 9 ls (.ref b :: st) (put b pre s A post) Q = M26 12 ls (.int (s 4) :: st) (put b pre s A post) Q := w_get (show decode kb26 9 = .ok (.getfield 136, 3) from by decide +kernel) gf_136 put_o rfl
theorem m26_12 : M26 12 ls (.int y :: .int x :: st) H Q = if x = y then M26 43 ls st H Q else M26 15 ls st H Q := w_icmp (show decode kb26 12 = .ok (.if_icmp .eq 31, 3) from by decide +kernel) (i_eq x y) rfl
theorem m26_15 : M26 15 [.val (.ref r), l1, l2, l3, l4] st H Q = M26 16 [.val (.ref r), l1, l2, l3, l4] (.ref r :: st) H Q := w_x (show decode kb26 15 = .ok (.aload_n 0, 1) from by decide +kernel) rfl
theorem m26_16 : M26 16 [l0, l1, l2, .val (.int v), l4] st H Q = M26 17 [l0, l1, l2, .val (.int v), l4] (.int v :: st) H Q := w_x (show decode kb26 16 = .ok (.iload_n 3, 1) from by decide +kernel) rfl
theorem cr26_174 : vR tables_1 dn y26 174 = some (true, y15, prog_1_method_21_code, 2, (some .boolean), 1, 14) := pR_of (cR_of (by decide +kernel) rc_15 dn_15 dn_26 (sig := ⟨[.int], some .boolean⟩) (by decide +kernel) (by decide +kernel) rfl rfl) (by decide +kernel) (by decide +kernel)
theorem m26_17 (a0 : Int32) : M26 17 ls [.int a0, .ref b] (put b pre s A post) Q = M15 0 [.val (.ref b), .val (.int a0)] [] (put b pre s A post) (fun v H1 => M26 20 ls (v.toList ++ []) H1 Q) := w_virt (as := [.int a0]) (rest := []) (a := b) (show decode kb26 17 = .ok (.invokevirtual 174, 3) from by decide +kernel) cr26_174 put_o rfl rfl (Nat.le_of_ble_eq_true rfl) (by show 2 ≤ 2; omega) rfl
theorem m26_20 : M26 20 ls (.int x :: st) H Q = if x = 0 then M26 32 ls st H Q else M26 23 ls st H Q := w_if (show decode kb26 20 = .ok (.ifCond .eq 12, 3) from by decide +kernel) (z_eq x) rfl
theorem m26_23 : M26 23 [.val (.ref r), l1, l2, l3, l4] st H Q = M26 24 [.val (.ref r), l1, l2, l3, l4] (.ref r :: st) H Q := w_x (show decode kb26 23 = .ok (.aload_n 0, 1) from by decide +kernel) rfl
theorem m26_24 : M26 24 ls (.ref b :: st) (put b pre s A post) Q = M26 27 ls (.ref (b + 7) :: st) (put b pre s A post) Q := w_get (show decode kb26 24 = .ok (.getfield 28, 3) from by decide +kernel) gf_28 put_o rfl
theorem m26_27 : M26 27 [l0, l1, l2, .val (.int v), l4] st H Q = M26 28 [l0, l1, l2, .val (.int v), l4] (.int v :: st) H Q := w_x (show decode kb26 27 = .ok (.iload_n 3, 1) from by decide +kernel) rfl
theorem m26_28  : M26 28 ls (.int j :: .ref (b + 7) :: st) (put b pre s A post) Q = (inB j (A 6) ∧ M26 29 ls (.int (getA (A 6) j) :: st) (put b pre s A post) Q) := w_ild (show decode kb26 28 = .ok (.iaload, 1) from by decide +kernel) rfl put_a6
theorem m26_29 : M26 29 ls (.int x :: st) H Q = if x = 0 then M26 32 ls st H Q else M26 43 ls st H Q := w_ifN (show decode kb26 29 = .ok (.ifCond .ne 14, 3) from by decide +kernel) (z_ne x) rfl
theorem m26_32 : M26 32 [.val (.ref r), l1, l2, l3, l4] st H Q = M26 33 [.val (.ref r), l1, l2, l3, l4] (.ref r :: st) H Q := w_x (show decode kb26 32 = .ok (.aload_n 0, 1) from by decide +kernel) rfl
theorem m26_33 : M26 33 [l0, .val (.int v), l2, l3, l4] st H Q = M26 34 [l0, .val (.int v), l2, l3, l4] (.int v :: st) H Q := w_x (show decode kb26 33 = .ok (.iload_n 1, 1) from by decide +kernel) rfl
theorem m26_34 : M26 34 ls st H Q = M26 35 ls (.int 1 :: st) H Q := w_con (show decode kb26 34 = .ok (.iconst 1, 1) from by decide +kernel) rfl (by decide)
theorem m26_35 : M26 35 ls (.int y :: .int x :: st) H Q = M26 36 ls (.int (x - y) :: st) H Q := w_x (show decode kb26 35 = .ok (.isub, 1) from by decide +kernel) rfl
theorem m26_36 : M26 36 [l0, l1, l2, l3, .val (.int v)] st H Q = M26 38 [l0, l1, l2, l3, .val (.int v)] (.int v :: st) H Q := w_x (show decode kb26 36 = .ok (.iload 4, 2) from by decide +kernel) rfl
theorem cr26_185 : vR tables_1 dn y26 185 = some (true, y25, prog_1_method_40_code, 3, (some .int), 2, 0) := pR_of (cR_of (by decide +kernel) rc_25 dn_25 dn_26 (sig := ⟨[.int, .int], some .int⟩) (by decide +kernel) (by decide +kernel) rfl rfl) (by decide +kernel) (by decide +kernel)
theorem m26_38 (a0 : Int32) (a1 : Int32) : M26 38 ls [.int a1, .int a0, .ref b] (put b pre s A post) Q = M25 0 [.val (.ref b), .val (.int a0), .val (.int a1)] [] (put b pre s A post) (fun v H1 => M26 41 ls (v.toList ++ []) H1 Q) := w_virt (as := [.int a1, .int a0]) (rest := []) (a := b) (show decode kb26 38 = .ok (.invokevirtual 185, 3) from by decide +kernel) cr26_185 put_o rfl rfl (Nat.le_of_ble_eq_true rfl) (by show 3 ≤ 3; omega) rfl
theorem m26_41i : M26 41 [l0, l1, l2, l3, .val (.int z)] ((.int v) :: st) H Q = M26 43 [l0, l1, l2, l3, .val (.int v)] st H Q := w_st (i := 4) (p := isI) (show decode kb26 41 = .ok (.istore 4, 2) from by decide +kernel) rfl rfl rfl rfl rfl rfl
theorem m26_43 : M26 43 [.val (.ref r), l1, l2, l3, l4] st H Q = M26 44 [.val (.ref r), l1, l2, l3, l4] (.ref r :: st) H Q := w_x (show decode kb26 43 = .ok (.aload_n 0, 1) from by decide +kernel) rfl
theorem m26_44 : M26 44 ls (.ref b :: st) (put b pre s A post) Q = M26 47 ls (.ref (b + 1) :: st) (put b pre s A post) Q := w_get (show decode kb26 44 = .ok (.getfield 7, 3) from by decide +kernel) gf_7 put_o rfl
theorem m26_47 : M26 47 [l0, l1, l2, .val (.int v), l4] st H Q = M26 48 [l0, l1, l2, .val (.int v), l4] (.int v :: st) H Q := w_x (show decode kb26 47 = .ok (.iload_n 3, 1) from by decide +kernel) rfl
theorem m26_48  : M26 48 ls (.int j :: .ref (b + 1) :: st) (put b pre s A post) Q = (inB j (A 0) ∧ M26 49 ls (.int (getA (A 0) j) :: st) (put b pre s A post) Q) := w_ild (show decode kb26 48 = .ok (.iaload, 1) from by decide +kernel) rfl put_a0
theorem m26_49 : M26 49 ls st H Q = M26 50 ls (.int 2 :: st) H Q := w_con (show decode kb26 49 = .ok (.iconst 2, 1) from by decide +kernel) rfl (by decide)
theorem m26_50 : M26 50 ls (.int y :: .int x :: st) H Q = if x = y then M26 53 ls st H Q else M26 82 ls st H Q := w_icmpN (show decode kb26 50 = .ok (.if_icmp .ne 32, 3) from by decide +kernel) (i_ne x y) rfl
theorem m26_53 : M26 53 [.val (.ref r), l1, l2, l3, l4] st H Q = M26 54 [.val (.ref r), l1, l2, l3, l4] (.ref r :: st) H Q := w_x (show decode kb26 53 = .ok (.aload_n 0, 1) from by decide +kernel) rfl
theorem m26_54 : M26 54 ls (.ref b :: st) (put b pre s A post) Q = M26 57 ls (.ref (b + 8) :: st) (put b pre s A post) Q := w_get (show decode kb26 54 = .ok (.getfield 31, 3) from by decide +kernel) gf_31 put_o rfl
theorem m26_57 : M26 57 ls st H Q = M26 58 ls (.int 2 :: st) H Q := w_con (show decode kb26 57 = .ok (.iconst 2, 1) from by decide +kernel) rfl (by decide)
theorem m26_58 : M26 58 [l0, l1, l2, .val (.int v), l4] st H Q = M26 59 [l0, l1, l2, .val (.int v), l4] (.int v :: st) H Q := w_x (show decode kb26 58 = .ok (.iload_n 3, 1) from by decide +kernel) rfl
theorem m26_59 : M26 59 ls (.int y :: .int x :: st) H Q = M26 60 ls (.int (x * y) :: st) H Q := w_x (show decode kb26 59 = .ok (.imul, 1) from by decide +kernel) rfl
theorem m26_60  : M26 60 ls (.int j :: .ref (b + 8) :: st) (put b pre s A post) Q = (inB j (A 7) ∧ M26 61 ls (.int (getA (A 7) j) :: st) (put b pre s A post) Q) := w_ild (show decode kb26 60 = .ok (.iaload, 1) from by decide +kernel) rfl put_a7
theorem m26_61 : M26 61 ls (.int x :: st) H Q = if 0 < x then M26 64 ls st H Q else M26 82 ls st H Q := w_ifN (show decode kb26 61 = .ok (.ifCond .le 21, 3) from by decide +kernel) (z_le x) rfl
theorem m26_64 : M26 64 [.val (.ref r), l1, l2, l3, l4] st H Q = M26 65 [.val (.ref r), l1, l2, l3, l4] (.ref r :: st) H Q := w_x (show decode kb26 64 = .ok (.aload_n 0, 1) from by decide +kernel) rfl
theorem m26_65 : M26 65 ls st H Q = M26 66 ls (.int 2 :: st) H Q := w_con (show decode kb26 65 = .ok (.iconst 2, 1) from by decide +kernel) rfl (by decide)
theorem m26_66 : M26 66 [.val (.ref r), l1, l2, l3, l4] st H Q = M26 67 [.val (.ref r), l1, l2, l3, l4] (.ref r :: st) H Q := w_x (show decode kb26 66 = .ok (.aload_n 0, 1) from by decide +kernel) rfl
theorem m26_67 : M26 67 ls (.ref b :: st) (put b pre s A post) Q = M26 70 ls (.ref (b + 2) :: st) (put b pre s A post) Q := w_get (show decode kb26 67 = .ok (.getfield 13, 3) from by decide +kernel) gf_13 put_o rfl
theorem m26_70 : M26 70 [l0, l1, l2, .val (.int v), l4] st H Q = M26 71 [l0, l1, l2, .val (.int v), l4] (.int v :: st) H Q := w_x (show decode kb26 70 = .ok (.iload_n 3, 1) from by decide +kernel) rfl
theorem m26_71  : M26 71 ls (.int j :: .ref (b + 2) :: st) (put b pre s A post) Q = (inB j (A 1) ∧ M26 72 ls (.int (getA (A 1) j) :: st) (put b pre s A post) Q) := w_ild (show decode kb26 71 = .ok (.iaload, 1) from by decide +kernel) rfl put_a1
theorem m26_72 : M26 72 ls st H Q = M26 73 ls (.int 1 :: st) H Q := w_con (show decode kb26 72 = .ok (.iconst 1, 1) from by decide +kernel) rfl (by decide)
theorem m26_73 : M26 73 ls (.int y :: .int x :: st) H Q = M26 74 ls (.int (XT.ushr x y) :: st) H Q := w_x (show decode kb26 73 = .ok (.iushr, 1) from by decide +kernel) rfl
theorem m26_74 : M26 74 ls (.int y :: .int x :: st) H Q = M26 75 ls (.int (x * y) :: st) H Q := w_x (show decode kb26 74 = .ok (.imul, 1) from by decide +kernel) rfl
theorem m26_75 : M26 75 [l0, l1, l2, l3, .val (.int v)] st H Q = M26 77 [l0, l1, l2, l3, .val (.int v)] (.int v :: st) H Q := w_x (show decode kb26 75 = .ok (.iload 4, 2) from by decide +kernel) rfl
theorem m26_77 (a0 : Int32) (a1 : Int32) : M26 77 ls [.int a1, .int a0, .ref b] (put b pre s A post) Q = M25 0 [.val (.ref b), .val (.int a0), .val (.int a1)] [] (put b pre s A post) (fun v H1 => M26 80 ls (v.toList ++ []) H1 Q) := w_virt (as := [.int a1, .int a0]) (rest := []) (a := b) (show decode kb26 77 = .ok (.invokevirtual 185, 3) from by decide +kernel) cr26_185 put_o rfl rfl (Nat.le_of_ble_eq_true rfl) (by show 3 ≤ 3; omega) rfl
theorem m26_80i : M26 80 [l0, l1, l2, l3, .val (.int z)] ((.int v) :: st) H Q = M26 82 [l0, l1, l2, l3, .val (.int v)] st H Q := w_st (i := 4) (p := isI) (show decode kb26 80 = .ok (.istore 4, 2) from by decide +kernel) rfl rfl rfl rfl rfl rfl
theorem m26_82 : M26 82 [.val (.ref r), l1, l2, l3, l4] st H Q = M26 83 [.val (.ref r), l1, l2, l3, l4] (.ref r :: st) H Q := w_x (show decode kb26 82 = .ok (.aload_n 0, 1) from by decide +kernel) rfl
theorem m26_83 : M26 83 ls (.ref b :: st) (put b pre s A post) Q = M26 86 ls (.ref (b + 1) :: st) (put b pre s A post) Q := w_get (show decode kb26 83 = .ok (.getfield 7, 3) from by decide +kernel) gf_7 put_o rfl
theorem m26_86 : M26 86 [l0, l1, l2, .val (.int v), l4] st H Q = M26 87 [l0, l1, l2, .val (.int v), l4] (.int v :: st) H Q := w_x (show decode kb26 86 = .ok (.iload_n 3, 1) from by decide +kernel) rfl
theorem m26_87  : M26 87 ls (.int j :: .ref (b + 1) :: st) (put b pre s A post) Q = (inB j (A 0) ∧ M26 88 ls (.int (getA (A 0) j) :: st) (put b pre s A post) Q) := w_ild (show decode kb26 87 = .ok (.iaload, 1) from by decide +kernel) rfl put_a0
theorem m26_88 : M26 88 ls st H Q = M26 89 ls (.int 2 :: st) H Q := w_con (show decode kb26 88 = .ok (.iconst 2, 1) from by decide +kernel) rfl (by decide)
theorem m26_89 : M26 89 ls (.int y :: .int x :: st) H Q = if x = y then M26 92 ls st H Q else M26 123 ls st H Q := w_icmpN (show decode kb26 89 = .ok (.if_icmp .ne 34, 3) from by decide +kernel) (i_ne x y) rfl
theorem m26_92 : M26 92 [.val (.ref r), l1, l2, l3, l4] st H Q = M26 93 [.val (.ref r), l1, l2, l3, l4] (.ref r :: st) H Q := w_x (show decode kb26 92 = .ok (.aload_n 0, 1) from by decide +kernel) rfl
theorem m26_93 : M26 93 ls (.ref b :: st) (put b pre s A post) Q = M26 96 ls (.ref (b + 8) :: st) (put b pre s A post) Q := w_get (show decode kb26 93 = .ok (.getfield 31, 3) from by decide +kernel) gf_31 put_o rfl
theorem m26_96 : M26 96 ls st H Q = M26 97 ls (.int 2 :: st) H Q := w_con (show decode kb26 96 = .ok (.iconst 2, 1) from by decide +kernel) rfl (by decide)
theorem m26_97 : M26 97 [l0, l1, l2, .val (.int v), l4] st H Q = M26 98 [l0, l1, l2, .val (.int v), l4] (.int v :: st) H Q := w_x (show decode kb26 97 = .ok (.iload_n 3, 1) from by decide +kernel) rfl
theorem m26_98 : M26 98 ls (.int y :: .int x :: st) H Q = M26 99 ls (.int (x * y) :: st) H Q := w_x (show decode kb26 98 = .ok (.imul, 1) from by decide +kernel) rfl
theorem m26_99 : M26 99 ls st H Q = M26 100 ls (.int 1 :: st) H Q := w_con (show decode kb26 99 = .ok (.iconst 1, 1) from by decide +kernel) rfl (by decide)
theorem m26_100 : M26 100 ls (.int y :: .int x :: st) H Q = M26 101 ls (.int (x + y) :: st) H Q := w_x (show decode kb26 100 = .ok (.iadd, 1) from by decide +kernel) rfl
theorem m26_101  : M26 101 ls (.int j :: .ref (b + 8) :: st) (put b pre s A post) Q = (inB j (A 7) ∧ M26 102 ls (.int (getA (A 7) j) :: st) (put b pre s A post) Q) := w_ild (show decode kb26 101 = .ok (.iaload, 1) from by decide +kernel) rfl put_a7
theorem m26_102 : M26 102 ls (.int x :: st) H Q = if 0 < x then M26 105 ls st H Q else M26 123 ls st H Q := w_ifN (show decode kb26 102 = .ok (.ifCond .le 21, 3) from by decide +kernel) (z_le x) rfl
theorem m26_123 : M26 123 [l0, l1, l2, l3, .val (.int v)] st H Q = M26 125 [l0, l1, l2, l3, .val (.int v)] (.int v :: st) H Q := w_x (show decode kb26 123 = .ok (.iload 4, 2) from by decide +kernel) rfl
theorem m26_125 : M26 125 ls (.int z :: st) H Q = Q (some (.int z)) H := w_iret (show decode kb26 125 = .ok (.ireturn, 1) from by decide +kernel) rfl
theorem m27_0 : M27 0 [l0, .val (.int v), l2, l3, l4, l5] st H Q = M27 1 [l0, .val (.int v), l2, l3, l4, l5] (.int v :: st) H Q := w_x (show decode kb27 0 = .ok (.iload_n 1, 1) from by decide +kernel) rfl
theorem m27_1 : M27 1 ls st H Q = M27 2 ls (.int 1 :: st) H Q := w_con (show decode kb27 1 = .ok (.iconst 1, 1) from by decide +kernel) rfl (by decide)
theorem m27_2 : M27 2 ls (.int y :: .int x :: st) H Q = M27 3 ls (.int (XT.ushr x y) :: st) H Q := w_x (show decode kb27 2 = .ok (.iushr, 1) from by decide +kernel) rfl
theorem m27_3u : M27 3 [l0, l1, l2, .unset, l4, l5] ((.int v) :: st) H Q = M27 4 [l0, l1, l2, .val (.int v), l4, l5] st H Q := w_st (i := 3) (p := isI) (show decode kb27 3 = .ok (.istore_n 3, 1) from by decide +kernel) rfl rfl rfl rfl rfl rfl
theorem m27_4 : M27 4 [l0, l1, .val (.int v), l3, l4, l5] st H Q = M27 5 [l0, l1, .val (.int v), l3, l4, l5] (.int v :: st) H Q := w_x (show decode kb27 4 = .ok (.iload_n 2, 1) from by decide +kernel) rfl
theorem m27_5u : M27 5 [l0, l1, l2, l3, .unset, l5] ((.int v) :: st) H Q = M27 7 [l0, l1, l2, l3, .val (.int v), l5] st H Q := w_st (i := 4) (p := isI) (show decode kb27 5 = .ok (.istore 4, 2) from by decide +kernel) rfl rfl rfl rfl rfl rfl
theorem m27_7 : M27 7 [l0, l1, l2, .val (.int v), l4, l5] st H Q = M27 8 [l0, l1, l2, .val (.int v), l4, l5] (.int v :: st) H Q := w_x (show decode kb27 7 = .ok (.iload_n 3, 1) from by decide +kernel) rfl
theorem m27_8 : M27 8 ls st H Q = M27 9 ls (.int 1 :: st) H Q := w_con (show decode kb27 8 = .ok (.iconst 1, 1) from by decide +kernel) rfl (by decide)
theorem m27_9 : M27 9 ls (.int y :: .int x :: st) H Q = M27 10 ls (.int (x + y) :: st) H Q := w_x (show decode kb27 9 = .ok (.iadd, 1) from by decide +kernel) rfl
theorem m27_10u : M27 10 [l0, l1, l2, l3, l4, .unset] ((.int v) :: st) H Q = M27 12 [l0, l1, l2, l3, l4, .val (.int v)] st H Q := w_st (i := 5) (p := isI) (show decode kb27 10 = .ok (.istore 5, 2) from by decide +kernel) rfl rfl rfl rfl rfl rfl
theorem m27_12 : M27 12 [l0, l1, l2, l3, l4, .val (.int v)] st H Q = M27 14 [l0, l1, l2, l3, l4, .val (.int v)] (.int v :: st) H Q := w_x (show decode kb27 12 = .ok (.iload 5, 2) from by decide +kernel) rfl
theorem m27_14 : M27 14 [.val (.ref r), l1, l2, l3, l4, l5] st H Q = M27 15 [.val (.ref r), l1, l2, l3, l4, l5] (.ref r :: st) H Q := w_x (show decode kb27 14 = .ok (.aload_n 0, 1) from by decide +kernel) rfl
theorem m27_15 : M27 15 ls (.ref b :: st) (put b pre s A post) Q = M27 18 ls (.int (s 4) :: st) (put b pre s A post) Q := w_get (show decode kb27 15 = .ok (.getfield 136, 3) from by decide +kernel) gf_136 put_o rfl
theorem m27_18 : M27 18 ls (.int y :: .int x :: st) H Q = if y < x then M27 101 ls st H Q else M27 21 ls st H Q := w_icmp (show decode kb27 18 = .ok (.if_icmp .gt 83, 3) from by decide +kernel) (i_gt x y) rfl
theorem m27_21 : M27 21 [l0, l1, l2, l3, l4, .val (.int v)] st H Q = M27 23 [l0, l1, l2, l3, l4, .val (.int v)] (.int v :: st) H Q := w_x (show decode kb27 21 = .ok (.iload 5, 2) from by decide +kernel) rfl
theorem m27_23 : M27 23 ls st H Q = M27 25 ls (.int 32 :: st) H Q := w_con (show decode kb27 23 = .ok (.bipush 32, 2) from by decide +kernel) rfl (by decide)
theorem m27_25 : M27 25 ls (.int y :: .int x :: st) H Q = if x < y then M27 28 ls st H Q else M27 101 ls st H Q := w_icmpN (show decode kb27 25 = .ok (.if_icmp .ge 76, 3) from by decide +kernel) (i_ge x y) rfl
theorem m27_28 : M27 28 [.val (.ref r), l1, l2, l3, l4, l5] st H Q = M27 29 [.val (.ref r), l1, l2, l3, l4, l5] (.ref r :: st) H Q := w_x (show decode kb27 28 = .ok (.aload_n 0, 1) from by decide +kernel) rfl
theorem m27_29 : M27 29 [.val (.ref r), l1, l2, l3, l4, l5] st H Q = M27 30 [.val (.ref r), l1, l2, l3, l4, l5] (.ref r :: st) H Q := w_x (show decode kb27 29 = .ok (.aload_n 0, 1) from by decide +kernel) rfl
theorem m27_30 : M27 30 ls (.ref b :: st) (put b pre s A post) Q = M27 33 ls (.int (s 5) :: st) (put b pre s A post) Q := w_get (show decode kb27 30 = .ok (.getfield 139, 3) from by decide +kernel) gf_139 put_o rfl
theorem m27_33 : M27 33 [l0, l1, l2, l3, l4, .val (.int v)] st H Q = M27 35 [l0, l1, l2, l3, l4, .val (.int v)] (.int v :: st) H Q := w_x (show decode kb27 33 = .ok (.iload 5, 2) from by decide +kernel) rfl
theorem cr27_97 : vR tables_1 dn y27 97 = some (true, y8, prog_1_method_19_code, 3, (some .int), 2, 27) := pR_of (cR_of (by decide +kernel) rc_8 dn_8 dn_27 (sig := ⟨[.int, .int], some .int⟩) (by decide +kernel) (by decide +kernel) rfl rfl) (by decide +kernel) (by decide +kernel)
theorem m27_35 (a0 : Int32) (a1 : Int32) : M27 35 ls [.int a1, .int a0, .ref b] (put b pre s A post) Q = M8 0 [.val (.ref b), .val (.int a0), .val (.int a1)] [] (put b pre s A post) (fun v H1 => M27 38 ls (v.toList ++ []) H1 Q) := w_virt (as := [.int a1, .int a0]) (rest := []) (a := b) (show decode kb27 35 = .ok (.invokevirtual 97, 3) from by decide +kernel) cr27_97 put_o rfl rfl (Nat.le_of_ble_eq_true rfl) (by show 3 ≤ 3; omega) rfl
theorem m27_38 : M27 38 ls (.int x :: st) H Q = if x = 0 then M27 95 ls st H Q else M27 41 ls st H Q := w_if (show decode kb27 38 = .ok (.ifCond .eq 57, 3) from by decide +kernel) (z_eq x) rfl
theorem m27_41 : M27 41 [.val (.ref r), l1, l2, l3, l4, l5] st H Q = M27 42 [.val (.ref r), l1, l2, l3, l4, l5] (.ref r :: st) H Q := w_x (show decode kb27 41 = .ok (.aload_n 0, 1) from by decide +kernel) rfl
theorem m27_42 : M27 42 ls (.ref b :: st) (put b pre s A post) Q = M27 45 ls (.ref (b + 1) :: st) (put b pre s A post) Q := w_get (show decode kb27 42 = .ok (.getfield 7, 3) from by decide +kernel) gf_7 put_o rfl
theorem m27_45 : M27 45 [l0, l1, l2, l3, l4, .val (.int v)] st H Q = M27 47 [l0, l1, l2, l3, l4, .val (.int v)] (.int v :: st) H Q := w_x (show decode kb27 45 = .ok (.iload 5, 2) from by decide +kernel) rfl
theorem m27_47  : M27 47 ls (.int j :: .ref (b + 1) :: st) (put b pre s A post) Q = (inB j (A 0) ∧ M27 48 ls (.int (getA (A 0) j) :: st) (put b pre s A post) Q) := w_ild (show decode kb27 47 = .ok (.iaload, 1) from by decide +kernel) rfl put_a0
theorem m27_48 : M27 48 ls st H Q = M27 49 ls (.int 2 :: st) H Q := w_con (show decode kb27 48 = .ok (.iconst 2, 1) from by decide +kernel) rfl (by decide)
theorem m27_49 : M27 49 ls (.int y :: .int x :: st) H Q = if x = y then M27 55 ls st H Q else M27 52 ls st H Q := w_icmp (show decode kb27 49 = .ok (.if_icmp .eq 6, 3) from by decide +kernel) (i_eq x y) rfl
theorem m27_52 : M27 52 ls st H Q = M27 95 ls st H Q := w_x (show decode kb27 52 = .ok (.goto 43, 3) from by decide +kernel) rfl
theorem m27_55 : M27 55 [.val (.ref r), l1, l2, l3, l4, l5] st H Q = M27 56 [.val (.ref r), l1, l2, l3, l4, l5] (.ref r :: st) H Q := w_x (show decode kb27 55 = .ok (.aload_n 0, 1) from by decide +kernel) rfl
theorem m27_56 : M27 56 ls (.ref b :: st) (put b pre s A post) Q = M27 59 ls (.ref (b + 2) :: st) (put b pre s A post) Q := w_get (show decode kb27 56 = .ok (.getfield 13, 3) from by decide +kernel) gf_13 put_o rfl
theorem m27_59 : M27 59 [l0, l1, l2, l3, l4, .val (.int v)] st H Q = M27 61 [l0, l1, l2, l3, l4, .val (.int v)] (.int v :: st) H Q := w_x (show decode kb27 59 = .ok (.iload 5, 2) from by decide +kernel) rfl
theorem m27_61  : M27 61 ls (.int j :: .ref (b + 2) :: st) (put b pre s A post) Q = (inB j (A 1) ∧ M27 62 ls (.int (getA (A 1) j) :: st) (put b pre s A post) Q) := w_ild (show decode kb27 61 = .ok (.iaload, 1) from by decide +kernel) rfl put_a1
theorem m27_62 : M27 62 ls st H Q = M27 63 ls (.int 1 :: st) H Q := w_con (show decode kb27 62 = .ok (.iconst 1, 1) from by decide +kernel) rfl (by decide)
theorem m27_63 : M27 63 ls (.int y :: .int x :: st) H Q = M27 64 ls (.int (XT.ushr x y) :: st) H Q := w_x (show decode kb27 63 = .ok (.iushr, 1) from by decide +kernel) rfl
theorem m27_64 : M27 64 [l0, l1, l2, .val (.int v), l4, l5] st H Q = M27 65 [l0, l1, l2, .val (.int v), l4, l5] (.int v :: st) H Q := w_x (show decode kb27 64 = .ok (.iload_n 3, 1) from by decide +kernel) rfl
theorem m27_65 : M27 65 ls (.int y :: .int x :: st) H Q = if x = y then M27 81 ls st H Q else M27 68 ls st H Q := w_icmp (show decode kb27 65 = .ok (.if_icmp .eq 16, 3) from by decide +kernel) (i_eq x y) rfl
theorem m27_68 : M27 68 [.val (.ref r), l1, l2, l3, l4, l5] st H Q = M27 69 [.val (.ref r), l1, l2, l3, l4, l5] (.ref r :: st) H Q := w_x (show decode kb27 68 = .ok (.aload_n 0, 1) from by decide +kernel) rfl
theorem m27_69 : M27 69 ls (.ref b :: st) (put b pre s A post) Q = M27 72 ls (.ref (b + 3) :: st) (put b pre s A post) Q := w_get (show decode kb27 69 = .ok (.getfield 16, 3) from by decide +kernel) gf_16 put_o rfl
theorem m27_72 : M27 72 [l0, l1, l2, l3, l4, .val (.int v)] st H Q = M27 74 [l0, l1, l2, l3, l4, .val (.int v)] (.int v :: st) H Q := w_x (show decode kb27 72 = .ok (.iload 5, 2) from by decide +kernel) rfl
theorem m27_74  : M27 74 ls (.int j :: .ref (b + 3) :: st) (put b pre s A post) Q = (inB j (A 2) ∧ M27 75 ls (.int (getA (A 2) j) :: st) (put b pre s A post) Q) := w_ild (show decode kb27 74 = .ok (.iaload, 1) from by decide +kernel) rfl put_a2
theorem m27_75 : M27 75 ls st H Q = M27 76 ls (.int 1 :: st) H Q := w_con (show decode kb27 75 = .ok (.iconst 1, 1) from by decide +kernel) rfl (by decide)
theorem m27_76 : M27 76 ls (.int y :: .int x :: st) H Q = M27 77 ls (.int (XT.ushr x y) :: st) H Q := w_x (show decode kb27 76 = .ok (.iushr, 1) from by decide +kernel) rfl
theorem m27_77 : M27 77 [l0, l1, l2, .val (.int v), l4, l5] st H Q = M27 78 [l0, l1, l2, .val (.int v), l4, l5] (.int v :: st) H Q := w_x (show decode kb27 77 = .ok (.iload_n 3, 1) from by decide +kernel) rfl
theorem m27_78 : M27 78 ls (.int y :: .int x :: st) H Q = if x = y then M27 81 ls st H Q else M27 95 ls st H Q := w_icmpN (show decode kb27 78 = .ok (.if_icmp .ne 17, 3) from by decide +kernel) (i_ne x y) rfl
theorem m27_81 : M27 81 [.val (.ref r), l1, l2, l3, l4, l5] st H Q = M27 82 [.val (.ref r), l1, l2, l3, l4, l5] (.ref r :: st) H Q := w_x (show decode kb27 81 = .ok (.aload_n 0, 1) from by decide +kernel) rfl
theorem m27_82 : M27 82 ls st H Q = M27 83 ls (.int 2 :: st) H Q := w_con (show decode kb27 82 = .ok (.iconst 2, 1) from by decide +kernel) rfl (by decide)
theorem m27_83 : M27 83 [l0, l1, l2, l3, l4, .val (.int v)] st H Q = M27 85 [l0, l1, l2, l3, l4, .val (.int v)] (.int v :: st) H Q := w_x (show decode kb27 83 = .ok (.iload 5, 2) from by decide +kernel) rfl
theorem m27_85 : M27 85 ls (.int y :: .int x :: st) H Q = M27 86 ls (.int (x * y) :: st) H Q := w_x (show decode kb27 85 = .ok (.imul, 1) from by decide +kernel) rfl
theorem m27_86 : M27 86 ls st H Q = M27 87 ls (.int 1 :: st) H Q := w_con (show decode kb27 86 = .ok (.iconst 1, 1) from by decide +kernel) rfl (by decide)
theorem m27_87 : M27 87 ls (.int y :: .int x :: st) H Q = M27 88 ls (.int (x + y) :: st) H Q := w_x (show decode kb27 87 = .ok (.iadd, 1) from by decide +kernel) rfl
theorem m27_88 : M27 88 [l0, l1, l2, l3, .val (.int v), l5] st H Q = M27 90 [l0, l1, l2, l3, .val (.int v), l5] (.int v :: st) H Q := w_x (show decode kb27 88 = .ok (.iload 4, 2) from by decide +kernel) rfl
theorem cr27_185 : vR tables_1 dn y27 185 = some (true, y25, prog_1_method_40_code, 3, (some .int), 2, 0) := pR_of (cR_of (by decide +kernel) rc_25 dn_25 dn_27 (sig := ⟨[.int, .int], some .int⟩) (by decide +kernel) (by decide +kernel) rfl rfl) (by decide +kernel) (by decide +kernel)
theorem m27_90 (a0 : Int32) (a1 : Int32) : M27 90 ls [.int a1, .int a0, .ref b] (put b pre s A post) Q = M25 0 [.val (.ref b), .val (.int a0), .val (.int a1)] [] (put b pre s A post) (fun v H1 => M27 93 ls (v.toList ++ []) H1 Q) := w_virt (as := [.int a1, .int a0]) (rest := []) (a := b) (show decode kb27 90 = .ok (.invokevirtual 185, 3) from by decide +kernel) cr27_185 put_o rfl rfl (Nat.le_of_ble_eq_true rfl) (by show 3 ≤ 3; omega) rfl
theorem m27_93i : M27 93 [l0, l1, l2, l3, .val (.int z), l5] ((.int v) :: st) H Q = M27 95 [l0, l1, l2, l3, .val (.int v), l5] st H Q := w_st (i := 4) (p := isI) (show decode kb27 93 = .ok (.istore 4, 2) from by decide +kernel) rfl rfl rfl rfl rfl rfl
theorem m27_95 : M27 95 [l0, l1, l2, l3, l4, .val (.int v)] st H Q = M27 98 [l0, l1, l2, l3, l4, .val (.int (v + 1))] st H Q := w_iinc (show decode kb27 95 = .ok (.iinc 5 1, 3) from by decide +kernel) rfl (by decide) rfl
theorem m27_98 : M27 98 ls st H Q = M27 12 ls st H Q := w_x (show decode kb27 98 = .ok (.goto (-86), 3) from by decide +kernel) rfl
theorem m27_101 : M27 101 [.val (.ref r), l1, l2, l3, l4, l5] st H Q = M27 102 [.val (.ref r), l1, l2, l3, l4, l5] (.ref r :: st) H Q := w_x (show decode kb27 101 = .ok (.aload_n 0, 1) from by decide +kernel) rfl
theorem m27_102 : M27 102 ls (.ref b :: st) (put b pre s A post) Q = M27 105 ls (.ref (b + 7) :: st) (put b pre s A post) Q := w_get (show decode kb27 102 = .ok (.getfield 28, 3) from by decide +kernel) gf_28 put_o rfl
theorem m27_105 : M27 105 [l0, l1, l2, .val (.int v), l4, l5] st H Q = M27 106 [l0, l1, l2, .val (.int v), l4, l5] (.int v :: st) H Q := w_x (show decode kb27 105 = .ok (.iload_n 3, 1) from by decide +kernel) rfl
theorem m27_106  : M27 106 ls (.int j :: .ref (b + 7) :: st) (put b pre s A post) Q = (inB j (A 6) ∧ M27 107 ls (.int (getA (A 6) j) :: st) (put b pre s A post) Q) := w_ild (show decode kb27 106 = .ok (.iaload, 1) from by decide +kernel) rfl put_a6
theorem m27_107 : M27 107 ls (.int x :: st) H Q = if 0 < x then M27 110 ls st H Q else M27 121 ls st H Q := w_ifN (show decode kb27 107 = .ok (.ifCond .le 14, 3) from by decide +kernel) (z_le x) rfl
theorem m27_110 : M27 110 [.val (.ref r), l1, l2, l3, l4, l5] st H Q = M27 111 [.val (.ref r), l1, l2, l3, l4, l5] (.ref r :: st) H Q := w_x (show decode kb27 110 = .ok (.aload_n 0, 1) from by decide +kernel) rfl
theorem m27_111 : M27 111 [l0, .val (.int v), l2, l3, l4, l5] st H Q = M27 112 [l0, .val (.int v), l2, l3, l4, l5] (.int v :: st) H Q := w_x (show decode kb27 111 = .ok (.iload_n 1, 1) from by decide +kernel) rfl
theorem m27_112 : M27 112 ls st H Q = M27 113 ls (.int 1 :: st) H Q := w_con (show decode kb27 112 = .ok (.iconst 1, 1) from by decide +kernel) rfl (by decide)
theorem m27_113 : M27 113 ls (.int y :: .int x :: st) H Q = M27 114 ls (.int (x + y) :: st) H Q := w_x (show decode kb27 113 = .ok (.iadd, 1) from by decide +kernel) rfl
theorem m27_114 : M27 114 [l0, l1, l2, l3, .val (.int v), l5] st H Q = M27 116 [l0, l1, l2, l3, .val (.int v), l5] (.int v :: st) H Q := w_x (show decode kb27 114 = .ok (.iload 4, 2) from by decide +kernel) rfl
theorem m27_116 (a0 : Int32) (a1 : Int32) : M27 116 ls [.int a1, .int a0, .ref b] (put b pre s A post) Q = M25 0 [.val (.ref b), .val (.int a0), .val (.int a1)] [] (put b pre s A post) (fun v H1 => M27 119 ls (v.toList ++ []) H1 Q) := w_virt (as := [.int a1, .int a0]) (rest := []) (a := b) (show decode kb27 116 = .ok (.invokevirtual 185, 3) from by decide +kernel) cr27_185 put_o rfl rfl (Nat.le_of_ble_eq_true rfl) (by show 3 ≤ 3; omega) rfl
theorem m27_119i : M27 119 [l0, l1, l2, l3, .val (.int z), l5] ((.int v) :: st) H Q = M27 121 [l0, l1, l2, l3, .val (.int v), l5] st H Q := w_st (i := 4) (p := isI) (show decode kb27 119 = .ok (.istore 4, 2) from by decide +kernel) rfl rfl rfl rfl rfl rfl
theorem m27_121 : M27 121 [l0, l1, l2, l3, .val (.int v), l5] st H Q = M27 123 [l0, l1, l2, l3, .val (.int v), l5] (.int v :: st) H Q := w_x (show decode kb27 121 = .ok (.iload 4, 2) from by decide +kernel) rfl
theorem m27_123 : M27 123 ls (.int z :: st) H Q = Q (some (.int z)) H := w_iret (show decode kb27 123 = .ok (.ireturn, 1) from by decide +kernel) rfl
theorem m28_0 : M28 0 [.val (.ref r), l1, l2, l3, l4, l5] st H Q = M28 1 [.val (.ref r), l1, l2, l3, l4, l5] (.ref r :: st) H Q := w_x (show decode kb28 0 = .ok (.aload_n 0, 1) from by decide +kernel) rfl
theorem m28_1 : M28 1 [l0, l1, .val (.int v), l3, l4, l5] st H Q = M28 2 [l0, l1, .val (.int v), l3, l4, l5] (.int v :: st) H Q := w_x (show decode kb28 1 = .ok (.iload_n 2, 1) from by decide +kernel) rfl
theorem m28_2 : M28 2 [l0, .val (.int v), l2, l3, l4, l5] st H Q = M28 3 [l0, .val (.int v), l2, l3, l4, l5] (.int v :: st) H Q := w_x (show decode kb28 2 = .ok (.iload_n 1, 1) from by decide +kernel) rfl
theorem cr28_97 : vR tables_1 dn y28 97 = some (true, y8, prog_1_method_19_code, 3, (some .int), 2, 16) := pR_of (cR_of (by decide +kernel) rc_8 dn_8 dn_28 (sig := ⟨[.int, .int], some .int⟩) (by decide +kernel) (by decide +kernel) rfl rfl) (by decide +kernel) (by decide +kernel)
theorem m28_3 (a0 : Int32) (a1 : Int32) : M28 3 ls [.int a1, .int a0, .ref b] (put b pre s A post) Q = M8 0 [.val (.ref b), .val (.int a0), .val (.int a1)] [] (put b pre s A post) (fun v H1 => M28 6 ls (v.toList ++ []) H1 Q) := w_virt (as := [.int a1, .int a0]) (rest := []) (a := b) (show decode kb28 3 = .ok (.invokevirtual 97, 3) from by decide +kernel) cr28_97 put_o rfl rfl (Nat.le_of_ble_eq_true rfl) (by show 3 ≤ 3; omega) rfl
theorem m28_6 : M28 6 ls (.int x :: st) H Q = if x = 0 then M28 11 ls st H Q else M28 9 ls st H Q := w_if (show decode kb28 6 = .ok (.ifCond .eq 5, 3) from by decide +kernel) (z_eq x) rfl
theorem m28_11 : M28 11 [.val (.ref r), l1, l2, l3, l4, l5] st H Q = M28 12 [.val (.ref r), l1, l2, l3, l4, l5] (.ref r :: st) H Q := w_x (show decode kb28 11 = .ok (.aload_n 0, 1) from by decide +kernel) rfl
theorem m28_12 : M28 12 [l0, l1, .val (.int v), l3, l4, l5] st H Q = M28 13 [l0, l1, .val (.int v), l3, l4, l5] (.int v :: st) H Q := w_x (show decode kb28 12 = .ok (.iload_n 2, 1) from by decide +kernel) rfl
theorem cr28_116 : vR tables_1 dn y28 116 = some (true, y29, prog_1_method_20_code, 4, (some .int), 1, 15) := pR_of (cR_of (by decide +kernel) rc_29 dn_29 dn_28 (sig := ⟨[.int], some .int⟩) (by decide +kernel) (by decide +kernel) rfl rfl) (by decide +kernel) (by decide +kernel)
theorem m28_13 (a0 : Int32) : M28 13 ls [.int a0, .ref b] (put b pre s A post) Q = M29 0 [.val (.ref b), .val (.int a0), .unset, .unset] [] (put b pre s A post) (fun v H1 => M28 16 ls (v.toList ++ []) H1 Q) := w_virt (as := [.int a0]) (rest := []) (a := b) (show decode kb28 13 = .ok (.invokevirtual 116, 3) from by decide +kernel) cr28_116 put_o rfl rfl (Nat.le_of_ble_eq_true rfl) (by show 2 ≤ 4; omega) rfl
theorem m28_16u : M28 16 [l0, l1, l2, .unset, l4, l5] ((.int v) :: st) H Q = M28 17 [l0, l1, l2, .val (.int v), l4, l5] st H Q := w_st (i := 3) (p := isI) (show decode kb28 16 = .ok (.istore_n 3, 1) from by decide +kernel) rfl rfl rfl rfl rfl rfl
theorem m28_17 : M28 17 [l0, l1, l2, .val (.int v), l4, l5] st H Q = M28 18 [l0, l1, l2, .val (.int v), l4, l5] (.int v :: st) H Q := w_x (show decode kb28 17 = .ok (.iload_n 3, 1) from by decide +kernel) rfl
theorem m28_18 : M28 18 ls st H Q = M28 19 ls (.int 1 :: st) H Q := w_con (show decode kb28 18 = .ok (.iconst 1, 1) from by decide +kernel) rfl (by decide)
theorem m28_19 : M28 19 ls (.int y :: .int x :: st) H Q = if x < y then M28 27 ls st H Q else M28 22 ls st H Q := w_icmp (show decode kb28 19 = .ok (.if_icmp .lt 8, 3) from by decide +kernel) (i_lt x y) rfl
theorem m28_22 : M28 22 [l0, l1, l2, .val (.int v), l4, l5] st H Q = M28 23 [l0, l1, l2, .val (.int v), l4, l5] (.int v :: st) H Q := w_x (show decode kb28 22 = .ok (.iload_n 3, 1) from by decide +kernel) rfl
theorem m28_23 : M28 23 ls st H Q = M28 24 ls (.int 4 :: st) H Q := w_con (show decode kb28 23 = .ok (.iconst 4, 1) from by decide +kernel) rfl (by decide)
theorem m28_24 : M28 24 ls (.int y :: .int x :: st) H Q = if y < x then M28 27 ls st H Q else M28 29 ls st H Q := w_icmpN (show decode kb28 24 = .ok (.if_icmp .le 5, 3) from by decide +kernel) (i_le x y) rfl
theorem m28_29 : M28 29 [.val (.ref r), l1, l2, l3, l4, l5] st H Q = M28 30 [.val (.ref r), l1, l2, l3, l4, l5] (.ref r :: st) H Q := w_x (show decode kb28 29 = .ok (.aload_n 0, 1) from by decide +kernel) rfl
theorem m28_30 : M28 30 [l0, .val (.int v), l2, l3, l4, l5] st H Q = M28 31 [l0, .val (.int v), l2, l3, l4, l5] (.int v :: st) H Q := w_x (show decode kb28 30 = .ok (.iload_n 1, 1) from by decide +kernel) rfl
theorem m28_31 : M28 31 [l0, l1, .val (.int v), l3, l4, l5] st H Q = M28 32 [l0, l1, .val (.int v), l3, l4, l5] (.int v :: st) H Q := w_x (show decode kb28 31 = .ok (.iload_n 2, 1) from by decide +kernel) rfl
theorem cr28_119 : vR tables_1 dn y28 119 = some (true, y7, prog_1_method_24_code, 5, (some .int), 2, 0) := pR_of (cR_of (by decide +kernel) rc_7 dn_7 dn_28 (sig := ⟨[.int, .int], some .int⟩) (by decide +kernel) (by decide +kernel) rfl rfl) (by decide +kernel) (by decide +kernel)
theorem m28_32 (a0 : Int32) (a1 : Int32) : M28 32 ls [.int a1, .int a0, .ref b] (put b pre s A post) Q = M7 0 [.val (.ref b), .val (.int a0), .val (.int a1), .unset, .unset] [] (put b pre s A post) (fun v H1 => M28 35 ls (v.toList ++ []) H1 Q) := w_virt (as := [.int a1, .int a0]) (rest := []) (a := b) (show decode kb28 32 = .ok (.invokevirtual 119, 3) from by decide +kernel) cr28_119 put_o rfl rfl (Nat.le_of_ble_eq_true rfl) (by show 3 ≤ 5; omega) rfl
theorem m28_35u : M28 35 [l0, l1, l2, l3, .unset, l5] ((.int v) :: st) H Q = M28 37 [l0, l1, l2, l3, .val (.int v), l5] st H Q := w_st (i := 4) (p := isI) (show decode kb28 35 = .ok (.istore 4, 2) from by decide +kernel) rfl rfl rfl rfl rfl rfl
theorem m28_37 : M28 37 ls st H Q = M28 38 ls (.int 0 :: st) H Q := w_con (show decode kb28 37 = .ok (.iconst 0, 1) from by decide +kernel) rfl (by decide)
theorem m28_38u : M28 38 [l0, l1, l2, l3, l4, .unset] ((.int v) :: st) H Q = M28 40 [l0, l1, l2, l3, l4, .val (.int v)] st H Q := w_st (i := 5) (p := isI) (show decode kb28 38 = .ok (.istore 5, 2) from by decide +kernel) rfl rfl rfl rfl rfl rfl
theorem m28_40 : M28 40 [l0, l1, l2, l3, l4, .val (.int v)] st H Q = M28 42 [l0, l1, l2, l3, l4, .val (.int v)] (.int v :: st) H Q := w_x (show decode kb28 40 = .ok (.iload 5, 2) from by decide +kernel) rfl
theorem m28_42 : M28 42 [l0, .val (.int v), l2, l3, l4, l5] st H Q = M28 43 [l0, .val (.int v), l2, l3, l4, l5] (.int v :: st) H Q := w_x (show decode kb28 42 = .ok (.iload_n 1, 1) from by decide +kernel) rfl
theorem m28_43 : M28 43 ls (.int y :: .int x :: st) H Q = if x < y then M28 46 ls st H Q else M28 86 ls st H Q := w_icmpN (show decode kb28 43 = .ok (.if_icmp .ge 43, 3) from by decide +kernel) (i_ge x y) rfl
theorem m28_46 : M28 46 [.val (.ref r), l1, l2, l3, l4, l5] st H Q = M28 47 [.val (.ref r), l1, l2, l3, l4, l5] (.ref r :: st) H Q := w_x (show decode kb28 46 = .ok (.aload_n 0, 1) from by decide +kernel) rfl
theorem m28_47 : M28 47 [l0, l1, l2, l3, .val (.int v), l5] st H Q = M28 49 [l0, l1, l2, l3, .val (.int v), l5] (.int v :: st) H Q := w_x (show decode kb28 47 = .ok (.iload 4, 2) from by decide +kernel) rfl
theorem m28_49 : M28 49 [l0, l1, l2, l3, l4, .val (.int v)] st H Q = M28 51 [l0, l1, l2, l3, l4, .val (.int v)] (.int v :: st) H Q := w_x (show decode kb28 49 = .ok (.iload 5, 2) from by decide +kernel) rfl
theorem m28_51 (a0 : Int32) (a1 : Int32) : M28 51 ls [.int a1, .int a0, .ref b] (put b pre s A post) Q = M8 0 [.val (.ref b), .val (.int a0), .val (.int a1)] [] (put b pre s A post) (fun v H1 => M28 54 ls (v.toList ++ []) H1 Q) := w_virt (as := [.int a1, .int a0]) (rest := []) (a := b) (show decode kb28 51 = .ok (.invokevirtual 97, 3) from by decide +kernel) cr28_97 put_o rfl rfl (Nat.le_of_ble_eq_true rfl) (by show 3 ≤ 3; omega) rfl
theorem m28_54 : M28 54 ls (.int x :: st) H Q = if x = 0 then M28 80 ls st H Q else M28 57 ls st H Q := w_if (show decode kb28 54 = .ok (.ifCond .eq 26, 3) from by decide +kernel) (z_eq x) rfl
theorem m28_57 : M28 57 [.val (.ref r), l1, l2, l3, l4, l5] st H Q = M28 58 [.val (.ref r), l1, l2, l3, l4, l5] (.ref r :: st) H Q := w_x (show decode kb28 57 = .ok (.aload_n 0, 1) from by decide +kernel) rfl
theorem m28_58 : M28 58 ls (.ref b :: st) (put b pre s A post) Q = M28 61 ls (.ref (b + 1) :: st) (put b pre s A post) Q := w_get (show decode kb28 58 = .ok (.getfield 7, 3) from by decide +kernel) gf_7 put_o rfl
theorem m28_61 : M28 61 [l0, l1, l2, l3, l4, .val (.int v)] st H Q = M28 63 [l0, l1, l2, l3, l4, .val (.int v)] (.int v :: st) H Q := w_x (show decode kb28 61 = .ok (.iload 5, 2) from by decide +kernel) rfl
theorem m28_63  : M28 63 ls (.int j :: .ref (b + 1) :: st) (put b pre s A post) Q = (inB j (A 0) ∧ M28 64 ls (.int (getA (A 0) j) :: st) (put b pre s A post) Q) := w_ild (show decode kb28 63 = .ok (.iaload, 1) from by decide +kernel) rfl put_a0
theorem m28_64 : M28 64 ls st H Q = M28 65 ls (.int 1 :: st) H Q := w_con (show decode kb28 64 = .ok (.iconst 1, 1) from by decide +kernel) rfl (by decide)
theorem m28_65 : M28 65 ls (.int y :: .int x :: st) H Q = if x = y then M28 68 ls st H Q else M28 80 ls st H Q := w_icmpN (show decode kb28 65 = .ok (.if_icmp .ne 15, 3) from by decide +kernel) (i_ne x y) rfl
theorem m28_68 : M28 68 [.val (.ref r), l1, l2, l3, l4, l5] st H Q = M28 69 [.val (.ref r), l1, l2, l3, l4, l5] (.ref r :: st) H Q := w_x (show decode kb28 68 = .ok (.aload_n 0, 1) from by decide +kernel) rfl
theorem m28_69 : M28 69 [l0, l1, .val (.int v), l3, l4, l5] st H Q = M28 70 [l0, l1, .val (.int v), l3, l4, l5] (.int v :: st) H Q := w_x (show decode kb28 69 = .ok (.iload_n 2, 1) from by decide +kernel) rfl
theorem m28_70 : M28 70 [l0, l1, l2, l3, l4, .val (.int v)] st H Q = M28 72 [l0, l1, l2, l3, l4, .val (.int v)] (.int v :: st) H Q := w_x (show decode kb28 70 = .ok (.iload 5, 2) from by decide +kernel) rfl
theorem m28_72 (a0 : Int32) (a1 : Int32) : M28 72 ls [.int a1, .int a0, .ref b] (put b pre s A post) Q = M8 0 [.val (.ref b), .val (.int a0), .val (.int a1)] [] (put b pre s A post) (fun v H1 => M28 75 ls (v.toList ++ []) H1 Q) := w_virt (as := [.int a1, .int a0]) (rest := []) (a := b) (show decode kb28 72 = .ok (.invokevirtual 97, 3) from by decide +kernel) cr28_97 put_o rfl rfl (Nat.le_of_ble_eq_true rfl) (by show 3 ≤ 3; omega) rfl
theorem m28_75 : M28 75 ls (.int x :: st) H Q = if x = 0 then M28 78 ls st H Q else M28 80 ls st H Q := w_ifN (show decode kb28 75 = .ok (.ifCond .ne 5, 3) from by decide +kernel) (z_ne x) rfl
theorem m28_80 : M28 80 [l0, l1, l2, l3, l4, .val (.int v)] st H Q = M28 83 [l0, l1, l2, l3, l4, .val (.int (v + 1))] st H Q := w_iinc (show decode kb28 80 = .ok (.iinc 5 1, 3) from by decide +kernel) rfl (by decide) rfl
theorem m28_83 : M28 83 ls st H Q = M28 40 ls st H Q := w_x (show decode kb28 83 = .ok (.goto (-43), 3) from by decide +kernel) rfl
theorem m28_86 : M28 86 ls st H Q = M28 87 ls (.int 1 :: st) H Q := w_con (show decode kb28 86 = .ok (.iconst 1, 1) from by decide +kernel) rfl (by decide)
theorem m28_87 : M28 87 ls (.int z :: st) H Q = Q (some (.int (nar .boolean z))) H := w_iretN (show decode kb28 87 = .ok (.ireturn, 1) from by decide +kernel) rfl (by simp)
theorem m29_0 : M29 0 ls st H Q = M29 1 ls (.int 0 :: st) H Q := w_con (show decode kb29 0 = .ok (.iconst 0, 1) from by decide +kernel) rfl (by decide)
theorem m29_1u : M29 1 [l0, l1, .unset, l3] ((.int v) :: st) H Q = M29 2 [l0, l1, .val (.int v), l3] st H Q := w_st (i := 2) (p := isI) (show decode kb29 1 = .ok (.istore_n 2, 1) from by decide +kernel) rfl rfl rfl rfl rfl rfl
theorem m29_2 : M29 2 ls st H Q = M29 3 ls (.int 0 :: st) H Q := w_con (show decode kb29 2 = .ok (.iconst 0, 1) from by decide +kernel) rfl (by decide)
theorem m29_3u : M29 3 [l0, l1, l2, .unset] ((.int v) :: st) H Q = M29 4 [l0, l1, l2, .val (.int v)] st H Q := w_st (i := 3) (p := isI) (show decode kb29 3 = .ok (.istore_n 3, 1) from by decide +kernel) rfl rfl rfl rfl rfl rfl
theorem m29_4 : M29 4 [l0, l1, l2, .val (.int v)] st H Q = M29 5 [l0, l1, l2, .val (.int v)] (.int v :: st) H Q := w_x (show decode kb29 4 = .ok (.iload_n 3, 1) from by decide +kernel) rfl
theorem m29_5 : M29 5 ls st H Q = M29 7 ls (.int 32 :: st) H Q := w_con (show decode kb29 5 = .ok (.bipush 32, 2) from by decide +kernel) rfl (by decide)
theorem m29_7 : M29 7 ls (.int y :: .int x :: st) H Q = if x < y then M29 10 ls st H Q else M29 24 ls st H Q := w_icmpN (show decode kb29 7 = .ok (.if_icmp .ge 17, 3) from by decide +kernel) (i_ge x y) rfl
theorem m29_10 : M29 10 [l0, l1, .val (.int v), l3] st H Q = M29 11 [l0, l1, .val (.int v), l3] (.int v :: st) H Q := w_x (show decode kb29 10 = .ok (.iload_n 2, 1) from by decide +kernel) rfl
theorem m29_11 : M29 11 [l0, .val (.int v), l2, l3] st H Q = M29 12 [l0, .val (.int v), l2, l3] (.int v :: st) H Q := w_x (show decode kb29 11 = .ok (.iload_n 1, 1) from by decide +kernel) rfl
theorem m29_12 : M29 12 [l0, l1, l2, .val (.int v)] st H Q = M29 13 [l0, l1, l2, .val (.int v)] (.int v :: st) H Q := w_x (show decode kb29 12 = .ok (.iload_n 3, 1) from by decide +kernel) rfl
theorem m29_13 : M29 13 ls (.int y :: .int x :: st) H Q = M29 14 ls (.int (XT.ushr x y) :: st) H Q := w_x (show decode kb29 13 = .ok (.iushr, 1) from by decide +kernel) rfl
theorem m29_14 : M29 14 ls st H Q = M29 15 ls (.int 1 :: st) H Q := w_con (show decode kb29 14 = .ok (.iconst 1, 1) from by decide +kernel) rfl (by decide)
theorem m29_15 : M29 15 ls (.int y :: .int x :: st) H Q = M29 16 ls (.int (x &&& y) :: st) H Q := w_x (show decode kb29 15 = .ok (.iand, 1) from by decide +kernel) rfl
theorem m29_16 : M29 16 ls (.int y :: .int x :: st) H Q = M29 17 ls (.int (x + y) :: st) H Q := w_x (show decode kb29 16 = .ok (.iadd, 1) from by decide +kernel) rfl
theorem m29_17i : M29 17 [l0, l1, .val (.int z), l3] ((.int v) :: st) H Q = M29 18 [l0, l1, .val (.int v), l3] st H Q := w_st (i := 2) (p := isI) (show decode kb29 17 = .ok (.istore_n 2, 1) from by decide +kernel) rfl rfl rfl rfl rfl rfl
theorem m29_18 : M29 18 [l0, l1, l2, .val (.int v)] st H Q = M29 21 [l0, l1, l2, .val (.int (v + 1))] st H Q := w_iinc (show decode kb29 18 = .ok (.iinc 3 1, 3) from by decide +kernel) rfl (by decide) rfl
theorem m29_21 : M29 21 ls st H Q = M29 4 ls st H Q := w_x (show decode kb29 21 = .ok (.goto (-17), 3) from by decide +kernel) rfl
theorem m29_24 : M29 24 [l0, l1, .val (.int v), l3] st H Q = M29 25 [l0, l1, .val (.int v), l3] (.int v :: st) H Q := w_x (show decode kb29 24 = .ok (.iload_n 2, 1) from by decide +kernel) rfl
theorem m29_25 : M29 25 ls (.int z :: st) H Q = Q (some (.int z)) H := w_iret (show decode kb29 25 = .ok (.ireturn, 1) from by decide +kernel) rfl
theorem m30_0 : M30 0 [.val (.ref r), l1, l2, l3, l4, l5] st H Q = M30 1 [.val (.ref r), l1, l2, l3, l4, l5] (.ref r :: st) H Q := w_x (show decode kb30 0 = .ok (.aload_n 0, 1) from by decide +kernel) rfl
theorem m30_1 : M30 1 [l0, .val (.int v), l2, l3, l4, l5] st H Q = M30 2 [l0, .val (.int v), l2, l3, l4, l5] (.int v :: st) H Q := w_x (show decode kb30 1 = .ok (.iload_n 1, 1) from by decide +kernel) rfl
theorem m30_2 : M30 2 [l0, l1, .val (.int v), l3, l4, l5] st H Q = M30 3 [l0, l1, .val (.int v), l3, l4, l5] (.int v :: st) H Q := w_x (show decode kb30 2 = .ok (.iload_n 2, 1) from by decide +kernel) rfl
theorem cr30_119 : vR tables_1 dn y30 119 = some (true, y7, prog_1_method_24_code, 5, (some .int), 2, 0) := pR_of (cR_of (by decide +kernel) rc_7 dn_7 dn_30 (sig := ⟨[.int, .int], some .int⟩) (by decide +kernel) (by decide +kernel) rfl rfl) (by decide +kernel) (by decide +kernel)
theorem m30_3 (a0 : Int32) (a1 : Int32) : M30 3 ls [.int a1, .int a0, .ref b] (put b pre s A post) Q = M7 0 [.val (.ref b), .val (.int a0), .val (.int a1), .unset, .unset] [] (put b pre s A post) (fun v H1 => M30 6 ls (v.toList ++ []) H1 Q) := w_virt (as := [.int a1, .int a0]) (rest := []) (a := b) (show decode kb30 3 = .ok (.invokevirtual 119, 3) from by decide +kernel) cr30_119 put_o rfl rfl (Nat.le_of_ble_eq_true rfl) (by show 3 ≤ 5; omega) rfl
theorem m30_6u : M30 6 [l0, l1, l2, .unset, l4, l5] ((.int v) :: st) H Q = M30 7 [l0, l1, l2, .val (.int v), l4, l5] st H Q := w_st (i := 3) (p := isI) (show decode kb30 6 = .ok (.istore_n 3, 1) from by decide +kernel) rfl rfl rfl rfl rfl rfl
theorem m30_7 : M30 7 ls st H Q = M30 8 ls (.int 0 :: st) H Q := w_con (show decode kb30 7 = .ok (.iconst 0, 1) from by decide +kernel) rfl (by decide)
theorem m30_8u : M30 8 [l0, l1, l2, l3, .unset, l5] ((.int v) :: st) H Q = M30 10 [l0, l1, l2, l3, .val (.int v), l5] st H Q := w_st (i := 4) (p := isI) (show decode kb30 8 = .ok (.istore 4, 2) from by decide +kernel) rfl rfl rfl rfl rfl rfl
theorem m30_10 : M30 10 ls st H Q = M30 11 ls (.int 0 :: st) H Q := w_con (show decode kb30 10 = .ok (.iconst 0, 1) from by decide +kernel) rfl (by decide)
theorem m30_11u : M30 11 [l0, l1, l2, l3, l4, .unset] ((.int v) :: st) H Q = M30 13 [l0, l1, l2, l3, l4, .val (.int v)] st H Q := w_st (i := 5) (p := isI) (show decode kb30 11 = .ok (.istore 5, 2) from by decide +kernel) rfl rfl rfl rfl rfl rfl
theorem m30_13 : M30 13 [l0, l1, l2, l3, l4, .val (.int v)] st H Q = M30 15 [l0, l1, l2, l3, l4, .val (.int v)] (.int v :: st) H Q := w_x (show decode kb30 13 = .ok (.iload 5, 2) from by decide +kernel) rfl
theorem m30_15 : M30 15 [l0, .val (.int v), l2, l3, l4, l5] st H Q = M30 16 [l0, .val (.int v), l2, l3, l4, l5] (.int v :: st) H Q := w_x (show decode kb30 15 = .ok (.iload_n 1, 1) from by decide +kernel) rfl
theorem m30_16 : M30 16 ls (.int y :: .int x :: st) H Q = if y < x then M30 105 ls st H Q else M30 19 ls st H Q := w_icmp (show decode kb30 16 = .ok (.if_icmp .gt 89, 3) from by decide +kernel) (i_gt x y) rfl
theorem m30_19 : M30 19 [.val (.ref r), l1, l2, l3, l4, l5] st H Q = M30 20 [.val (.ref r), l1, l2, l3, l4, l5] (.ref r :: st) H Q := w_x (show decode kb30 19 = .ok (.aload_n 0, 1) from by decide +kernel) rfl
theorem m30_20 : M30 20 [l0, l1, .val (.int v), l3, l4, l5] st H Q = M30 21 [l0, l1, .val (.int v), l3, l4, l5] (.int v :: st) H Q := w_x (show decode kb30 20 = .ok (.iload_n 2, 1) from by decide +kernel) rfl
theorem m30_21 : M30 21 [l0, l1, l2, l3, l4, .val (.int v)] st H Q = M30 23 [l0, l1, l2, l3, l4, .val (.int v)] (.int v :: st) H Q := w_x (show decode kb30 21 = .ok (.iload 5, 2) from by decide +kernel) rfl
theorem cr30_97 : vR tables_1 dn y30 97 = some (true, y8, prog_1_method_19_code, 3, (some .int), 2, 16) := pR_of (cR_of (by decide +kernel) rc_8 dn_8 dn_30 (sig := ⟨[.int, .int], some .int⟩) (by decide +kernel) (by decide +kernel) rfl rfl) (by decide +kernel) (by decide +kernel)
theorem m30_23 (a0 : Int32) (a1 : Int32) : M30 23 ls [.int a1, .int a0, .ref b] (put b pre s A post) Q = M8 0 [.val (.ref b), .val (.int a0), .val (.int a1)] [] (put b pre s A post) (fun v H1 => M30 26 ls (v.toList ++ []) H1 Q) := w_virt (as := [.int a1, .int a0]) (rest := []) (a := b) (show decode kb30 23 = .ok (.invokevirtual 97, 3) from by decide +kernel) cr30_97 put_o rfl rfl (Nat.le_of_ble_eq_true rfl) (by show 3 ≤ 3; omega) rfl
theorem m30_26 : M30 26 ls (.int x :: st) H Q = if x = 0 then M30 48 ls st H Q else M30 29 ls st H Q := w_if (show decode kb30 26 = .ok (.ifCond .eq 22, 3) from by decide +kernel) (z_eq x) rfl
theorem m30_29 : M30 29 [.val (.ref r), l1, l2, l3, l4, l5] st H Q = M30 30 [.val (.ref r), l1, l2, l3, l4, l5] (.ref r :: st) H Q := w_x (show decode kb30 29 = .ok (.aload_n 0, 1) from by decide +kernel) rfl
theorem m30_30 : M30 30 ls (.ref b :: st) (put b pre s A post) Q = M30 33 ls (.ref (b + 15) :: st) (put b pre s A post) Q := w_get (show decode kb30 30 = .ok (.getfield 52, 3) from by decide +kernel) gf_52 put_o rfl
theorem m30_33 : M30 33 [l0, l1, l2, l3, l4, .val (.int v)] st H Q = M30 35 [l0, l1, l2, l3, l4, .val (.int v)] (.int v :: st) H Q := w_x (show decode kb30 33 = .ok (.iload 5, 2) from by decide +kernel) rfl
theorem m30_35 : M30 35 [.val (.ref r), l1, l2, l3, l4, l5] st H Q = M30 36 [.val (.ref r), l1, l2, l3, l4, l5] (.ref r :: st) H Q := w_x (show decode kb30 35 = .ok (.aload_n 0, 1) from by decide +kernel) rfl
theorem m30_36 : M30 36 [l0, l1, l2, l3, .val (.int v), l5] st H Q = M30 38 [l0, l1, l2, l3, .val (.int v), l5] (.int v :: st) H Q := w_x (show decode kb30 36 = .ok (.iload 4, 2) from by decide +kernel) rfl
theorem cr30_127 : vR tables_1 dn y30 127 = some (true, y31, prog_1_method_26_code, 2, (some .int), 1, 17) := pR_of (cR_of (by decide +kernel) rc_31 dn_31 dn_30 (sig := ⟨[.int], some .int⟩) (by decide +kernel) (by decide +kernel) rfl rfl) (by decide +kernel) (by decide +kernel)
theorem m30_38 (a0 : Int32) (u0 : Int32) (u1 : Nat) : M30 38 ls [.int a0, .ref b, .int u0, .ref u1] (put b pre s A post) Q = M31 0 [.val (.ref b), .val (.int a0)] [] (put b pre s A post) (fun v H1 => M30 41 ls (v.toList ++ [.int u0, .ref u1]) H1 Q) := w_virt (as := [.int a0]) (rest := [.int u0, .ref u1]) (a := b) (show decode kb30 38 = .ok (.invokevirtual 127, 3) from by decide +kernel) cr30_127 put_o rfl rfl (Nat.le_of_ble_eq_true rfl) (by show 2 ≤ 2; omega) rfl
theorem m30_41  : M30 41 ls (.int v :: .int j :: .ref (b + 15) :: st) (put b pre s A post) Q = (inB j (A 14) ∧ M30 42 ls st (put b pre s (ou A 14 (setA (A 14) j v)) post) Q) := w_ist (show decode kb30 41 = .ok (.iastore, 1) from by decide +kernel) rfl put_a14 (Nat.zero_le _) rfl put_w14
theorem m30_42 : M30 42 [l0, l1, l2, l3, .val (.int v), l5] st H Q = M30 45 [l0, l1, l2, l3, .val (.int (v + 1)), l5] st H Q := w_iinc (show decode kb30 42 = .ok (.iinc 4 1, 3) from by decide +kernel) rfl (by decide) rfl
theorem m30_45 : M30 45 ls st H Q = M30 99 ls st H Q := w_x (show decode kb30 45 = .ok (.goto 54, 3) from by decide +kernel) rfl
theorem m30_48 : M30 48 [.val (.ref r), l1, l2, l3, l4, l5] st H Q = M30 49 [.val (.ref r), l1, l2, l3, l4, l5] (.ref r :: st) H Q := w_x (show decode kb30 48 = .ok (.aload_n 0, 1) from by decide +kernel) rfl
theorem m30_49 : M30 49 [l0, l1, l2, .val (.int v), l4, l5] st H Q = M30 50 [l0, l1, l2, .val (.int v), l4, l5] (.int v :: st) H Q := w_x (show decode kb30 49 = .ok (.iload_n 3, 1) from by decide +kernel) rfl
theorem m30_50 : M30 50 [l0, l1, l2, l3, l4, .val (.int v)] st H Q = M30 52 [l0, l1, l2, l3, l4, .val (.int v)] (.int v :: st) H Q := w_x (show decode kb30 50 = .ok (.iload 5, 2) from by decide +kernel) rfl
theorem m30_52 (a0 : Int32) (a1 : Int32) : M30 52 ls [.int a1, .int a0, .ref b] (put b pre s A post) Q = M8 0 [.val (.ref b), .val (.int a0), .val (.int a1)] [] (put b pre s A post) (fun v H1 => M30 55 ls (v.toList ++ []) H1 Q) := w_virt (as := [.int a1, .int a0]) (rest := []) (a := b) (show decode kb30 52 = .ok (.invokevirtual 97, 3) from by decide +kernel) cr30_97 put_o rfl rfl (Nat.le_of_ble_eq_true rfl) (by show 3 ≤ 3; omega) rfl
theorem m30_55 : M30 55 ls (.int x :: st) H Q = if x = 0 then M30 99 ls st H Q else M30 58 ls st H Q := w_if (show decode kb30 55 = .ok (.ifCond .eq 44, 3) from by decide +kernel) (z_eq x) rfl
theorem m30_58 : M30 58 [.val (.ref r), l1, l2, l3, l4, l5] st H Q = M30 59 [.val (.ref r), l1, l2, l3, l4, l5] (.ref r :: st) H Q := w_x (show decode kb30 58 = .ok (.aload_n 0, 1) from by decide +kernel) rfl
theorem m30_59 : M30 59 ls (.ref b :: st) (put b pre s A post) Q = M30 62 ls (.ref (b + 1) :: st) (put b pre s A post) Q := w_get (show decode kb30 59 = .ok (.getfield 7, 3) from by decide +kernel) gf_7 put_o rfl
theorem m30_62 : M30 62 [l0, l1, l2, l3, l4, .val (.int v)] st H Q = M30 64 [l0, l1, l2, l3, l4, .val (.int v)] (.int v :: st) H Q := w_x (show decode kb30 62 = .ok (.iload 5, 2) from by decide +kernel) rfl
theorem m30_64  : M30 64 ls (.int j :: .ref (b + 1) :: st) (put b pre s A post) Q = (inB j (A 0) ∧ M30 65 ls (.int (getA (A 0) j) :: st) (put b pre s A post) Q) := w_ild (show decode kb30 64 = .ok (.iaload, 1) from by decide +kernel) rfl put_a0
theorem m30_65 : M30 65 ls st H Q = M30 66 ls (.int 2 :: st) H Q := w_con (show decode kb30 65 = .ok (.iconst 2, 1) from by decide +kernel) rfl (by decide)
theorem m30_66 : M30 66 ls (.int y :: .int x :: st) H Q = if x = y then M30 69 ls st H Q else M30 99 ls st H Q := w_icmpN (show decode kb30 66 = .ok (.if_icmp .ne 33, 3) from by decide +kernel) (i_ne x y) rfl
theorem m30_69 : M30 69 [.val (.ref r), l1, l2, l3, l4, l5] st H Q = M30 70 [.val (.ref r), l1, l2, l3, l4, l5] (.ref r :: st) H Q := w_x (show decode kb30 69 = .ok (.aload_n 0, 1) from by decide +kernel) rfl
theorem m30_70 : M30 70 ls (.ref b :: st) (put b pre s A post) Q = M30 73 ls (.ref (b + 15) :: st) (put b pre s A post) Q := w_get (show decode kb30 70 = .ok (.getfield 52, 3) from by decide +kernel) gf_52 put_o rfl
theorem m30_73 : M30 73 [l0, l1, l2, l3, l4, .val (.int v)] st H Q = M30 75 [l0, l1, l2, l3, l4, .val (.int v)] (.int v :: st) H Q := w_x (show decode kb30 73 = .ok (.iload 5, 2) from by decide +kernel) rfl
theorem m30_75 : M30 75 [.val (.ref r), l1, l2, l3, l4, l5] st H Q = M30 76 [.val (.ref r), l1, l2, l3, l4, l5] (.ref r :: st) H Q := w_x (show decode kb30 75 = .ok (.aload_n 0, 1) from by decide +kernel) rfl
theorem m30_76 : M30 76 [.val (.ref r), l1, l2, l3, l4, l5] st H Q = M30 77 [.val (.ref r), l1, l2, l3, l4, l5] (.ref r :: st) H Q := w_x (show decode kb30 76 = .ok (.aload_n 0, 1) from by decide +kernel) rfl
theorem m30_77 : M30 77 ls (.ref b :: st) (put b pre s A post) Q = M30 80 ls (.ref (b + 2) :: st) (put b pre s A post) Q := w_get (show decode kb30 77 = .ok (.getfield 13, 3) from by decide +kernel) gf_13 put_o rfl
theorem m30_80 : M30 80 [l0, l1, l2, l3, l4, .val (.int v)] st H Q = M30 82 [l0, l1, l2, l3, l4, .val (.int v)] (.int v :: st) H Q := w_x (show decode kb30 80 = .ok (.iload 5, 2) from by decide +kernel) rfl
theorem m30_82  : M30 82 ls (.int j :: .ref (b + 2) :: st) (put b pre s A post) Q = (inB j (A 1) ∧ M30 83 ls (.int (getA (A 1) j) :: st) (put b pre s A post) Q) := w_ild (show decode kb30 82 = .ok (.iaload, 1) from by decide +kernel) rfl put_a1
theorem cr30_130 : vR tables_1 dn y30 130 = some (true, y32, prog_1_method_27_code, 3, (some .int), 1, 16) := pR_of (cR_of (by decide +kernel) rc_32 dn_32 dn_30 (sig := ⟨[.int], some .int⟩) (by decide +kernel) (by decide +kernel) rfl rfl) (by decide +kernel) (by decide +kernel)
theorem m30_83 (a0 : Int32) (u0 : Int32) (u1 : Nat) : M30 83 ls [.int a0, .ref b, .int u0, .ref u1] (put b pre s A post) Q = M32 0 [.val (.ref b), .val (.int a0), .unset] [] (put b pre s A post) (fun v H1 => M30 86 ls (v.toList ++ [.int u0, .ref u1]) H1 Q) := w_virt (as := [.int a0]) (rest := [.int u0, .ref u1]) (a := b) (show decode kb30 83 = .ok (.invokevirtual 130, 3) from by decide +kernel) cr30_130 put_o rfl rfl (Nat.le_of_ble_eq_true rfl) (by show 2 ≤ 3; omega) rfl
theorem m30_86 : M30 86 [.val (.ref r), l1, l2, l3, l4, l5] st H Q = M30 87 [.val (.ref r), l1, l2, l3, l4, l5] (.ref r :: st) H Q := w_x (show decode kb30 86 = .ok (.aload_n 0, 1) from by decide +kernel) rfl
theorem m30_87 : M30 87 [.val (.ref r), l1, l2, l3, l4, l5] st H Q = M30 88 [.val (.ref r), l1, l2, l3, l4, l5] (.ref r :: st) H Q := w_x (show decode kb30 87 = .ok (.aload_n 0, 1) from by decide +kernel) rfl
theorem m30_88 : M30 88 ls (.ref b :: st) (put b pre s A post) Q = M30 91 ls (.ref (b + 3) :: st) (put b pre s A post) Q := w_get (show decode kb30 88 = .ok (.getfield 16, 3) from by decide +kernel) gf_16 put_o rfl
theorem m30_91 : M30 91 [l0, l1, l2, l3, l4, .val (.int v)] st H Q = M30 93 [l0, l1, l2, l3, l4, .val (.int v)] (.int v :: st) H Q := w_x (show decode kb30 91 = .ok (.iload 5, 2) from by decide +kernel) rfl
theorem m30_93  : M30 93 ls (.int j :: .ref (b + 3) :: st) (put b pre s A post) Q = (inB j (A 2) ∧ M30 94 ls (.int (getA (A 2) j) :: st) (put b pre s A post) Q) := w_ild (show decode kb30 93 = .ok (.iaload, 1) from by decide +kernel) rfl put_a2
theorem m30_94 (a0 : Int32) (u0 : Int32) (u1 : Int32) (u2 : Nat) : M30 94 ls [.int a0, .ref b, .int u0, .int u1, .ref u2] (put b pre s A post) Q = M32 0 [.val (.ref b), .val (.int a0), .unset] [] (put b pre s A post) (fun v H1 => M30 97 ls (v.toList ++ [.int u0, .int u1, .ref u2]) H1 Q) := w_virt (as := [.int a0]) (rest := [.int u0, .int u1, .ref u2]) (a := b) (show decode kb30 94 = .ok (.invokevirtual 130, 3) from by decide +kernel) cr30_130 put_o rfl rfl (Nat.le_of_ble_eq_true rfl) (by show 2 ≤ 3; omega) rfl
theorem m30_97 : M30 97 ls (.int y :: .int x :: st) H Q = M30 98 ls (.int (x &&& y) :: st) H Q := w_x (show decode kb30 97 = .ok (.iand, 1) from by decide +kernel) rfl
theorem m30_98  : M30 98 ls (.int v :: .int j :: .ref (b + 15) :: st) (put b pre s A post) Q = (inB j (A 14) ∧ M30 99 ls st (put b pre s (ou A 14 (setA (A 14) j v)) post) Q) := w_ist (show decode kb30 98 = .ok (.iastore, 1) from by decide +kernel) rfl put_a14 (Nat.zero_le _) rfl put_w14
theorem m30_99 : M30 99 [l0, l1, l2, l3, l4, .val (.int v)] st H Q = M30 102 [l0, l1, l2, l3, l4, .val (.int (v + 1))] st H Q := w_iinc (show decode kb30 99 = .ok (.iinc 5 1, 3) from by decide +kernel) rfl (by decide) rfl
theorem m30_102 : M30 102 ls st H Q = M30 13 ls st H Q := w_x (show decode kb30 102 = .ok (.goto (-89), 3) from by decide +kernel) rfl
theorem m30_105 : M30 105 [.val (.ref r), l1, l2, l3, l4, l5] st H Q = M30 106 [.val (.ref r), l1, l2, l3, l4, l5] (.ref r :: st) H Q := w_x (show decode kb30 105 = .ok (.aload_n 0, 1) from by decide +kernel) rfl
theorem m30_106 : M30 106 ls (.ref b :: st) (put b pre s A post) Q = M30 109 ls (.ref (b + 15) :: st) (put b pre s A post) Q := w_get (show decode kb30 106 = .ok (.getfield 52, 3) from by decide +kernel) gf_52 put_o rfl
theorem m30_109 : M30 109 [l0, .val (.int v), l2, l3, l4, l5] st H Q = M30 110 [l0, .val (.int v), l2, l3, l4, l5] (.int v :: st) H Q := w_x (show decode kb30 109 = .ok (.iload_n 1, 1) from by decide +kernel) rfl
theorem m30_110  : M30 110 ls (.int j :: .ref (b + 15) :: st) (put b pre s A post) Q = (inB j (A 14) ∧ M30 111 ls (.int (getA (A 14) j) :: st) (put b pre s A post) Q) := w_ild (show decode kb30 110 = .ok (.iaload, 1) from by decide +kernel) rfl put_a14
theorem m30_111 : M30 111 ls (.int z :: st) H Q = Q (some (.int z)) H := w_iret (show decode kb30 111 = .ok (.ireturn, 1) from by decide +kernel) rfl
theorem m31_0 : M31 0 [l0, .val (.int v)] st H Q = M31 1 [l0, .val (.int v)] (.int v :: st) H Q := w_x (show decode kb31 0 = .ok (.iload_n 1, 1) from by decide +kernel) rfl
theorem m31_1 : M31 1 ls (.int x :: st) H Q = if x = 0 then M31 4 ls st H Q else M31 7 ls st H Q := w_ifN (show decode kb31 1 = .ok (.ifCond .ne 6, 3) from by decide +kernel) (z_ne x) rfl
theorem m31_4 : M31 4 ls st H Q = M31 6 ls (.int 43690 :: st) H Q := w_ldc (show decode kb31 4 = .ok (.ldc 122, 2) from by decide +kernel) (by decide +kernel)
theorem m31_6 : M31 6 ls (.int z :: st) H Q = Q (some (.int z)) H := w_iret (show decode kb31 6 = .ok (.ireturn, 1) from by decide +kernel) rfl
theorem m31_7 : M31 7 [l0, .val (.int v)] st H Q = M31 8 [l0, .val (.int v)] (.int v :: st) H Q := w_x (show decode kb31 7 = .ok (.iload_n 1, 1) from by decide +kernel) rfl
theorem m31_8 : M31 8 ls st H Q = M31 9 ls (.int 1 :: st) H Q := w_con (show decode kb31 8 = .ok (.iconst 1, 1) from by decide +kernel) rfl (by decide)
theorem m31_9 : M31 9 ls (.int y :: .int x :: st) H Q = if x = y then M31 12 ls st H Q else M31 15 ls st H Q := w_icmpN (show decode kb31 9 = .ok (.if_icmp .ne 6, 3) from by decide +kernel) (i_ne x y) rfl
theorem m31_12 : M31 12 ls st H Q = M31 14 ls (.int 52428 :: st) H Q := w_ldc (show decode kb31 12 = .ok (.ldc 123, 2) from by decide +kernel) (by decide +kernel)
theorem m31_14 : M31 14 ls (.int z :: st) H Q = Q (some (.int z)) H := w_iret (show decode kb31 14 = .ok (.ireturn, 1) from by decide +kernel) rfl
theorem m31_15 : M31 15 [l0, .val (.int v)] st H Q = M31 16 [l0, .val (.int v)] (.int v :: st) H Q := w_x (show decode kb31 15 = .ok (.iload_n 1, 1) from by decide +kernel) rfl
theorem m31_16 : M31 16 ls st H Q = M31 17 ls (.int 2 :: st) H Q := w_con (show decode kb31 16 = .ok (.iconst 2, 1) from by decide +kernel) rfl (by decide)
theorem m31_17 : M31 17 ls (.int y :: .int x :: st) H Q = if x = y then M31 20 ls st H Q else M31 23 ls st H Q := w_icmpN (show decode kb31 17 = .ok (.if_icmp .ne 6, 3) from by decide +kernel) (i_ne x y) rfl
theorem m31_20 : M31 20 ls st H Q = M31 22 ls (.int 61680 :: st) H Q := w_ldc (show decode kb31 20 = .ok (.ldc 124, 2) from by decide +kernel) (by decide +kernel)
theorem m31_22 : M31 22 ls (.int z :: st) H Q = Q (some (.int z)) H := w_iret (show decode kb31 22 = .ok (.ireturn, 1) from by decide +kernel) rfl
theorem m31_23 : M31 23 [l0, .val (.int v)] st H Q = M31 24 [l0, .val (.int v)] (.int v :: st) H Q := w_x (show decode kb31 23 = .ok (.iload_n 1, 1) from by decide +kernel) rfl
theorem m31_24 : M31 24 ls st H Q = M31 25 ls (.int 3 :: st) H Q := w_con (show decode kb31 24 = .ok (.iconst 3, 1) from by decide +kernel) rfl (by decide)
theorem m31_25 : M31 25 ls (.int y :: .int x :: st) H Q = if x = y then M31 28 ls st H Q else M31 31 ls st H Q := w_icmpN (show decode kb31 25 = .ok (.if_icmp .ne 6, 3) from by decide +kernel) (i_ne x y) rfl
theorem m31_28 : M31 28 ls st H Q = M31 30 ls (.int 65280 :: st) H Q := w_ldc (show decode kb31 28 = .ok (.ldc 125, 2) from by decide +kernel) (by decide +kernel)
theorem m31_30 : M31 30 ls (.int z :: st) H Q = Q (some (.int z)) H := w_iret (show decode kb31 30 = .ok (.ireturn, 1) from by decide +kernel) rfl
theorem m32_0 : M32 0 [.val (.ref r), l1, l2] st H Q = M32 1 [.val (.ref r), l1, l2] (.ref r :: st) H Q := w_x (show decode kb32 0 = .ok (.aload_n 0, 1) from by decide +kernel) rfl
theorem m32_1 : M32 1 ls (.ref b :: st) (put b pre s A post) Q = M32 4 ls (.ref (b + 15) :: st) (put b pre s A post) Q := w_get (show decode kb32 1 = .ok (.getfield 52, 3) from by decide +kernel) gf_52 put_o rfl
theorem m32_4 : M32 4 [l0, .val (.int v), l2] st H Q = M32 5 [l0, .val (.int v), l2] (.int v :: st) H Q := w_x (show decode kb32 4 = .ok (.iload_n 1, 1) from by decide +kernel) rfl
theorem m32_5 : M32 5 ls st H Q = M32 6 ls (.int 1 :: st) H Q := w_con (show decode kb32 5 = .ok (.iconst 1, 1) from by decide +kernel) rfl (by decide)
theorem m32_6 : M32 6 ls (.int y :: .int x :: st) H Q = M32 7 ls (.int (XT.ushr x y) :: st) H Q := w_x (show decode kb32 6 = .ok (.iushr, 1) from by decide +kernel) rfl
theorem m32_7  : M32 7 ls (.int j :: .ref (b + 15) :: st) (put b pre s A post) Q = (inB j (A 14) ∧ M32 8 ls (.int (getA (A 14) j) :: st) (put b pre s A post) Q) := w_ild (show decode kb32 7 = .ok (.iaload, 1) from by decide +kernel) rfl put_a14
theorem m32_8u : M32 8 [l0, l1, .unset] ((.int v) :: st) H Q = M32 9 [l0, l1, .val (.int v)] st H Q := w_st (i := 2) (p := isI) (show decode kb32 8 = .ok (.istore_n 2, 1) from by decide +kernel) rfl rfl rfl rfl rfl rfl
theorem m32_9 : M32 9 [l0, .val (.int v), l2] st H Q = M32 10 [l0, .val (.int v), l2] (.int v :: st) H Q := w_x (show decode kb32 9 = .ok (.iload_n 1, 1) from by decide +kernel) rfl
theorem m32_10 : M32 10 ls st H Q = M32 11 ls (.int 1 :: st) H Q := w_con (show decode kb32 10 = .ok (.iconst 1, 1) from by decide +kernel) rfl (by decide)
theorem m32_11 : M32 11 ls (.int y :: .int x :: st) H Q = M32 12 ls (.int (x &&& y) :: st) H Q := w_x (show decode kb32 11 = .ok (.iand, 1) from by decide +kernel) rfl
theorem m32_12 : M32 12 ls (.int x :: st) H Q = if x = 0 then M32 22 ls st H Q else M32 15 ls st H Q := w_if (show decode kb32 12 = .ok (.ifCond .eq 10, 3) from by decide +kernel) (z_eq x) rfl
theorem m32_15 : M32 15 [l0, l1, .val (.int v)] st H Q = M32 16 [l0, l1, .val (.int v)] (.int v :: st) H Q := w_x (show decode kb32 15 = .ok (.iload_n 2, 1) from by decide +kernel) rfl
theorem m32_16 : M32 16 ls st H Q = M32 17 ls (.int (-1) :: st) H Q := w_con (show decode kb32 16 = .ok (.iconst (-1), 1) from by decide +kernel) rfl (by decide)
theorem m32_17 : M32 17 ls (.int y :: .int x :: st) H Q = M32 18 ls (.int (x ^^^ y) :: st) H Q := w_x (show decode kb32 17 = .ok (.ixor, 1) from by decide +kernel) rfl
theorem m32_18 : M32 18 ls st H Q = M32 20 ls (.int 65535 :: st) H Q := w_ldc (show decode kb32 18 = .ok (.ldc 126, 2) from by decide +kernel) (by decide +kernel)
theorem m32_20 : M32 20 ls (.int y :: .int x :: st) H Q = M32 21 ls (.int (x &&& y) :: st) H Q := w_x (show decode kb32 20 = .ok (.iand, 1) from by decide +kernel) rfl
theorem m32_21 : M32 21 ls (.int z :: st) H Q = Q (some (.int z)) H := w_iret (show decode kb32 21 = .ok (.ireturn, 1) from by decide +kernel) rfl
theorem m32_22 : M32 22 [l0, l1, .val (.int v)] st H Q = M32 23 [l0, l1, .val (.int v)] (.int v :: st) H Q := w_x (show decode kb32 22 = .ok (.iload_n 2, 1) from by decide +kernel) rfl
theorem m32_23 : M32 23 ls (.int z :: st) H Q = Q (some (.int z)) H := w_iret (show decode kb32 23 = .ok (.ireturn, 1) from by decide +kernel) rfl
theorem m33_0 : M33 0 [.val (.ref r)] st H Q = M33 1 [.val (.ref r)] (.ref r :: st) H Q := w_x (show decode kb33 0 = .ok (.aload_n 0, 1) from by decide +kernel) rfl
theorem m33_1 : M33 1 ls (.ref b :: st) (put b pre s A post) Q = M33 4 ls (.int (s 10) :: st) (put b pre s A post) Q := w_get (show decode kb33 1 = .ok (.getfield 68, 3) from by decide +kernel) gf_68 put_o rfl
theorem m33_4 : M33 4 ls (.int x :: st) H Q = if x = 0 then M33 7 ls st H Q else M33 9 ls st H Q := w_ifN (show decode kb33 4 = .ok (.ifCond .ne 5, 3) from by decide +kernel) (z_ne x) rfl
theorem m33_9 : M33 9 [.val (.ref r)] st H Q = M33 10 [.val (.ref r)] (.ref r :: st) H Q := w_x (show decode kb33 9 = .ok (.aload_n 0, 1) from by decide +kernel) rfl
theorem m33_10 : M33 10 ls (.ref b :: st) (put b pre s A post) Q = M33 13 ls (.int (s 11) :: st) (put b pre s A post) Q := w_get (show decode kb33 10 = .ok (.getfield 72, 3) from by decide +kernel) gf_72 put_o rfl
theorem m33_13 : M33 13 ls (.int z :: st) H Q = Q (some (.int z)) H := w_iret (show decode kb33 13 = .ok (.ireturn, 1) from by decide +kernel) rfl
theorem m34_0 : M34 0 [l0, .val (.int v), l2] st H Q = M34 1 [l0, .val (.int v), l2] (.int v :: st) H Q := w_x (show decode kb34 0 = .ok (.iload_n 1, 1) from by decide +kernel) rfl
theorem m34_1 : M34 1 ls (.int x :: st) H Q = if x < 0 then M34 22 ls st H Q else M34 4 ls st H Q := w_if (show decode kb34 1 = .ok (.ifCond .lt 21, 3) from by decide +kernel) (z_lt x) rfl
theorem m34_4 : M34 4 [l0, .val (.int v), l2] st H Q = M34 5 [l0, .val (.int v), l2] (.int v :: st) H Q := w_x (show decode kb34 4 = .ok (.iload_n 1, 1) from by decide +kernel) rfl
theorem m34_5 : M34 5 [.val (.ref r), l1, l2] st H Q = M34 6 [.val (.ref r), l1, l2] (.ref r :: st) H Q := w_x (show decode kb34 5 = .ok (.aload_n 0, 1) from by decide +kernel) rfl
theorem m34_6 : M34 6 ls (.ref b :: st) (put b pre s A post) Q = M34 9 ls (.int (s 1) :: st) (put b pre s A post) Q := w_get (show decode kb34 6 = .ok (.getfield 59, 3) from by decide +kernel) gf_59 put_o rfl
theorem m34_9 : M34 9 ls (.int y :: .int x :: st) H Q = if x < y then M34 12 ls st H Q else M34 22 ls st H Q := w_icmpN (show decode kb34 9 = .ok (.if_icmp .ge 13, 3) from by decide +kernel) (i_ge x y) rfl
theorem m34_12 : M34 12 [.val (.ref r), l1, l2] st H Q = M34 13 [.val (.ref r), l1, l2] (.ref r :: st) H Q := w_x (show decode kb34 12 = .ok (.aload_n 0, 1) from by decide +kernel) rfl
theorem m34_13 : M34 13 ls (.ref b :: st) (put b pre s A post) Q = M34 16 ls (.ref (b + 1) :: st) (put b pre s A post) Q := w_get (show decode kb34 13 = .ok (.getfield 7, 3) from by decide +kernel) gf_7 put_o rfl
theorem m34_16 : M34 16 [l0, .val (.int v), l2] st H Q = M34 17 [l0, .val (.int v), l2] (.int v :: st) H Q := w_x (show decode kb34 16 = .ok (.iload_n 1, 1) from by decide +kernel) rfl
theorem m34_17  : M34 17 ls (.int j :: .ref (b + 1) :: st) (put b pre s A post) Q = (inB j (A 0) ∧ M34 18 ls (.int (getA (A 0) j) :: st) (put b pre s A post) Q) := w_ild (show decode kb34 17 = .ok (.iaload, 1) from by decide +kernel) rfl put_a0
theorem m34_18 : M34 18 ls st H Q = M34 19 ls (.int 2 :: st) H Q := w_con (show decode kb34 18 = .ok (.iconst 2, 1) from by decide +kernel) rfl (by decide)
theorem m34_19 : M34 19 ls (.int y :: .int x :: st) H Q = if x = y then M34 24 ls st H Q else M34 22 ls st H Q := w_icmp (show decode kb34 19 = .ok (.if_icmp .eq 5, 3) from by decide +kernel) (i_eq x y) rfl
theorem m34_24 : M34 24 [.val (.ref r), l1, l2] st H Q = M34 25 [.val (.ref r), l1, l2] (.ref r :: st) H Q := w_x (show decode kb34 24 = .ok (.aload_n 0, 1) from by decide +kernel) rfl
theorem m34_25 : M34 25 ls (.ref b :: st) (put b pre s A post) Q = M34 28 ls (.int (s 1) :: st) (put b pre s A post) Q := w_get (show decode kb34 25 = .ok (.getfield 59, 3) from by decide +kernel) gf_59 put_o rfl
theorem m34_28 : M34 28 ls st H Q = M34 30 ls (.int 32 :: st) H Q := w_con (show decode kb34 28 = .ok (.bipush 32, 2) from by decide +kernel) rfl (by decide)
theorem m34_30 : M34 30 ls (.int y :: .int x :: st) H Q = if x < y then M34 33 ls st H Q else M34 44 ls st H Q := w_icmpN (show decode kb34 30 = .ok (.if_icmp .ge 14, 3) from by decide +kernel) (i_ge x y) rfl
theorem m34_33 : M34 33 [l0, l1, .val (.int v)] st H Q = M34 34 [l0, l1, .val (.int v)] (.int v :: st) H Q := w_x (show decode kb34 33 = .ok (.iload_n 2, 1) from by decide +kernel) rfl
theorem m34_34 : M34 34 [.val (.ref r), l1, l2] st H Q = M34 35 [.val (.ref r), l1, l2] (.ref r :: st) H Q := w_x (show decode kb34 34 = .ok (.aload_n 0, 1) from by decide +kernel) rfl
theorem m34_35 : M34 35 ls (.ref b :: st) (put b pre s A post) Q = M34 38 ls (.int (s 1) :: st) (put b pre s A post) Q := w_get (show decode kb34 35 = .ok (.getfield 59, 3) from by decide +kernel) gf_59 put_o rfl
theorem m34_38 : M34 38 ls (.int y :: .int x :: st) H Q = M34 39 ls (.int (XT.ushr x y) :: st) H Q := w_x (show decode kb34 38 = .ok (.iushr, 1) from by decide +kernel) rfl
theorem m34_39 : M34 39 ls (.int x :: st) H Q = if x = 0 then M34 44 ls st H Q else M34 42 ls st H Q := w_if (show decode kb34 39 = .ok (.ifCond .eq 5, 3) from by decide +kernel) (z_eq x) rfl
theorem m34_44 : M34 44 [.val (.ref r), l1, l2] st H Q = M34 45 [.val (.ref r), l1, l2] (.ref r :: st) H Q := w_x (show decode kb34 44 = .ok (.aload_n 0, 1) from by decide +kernel) rfl
theorem m34_45 : M34 45 [l0, .val (.int v), l2] st H Q = M34 46 [l0, .val (.int v), l2] (.int v :: st) H Q := w_x (show decode kb34 45 = .ok (.iload_n 1, 1) from by decide +kernel) rfl
theorem m34_46 : M34 46 [l0, l1, .val (.int v)] st H Q = M34 47 [l0, l1, .val (.int v)] (.int v :: st) H Q := w_x (show decode kb34 46 = .ok (.iload_n 2, 1) from by decide +kernel) rfl
theorem cr34_86 : vR tables_1 dn y34 86 = some (true, y28, prog_1_method_25_code, 6, (some .boolean), 2, 0) := pR_of (cR_of (by decide +kernel) rc_28 dn_28 dn_34 (sig := ⟨[.int, .int], some .boolean⟩) (by decide +kernel) (by decide +kernel) rfl rfl) (by decide +kernel) (by decide +kernel)
theorem m34_47 (a0 : Int32) (a1 : Int32) : M34 47 ls [.int a1, .int a0, .ref b] (put b pre s A post) Q = M28 0 [.val (.ref b), .val (.int a0), .val (.int a1), .unset, .unset, .unset] [] (put b pre s A post) (fun v H1 => M34 50 ls (v.toList ++ []) H1 Q) := w_virt (as := [.int a1, .int a0]) (rest := []) (a := b) (show decode kb34 47 = .ok (.invokevirtual 86, 3) from by decide +kernel) cr34_86 put_o rfl rfl (Nat.le_of_ble_eq_true rfl) (by show 3 ≤ 6; omega) rfl
theorem m34_50 : M34 50 ls (.int x :: st) H Q = if x = 0 then M34 53 ls st H Q else M34 55 ls st H Q := w_ifN (show decode kb34 50 = .ok (.ifCond .ne 5, 3) from by decide +kernel) (z_ne x) rfl
theorem m34_55 : M34 55 [.val (.ref r), l1, l2] st H Q = M34 56 [.val (.ref r), l1, l2] (.ref r :: st) H Q := w_x (show decode kb34 55 = .ok (.aload_n 0, 1) from by decide +kernel) rfl
theorem m34_56 : M34 56 [l0, .val (.int v), l2] st H Q = M34 57 [l0, .val (.int v), l2] (.int v :: st) H Q := w_x (show decode kb34 56 = .ok (.iload_n 1, 1) from by decide +kernel) rfl
theorem m34_57 : M34 57 [l0, l1, .val (.int v)] st H Q = M34 58 [l0, l1, .val (.int v)] (.int v :: st) H Q := w_x (show decode kb34 57 = .ok (.iload_n 2, 1) from by decide +kernel) rfl
theorem cr34_90 : vR tables_1 dn y34 90 = some (true, y30, prog_1_method_28_code, 6, (some .int), 2, 0) := pR_of (cR_of (by decide +kernel) rc_30 dn_30 dn_34 (sig := ⟨[.int, .int], some .int⟩) (by decide +kernel) (by decide +kernel) rfl rfl) (by decide +kernel) (by decide +kernel)
theorem m34_58 (a0 : Int32) (a1 : Int32) : M34 58 ls [.int a1, .int a0, .ref b] (put b pre s A post) Q = M30 0 [.val (.ref b), .val (.int a0), .val (.int a1), .unset, .unset, .unset] [] (put b pre s A post) (fun v H1 => M34 61 ls (v.toList ++ []) H1 Q) := w_virt (as := [.int a1, .int a0]) (rest := []) (a := b) (show decode kb34 58 = .ok (.invokevirtual 90, 3) from by decide +kernel) cr34_90 put_o rfl rfl (Nat.le_of_ble_eq_true rfl) (by show 3 ≤ 6; omega) rfl
theorem m34_61 : M34 61 ls (.int z :: st) H Q = Q (some (.int z)) H := w_iret (show decode kb34 61 = .ok (.ireturn, 1) from by decide +kernel) rfl
theorem m35_0 : M35 0 ls st H Q = M35 1 ls (.int 0 :: st) H Q := w_con (show decode kb35 0 = .ok (.iconst 0, 1) from by decide +kernel) rfl (by decide)
theorem m35_1u : M35 1 [l0, l1, .unset, l3, l4] ((.int v) :: st) H Q = M35 2 [l0, l1, .val (.int v), l3, l4] st H Q := w_st (i := 2) (p := isI) (show decode kb35 1 = .ok (.istore_n 2, 1) from by decide +kernel) rfl rfl rfl rfl rfl rfl
theorem m35_2 : M35 2 ls st H Q = M35 3 ls (.int 0 :: st) H Q := w_con (show decode kb35 2 = .ok (.iconst 0, 1) from by decide +kernel) rfl (by decide)
theorem m35_3u : M35 3 [l0, l1, l2, .unset, l4] ((.int v) :: st) H Q = M35 4 [l0, l1, l2, .val (.int v), l4] st H Q := w_st (i := 3) (p := isI) (show decode kb35 3 = .ok (.istore_n 3, 1) from by decide +kernel) rfl rfl rfl rfl rfl rfl
theorem m35_4 : M35 4 [l0, l1, l2, .val (.int v), l4] st H Q = M35 5 [l0, l1, l2, .val (.int v), l4] (.int v :: st) H Q := w_x (show decode kb35 4 = .ok (.iload_n 3, 1) from by decide +kernel) rfl
theorem m35_5 : M35 5 [.val (.ref r), l1, l2, l3, l4] st H Q = M35 6 [.val (.ref r), l1, l2, l3, l4] (.ref r :: st) H Q := w_x (show decode kb35 5 = .ok (.aload_n 0, 1) from by decide +kernel) rfl
theorem m35_6 : M35 6 ls (.ref b :: st) (put b pre s A post) Q = M35 9 ls (.int (s 1) :: st) (put b pre s A post) Q := w_get (show decode kb35 6 = .ok (.getfield 59, 3) from by decide +kernel) gf_59 put_o rfl
theorem m35_9 : M35 9 ls (.int y :: .int x :: st) H Q = if x < y then M35 12 ls st H Q else M35 81 ls st H Q := w_icmpN (show decode kb35 9 = .ok (.if_icmp .ge 72, 3) from by decide +kernel) (i_ge x y) rfl
theorem m35_12 : M35 12 [l0, l1, l2, .val (.int v), l4] st H Q = M35 13 [l0, l1, l2, .val (.int v), l4] (.int v :: st) H Q := w_x (show decode kb35 12 = .ok (.iload_n 3, 1) from by decide +kernel) rfl
theorem m35_13 : M35 13 ls st H Q = M35 15 ls (.int 32 :: st) H Q := w_con (show decode kb35 13 = .ok (.bipush 32, 2) from by decide +kernel) rfl (by decide)
theorem m35_15 : M35 15 ls (.int y :: .int x :: st) H Q = if x < y then M35 18 ls st H Q else M35 81 ls st H Q := w_icmpN (show decode kb35 15 = .ok (.if_icmp .ge 66, 3) from by decide +kernel) (i_ge x y) rfl
theorem m35_18 : M35 18 [.val (.ref r), l1, l2, l3, l4] st H Q = M35 19 [.val (.ref r), l1, l2, l3, l4] (.ref r :: st) H Q := w_x (show decode kb35 18 = .ok (.aload_n 0, 1) from by decide +kernel) rfl
theorem m35_19 : M35 19 ls (.ref b :: st) (put b pre s A post) Q = M35 22 ls (.ref (b + 1) :: st) (put b pre s A post) Q := w_get (show decode kb35 19 = .ok (.getfield 7, 3) from by decide +kernel) gf_7 put_o rfl
theorem m35_22 : M35 22 [l0, l1, l2, .val (.int v), l4] st H Q = M35 23 [l0, l1, l2, .val (.int v), l4] (.int v :: st) H Q := w_x (show decode kb35 22 = .ok (.iload_n 3, 1) from by decide +kernel) rfl
theorem m35_23  : M35 23 ls (.int j :: .ref (b + 1) :: st) (put b pre s A post) Q = (inB j (A 0) ∧ M35 24 ls (.int (getA (A 0) j) :: st) (put b pre s A post) Q) := w_ild (show decode kb35 23 = .ok (.iaload, 1) from by decide +kernel) rfl put_a0
theorem m35_24 : M35 24 ls st H Q = M35 25 ls (.int 1 :: st) H Q := w_con (show decode kb35 24 = .ok (.iconst 1, 1) from by decide +kernel) rfl (by decide)
theorem m35_25 : M35 25 ls (.int y :: .int x :: st) H Q = if x = y then M35 28 ls st H Q else M35 43 ls st H Q := w_icmpN (show decode kb35 25 = .ok (.if_icmp .ne 18, 3) from by decide +kernel) (i_ne x y) rfl
theorem m35_28 : M35 28 [l0, .val (.int v), l2, l3, l4] st H Q = M35 29 [l0, .val (.int v), l2, l3, l4] (.int v :: st) H Q := w_x (show decode kb35 28 = .ok (.iload_n 1, 1) from by decide +kernel) rfl
theorem m35_29 : M35 29 [.val (.ref r), l1, l2, l3, l4] st H Q = M35 30 [.val (.ref r), l1, l2, l3, l4] (.ref r :: st) H Q := w_x (show decode kb35 29 = .ok (.aload_n 0, 1) from by decide +kernel) rfl
theorem m35_30 : M35 30 ls (.ref b :: st) (put b pre s A post) Q = M35 33 ls (.ref (b + 4) :: st) (put b pre s A post) Q := w_get (show decode kb35 30 = .ok (.getfield 19, 3) from by decide +kernel) gf_19 put_o rfl
theorem m35_33 : M35 33 [l0, l1, l2, .val (.int v), l4] st H Q = M35 34 [l0, l1, l2, .val (.int v), l4] (.int v :: st) H Q := w_x (show decode kb35 33 = .ok (.iload_n 3, 1) from by decide +kernel) rfl
theorem m35_34  : M35 34 ls (.int j :: .ref (b + 4) :: st) (put b pre s A post) Q = (inB j (A 3) ∧ M35 35 ls (.int (getA (A 3) j) :: st) (put b pre s A post) Q) := w_ild (show decode kb35 34 = .ok (.iaload, 1) from by decide +kernel) rfl put_a3
theorem m35_35 : M35 35 ls (.int y :: .int x :: st) H Q = M35 36 ls (.int (XT.ushr x y) :: st) H Q := w_x (show decode kb35 35 = .ok (.iushr, 1) from by decide +kernel) rfl
theorem m35_36 : M35 36 ls st H Q = M35 37 ls (.int 1 :: st) H Q := w_con (show decode kb35 36 = .ok (.iconst 1, 1) from by decide +kernel) rfl (by decide)
theorem m35_37 : M35 37 ls (.int y :: .int x :: st) H Q = M35 38 ls (.int (x &&& y) :: st) H Q := w_x (show decode kb35 37 = .ok (.iand, 1) from by decide +kernel) rfl
theorem m35_38u : M35 38 [l0, l1, l2, l3, .unset] ((.int v) :: st) H Q = M35 40 [l0, l1, l2, l3, .val (.int v)] st H Q := w_st (i := 4) (p := isI) (show decode kb35 38 = .ok (.istore 4, 2) from by decide +kernel) rfl rfl rfl rfl rfl rfl
theorem m35_38i : M35 38 [l0, l1, l2, l3, .val (.int z)] ((.int v) :: st) H Q = M35 40 [l0, l1, l2, l3, .val (.int v)] st H Q := w_st (i := 4) (p := isI) (show decode kb35 38 = .ok (.istore 4, 2) from by decide +kernel) rfl rfl rfl rfl rfl rfl
theorem m35_38r : M35 38 [l0, l1, l2, l3, .val (.ref q)] ((.int v) :: st) H Q = M35 40 [l0, l1, l2, l3, .val (.int v)] st H Q := w_st (i := 4) (p := isI) (show decode kb35 38 = .ok (.istore 4, 2) from by decide +kernel) rfl rfl rfl rfl rfl rfl
theorem m35_40 : M35 40 ls st H Q = M35 68 ls st H Q := w_x (show decode kb35 40 = .ok (.goto 28, 3) from by decide +kernel) rfl
theorem m35_43 : M35 43 [.val (.ref r), l1, l2, l3, l4] st H Q = M35 44 [.val (.ref r), l1, l2, l3, l4] (.ref r :: st) H Q := w_x (show decode kb35 43 = .ok (.aload_n 0, 1) from by decide +kernel) rfl
theorem m35_44 : M35 44 [l0, l1, .val (.int v), l3, l4] st H Q = M35 45 [l0, l1, .val (.int v), l3, l4] (.int v :: st) H Q := w_x (show decode kb35 44 = .ok (.iload_n 2, 1) from by decide +kernel) rfl
theorem m35_45 : M35 45 [.val (.ref r), l1, l2, l3, l4] st H Q = M35 46 [.val (.ref r), l1, l2, l3, l4] (.ref r :: st) H Q := w_x (show decode kb35 45 = .ok (.aload_n 0, 1) from by decide +kernel) rfl
theorem m35_46 : M35 46 ls (.ref b :: st) (put b pre s A post) Q = M35 49 ls (.ref (b + 2) :: st) (put b pre s A post) Q := w_get (show decode kb35 46 = .ok (.getfield 13, 3) from by decide +kernel) gf_13 put_o rfl
theorem m35_49 : M35 49 [l0, l1, l2, .val (.int v), l4] st H Q = M35 50 [l0, l1, l2, .val (.int v), l4] (.int v :: st) H Q := w_x (show decode kb35 49 = .ok (.iload_n 3, 1) from by decide +kernel) rfl
theorem m35_50  : M35 50 ls (.int j :: .ref (b + 2) :: st) (put b pre s A post) Q = (inB j (A 1) ∧ M35 51 ls (.int (getA (A 1) j) :: st) (put b pre s A post) Q) := w_ild (show decode kb35 50 = .ok (.iaload, 1) from by decide +kernel) rfl put_a1
theorem cr35_104 : vR tables_1 dn y35 104 = some (true, y36, prog_1_method_22_code, 3, (some .int), 2, 16) := pR_of (cR_of (by decide +kernel) rc_36 dn_36 dn_35 (sig := ⟨[.int, .int], some .int⟩) (by decide +kernel) (by decide +kernel) rfl rfl) (by decide +kernel) (by decide +kernel)
theorem m35_51 (a0 : Int32) (a1 : Int32) : M35 51 ls [.int a1, .int a0, .ref b] (put b pre s A post) Q = M36 0 [.val (.ref b), .val (.int a0), .val (.int a1)] [] (put b pre s A post) (fun v H1 => M35 54 ls (v.toList ++ []) H1 Q) := w_virt (as := [.int a1, .int a0]) (rest := []) (a := b) (show decode kb35 51 = .ok (.invokevirtual 104, 3) from by decide +kernel) cr35_104 put_o rfl rfl (Nat.le_of_ble_eq_true rfl) (by show 3 ≤ 3; omega) rfl
theorem m35_54 : M35 54 [.val (.ref r), l1, l2, l3, l4] st H Q = M35 55 [.val (.ref r), l1, l2, l3, l4] (.ref r :: st) H Q := w_x (show decode kb35 54 = .ok (.aload_n 0, 1) from by decide +kernel) rfl
theorem m35_55 : M35 55 [l0, l1, .val (.int v), l3, l4] st H Q = M35 56 [l0, l1, .val (.int v), l3, l4] (.int v :: st) H Q := w_x (show decode kb35 55 = .ok (.iload_n 2, 1) from by decide +kernel) rfl
theorem m35_56 : M35 56 [.val (.ref r), l1, l2, l3, l4] st H Q = M35 57 [.val (.ref r), l1, l2, l3, l4] (.ref r :: st) H Q := w_x (show decode kb35 56 = .ok (.aload_n 0, 1) from by decide +kernel) rfl
theorem m35_57 : M35 57 ls (.ref b :: st) (put b pre s A post) Q = M35 60 ls (.ref (b + 3) :: st) (put b pre s A post) Q := w_get (show decode kb35 57 = .ok (.getfield 16, 3) from by decide +kernel) gf_16 put_o rfl
theorem m35_60 : M35 60 [l0, l1, l2, .val (.int v), l4] st H Q = M35 61 [l0, l1, l2, .val (.int v), l4] (.int v :: st) H Q := w_x (show decode kb35 60 = .ok (.iload_n 3, 1) from by decide +kernel) rfl
theorem m35_61  : M35 61 ls (.int j :: .ref (b + 3) :: st) (put b pre s A post) Q = (inB j (A 2) ∧ M35 62 ls (.int (getA (A 2) j) :: st) (put b pre s A post) Q) := w_ild (show decode kb35 61 = .ok (.iaload, 1) from by decide +kernel) rfl put_a2
theorem m35_62 (a0 : Int32) (a1 : Int32) (u0 : Int32) : M35 62 ls [.int a1, .int a0, .ref b, .int u0] (put b pre s A post) Q = M36 0 [.val (.ref b), .val (.int a0), .val (.int a1)] [] (put b pre s A post) (fun v H1 => M35 65 ls (v.toList ++ [.int u0]) H1 Q) := w_virt (as := [.int a1, .int a0]) (rest := [.int u0]) (a := b) (show decode kb35 62 = .ok (.invokevirtual 104, 3) from by decide +kernel) cr35_104 put_o rfl rfl (Nat.le_of_ble_eq_true rfl) (by show 3 ≤ 3; omega) rfl
theorem m35_65 : M35 65 ls (.int y :: .int x :: st) H Q = M35 66 ls (.int (x &&& y) :: st) H Q := w_x (show decode kb35 65 = .ok (.iand, 1) from by decide +kernel) rfl
theorem m35_66u : M35 66 [l0, l1, l2, l3, .unset] ((.int v) :: st) H Q = M35 68 [l0, l1, l2, l3, .val (.int v)] st H Q := w_st (i := 4) (p := isI) (show decode kb35 66 = .ok (.istore 4, 2) from by decide +kernel) rfl rfl rfl rfl rfl rfl
theorem m35_66i : M35 66 [l0, l1, l2, l3, .val (.int z)] ((.int v) :: st) H Q = M35 68 [l0, l1, l2, l3, .val (.int v)] st H Q := w_st (i := 4) (p := isI) (show decode kb35 66 = .ok (.istore 4, 2) from by decide +kernel) rfl rfl rfl rfl rfl rfl
theorem m35_66r : M35 66 [l0, l1, l2, l3, .val (.ref q)] ((.int v) :: st) H Q = M35 68 [l0, l1, l2, l3, .val (.int v)] st H Q := w_st (i := 4) (p := isI) (show decode kb35 66 = .ok (.istore 4, 2) from by decide +kernel) rfl rfl rfl rfl rfl rfl
theorem m35_68 : M35 68 [l0, l1, .val (.int v), l3, l4] st H Q = M35 69 [l0, l1, .val (.int v), l3, l4] (.int v :: st) H Q := w_x (show decode kb35 68 = .ok (.iload_n 2, 1) from by decide +kernel) rfl
theorem m35_69 : M35 69 [l0, l1, l2, l3, .val (.int v)] st H Q = M35 71 [l0, l1, l2, l3, .val (.int v)] (.int v :: st) H Q := w_x (show decode kb35 69 = .ok (.iload 4, 2) from by decide +kernel) rfl
theorem m35_71 : M35 71 [l0, l1, l2, .val (.int v), l4] st H Q = M35 72 [l0, l1, l2, .val (.int v), l4] (.int v :: st) H Q := w_x (show decode kb35 71 = .ok (.iload_n 3, 1) from by decide +kernel) rfl
theorem m35_72 : M35 72 ls (.int y :: .int x :: st) H Q = M35 73 ls (.int (x <<< (y &&& 31)) :: st) H Q := w_x (show decode kb35 72 = .ok (.ishl, 1) from by decide +kernel) rfl
theorem m35_73 : M35 73 ls (.int y :: .int x :: st) H Q = M35 74 ls (.int (x ||| y) :: st) H Q := w_x (show decode kb35 73 = .ok (.ior, 1) from by decide +kernel) rfl
theorem m35_74i : M35 74 [l0, l1, .val (.int z), l3, l4] ((.int v) :: st) H Q = M35 75 [l0, l1, .val (.int v), l3, l4] st H Q := w_st (i := 2) (p := isI) (show decode kb35 74 = .ok (.istore_n 2, 1) from by decide +kernel) rfl rfl rfl rfl rfl rfl
theorem m35_75 : M35 75 [l0, l1, l2, .val (.int v), l4] st H Q = M35 78 [l0, l1, l2, .val (.int (v + 1)), l4] st H Q := w_iinc (show decode kb35 75 = .ok (.iinc 3 1, 3) from by decide +kernel) rfl (by decide) rfl
theorem m35_78 : M35 78 ls st H Q = M35 4 ls st H Q := w_x (show decode kb35 78 = .ok (.goto (-74), 3) from by decide +kernel) rfl
theorem m35_81 : M35 81 [.val (.ref r), l1, l2, l3, l4] st H Q = M35 82 [.val (.ref r), l1, l2, l3, l4] (.ref r :: st) H Q := w_x (show decode kb35 81 = .ok (.aload_n 0, 1) from by decide +kernel) rfl
theorem m35_82 : M35 82 [l0, l1, .val (.int v), l3, l4] st H Q = M35 83 [l0, l1, .val (.int v), l3, l4] (.int v :: st) H Q := w_x (show decode kb35 82 = .ok (.iload_n 2, 1) from by decide +kernel) rfl
theorem cr35_107 : vR tables_1 dn y35 107 = some (true, y37, prog_1_method_23_code, 4, (some .int), 1, 0) := pR_of (cR_of (by decide +kernel) rc_37 dn_37 dn_35 (sig := ⟨[.int], some .int⟩) (by decide +kernel) (by decide +kernel) rfl rfl) (by decide +kernel) (by decide +kernel)
theorem m35_83 (a0 : Int32) : M35 83 ls [.int a0, .ref b] (put b pre s A post) Q = M37 0 [.val (.ref b), .val (.int a0), .unset, .unset] [] (put b pre s A post) (fun v H1 => M35 86 ls (v.toList ++ []) H1 Q) := w_virt (as := [.int a0]) (rest := []) (a := b) (show decode kb35 83 = .ok (.invokevirtual 107, 3) from by decide +kernel) cr35_107 put_o rfl rfl (Nat.le_of_ble_eq_true rfl) (by show 2 ≤ 4; omega) rfl
theorem m35_86 : M35 86 ls (.int z :: st) H Q = Q (some (.int z)) H := w_iret (show decode kb35 86 = .ok (.ireturn, 1) from by decide +kernel) rfl
theorem m36_0 : M36 0 [l0, .val (.int v), l2] st H Q = M36 1 [l0, .val (.int v), l2] (.int v :: st) H Q := w_x (show decode kb36 0 = .ok (.iload_n 1, 1) from by decide +kernel) rfl
theorem m36_1 : M36 1 [l0, l1, .val (.int v)] st H Q = M36 2 [l0, l1, .val (.int v)] (.int v :: st) H Q := w_x (show decode kb36 1 = .ok (.iload_n 2, 1) from by decide +kernel) rfl
theorem m36_2 : M36 2 ls st H Q = M36 3 ls (.int 1 :: st) H Q := w_con (show decode kb36 2 = .ok (.iconst 1, 1) from by decide +kernel) rfl (by decide)
theorem m36_3 : M36 3 ls (.int y :: .int x :: st) H Q = M36 4 ls (.int (XT.ushr x y) :: st) H Q := w_x (show decode kb36 3 = .ok (.iushr, 1) from by decide +kernel) rfl
theorem m36_4 : M36 4 ls (.int y :: .int x :: st) H Q = M36 5 ls (.int (XT.ushr x y) :: st) H Q := w_x (show decode kb36 4 = .ok (.iushr, 1) from by decide +kernel) rfl
theorem m36_5 : M36 5 ls st H Q = M36 6 ls (.int 1 :: st) H Q := w_con (show decode kb36 5 = .ok (.iconst 1, 1) from by decide +kernel) rfl (by decide)
theorem m36_6 : M36 6 ls (.int y :: .int x :: st) H Q = M36 7 ls (.int (x &&& y) :: st) H Q := w_x (show decode kb36 6 = .ok (.iand, 1) from by decide +kernel) rfl
theorem m36_7 : M36 7 [l0, l1, .val (.int v)] st H Q = M36 8 [l0, l1, .val (.int v)] (.int v :: st) H Q := w_x (show decode kb36 7 = .ok (.iload_n 2, 1) from by decide +kernel) rfl
theorem m36_8 : M36 8 ls st H Q = M36 9 ls (.int 1 :: st) H Q := w_con (show decode kb36 8 = .ok (.iconst 1, 1) from by decide +kernel) rfl (by decide)
theorem m36_9 : M36 9 ls (.int y :: .int x :: st) H Q = M36 10 ls (.int (x &&& y) :: st) H Q := w_x (show decode kb36 9 = .ok (.iand, 1) from by decide +kernel) rfl
theorem m36_10 : M36 10 ls (.int y :: .int x :: st) H Q = M36 11 ls (.int (x ^^^ y) :: st) H Q := w_x (show decode kb36 10 = .ok (.ixor, 1) from by decide +kernel) rfl
theorem m36_11 : M36 11 ls (.int z :: st) H Q = Q (some (.int z)) H := w_iret (show decode kb36 11 = .ok (.ireturn, 1) from by decide +kernel) rfl
theorem m37_0 : M37 0 ls st H Q = M37 1 ls (.int 0 :: st) H Q := w_con (show decode kb37 0 = .ok (.iconst 0, 1) from by decide +kernel) rfl (by decide)
theorem m37_1u : M37 1 [l0, l1, .unset, l3] ((.int v) :: st) H Q = M37 2 [l0, l1, .val (.int v), l3] st H Q := w_st (i := 2) (p := isI) (show decode kb37 1 = .ok (.istore_n 2, 1) from by decide +kernel) rfl rfl rfl rfl rfl rfl
theorem m37_2 : M37 2 ls st H Q = M37 3 ls (.int 0 :: st) H Q := w_con (show decode kb37 2 = .ok (.iconst 0, 1) from by decide +kernel) rfl (by decide)
theorem m37_3u : M37 3 [l0, l1, l2, .unset] ((.int v) :: st) H Q = M37 4 [l0, l1, l2, .val (.int v)] st H Q := w_st (i := 3) (p := isI) (show decode kb37 3 = .ok (.istore_n 3, 1) from by decide +kernel) rfl rfl rfl rfl rfl rfl
theorem m37_4 : M37 4 [l0, l1, l2, .val (.int v)] st H Q = M37 5 [l0, l1, l2, .val (.int v)] (.int v :: st) H Q := w_x (show decode kb37 4 = .ok (.iload_n 3, 1) from by decide +kernel) rfl
theorem m37_5 : M37 5 [.val (.ref r), l1, l2, l3] st H Q = M37 6 [.val (.ref r), l1, l2, l3] (.ref r :: st) H Q := w_x (show decode kb37 5 = .ok (.aload_n 0, 1) from by decide +kernel) rfl
theorem m37_6 : M37 6 ls (.ref b :: st) (put b pre s A post) Q = M37 9 ls (.int (s 3) :: st) (put b pre s A post) Q := w_get (show decode kb37 6 = .ok (.getfield 65, 3) from by decide +kernel) gf_65 put_o rfl
theorem m37_9 : M37 9 ls (.int y :: .int x :: st) H Q = if x < y then M37 12 ls st H Q else M37 40 ls st H Q := w_icmpN (show decode kb37 9 = .ok (.if_icmp .ge 31, 3) from by decide +kernel) (i_ge x y) rfl
theorem m37_12 : M37 12 [l0, l1, l2, .val (.int v)] st H Q = M37 13 [l0, l1, l2, .val (.int v)] (.int v :: st) H Q := w_x (show decode kb37 12 = .ok (.iload_n 3, 1) from by decide +kernel) rfl
theorem m37_13 : M37 13 ls st H Q = M37 15 ls (.int 8 :: st) H Q := w_con (show decode kb37 13 = .ok (.bipush 8, 2) from by decide +kernel) rfl (by decide)
theorem m37_15 : M37 15 ls (.int y :: .int x :: st) H Q = if x < y then M37 18 ls st H Q else M37 40 ls st H Q := w_icmpN (show decode kb37 15 = .ok (.if_icmp .ge 25, 3) from by decide +kernel) (i_ge x y) rfl
theorem m37_18 : M37 18 [l0, l1, .val (.int v), l3] st H Q = M37 19 [l0, l1, .val (.int v), l3] (.int v :: st) H Q := w_x (show decode kb37 18 = .ok (.iload_n 2, 1) from by decide +kernel) rfl
theorem m37_19 : M37 19 [.val (.ref r), l1, l2, l3] st H Q = M37 20 [.val (.ref r), l1, l2, l3] (.ref r :: st) H Q := w_x (show decode kb37 19 = .ok (.aload_n 0, 1) from by decide +kernel) rfl
theorem m37_20 : M37 20 [l0, .val (.int v), l2, l3] st H Q = M37 21 [l0, .val (.int v), l2, l3] (.int v :: st) H Q := w_x (show decode kb37 20 = .ok (.iload_n 1, 1) from by decide +kernel) rfl
theorem m37_21 : M37 21 [.val (.ref r), l1, l2, l3] st H Q = M37 22 [.val (.ref r), l1, l2, l3] (.ref r :: st) H Q := w_x (show decode kb37 21 = .ok (.aload_n 0, 1) from by decide +kernel) rfl
theorem m37_22 : M37 22 ls (.ref b :: st) (put b pre s A post) Q = M37 25 ls (.ref (b + 6) :: st) (put b pre s A post) Q := w_get (show decode kb37 22 = .ok (.getfield 25, 3) from by decide +kernel) gf_25 put_o rfl
theorem m37_25 : M37 25 [l0, l1, l2, .val (.int v)] st H Q = M37 26 [l0, l1, l2, .val (.int v)] (.int v :: st) H Q := w_x (show decode kb37 25 = .ok (.iload_n 3, 1) from by decide +kernel) rfl
theorem m37_26  : M37 26 ls (.int j :: .ref (b + 6) :: st) (put b pre s A post) Q = (inB j (A 5) ∧ M37 27 ls (.int (getA (A 5) j) :: st) (put b pre s A post) Q) := w_ild (show decode kb37 26 = .ok (.iaload, 1) from by decide +kernel) rfl put_a5
theorem cr37_104 : vR tables_1 dn y37 104 = some (true, y36, prog_1_method_22_code, 3, (some .int), 2, 1) := pR_of (cR_of (by decide +kernel) rc_36 dn_36 dn_37 (sig := ⟨[.int, .int], some .int⟩) (by decide +kernel) (by decide +kernel) rfl rfl) (by decide +kernel) (by decide +kernel)
theorem m37_27 (a0 : Int32) (a1 : Int32) (u0 : Int32) : M37 27 ls [.int a1, .int a0, .ref b, .int u0] (put b pre s A post) Q = M36 0 [.val (.ref b), .val (.int a0), .val (.int a1)] [] (put b pre s A post) (fun v H1 => M37 30 ls (v.toList ++ [.int u0]) H1 Q) := w_virt (as := [.int a1, .int a0]) (rest := [.int u0]) (a := b) (show decode kb37 27 = .ok (.invokevirtual 104, 3) from by decide +kernel) cr37_104 put_o rfl rfl (Nat.le_of_ble_eq_true rfl) (by show 3 ≤ 3; omega) rfl
theorem m37_30 : M37 30 [l0, l1, l2, .val (.int v)] st H Q = M37 31 [l0, l1, l2, .val (.int v)] (.int v :: st) H Q := w_x (show decode kb37 30 = .ok (.iload_n 3, 1) from by decide +kernel) rfl
theorem m37_31 : M37 31 ls (.int y :: .int x :: st) H Q = M37 32 ls (.int (x <<< (y &&& 31)) :: st) H Q := w_x (show decode kb37 31 = .ok (.ishl, 1) from by decide +kernel) rfl
theorem m37_32 : M37 32 ls (.int y :: .int x :: st) H Q = M37 33 ls (.int (x ||| y) :: st) H Q := w_x (show decode kb37 32 = .ok (.ior, 1) from by decide +kernel) rfl
theorem m37_33i : M37 33 [l0, l1, .val (.int z), l3] ((.int v) :: st) H Q = M37 34 [l0, l1, .val (.int v), l3] st H Q := w_st (i := 2) (p := isI) (show decode kb37 33 = .ok (.istore_n 2, 1) from by decide +kernel) rfl rfl rfl rfl rfl rfl
theorem m37_34 : M37 34 [l0, l1, l2, .val (.int v)] st H Q = M37 37 [l0, l1, l2, .val (.int (v + 1))] st H Q := w_iinc (show decode kb37 34 = .ok (.iinc 3 1, 3) from by decide +kernel) rfl (by decide) rfl
theorem m37_37 : M37 37 ls st H Q = M37 4 ls st H Q := w_x (show decode kb37 37 = .ok (.goto (-33), 3) from by decide +kernel) rfl
theorem m37_40 : M37 40 [l0, l1, .val (.int v), l3] st H Q = M37 41 [l0, l1, .val (.int v), l3] (.int v :: st) H Q := w_x (show decode kb37 40 = .ok (.iload_n 2, 1) from by decide +kernel) rfl
theorem m37_41 : M37 41 ls (.int z :: st) H Q = Q (some (.int z)) H := w_iret (show decode kb37 41 = .ok (.ireturn, 1) from by decide +kernel) rfl
theorem m38_0 : M38 0 [.val (.ref r), l1, l2, l3, l4] st H Q = M38 1 [.val (.ref r), l1, l2, l3, l4] (.ref r :: st) H Q := w_x (show decode kb38 0 = .ok (.aload_n 0, 1) from by decide +kernel) rfl
theorem m38_1 : M38 1 ls (.ref b :: st) (put b pre s A post) Q = M38 4 ls (.int (s 10) :: st) (put b pre s A post) Q := w_get (show decode kb38 1 = .ok (.getfield 68, 3) from by decide +kernel) gf_68 put_o rfl
theorem m38_4 : M38 4 ls (.int x :: st) H Q = if x = 0 then M38 7 ls st H Q else M38 9 ls st H Q := w_ifN (show decode kb38 4 = .ok (.ifCond .ne 5, 3) from by decide +kernel) (z_ne x) rfl
theorem m38_9 : M38 9 ls st H Q = M38 10 ls (.int 0 :: st) H Q := w_con (show decode kb38 9 = .ok (.iconst 0, 1) from by decide +kernel) rfl (by decide)
theorem m38_10u : M38 10 [l0, l1, .unset, l3, l4] ((.int v) :: st) H Q = M38 11 [l0, l1, .val (.int v), l3, l4] st H Q := w_st (i := 2) (p := isI) (show decode kb38 10 = .ok (.istore_n 2, 1) from by decide +kernel) rfl rfl rfl rfl rfl rfl
theorem m38_11 : M38 11 ls st H Q = M38 12 ls (.int 0 :: st) H Q := w_con (show decode kb38 11 = .ok (.iconst 0, 1) from by decide +kernel) rfl (by decide)
theorem m38_12u : M38 12 [l0, l1, l2, .unset, l4] ((.int v) :: st) H Q = M38 13 [l0, l1, l2, .val (.int v), l4] st H Q := w_st (i := 3) (p := isI) (show decode kb38 12 = .ok (.istore_n 3, 1) from by decide +kernel) rfl rfl rfl rfl rfl rfl
theorem m38_13 : M38 13 [l0, l1, l2, .val (.int v), l4] st H Q = M38 14 [l0, l1, l2, .val (.int v), l4] (.int v :: st) H Q := w_x (show decode kb38 13 = .ok (.iload_n 3, 1) from by decide +kernel) rfl
theorem m38_14 : M38 14 [.val (.ref r), l1, l2, l3, l4] st H Q = M38 15 [.val (.ref r), l1, l2, l3, l4] (.ref r :: st) H Q := w_x (show decode kb38 14 = .ok (.aload_n 0, 1) from by decide +kernel) rfl
theorem m38_15 : M38 15 ls (.ref b :: st) (put b pre s A post) Q = M38 18 ls (.int (s 1) :: st) (put b pre s A post) Q := w_get (show decode kb38 15 = .ok (.getfield 59, 3) from by decide +kernel) gf_59 put_o rfl
theorem m38_18 : M38 18 ls (.int y :: .int x :: st) H Q = if x < y then M38 21 ls st H Q else M38 88 ls st H Q := w_icmpN (show decode kb38 18 = .ok (.if_icmp .ge 70, 3) from by decide +kernel) (i_ge x y) rfl
theorem m38_21 : M38 21 [l0, l1, l2, .val (.int v), l4] st H Q = M38 22 [l0, l1, l2, .val (.int v), l4] (.int v :: st) H Q := w_x (show decode kb38 21 = .ok (.iload_n 3, 1) from by decide +kernel) rfl
theorem m38_22 : M38 22 ls st H Q = M38 24 ls (.int 32 :: st) H Q := w_con (show decode kb38 22 = .ok (.bipush 32, 2) from by decide +kernel) rfl (by decide)
theorem m38_24 : M38 24 ls (.int y :: .int x :: st) H Q = if x < y then M38 27 ls st H Q else M38 88 ls st H Q := w_icmpN (show decode kb38 24 = .ok (.if_icmp .ge 64, 3) from by decide +kernel) (i_ge x y) rfl
theorem m38_27 : M38 27 [.val (.ref r), l1, l2, l3, l4] st H Q = M38 28 [.val (.ref r), l1, l2, l3, l4] (.ref r :: st) H Q := w_x (show decode kb38 27 = .ok (.aload_n 0, 1) from by decide +kernel) rfl
theorem m38_28 : M38 28 ls (.ref b :: st) (put b pre s A post) Q = M38 31 ls (.ref (b + 1) :: st) (put b pre s A post) Q := w_get (show decode kb38 28 = .ok (.getfield 7, 3) from by decide +kernel) gf_7 put_o rfl
theorem m38_31 : M38 31 [l0, l1, l2, .val (.int v), l4] st H Q = M38 32 [l0, l1, l2, .val (.int v), l4] (.int v :: st) H Q := w_x (show decode kb38 31 = .ok (.iload_n 3, 1) from by decide +kernel) rfl
theorem m38_32  : M38 32 ls (.int j :: .ref (b + 1) :: st) (put b pre s A post) Q = (inB j (A 0) ∧ M38 33 ls (.int (getA (A 0) j) :: st) (put b pre s A post) Q) := w_ild (show decode kb38 32 = .ok (.iaload, 1) from by decide +kernel) rfl put_a0
theorem m38_33 : M38 33 ls st H Q = M38 34 ls (.int 1 :: st) H Q := w_con (show decode kb38 33 = .ok (.iconst 1, 1) from by decide +kernel) rfl (by decide)
theorem m38_34 : M38 34 ls (.int y :: .int x :: st) H Q = if x = y then M38 37 ls st H Q else M38 55 ls st H Q := w_icmpN (show decode kb38 34 = .ok (.if_icmp .ne 21, 3) from by decide +kernel) (i_ne x y) rfl
theorem m38_37 : M38 37 [l0, l1, .val (.int v), l3, l4] st H Q = M38 38 [l0, l1, .val (.int v), l3, l4] (.int v :: st) H Q := w_x (show decode kb38 37 = .ok (.iload_n 2, 1) from by decide +kernel) rfl
theorem m38_38 : M38 38 [l0, .val (.int v), l2, l3, l4] st H Q = M38 39 [l0, .val (.int v), l2, l3, l4] (.int v :: st) H Q := w_x (show decode kb38 38 = .ok (.iload_n 1, 1) from by decide +kernel) rfl
theorem m38_39 : M38 39 [.val (.ref r), l1, l2, l3, l4] st H Q = M38 40 [.val (.ref r), l1, l2, l3, l4] (.ref r :: st) H Q := w_x (show decode kb38 39 = .ok (.aload_n 0, 1) from by decide +kernel) rfl
theorem m38_40 : M38 40 ls (.ref b :: st) (put b pre s A post) Q = M38 43 ls (.ref (b + 4) :: st) (put b pre s A post) Q := w_get (show decode kb38 40 = .ok (.getfield 19, 3) from by decide +kernel) gf_19 put_o rfl
theorem m38_43 : M38 43 [l0, l1, l2, .val (.int v), l4] st H Q = M38 44 [l0, l1, l2, .val (.int v), l4] (.int v :: st) H Q := w_x (show decode kb38 43 = .ok (.iload_n 3, 1) from by decide +kernel) rfl
theorem m38_44  : M38 44 ls (.int j :: .ref (b + 4) :: st) (put b pre s A post) Q = (inB j (A 3) ∧ M38 45 ls (.int (getA (A 3) j) :: st) (put b pre s A post) Q) := w_ild (show decode kb38 44 = .ok (.iaload, 1) from by decide +kernel) rfl put_a3
theorem m38_45 : M38 45 ls (.int y :: .int x :: st) H Q = M38 46 ls (.int (XT.ushr x y) :: st) H Q := w_x (show decode kb38 45 = .ok (.iushr, 1) from by decide +kernel) rfl
theorem m38_46 : M38 46 ls st H Q = M38 47 ls (.int 1 :: st) H Q := w_con (show decode kb38 46 = .ok (.iconst 1, 1) from by decide +kernel) rfl (by decide)
theorem m38_47 : M38 47 ls (.int y :: .int x :: st) H Q = M38 48 ls (.int (x &&& y) :: st) H Q := w_x (show decode kb38 47 = .ok (.iand, 1) from by decide +kernel) rfl
theorem m38_48 : M38 48 [l0, l1, l2, .val (.int v), l4] st H Q = M38 49 [l0, l1, l2, .val (.int v), l4] (.int v :: st) H Q := w_x (show decode kb38 48 = .ok (.iload_n 3, 1) from by decide +kernel) rfl
theorem m38_49 : M38 49 ls (.int y :: .int x :: st) H Q = M38 50 ls (.int (x <<< (y &&& 31)) :: st) H Q := w_x (show decode kb38 49 = .ok (.ishl, 1) from by decide +kernel) rfl
theorem m38_50 : M38 50 ls (.int y :: .int x :: st) H Q = M38 51 ls (.int (x ||| y) :: st) H Q := w_x (show decode kb38 50 = .ok (.ior, 1) from by decide +kernel) rfl
theorem m38_51i : M38 51 [l0, l1, .val (.int z), l3, l4] ((.int v) :: st) H Q = M38 52 [l0, l1, .val (.int v), l3, l4] st H Q := w_st (i := 2) (p := isI) (show decode kb38 51 = .ok (.istore_n 2, 1) from by decide +kernel) rfl rfl rfl rfl rfl rfl
theorem m38_52 : M38 52 ls st H Q = M38 82 ls st H Q := w_x (show decode kb38 52 = .ok (.goto 30, 3) from by decide +kernel) rfl
theorem m38_55 : M38 55 [.val (.ref r), l1, l2, l3, l4] st H Q = M38 56 [.val (.ref r), l1, l2, l3, l4] (.ref r :: st) H Q := w_x (show decode kb38 55 = .ok (.aload_n 0, 1) from by decide +kernel) rfl
theorem m38_56 : M38 56 [.val (.ref r), l1, l2, l3, l4] st H Q = M38 57 [.val (.ref r), l1, l2, l3, l4] (.ref r :: st) H Q := w_x (show decode kb38 56 = .ok (.aload_n 0, 1) from by decide +kernel) rfl
theorem m38_57 : M38 57 ls (.ref b :: st) (put b pre s A post) Q = M38 60 ls (.int (s 12) :: st) (put b pre s A post) Q := w_get (show decode kb38 57 = .ok (.getfield 75, 3) from by decide +kernel) gf_75 put_o rfl
theorem m38_60 : M38 60 [l0, l1, l2, .val (.int v), l4] st H Q = M38 61 [l0, l1, l2, .val (.int v), l4] (.int v :: st) H Q := w_x (show decode kb38 60 = .ok (.iload_n 3, 1) from by decide +kernel) rfl
theorem cr38_97 : vR tables_1 dn y38 97 = some (true, y8, prog_1_method_19_code, 3, (some .int), 2, 18) := pR_of (cR_of (by decide +kernel) rc_8 dn_8 dn_38 (sig := ⟨[.int, .int], some .int⟩) (by decide +kernel) (by decide +kernel) rfl rfl) (by decide +kernel) (by decide +kernel)
theorem m38_61 (a0 : Int32) (a1 : Int32) : M38 61 ls [.int a1, .int a0, .ref b] (put b pre s A post) Q = M8 0 [.val (.ref b), .val (.int a0), .val (.int a1)] [] (put b pre s A post) (fun v H1 => M38 64 ls (v.toList ++ []) H1 Q) := w_virt (as := [.int a1, .int a0]) (rest := []) (a := b) (show decode kb38 61 = .ok (.invokevirtual 97, 3) from by decide +kernel) cr38_97 put_o rfl rfl (Nat.le_of_ble_eq_true rfl) (by show 3 ≤ 3; omega) rfl
theorem m38_64 : M38 64 ls (.int x :: st) H Q = if x = 0 then M38 82 ls st H Q else M38 67 ls st H Q := w_if (show decode kb38 64 = .ok (.ifCond .eq 18, 3) from by decide +kernel) (z_eq x) rfl
theorem m38_67 : M38 67 [.val (.ref r), l1, l2, l3, l4] st H Q = M38 68 [.val (.ref r), l1, l2, l3, l4] (.ref r :: st) H Q := w_x (show decode kb38 67 = .ok (.aload_n 0, 1) from by decide +kernel) rfl
theorem m38_68 : M38 68 [l0, l1, l2, .val (.int v), l4] st H Q = M38 69 [l0, l1, l2, .val (.int v), l4] (.int v :: st) H Q := w_x (show decode kb38 68 = .ok (.iload_n 3, 1) from by decide +kernel) rfl
theorem m38_69 : M38 69 [l0, l1, .val (.int v), l3, l4] st H Q = M38 70 [l0, l1, .val (.int v), l3, l4] (.int v :: st) H Q := w_x (show decode kb38 69 = .ok (.iload_n 2, 1) from by decide +kernel) rfl
theorem cr38_110 : vR tables_1 dn y38 110 = some (true, y39, prog_1_method_47_code, 7, (some .int), 2, 0) := pR_of (cR_of (by decide +kernel) rc_39 dn_39 dn_38 (sig := ⟨[.int, .int], some .int⟩) (by decide +kernel) (by decide +kernel) rfl rfl) (by decide +kernel) (by decide +kernel)
theorem m38_70 (a0 : Int32) (a1 : Int32) : M38 70 ls [.int a1, .int a0, .ref b] (put b pre s A post) Q = M39 0 [.val (.ref b), .val (.int a0), .val (.int a1), .unset, .unset, .unset, .unset] [] (put b pre s A post) (fun v H1 => M38 73 ls (v.toList ++ []) H1 Q) := w_virt (as := [.int a1, .int a0]) (rest := []) (a := b) (show decode kb38 70 = .ok (.invokevirtual 110, 3) from by decide +kernel) cr38_110 put_o rfl rfl (Nat.le_of_ble_eq_true rfl) (by show 3 ≤ 7; omega) rfl
theorem m38_73u : M38 73 [l0, l1, l2, l3, .unset] ((.int v) :: st) H Q = M38 75 [l0, l1, l2, l3, .val (.int v)] st H Q := w_st (i := 4) (p := isI) (show decode kb38 73 = .ok (.istore 4, 2) from by decide +kernel) rfl rfl rfl rfl rfl rfl
theorem m38_73i : M38 73 [l0, l1, l2, l3, .val (.int z)] ((.int v) :: st) H Q = M38 75 [l0, l1, l2, l3, .val (.int v)] st H Q := w_st (i := 4) (p := isI) (show decode kb38 73 = .ok (.istore 4, 2) from by decide +kernel) rfl rfl rfl rfl rfl rfl
theorem m38_73r : M38 73 [l0, l1, l2, l3, .val (.ref q)] ((.int v) :: st) H Q = M38 75 [l0, l1, l2, l3, .val (.int v)] st H Q := w_st (i := 4) (p := isI) (show decode kb38 73 = .ok (.istore 4, 2) from by decide +kernel) rfl rfl rfl rfl rfl rfl
theorem m38_75 : M38 75 [l0, l1, .val (.int v), l3, l4] st H Q = M38 76 [l0, l1, .val (.int v), l3, l4] (.int v :: st) H Q := w_x (show decode kb38 75 = .ok (.iload_n 2, 1) from by decide +kernel) rfl
theorem m38_76 : M38 76 [l0, l1, l2, l3, .val (.int v)] st H Q = M38 78 [l0, l1, l2, l3, .val (.int v)] (.int v :: st) H Q := w_x (show decode kb38 76 = .ok (.iload 4, 2) from by decide +kernel) rfl
theorem m38_78 : M38 78 [l0, l1, l2, .val (.int v), l4] st H Q = M38 79 [l0, l1, l2, .val (.int v), l4] (.int v :: st) H Q := w_x (show decode kb38 78 = .ok (.iload_n 3, 1) from by decide +kernel) rfl
theorem m38_79 : M38 79 ls (.int y :: .int x :: st) H Q = M38 80 ls (.int (x <<< (y &&& 31)) :: st) H Q := w_x (show decode kb38 79 = .ok (.ishl, 1) from by decide +kernel) rfl
theorem m38_80 : M38 80 ls (.int y :: .int x :: st) H Q = M38 81 ls (.int (x ||| y) :: st) H Q := w_x (show decode kb38 80 = .ok (.ior, 1) from by decide +kernel) rfl
theorem m38_81i : M38 81 [l0, l1, .val (.int z), l3, l4] ((.int v) :: st) H Q = M38 82 [l0, l1, .val (.int v), l3, l4] st H Q := w_st (i := 2) (p := isI) (show decode kb38 81 = .ok (.istore_n 2, 1) from by decide +kernel) rfl rfl rfl rfl rfl rfl
theorem m38_82 : M38 82 [l0, l1, l2, .val (.int v), l4] st H Q = M38 85 [l0, l1, l2, .val (.int (v + 1)), l4] st H Q := w_iinc (show decode kb38 82 = .ok (.iinc 3 1, 3) from by decide +kernel) rfl (by decide) rfl
theorem m38_85 : M38 85 ls st H Q = M38 13 ls st H Q := w_x (show decode kb38 85 = .ok (.goto (-72), 3) from by decide +kernel) rfl
theorem m38_88 : M38 88 [.val (.ref r), l1, l2, l3, l4] st H Q = M38 89 [.val (.ref r), l1, l2, l3, l4] (.ref r :: st) H Q := w_x (show decode kb38 88 = .ok (.aload_n 0, 1) from by decide +kernel) rfl
theorem m38_89 : M38 89 [l0, l1, .val (.int v), l3, l4] st H Q = M38 90 [l0, l1, .val (.int v), l3, l4] (.int v :: st) H Q := w_x (show decode kb38 89 = .ok (.iload_n 2, 1) from by decide +kernel) rfl
theorem cr38_107 : vR tables_1 dn y38 107 = some (true, y37, prog_1_method_23_code, 4, (some .int), 1, 2) := pR_of (cR_of (by decide +kernel) rc_37 dn_37 dn_38 (sig := ⟨[.int], some .int⟩) (by decide +kernel) (by decide +kernel) rfl rfl) (by decide +kernel) (by decide +kernel)
theorem m38_90 (a0 : Int32) : M38 90 ls [.int a0, .ref b] (put b pre s A post) Q = M37 0 [.val (.ref b), .val (.int a0), .unset, .unset] [] (put b pre s A post) (fun v H1 => M38 93 ls (v.toList ++ []) H1 Q) := w_virt (as := [.int a0]) (rest := []) (a := b) (show decode kb38 90 = .ok (.invokevirtual 107, 3) from by decide +kernel) cr38_107 put_o rfl rfl (Nat.le_of_ble_eq_true rfl) (by show 2 ≤ 4; omega) rfl
theorem m38_93 : M38 93 ls (.int z :: st) H Q = Q (some (.int z)) H := w_iret (show decode kb38 93 = .ok (.ireturn, 1) from by decide +kernel) rfl
theorem m39_0 : M39 0 [.val (.ref r), l1, l2, l3, l4, l5, l6] st H Q = M39 1 [.val (.ref r), l1, l2, l3, l4, l5, l6] (.ref r :: st) H Q := w_x (show decode kb39 0 = .ok (.aload_n 0, 1) from by decide +kernel) rfl
theorem m39_1 : M39 1 ls (.ref b :: st) (put b pre s A post) Q = M39 4 ls (.ref (b + 13) :: st) (put b pre s A post) Q := w_get (show decode kb39 1 = .ok (.getfield 46, 3) from by decide +kernel) gf_46 put_o rfl
theorem m39_4 : M39 4 [l0, .val (.int v), l2, l3, l4, l5, l6] st H Q = M39 5 [l0, .val (.int v), l2, l3, l4, l5, l6] (.int v :: st) H Q := w_x (show decode kb39 4 = .ok (.iload_n 1, 1) from by decide +kernel) rfl
theorem m39_5  : M39 5 ls (.int j :: .ref (b + 13) :: st) (put b pre s A post) Q = (inB j (A 12) ∧ M39 6 ls (.int (getA (A 12) j) :: st) (put b pre s A post) Q) := w_ild (show decode kb39 5 = .ok (.iaload, 1) from by decide +kernel) rfl put_a12
theorem m39_6u : M39 6 [l0, l1, l2, .unset, l4, l5, l6] ((.int v) :: st) H Q = M39 7 [l0, l1, l2, .val (.int v), l4, l5, l6] st H Q := w_st (i := 3) (p := isI) (show decode kb39 6 = .ok (.istore_n 3, 1) from by decide +kernel) rfl rfl rfl rfl rfl rfl
theorem m39_7 : M39 7 ls st H Q = M39 8 ls (.int 0 :: st) H Q := w_con (show decode kb39 7 = .ok (.iconst 0, 1) from by decide +kernel) rfl (by decide)
theorem m39_8u : M39 8 [l0, l1, l2, l3, .unset, l5, l6] ((.int v) :: st) H Q = M39 10 [l0, l1, l2, l3, .val (.int v), l5, l6] st H Q := w_st (i := 4) (p := isI) (show decode kb39 8 = .ok (.istore 4, 2) from by decide +kernel) rfl rfl rfl rfl rfl rfl
theorem m39_10 : M39 10 ls st H Q = M39 11 ls (.int 0 :: st) H Q := w_con (show decode kb39 10 = .ok (.iconst 0, 1) from by decide +kernel) rfl (by decide)
theorem m39_11u : M39 11 [l0, l1, l2, l3, l4, .unset, l6] ((.int v) :: st) H Q = M39 13 [l0, l1, l2, l3, l4, .val (.int v), l6] st H Q := w_st (i := 5) (p := isI) (show decode kb39 11 = .ok (.istore 5, 2) from by decide +kernel) rfl rfl rfl rfl rfl rfl
theorem m39_13 : M39 13 ls st H Q = M39 14 ls (.int 0 :: st) H Q := w_con (show decode kb39 13 = .ok (.iconst 0, 1) from by decide +kernel) rfl (by decide)
theorem m39_14u : M39 14 [l0, l1, l2, l3, l4, l5, .unset] ((.int v) :: st) H Q = M39 16 [l0, l1, l2, l3, l4, l5, .val (.int v)] st H Q := w_st (i := 6) (p := isI) (show decode kb39 14 = .ok (.istore 6, 2) from by decide +kernel) rfl rfl rfl rfl rfl rfl
theorem m39_16 : M39 16 [l0, l1, l2, l3, l4, l5, .val (.int v)] st H Q = M39 18 [l0, l1, l2, l3, l4, l5, .val (.int v)] (.int v :: st) H Q := w_x (show decode kb39 16 = .ok (.iload 6, 2) from by decide +kernel) rfl
theorem m39_18 : M39 18 [l0, .val (.int v), l2, l3, l4, l5, l6] st H Q = M39 19 [l0, .val (.int v), l2, l3, l4, l5, l6] (.int v :: st) H Q := w_x (show decode kb39 18 = .ok (.iload_n 1, 1) from by decide +kernel) rfl
theorem m39_19 : M39 19 ls (.int y :: .int x :: st) H Q = if x < y then M39 22 ls st H Q else M39 61 ls st H Q := w_icmpN (show decode kb39 19 = .ok (.if_icmp .ge 42, 3) from by decide +kernel) (i_ge x y) rfl
theorem m39_22 : M39 22 [.val (.ref r), l1, l2, l3, l4, l5, l6] st H Q = M39 23 [.val (.ref r), l1, l2, l3, l4, l5, l6] (.ref r :: st) H Q := w_x (show decode kb39 22 = .ok (.aload_n 0, 1) from by decide +kernel) rfl
theorem m39_23 : M39 23 [l0, l1, l2, .val (.int v), l4, l5, l6] st H Q = M39 24 [l0, l1, l2, .val (.int v), l4, l5, l6] (.int v :: st) H Q := w_x (show decode kb39 23 = .ok (.iload_n 3, 1) from by decide +kernel) rfl
theorem m39_24 : M39 24 [l0, l1, l2, l3, l4, l5, .val (.int v)] st H Q = M39 26 [l0, l1, l2, l3, l4, l5, .val (.int v)] (.int v :: st) H Q := w_x (show decode kb39 24 = .ok (.iload 6, 2) from by decide +kernel) rfl
theorem cr39_97 : vR tables_1 dn y39 97 = some (true, y8, prog_1_method_19_code, 3, (some .int), 2, 0) := pR_of (cR_of (by decide +kernel) rc_8 dn_8 dn_39 (sig := ⟨[.int, .int], some .int⟩) (by decide +kernel) (by decide +kernel) rfl rfl) (by decide +kernel) (by decide +kernel)
theorem m39_26 (a0 : Int32) (a1 : Int32) : M39 26 ls [.int a1, .int a0, .ref b] (put b pre s A post) Q = M8 0 [.val (.ref b), .val (.int a0), .val (.int a1)] [] (put b pre s A post) (fun v H1 => M39 29 ls (v.toList ++ []) H1 Q) := w_virt (as := [.int a1, .int a0]) (rest := []) (a := b) (show decode kb39 26 = .ok (.invokevirtual 97, 3) from by decide +kernel) cr39_97 put_o rfl rfl (Nat.le_of_ble_eq_true rfl) (by show 3 ≤ 3; omega) rfl
theorem m39_29 : M39 29 ls (.int x :: st) H Q = if x = 0 then M39 55 ls st H Q else M39 32 ls st H Q := w_if (show decode kb39 29 = .ok (.ifCond .eq 26, 3) from by decide +kernel) (z_eq x) rfl
theorem m39_32 : M39 32 [l0, l1, l2, l3, l4, .val (.int v), l6] st H Q = M39 34 [l0, l1, l2, l3, l4, .val (.int v), l6] (.int v :: st) H Q := w_x (show decode kb39 32 = .ok (.iload 5, 2) from by decide +kernel) rfl
theorem m39_34 : M39 34 ls st H Q = M39 35 ls (.int 4 :: st) H Q := w_con (show decode kb39 34 = .ok (.iconst 4, 1) from by decide +kernel) rfl (by decide)
theorem m39_35 : M39 35 ls (.int y :: .int x :: st) H Q = if x < y then M39 38 ls st H Q else M39 55 ls st H Q := w_icmpN (show decode kb39 35 = .ok (.if_icmp .ge 20, 3) from by decide +kernel) (i_ge x y) rfl
theorem m39_38 : M39 38 [l0, l1, l2, l3, .val (.int v), l5, l6] st H Q = M39 40 [l0, l1, l2, l3, .val (.int v), l5, l6] (.int v :: st) H Q := w_x (show decode kb39 38 = .ok (.iload 4, 2) from by decide +kernel) rfl
theorem m39_40 : M39 40 [l0, l1, .val (.int v), l3, l4, l5, l6] st H Q = M39 41 [l0, l1, .val (.int v), l3, l4, l5, l6] (.int v :: st) H Q := w_x (show decode kb39 40 = .ok (.iload_n 2, 1) from by decide +kernel) rfl
theorem m39_41 : M39 41 [l0, l1, l2, l3, l4, l5, .val (.int v)] st H Q = M39 43 [l0, l1, l2, l3, l4, l5, .val (.int v)] (.int v :: st) H Q := w_x (show decode kb39 41 = .ok (.iload 6, 2) from by decide +kernel) rfl
theorem m39_43 : M39 43 ls (.int y :: .int x :: st) H Q = M39 44 ls (.int (XT.ushr x y) :: st) H Q := w_x (show decode kb39 43 = .ok (.iushr, 1) from by decide +kernel) rfl
theorem m39_44 : M39 44 ls st H Q = M39 45 ls (.int 1 :: st) H Q := w_con (show decode kb39 44 = .ok (.iconst 1, 1) from by decide +kernel) rfl (by decide)
theorem m39_45 : M39 45 ls (.int y :: .int x :: st) H Q = M39 46 ls (.int (x &&& y) :: st) H Q := w_x (show decode kb39 45 = .ok (.iand, 1) from by decide +kernel) rfl
theorem m39_46 : M39 46 [l0, l1, l2, l3, l4, .val (.int v), l6] st H Q = M39 48 [l0, l1, l2, l3, l4, .val (.int v), l6] (.int v :: st) H Q := w_x (show decode kb39 46 = .ok (.iload 5, 2) from by decide +kernel) rfl
theorem m39_48 : M39 48 ls (.int y :: .int x :: st) H Q = M39 49 ls (.int (x <<< (y &&& 31)) :: st) H Q := w_x (show decode kb39 48 = .ok (.ishl, 1) from by decide +kernel) rfl
theorem m39_49 : M39 49 ls (.int y :: .int x :: st) H Q = M39 50 ls (.int (x ||| y) :: st) H Q := w_x (show decode kb39 49 = .ok (.ior, 1) from by decide +kernel) rfl
theorem m39_50i : M39 50 [l0, l1, l2, l3, .val (.int z), l5, l6] ((.int v) :: st) H Q = M39 52 [l0, l1, l2, l3, .val (.int v), l5, l6] st H Q := w_st (i := 4) (p := isI) (show decode kb39 50 = .ok (.istore 4, 2) from by decide +kernel) rfl rfl rfl rfl rfl rfl
theorem m39_52 : M39 52 [l0, l1, l2, l3, l4, .val (.int v), l6] st H Q = M39 55 [l0, l1, l2, l3, l4, .val (.int (v + 1)), l6] st H Q := w_iinc (show decode kb39 52 = .ok (.iinc 5 1, 3) from by decide +kernel) rfl (by decide) rfl
theorem m39_55 : M39 55 [l0, l1, l2, l3, l4, l5, .val (.int v)] st H Q = M39 58 [l0, l1, l2, l3, l4, l5, .val (.int (v + 1))] st H Q := w_iinc (show decode kb39 55 = .ok (.iinc 6 1, 3) from by decide +kernel) rfl (by decide) rfl
theorem m39_58 : M39 58 ls st H Q = M39 16 ls st H Q := w_x (show decode kb39 58 = .ok (.goto (-42), 3) from by decide +kernel) rfl
theorem m39_61 : M39 61 [.val (.ref r), l1, l2, l3, l4, l5, l6] st H Q = M39 62 [.val (.ref r), l1, l2, l3, l4, l5, l6] (.ref r :: st) H Q := w_x (show decode kb39 61 = .ok (.aload_n 0, 1) from by decide +kernel) rfl
theorem m39_62 : M39 62 ls (.ref b :: st) (put b pre s A post) Q = M39 65 ls (.ref (b + 14) :: st) (put b pre s A post) Q := w_get (show decode kb39 62 = .ok (.getfield 49, 3) from by decide +kernel) gf_49 put_o rfl
theorem m39_65 : M39 65 [l0, .val (.int v), l2, l3, l4, l5, l6] st H Q = M39 66 [l0, .val (.int v), l2, l3, l4, l5, l6] (.int v :: st) H Q := w_x (show decode kb39 65 = .ok (.iload_n 1, 1) from by decide +kernel) rfl
theorem m39_66  : M39 66 ls (.int j :: .ref (b + 14) :: st) (put b pre s A post) Q = (inB j (A 13) ∧ M39 67 ls (.int (getA (A 13) j) :: st) (put b pre s A post) Q) := w_ild (show decode kb39 66 = .ok (.iaload, 1) from by decide +kernel) rfl put_a13
theorem m39_67 : M39 67 [l0, l1, l2, l3, .val (.int v), l5, l6] st H Q = M39 69 [l0, l1, l2, l3, .val (.int v), l5, l6] (.int v :: st) H Q := w_x (show decode kb39 67 = .ok (.iload 4, 2) from by decide +kernel) rfl
theorem m39_69 : M39 69 ls (.int y :: .int x :: st) H Q = M39 70 ls (.int (XT.ushr x y) :: st) H Q := w_x (show decode kb39 69 = .ok (.iushr, 1) from by decide +kernel) rfl
theorem m39_70 : M39 70 ls st H Q = M39 71 ls (.int 1 :: st) H Q := w_con (show decode kb39 70 = .ok (.iconst 1, 1) from by decide +kernel) rfl (by decide)
theorem m39_71 : M39 71 ls (.int y :: .int x :: st) H Q = M39 72 ls (.int (x &&& y) :: st) H Q := w_x (show decode kb39 71 = .ok (.iand, 1) from by decide +kernel) rfl
theorem m39_72 : M39 72 ls (.int z :: st) H Q = Q (some (.int z)) H := w_iret (show decode kb39 72 = .ok (.ireturn, 1) from by decide +kernel) rfl
theorem m40_0 : M40 0 [.val (.int v), l1, l2, l3, l4, l5, l6, l7, l8, l9, l10, l11, l12, l13, l14, l15, l16, l17, l18, l19, l20, l21, l22, l23, l24, l25, l26, l27, l28, l29, l30, l31, l32, l33, l34, l35, l36, l37, l38, l39, l40, l41] st H Q = M40 1 [.val (.int v), l1, l2, l3, l4, l5, l6, l7, l8, l9, l10, l11, l12, l13, l14, l15, l16, l17, l18, l19, l20, l21, l22, l23, l24, l25, l26, l27, l28, l29, l30, l31, l32, l33, l34, l35, l36, l37, l38, l39, l40, l41] (.int v :: st) H Q := w_x at_0 rfl
theorem m40_1 : M40 1 ls st H Q = M40 2 ls (.int 1 :: st) H Q := w_con at_1 rfl (by decide)
theorem m40_2 : M40 2 ls (.int y :: .int x :: st) H Q = M40 3 ls (.int (x &&& y) :: st) H Q := w_x at_2 rfl
theorem m40_3u : M40 3 [l0, l1, .unset, l3, l4, l5, l6, l7, l8, l9, l10, l11, l12, l13, l14, l15, l16, l17, l18, l19, l20, l21, l22, l23, l24, l25, l26, l27, l28, l29, l30, l31, l32, l33, l34, l35, l36, l37, l38, l39, l40, l41] ((.int v) :: st) H Q = M40 4 [l0, l1, .val (.int v), l3, l4, l5, l6, l7, l8, l9, l10, l11, l12, l13, l14, l15, l16, l17, l18, l19, l20, l21, l22, l23, l24, l25, l26, l27, l28, l29, l30, l31, l32, l33, l34, l35, l36, l37, l38, l39, l40, l41] st H Q := w_st (i := 2) (p := isI) at_3 rfl rfl rfl rfl rfl rfl
theorem m40_4 : M40 4 [.val (.int v), l1, l2, l3, l4, l5, l6, l7, l8, l9, l10, l11, l12, l13, l14, l15, l16, l17, l18, l19, l20, l21, l22, l23, l24, l25, l26, l27, l28, l29, l30, l31, l32, l33, l34, l35, l36, l37, l38, l39, l40, l41] st H Q = M40 5 [.val (.int v), l1, l2, l3, l4, l5, l6, l7, l8, l9, l10, l11, l12, l13, l14, l15, l16, l17, l18, l19, l20, l21, l22, l23, l24, l25, l26, l27, l28, l29, l30, l31, l32, l33, l34, l35, l36, l37, l38, l39, l40, l41] (.int v :: st) H Q := w_x at_4 rfl
theorem m40_5 : M40 5 ls st H Q = M40 6 ls (.int 1 :: st) H Q := w_con at_5 rfl (by decide)
theorem m40_6 : M40 6 ls (.int y :: .int x :: st) H Q = M40 7 ls (.int (XT.ushr x y) :: st) H Q := w_x at_6 rfl
theorem m40_7 : M40 7 ls st H Q = M40 8 ls (.int 1 :: st) H Q := w_con at_7 rfl (by decide)
theorem m40_8 : M40 8 ls (.int y :: .int x :: st) H Q = M40 9 ls (.int (x &&& y) :: st) H Q := w_x at_8 rfl
theorem m40_9u : M40 9 [l0, l1, l2, .unset, l4, l5, l6, l7, l8, l9, l10, l11, l12, l13, l14, l15, l16, l17, l18, l19, l20, l21, l22, l23, l24, l25, l26, l27, l28, l29, l30, l31, l32, l33, l34, l35, l36, l37, l38, l39, l40, l41] ((.int v) :: st) H Q = M40 10 [l0, l1, l2, .val (.int v), l4, l5, l6, l7, l8, l9, l10, l11, l12, l13, l14, l15, l16, l17, l18, l19, l20, l21, l22, l23, l24, l25, l26, l27, l28, l29, l30, l31, l32, l33, l34, l35, l36, l37, l38, l39, l40, l41] st H Q := w_st (i := 3) (p := isI) at_9 rfl rfl rfl rfl rfl rfl
theorem m40_10 : M40 10 [.val (.int v), l1, l2, l3, l4, l5, l6, l7, l8, l9, l10, l11, l12, l13, l14, l15, l16, l17, l18, l19, l20, l21, l22, l23, l24, l25, l26, l27, l28, l29, l30, l31, l32, l33, l34, l35, l36, l37, l38, l39, l40, l41] st H Q = M40 11 [.val (.int v), l1, l2, l3, l4, l5, l6, l7, l8, l9, l10, l11, l12, l13, l14, l15, l16, l17, l18, l19, l20, l21, l22, l23, l24, l25, l26, l27, l28, l29, l30, l31, l32, l33, l34, l35, l36, l37, l38, l39, l40, l41] (.int v :: st) H Q := w_x at_10 rfl
theorem m40_11 : M40 11 ls st H Q = M40 12 ls (.int 2 :: st) H Q := w_con at_11 rfl (by decide)
theorem m40_12 : M40 12 ls (.int y :: .int x :: st) H Q = M40 13 ls (.int (XT.ushr x y) :: st) H Q := w_x at_12 rfl
theorem m40_13 : M40 13 ls st H Q = M40 14 ls (.int 1 :: st) H Q := w_con at_13 rfl (by decide)
theorem m40_14 : M40 14 ls (.int y :: .int x :: st) H Q = M40 15 ls (.int (x &&& y) :: st) H Q := w_x at_14 rfl
theorem m40_15u : M40 15 [l0, l1, l2, l3, .unset, l5, l6, l7, l8, l9, l10, l11, l12, l13, l14, l15, l16, l17, l18, l19, l20, l21, l22, l23, l24, l25, l26, l27, l28, l29, l30, l31, l32, l33, l34, l35, l36, l37, l38, l39, l40, l41] ((.int v) :: st) H Q = M40 17 [l0, l1, l2, l3, .val (.int v), l5, l6, l7, l8, l9, l10, l11, l12, l13, l14, l15, l16, l17, l18, l19, l20, l21, l22, l23, l24, l25, l26, l27, l28, l29, l30, l31, l32, l33, l34, l35, l36, l37, l38, l39, l40, l41] st H Q := w_st (i := 4) (p := isI) at_15 rfl rfl rfl rfl rfl rfl
theorem m40_17 : M40 17 [.val (.int v), l1, l2, l3, l4, l5, l6, l7, l8, l9, l10, l11, l12, l13, l14, l15, l16, l17, l18, l19, l20, l21, l22, l23, l24, l25, l26, l27, l28, l29, l30, l31, l32, l33, l34, l35, l36, l37, l38, l39, l40, l41] st H Q = M40 18 [.val (.int v), l1, l2, l3, l4, l5, l6, l7, l8, l9, l10, l11, l12, l13, l14, l15, l16, l17, l18, l19, l20, l21, l22, l23, l24, l25, l26, l27, l28, l29, l30, l31, l32, l33, l34, l35, l36, l37, l38, l39, l40, l41] (.int v :: st) H Q := w_x at_17 rfl
theorem m40_18 : M40 18 ls st H Q = M40 19 ls (.int 3 :: st) H Q := w_con at_18 rfl (by decide)
theorem m40_19 : M40 19 ls (.int y :: .int x :: st) H Q = M40 20 ls (.int (XT.ushr x y) :: st) H Q := w_x at_19 rfl
theorem m40_20 : M40 20 ls st H Q = M40 21 ls (.int 1 :: st) H Q := w_con at_20 rfl (by decide)
theorem m40_21 : M40 21 ls (.int y :: .int x :: st) H Q = M40 22 ls (.int (x &&& y) :: st) H Q := w_x at_21 rfl
theorem m40_22u : M40 22 [l0, l1, l2, l3, l4, .unset, l6, l7, l8, l9, l10, l11, l12, l13, l14, l15, l16, l17, l18, l19, l20, l21, l22, l23, l24, l25, l26, l27, l28, l29, l30, l31, l32, l33, l34, l35, l36, l37, l38, l39, l40, l41] ((.int v) :: st) H Q = M40 24 [l0, l1, l2, l3, l4, .val (.int v), l6, l7, l8, l9, l10, l11, l12, l13, l14, l15, l16, l17, l18, l19, l20, l21, l22, l23, l24, l25, l26, l27, l28, l29, l30, l31, l32, l33, l34, l35, l36, l37, l38, l39, l40, l41] st H Q := w_st (i := 5) (p := isI) at_22 rfl rfl rfl rfl rfl rfl
theorem m40_24 : M40 24 [.val (.int v), l1, l2, l3, l4, l5, l6, l7, l8, l9, l10, l11, l12, l13, l14, l15, l16, l17, l18, l19, l20, l21, l22, l23, l24, l25, l26, l27, l28, l29, l30, l31, l32, l33, l34, l35, l36, l37, l38, l39, l40, l41] st H Q = M40 25 [.val (.int v), l1, l2, l3, l4, l5, l6, l7, l8, l9, l10, l11, l12, l13, l14, l15, l16, l17, l18, l19, l20, l21, l22, l23, l24, l25, l26, l27, l28, l29, l30, l31, l32, l33, l34, l35, l36, l37, l38, l39, l40, l41] (.int v :: st) H Q := w_x at_24 rfl
theorem m40_25 : M40 25 ls st H Q = M40 26 ls (.int 4 :: st) H Q := w_con at_25 rfl (by decide)
theorem m40_26 : M40 26 ls (.int y :: .int x :: st) H Q = M40 27 ls (.int (XT.ushr x y) :: st) H Q := w_x at_26 rfl
theorem m40_27 : M40 27 ls st H Q = M40 28 ls (.int 1 :: st) H Q := w_con at_27 rfl (by decide)
theorem m40_28 : M40 28 ls (.int y :: .int x :: st) H Q = M40 29 ls (.int (x &&& y) :: st) H Q := w_x at_28 rfl
theorem m40_29u : M40 29 [l0, l1, l2, l3, l4, l5, .unset, l7, l8, l9, l10, l11, l12, l13, l14, l15, l16, l17, l18, l19, l20, l21, l22, l23, l24, l25, l26, l27, l28, l29, l30, l31, l32, l33, l34, l35, l36, l37, l38, l39, l40, l41] ((.int v) :: st) H Q = M40 31 [l0, l1, l2, l3, l4, l5, .val (.int v), l7, l8, l9, l10, l11, l12, l13, l14, l15, l16, l17, l18, l19, l20, l21, l22, l23, l24, l25, l26, l27, l28, l29, l30, l31, l32, l33, l34, l35, l36, l37, l38, l39, l40, l41] st H Q := w_st (i := 6) (p := isI) at_29 rfl rfl rfl rfl rfl rfl
theorem m40_31 : M40 31 [.val (.int v), l1, l2, l3, l4, l5, l6, l7, l8, l9, l10, l11, l12, l13, l14, l15, l16, l17, l18, l19, l20, l21, l22, l23, l24, l25, l26, l27, l28, l29, l30, l31, l32, l33, l34, l35, l36, l37, l38, l39, l40, l41] st H Q = M40 32 [.val (.int v), l1, l2, l3, l4, l5, l6, l7, l8, l9, l10, l11, l12, l13, l14, l15, l16, l17, l18, l19, l20, l21, l22, l23, l24, l25, l26, l27, l28, l29, l30, l31, l32, l33, l34, l35, l36, l37, l38, l39, l40, l41] (.int v :: st) H Q := w_x at_31 rfl
theorem m40_32 : M40 32 ls st H Q = M40 33 ls (.int 5 :: st) H Q := w_con at_32 rfl (by decide)
theorem m40_33 : M40 33 ls (.int y :: .int x :: st) H Q = M40 34 ls (.int (XT.ushr x y) :: st) H Q := w_x at_33 rfl
theorem m40_34 : M40 34 ls st H Q = M40 35 ls (.int 1 :: st) H Q := w_con at_34 rfl (by decide)
theorem m40_35 : M40 35 ls (.int y :: .int x :: st) H Q = M40 36 ls (.int (x &&& y) :: st) H Q := w_x at_35 rfl
theorem m40_36u : M40 36 [l0, l1, l2, l3, l4, l5, l6, .unset, l8, l9, l10, l11, l12, l13, l14, l15, l16, l17, l18, l19, l20, l21, l22, l23, l24, l25, l26, l27, l28, l29, l30, l31, l32, l33, l34, l35, l36, l37, l38, l39, l40, l41] ((.int v) :: st) H Q = M40 38 [l0, l1, l2, l3, l4, l5, l6, .val (.int v), l8, l9, l10, l11, l12, l13, l14, l15, l16, l17, l18, l19, l20, l21, l22, l23, l24, l25, l26, l27, l28, l29, l30, l31, l32, l33, l34, l35, l36, l37, l38, l39, l40, l41] st H Q := w_st (i := 7) (p := isI) at_36 rfl rfl rfl rfl rfl rfl
theorem m40_38 : M40 38 [.val (.int v), l1, l2, l3, l4, l5, l6, l7, l8, l9, l10, l11, l12, l13, l14, l15, l16, l17, l18, l19, l20, l21, l22, l23, l24, l25, l26, l27, l28, l29, l30, l31, l32, l33, l34, l35, l36, l37, l38, l39, l40, l41] st H Q = M40 39 [.val (.int v), l1, l2, l3, l4, l5, l6, l7, l8, l9, l10, l11, l12, l13, l14, l15, l16, l17, l18, l19, l20, l21, l22, l23, l24, l25, l26, l27, l28, l29, l30, l31, l32, l33, l34, l35, l36, l37, l38, l39, l40, l41] (.int v :: st) H Q := w_x at_38 rfl
theorem m40_39 : M40 39 ls st H Q = M40 41 ls (.int 6 :: st) H Q := w_con at_39 rfl (by decide)
theorem m40_41 : M40 41 ls (.int y :: .int x :: st) H Q = M40 42 ls (.int (XT.ushr x y) :: st) H Q := w_x at_41 rfl
theorem m40_42 : M40 42 ls st H Q = M40 43 ls (.int 1 :: st) H Q := w_con at_42 rfl (by decide)
theorem m40_43 : M40 43 ls (.int y :: .int x :: st) H Q = M40 44 ls (.int (x &&& y) :: st) H Q := w_x at_43 rfl
theorem m40_44u : M40 44 [l0, l1, l2, l3, l4, l5, l6, l7, .unset, l9, l10, l11, l12, l13, l14, l15, l16, l17, l18, l19, l20, l21, l22, l23, l24, l25, l26, l27, l28, l29, l30, l31, l32, l33, l34, l35, l36, l37, l38, l39, l40, l41] ((.int v) :: st) H Q = M40 46 [l0, l1, l2, l3, l4, l5, l6, l7, .val (.int v), l9, l10, l11, l12, l13, l14, l15, l16, l17, l18, l19, l20, l21, l22, l23, l24, l25, l26, l27, l28, l29, l30, l31, l32, l33, l34, l35, l36, l37, l38, l39, l40, l41] st H Q := w_st (i := 8) (p := isI) at_44 rfl rfl rfl rfl rfl rfl
theorem m40_46 : M40 46 [.val (.int v), l1, l2, l3, l4, l5, l6, l7, l8, l9, l10, l11, l12, l13, l14, l15, l16, l17, l18, l19, l20, l21, l22, l23, l24, l25, l26, l27, l28, l29, l30, l31, l32, l33, l34, l35, l36, l37, l38, l39, l40, l41] st H Q = M40 47 [.val (.int v), l1, l2, l3, l4, l5, l6, l7, l8, l9, l10, l11, l12, l13, l14, l15, l16, l17, l18, l19, l20, l21, l22, l23, l24, l25, l26, l27, l28, l29, l30, l31, l32, l33, l34, l35, l36, l37, l38, l39, l40, l41] (.int v :: st) H Q := w_x at_46 rfl
theorem m40_47 : M40 47 ls st H Q = M40 49 ls (.int 7 :: st) H Q := w_con at_47 rfl (by decide)
theorem m40_49 : M40 49 ls (.int y :: .int x :: st) H Q = M40 50 ls (.int (XT.ushr x y) :: st) H Q := w_x at_49 rfl
theorem m40_50 : M40 50 ls st H Q = M40 51 ls (.int 1 :: st) H Q := w_con at_50 rfl (by decide)
theorem m40_51 : M40 51 ls (.int y :: .int x :: st) H Q = M40 52 ls (.int (x &&& y) :: st) H Q := w_x at_51 rfl
theorem m40_52u : M40 52 [l0, l1, l2, l3, l4, l5, l6, l7, l8, .unset, l10, l11, l12, l13, l14, l15, l16, l17, l18, l19, l20, l21, l22, l23, l24, l25, l26, l27, l28, l29, l30, l31, l32, l33, l34, l35, l36, l37, l38, l39, l40, l41] ((.int v) :: st) H Q = M40 54 [l0, l1, l2, l3, l4, l5, l6, l7, l8, .val (.int v), l10, l11, l12, l13, l14, l15, l16, l17, l18, l19, l20, l21, l22, l23, l24, l25, l26, l27, l28, l29, l30, l31, l32, l33, l34, l35, l36, l37, l38, l39, l40, l41] st H Q := w_st (i := 9) (p := isI) at_52 rfl rfl rfl rfl rfl rfl
theorem m40_54 : M40 54 [.val (.int v), l1, l2, l3, l4, l5, l6, l7, l8, l9, l10, l11, l12, l13, l14, l15, l16, l17, l18, l19, l20, l21, l22, l23, l24, l25, l26, l27, l28, l29, l30, l31, l32, l33, l34, l35, l36, l37, l38, l39, l40, l41] st H Q = M40 55 [.val (.int v), l1, l2, l3, l4, l5, l6, l7, l8, l9, l10, l11, l12, l13, l14, l15, l16, l17, l18, l19, l20, l21, l22, l23, l24, l25, l26, l27, l28, l29, l30, l31, l32, l33, l34, l35, l36, l37, l38, l39, l40, l41] (.int v :: st) H Q := w_x at_54 rfl
theorem m40_55 : M40 55 ls st H Q = M40 57 ls (.int 8 :: st) H Q := w_con at_55 rfl (by decide)
theorem m40_57 : M40 57 ls (.int y :: .int x :: st) H Q = M40 58 ls (.int (XT.ushr x y) :: st) H Q := w_x at_57 rfl
theorem m40_58 : M40 58 ls st H Q = M40 59 ls (.int 1 :: st) H Q := w_con at_58 rfl (by decide)
theorem m40_59 : M40 59 ls (.int y :: .int x :: st) H Q = M40 60 ls (.int (x &&& y) :: st) H Q := w_x at_59 rfl
theorem m40_60u : M40 60 [l0, l1, l2, l3, l4, l5, l6, l7, l8, l9, .unset, l11, l12, l13, l14, l15, l16, l17, l18, l19, l20, l21, l22, l23, l24, l25, l26, l27, l28, l29, l30, l31, l32, l33, l34, l35, l36, l37, l38, l39, l40, l41] ((.int v) :: st) H Q = M40 62 [l0, l1, l2, l3, l4, l5, l6, l7, l8, l9, .val (.int v), l11, l12, l13, l14, l15, l16, l17, l18, l19, l20, l21, l22, l23, l24, l25, l26, l27, l28, l29, l30, l31, l32, l33, l34, l35, l36, l37, l38, l39, l40, l41] st H Q := w_st (i := 10) (p := isI) at_60 rfl rfl rfl rfl rfl rfl
theorem m40_62 : M40 62 [.val (.int v), l1, l2, l3, l4, l5, l6, l7, l8, l9, l10, l11, l12, l13, l14, l15, l16, l17, l18, l19, l20, l21, l22, l23, l24, l25, l26, l27, l28, l29, l30, l31, l32, l33, l34, l35, l36, l37, l38, l39, l40, l41] st H Q = M40 63 [.val (.int v), l1, l2, l3, l4, l5, l6, l7, l8, l9, l10, l11, l12, l13, l14, l15, l16, l17, l18, l19, l20, l21, l22, l23, l24, l25, l26, l27, l28, l29, l30, l31, l32, l33, l34, l35, l36, l37, l38, l39, l40, l41] (.int v :: st) H Q := w_x at_62 rfl
theorem m40_63 : M40 63 ls st H Q = M40 65 ls (.int 9 :: st) H Q := w_con at_63 rfl (by decide)
theorem m40_65 : M40 65 ls (.int y :: .int x :: st) H Q = M40 66 ls (.int (XT.ushr x y) :: st) H Q := w_x at_65 rfl
theorem m40_66 : M40 66 ls st H Q = M40 67 ls (.int 1 :: st) H Q := w_con at_66 rfl (by decide)
theorem m40_67 : M40 67 ls (.int y :: .int x :: st) H Q = M40 68 ls (.int (x &&& y) :: st) H Q := w_x at_67 rfl
theorem m40_68u : M40 68 [l0, l1, l2, l3, l4, l5, l6, l7, l8, l9, l10, .unset, l12, l13, l14, l15, l16, l17, l18, l19, l20, l21, l22, l23, l24, l25, l26, l27, l28, l29, l30, l31, l32, l33, l34, l35, l36, l37, l38, l39, l40, l41] ((.int v) :: st) H Q = M40 70 [l0, l1, l2, l3, l4, l5, l6, l7, l8, l9, l10, .val (.int v), l12, l13, l14, l15, l16, l17, l18, l19, l20, l21, l22, l23, l24, l25, l26, l27, l28, l29, l30, l31, l32, l33, l34, l35, l36, l37, l38, l39, l40, l41] st H Q := w_st (i := 11) (p := isI) at_68 rfl rfl rfl rfl rfl rfl
theorem m40_70 : M40 70 ls st H Q = M40 73 ls (.ref H.length :: st) (H ++ [(.object "LutMapper", D0)]) Q := (w_new (C := "LutMapper") at_70 (by rw [hNew, show rCls tables_1 y40.cls 7 = some "LutMapper" from by decide +kernel]; dsimp only; rw [if_pos (by decide +kernel)])).trans (by rw [lay0]; rfl)
theorem m40_73 : M40 73 ls ((.ref r) :: st) H Q = M40 74 ls ((.ref r) :: (.ref r) :: st) H Q := w_x at_73 rfl
theorem m40_74 : M40 74 ls st H Q = M40 76 ls (.int 16 :: st) H Q := w_con at_74 rfl (by decide)
theorem cr40_9 : nR tables_1 dn y40 9 = some (y0, prog_1_method_1_code, 3, none, 1, 114) := nR_of (cR_of (by decide +kernel) rc_0 dn_0 dn_40 (sig := ⟨[.int], none⟩) (by decide +kernel) (by decide +kernel) rfl rfl) rfl (by decide +kernel) rfl
theorem cr40_9_o : oR tables_1 dn y40 9 = none := by decide +kernel
theorem m40_76 (a0 : Int32) (u0 : Nat) : M40 76 ls [.int a0, .ref r, .ref u0] H Q = M0 0 [.val (.ref r), .val (.int a0), .unset] [] H (fun v H1 => M40 79 ls (v.toList ++ [.ref u0]) H1 Q) := w_spec (as := [.int a0]) (rest := [.ref u0]) (a := r) at_76 cr40_9_o cr40_9 rfl (Nat.le_of_ble_eq_true rfl) (by show 2 ≤ 3; omega) rfl
theorem m40_79u : M40 79 [l0, l1, l2, l3, l4, l5, l6, l7, l8, l9, l10, l11, .unset, l13, l14, l15, l16, l17, l18, l19, l20, l21, l22, l23, l24, l25, l26, l27, l28, l29, l30, l31, l32, l33, l34, l35, l36, l37, l38, l39, l40, l41] ((.ref r) :: st) H Q = M40 81 [l0, l1, l2, l3, l4, l5, l6, l7, l8, l9, l10, l11, .val (.ref r), l13, l14, l15, l16, l17, l18, l19, l20, l21, l22, l23, l24, l25, l26, l27, l28, l29, l30, l31, l32, l33, l34, l35, l36, l37, l38, l39, l40, l41] st H Q := w_st (i := 12) (p := Value.isRef) at_79 rfl rfl rfl rfl rfl rfl
theorem m40_81 : M40 81 ls st H Q = M40 82 ls (.int 1 :: st) H Q := w_con at_81 rfl (by decide)
theorem m40_82u : M40 82 [l0, l1, l2, l3, l4, l5, l6, l7, l8, l9, l10, l11, l12, .unset, l14, l15, l16, l17, l18, l19, l20, l21, l22, l23, l24, l25, l26, l27, l28, l29, l30, l31, l32, l33, l34, l35, l36, l37, l38, l39, l40, l41] ((.int v) :: st) H Q = M40 84 [l0, l1, l2, l3, l4, l5, l6, l7, l8, l9, l10, l11, l12, .val (.int v), l14, l15, l16, l17, l18, l19, l20, l21, l22, l23, l24, l25, l26, l27, l28, l29, l30, l31, l32, l33, l34, l35, l36, l37, l38, l39, l40, l41] st H Q := w_st (i := 13) (p := isI) at_82 rfl rfl rfl rfl rfl rfl
theorem m40_84 : M40 84 ls st H Q = M40 85 ls (.int 0 :: st) H Q := w_con at_84 rfl (by decide)
theorem m40_85u : M40 85 [l0, l1, l2, l3, l4, l5, l6, l7, l8, l9, l10, l11, l12, l13, .unset, l15, l16, l17, l18, l19, l20, l21, l22, l23, l24, l25, l26, l27, l28, l29, l30, l31, l32, l33, l34, l35, l36, l37, l38, l39, l40, l41] ((.int v) :: st) H Q = M40 87 [l0, l1, l2, l3, l4, l5, l6, l7, l8, l9, l10, l11, l12, l13, .val (.int v), l15, l16, l17, l18, l19, l20, l21, l22, l23, l24, l25, l26, l27, l28, l29, l30, l31, l32, l33, l34, l35, l36, l37, l38, l39, l40, l41] st H Q := w_st (i := 14) (p := isI) at_85 rfl rfl rfl rfl rfl rfl
theorem m40_87 : M40 87 [l0, l1, l2, l3, l4, l5, l6, l7, l8, l9, l10, l11, l12, l13, .val (.int v), l15, l16, l17, l18, l19, l20, l21, l22, l23, l24, l25, l26, l27, l28, l29, l30, l31, l32, l33, l34, l35, l36, l37, l38, l39, l40, l41] st H Q = M40 89 [l0, l1, l2, l3, l4, l5, l6, l7, l8, l9, l10, l11, l12, l13, .val (.int v), l15, l16, l17, l18, l19, l20, l21, l22, l23, l24, l25, l26, l27, l28, l29, l30, l31, l32, l33, l34, l35, l36, l37, l38, l39, l40, l41] (.int v :: st) H Q := w_x at_87 rfl
theorem m40_89 : M40 89 ls st H Q = M40 90 ls (.int 5 :: st) H Q := w_con at_89 rfl (by decide)
theorem m40_90 : M40 90 ls (.int y :: .int x :: st) H Q = if x < y then M40 93 ls st H Q else M40 112 ls st H Q := w_icmpN at_90 (i_ge x y) rfl
theorem m40_93 : M40 93 [l0, l1, l2, l3, l4, l5, l6, l7, l8, l9, l10, l11, .val (.ref r), l13, l14, l15, l16, l17, l18, l19, l20, l21, l22, l23, l24, l25, l26, l27, l28, l29, l30, l31, l32, l33, l34, l35, l36, l37, l38, l39, l40, l41] st H Q = M40 95 [l0, l1, l2, l3, l4, l5, l6, l7, l8, l9, l10, l11, .val (.ref r), l13, l14, l15, l16, l17, l18, l19, l20, l21, l22, l23, l24, l25, l26, l27, l28, l29, l30, l31, l32, l33, l34, l35, l36, l37, l38, l39, l40, l41] (.ref r :: st) H Q := w_x at_93 rfl
theorem cr40_12 : vR tables_1 dn y40 12 = some (false, y1, prog_1_method_3_code, 2, (some .int), 0, 127) := vR_of (cR_of (by decide +kernel) rc_1 dn_1 dn_40 (sig := ⟨[], some .int⟩) (by decide +kernel) (by decide +kernel) rfl rfl) (by decide +kernel) (by decide +kernel) (by decide +kernel)
theorem m40_95 : M40 95 ls [.ref b] (put b pre s A post) Q = M1 0 [.val (.ref b), .unset] [] (put b pre s A post) (fun v H1 => M40 98 ls (v.toList ++ []) H1 Q) := w_virt (as := []) (rest := []) (a := b) at_95 cr40_12 put_o rfl rfl (Nat.le_of_ble_eq_true rfl) (by show 1 ≤ 2; omega) rfl
theorem m40_98 : M40 98 [l0, l1, l2, l3, l4, l5, l6, l7, l8, l9, l10, l11, l12, l13, .val (.int v), l15, l16, l17, l18, l19, l20, l21, l22, l23, l24, l25, l26, l27, l28, l29, l30, l31, l32, l33, l34, l35, l36, l37, l38, l39, l40, l41] st H Q = M40 100 [l0, l1, l2, l3, l4, l5, l6, l7, l8, l9, l10, l11, l12, l13, .val (.int v), l15, l16, l17, l18, l19, l20, l21, l22, l23, l24, l25, l26, l27, l28, l29, l30, l31, l32, l33, l34, l35, l36, l37, l38, l39, l40, l41] (.int v :: st) H Q := w_x at_98 rfl
theorem m40_100 : M40 100 ls (.int y :: .int x :: st) H Q = if x = y then M40 106 ls st H Q else M40 103 ls st H Q := w_icmp at_100 (i_eq x y) rfl
theorem m40_106 : M40 106 [l0, l1, l2, l3, l4, l5, l6, l7, l8, l9, l10, l11, l12, l13, .val (.int v), l15, l16, l17, l18, l19, l20, l21, l22, l23, l24, l25, l26, l27, l28, l29, l30, l31, l32, l33, l34, l35, l36, l37, l38, l39, l40, l41] st H Q = M40 109 [l0, l1, l2, l3, l4, l5, l6, l7, l8, l9, l10, l11, l12, l13, .val (.int (v + 1)), l15, l16, l17, l18, l19, l20, l21, l22, l23, l24, l25, l26, l27, l28, l29, l30, l31, l32, l33, l34, l35, l36, l37, l38, l39, l40, l41] st H Q := w_iinc at_106 rfl (by decide) rfl
theorem m40_109 : M40 109 ls st H Q = M40 87 ls st H Q := w_x at_109 rfl
theorem m40_112 : M40 112 [l0, l1, l2, l3, l4, l5, l6, l7, l8, l9, l10, l11, .val (.ref r), l13, l14, l15, l16, l17, l18, l19, l20, l21, l22, l23, l24, l25, l26, l27, l28, l29, l30, l31, l32, l33, l34, l35, l36, l37, l38, l39, l40, l41] st H Q = M40 114 [l0, l1, l2, l3, l4, l5, l6, l7, l8, l9, l10, l11, .val (.ref r), l13, l14, l15, l16, l17, l18, l19, l20, l21, l22, l23, l24, l25, l26, l27, l28, l29, l30, l31, l32, l33, l34, l35, l36, l37, l38, l39, l40, l41] (.ref r :: st) H Q := w_x at_112 rfl
theorem m40_114 : M40 114 [l0, l1, .val (.int v), l3, l4, l5, l6, l7, l8, l9, l10, l11, l12, l13, l14, l15, l16, l17, l18, l19, l20, l21, l22, l23, l24, l25, l26, l27, l28, l29, l30, l31, l32, l33, l34, l35, l36, l37, l38, l39, l40, l41] st H Q = M40 115 [l0, l1, .val (.int v), l3, l4, l5, l6, l7, l8, l9, l10, l11, l12, l13, l14, l15, l16, l17, l18, l19, l20, l21, l22, l23, l24, l25, l26, l27, l28, l29, l30, l31, l32, l33, l34, l35, l36, l37, l38, l39, l40, l41] (.int v :: st) H Q := w_x at_114 rfl
theorem m40_115 : M40 115 ls st H Q = M40 116 ls (.int 2 :: st) H Q := w_con at_115 rfl (by decide)
theorem m40_116 : M40 116 [l0, l1, l2, .val (.int v), l4, l5, l6, l7, l8, l9, l10, l11, l12, l13, l14, l15, l16, l17, l18, l19, l20, l21, l22, l23, l24, l25, l26, l27, l28, l29, l30, l31, l32, l33, l34, l35, l36, l37, l38, l39, l40, l41] st H Q = M40 117 [l0, l1, l2, .val (.int v), l4, l5, l6, l7, l8, l9, l10, l11, l12, l13, l14, l15, l16, l17, l18, l19, l20, l21, l22, l23, l24, l25, l26, l27, l28, l29, l30, l31, l32, l33, l34, l35, l36, l37, l38, l39, l40, l41] (.int v :: st) H Q := w_x at_116 rfl
theorem m40_117 : M40 117 ls (.int y :: .int x :: st) H Q = M40 118 ls (.int (x + y) :: st) H Q := w_x at_117 rfl
theorem cr40_16 : vR tables_1 dn y40 16 = some (false, y2, prog_1_method_4_code, 4, (some .int), 2, 14) := vR_of (cR_of (by decide +kernel) rc_2 dn_2 dn_40 (sig := ⟨[.int, .int], some .int⟩) (by decide +kernel) (by decide +kernel) rfl rfl) (by decide +kernel) (by decide +kernel) (by decide +kernel)
theorem m40_118 (a0 : Int32) (a1 : Int32) : M40 118 ls [.int a1, .int a0, .ref b] (put b pre s A post) Q = M2 0 [.val (.ref b), .val (.int a0), .val (.int a1), .unset] [] (put b pre s A post) (fun v H1 => M40 121 ls (v.toList ++ []) H1 Q) := w_virt (as := [.int a1, .int a0]) (rest := []) (a := b) at_118 cr40_16 put_o rfl rfl (Nat.le_of_ble_eq_true rfl) (by show 3 ≤ 4; omega) rfl
theorem m40_121i : M40 121 [l0, l1, l2, l3, l4, l5, l6, l7, l8, l9, l10, l11, l12, l13, .val (.int z), l15, l16, l17, l18, l19, l20, l21, l22, l23, l24, l25, l26, l27, l28, l29, l30, l31, l32, l33, l34, l35, l36, l37, l38, l39, l40, l41] ((.int v) :: st) H Q = M40 123 [l0, l1, l2, l3, l4, l5, l6, l7, l8, l9, l10, l11, l12, l13, .val (.int v), l15, l16, l17, l18, l19, l20, l21, l22, l23, l24, l25, l26, l27, l28, l29, l30, l31, l32, l33, l34, l35, l36, l37, l38, l39, l40, l41] st H Q := w_st (i := 14) (p := isI) at_121 rfl rfl rfl rfl rfl rfl
theorem m40_123 : M40 123 [l0, l1, l2, l3, l4, l5, l6, l7, l8, l9, l10, l11, .val (.ref r), l13, l14, l15, l16, l17, l18, l19, l20, l21, l22, l23, l24, l25, l26, l27, l28, l29, l30, l31, l32, l33, l34, l35, l36, l37, l38, l39, l40, l41] st H Q = M40 125 [l0, l1, l2, l3, l4, l5, l6, l7, l8, l9, l10, l11, .val (.ref r), l13, l14, l15, l16, l17, l18, l19, l20, l21, l22, l23, l24, l25, l26, l27, l28, l29, l30, l31, l32, l33, l34, l35, l36, l37, l38, l39, l40, l41] (.ref r :: st) H Q := w_x at_123 rfl
theorem m40_125 : M40 125 ls st H Q = M40 126 ls (.int 4 :: st) H Q := w_con at_125 rfl (by decide)
theorem m40_126 : M40 126 [l0, l1, l2, l3, .val (.int v), l5, l6, l7, l8, l9, l10, l11, l12, l13, l14, l15, l16, l17, l18, l19, l20, l21, l22, l23, l24, l25, l26, l27, l28, l29, l30, l31, l32, l33, l34, l35, l36, l37, l38, l39, l40, l41] st H Q = M40 128 [l0, l1, l2, l3, .val (.int v), l5, l6, l7, l8, l9, l10, l11, l12, l13, l14, l15, l16, l17, l18, l19, l20, l21, l22, l23, l24, l25, l26, l27, l28, l29, l30, l31, l32, l33, l34, l35, l36, l37, l38, l39, l40, l41] (.int v :: st) H Q := w_x at_126 rfl
theorem m40_128 : M40 128 ls (.int y :: .int x :: st) H Q = M40 129 ls (.int (x + y) :: st) H Q := w_x at_128 rfl
theorem m40_129 : M40 129 ls st H Q = M40 131 ls (.int 6 :: st) H Q := w_con at_129 rfl (by decide)
theorem m40_131 : M40 131 [l0, l1, l2, l3, l4, .val (.int v), l6, l7, l8, l9, l10, l11, l12, l13, l14, l15, l16, l17, l18, l19, l20, l21, l22, l23, l24, l25, l26, l27, l28, l29, l30, l31, l32, l33, l34, l35, l36, l37, l38, l39, l40, l41] st H Q = M40 133 [l0, l1, l2, l3, l4, .val (.int v), l6, l7, l8, l9, l10, l11, l12, l13, l14, l15, l16, l17, l18, l19, l20, l21, l22, l23, l24, l25, l26, l27, l28, l29, l30, l31, l32, l33, l34, l35, l36, l37, l38, l39, l40, l41] (.int v :: st) H Q := w_x at_131 rfl
theorem m40_133 : M40 133 ls (.int y :: .int x :: st) H Q = M40 134 ls (.int (x + y) :: st) H Q := w_x at_133 rfl
theorem m40_134 (a0 : Int32) (a1 : Int32) : M40 134 ls [.int a1, .int a0, .ref b] (put b pre s A post) Q = M2 0 [.val (.ref b), .val (.int a0), .val (.int a1), .unset] [] (put b pre s A post) (fun v H1 => M40 137 ls (v.toList ++ []) H1 Q) := w_virt (as := [.int a1, .int a0]) (rest := []) (a := b) at_134 cr40_16 put_o rfl rfl (Nat.le_of_ble_eq_true rfl) (by show 3 ≤ 4; omega) rfl
theorem m40_137u : M40 137 [l0, l1, l2, l3, l4, l5, l6, l7, l8, l9, l10, l11, l12, l13, l14, .unset, l16, l17, l18, l19, l20, l21, l22, l23, l24, l25, l26, l27, l28, l29, l30, l31, l32, l33, l34, l35, l36, l37, l38, l39, l40, l41] ((.int v) :: st) H Q = M40 139 [l0, l1, l2, l3, l4, l5, l6, l7, l8, l9, l10, l11, l12, l13, l14, .val (.int v), l16, l17, l18, l19, l20, l21, l22, l23, l24, l25, l26, l27, l28, l29, l30, l31, l32, l33, l34, l35, l36, l37, l38, l39, l40, l41] st H Q := w_st (i := 15) (p := isI) at_137 rfl rfl rfl rfl rfl rfl
theorem m40_139 : M40 139 [l0, l1, l2, l3, l4, l5, l6, l7, l8, l9, l10, l11, .val (.ref r), l13, l14, l15, l16, l17, l18, l19, l20, l21, l22, l23, l24, l25, l26, l27, l28, l29, l30, l31, l32, l33, l34, l35, l36, l37, l38, l39, l40, l41] st H Q = M40 141 [l0, l1, l2, l3, l4, l5, l6, l7, l8, l9, l10, l11, .val (.ref r), l13, l14, l15, l16, l17, l18, l19, l20, l21, l22, l23, l24, l25, l26, l27, l28, l29, l30, l31, l32, l33, l34, l35, l36, l37, l38, l39, l40, l41] (.ref r :: st) H Q := w_x at_139 rfl
theorem m40_141 : M40 141 ls st H Q = M40 143 ls (.int 10 :: st) H Q := w_con at_141 rfl (by decide)
theorem m40_143 : M40 143 [l0, l1, l2, l3, l4, l5, .val (.int v), l7, l8, l9, l10, l11, l12, l13, l14, l15, l16, l17, l18, l19, l20, l21, l22, l23, l24, l25, l26, l27, l28, l29, l30, l31, l32, l33, l34, l35, l36, l37, l38, l39, l40, l41] st H Q = M40 145 [l0, l1, l2, l3, l4, l5, .val (.int v), l7, l8, l9, l10, l11, l12, l13, l14, l15, l16, l17, l18, l19, l20, l21, l22, l23, l24, l25, l26, l27, l28, l29, l30, l31, l32, l33, l34, l35, l36, l37, l38, l39, l40, l41] (.int v :: st) H Q := w_x at_143 rfl
theorem m40_145 : M40 145 ls (.int y :: .int x :: st) H Q = M40 146 ls (.int (x + y) :: st) H Q := w_x at_145 rfl
theorem m40_146 : M40 146 ls st H Q = M40 148 ls (.int 12 :: st) H Q := w_con at_146 rfl (by decide)
theorem m40_148 : M40 148 [l0, l1, l2, l3, l4, l5, l6, .val (.int v), l8, l9, l10, l11, l12, l13, l14, l15, l16, l17, l18, l19, l20, l21, l22, l23, l24, l25, l26, l27, l28, l29, l30, l31, l32, l33, l34, l35, l36, l37, l38, l39, l40, l41] st H Q = M40 150 [l0, l1, l2, l3, l4, l5, l6, .val (.int v), l8, l9, l10, l11, l12, l13, l14, l15, l16, l17, l18, l19, l20, l21, l22, l23, l24, l25, l26, l27, l28, l29, l30, l31, l32, l33, l34, l35, l36, l37, l38, l39, l40, l41] (.int v :: st) H Q := w_x at_148 rfl
theorem m40_150 : M40 150 ls (.int y :: .int x :: st) H Q = M40 151 ls (.int (x + y) :: st) H Q := w_x at_150 rfl
theorem m40_151 (a0 : Int32) (a1 : Int32) : M40 151 ls [.int a1, .int a0, .ref b] (put b pre s A post) Q = M2 0 [.val (.ref b), .val (.int a0), .val (.int a1), .unset] [] (put b pre s A post) (fun v H1 => M40 154 ls (v.toList ++ []) H1 Q) := w_virt (as := [.int a1, .int a0]) (rest := []) (a := b) at_151 cr40_16 put_o rfl rfl (Nat.le_of_ble_eq_true rfl) (by show 3 ≤ 4; omega) rfl
theorem m40_154u : M40 154 [l0, l1, l2, l3, l4, l5, l6, l7, l8, l9, l10, l11, l12, l13, l14, l15, .unset, l17, l18, l19, l20, l21, l22, l23, l24, l25, l26, l27, l28, l29, l30, l31, l32, l33, l34, l35, l36, l37, l38, l39, l40, l41] ((.int v) :: st) H Q = M40 156 [l0, l1, l2, l3, l4, l5, l6, l7, l8, l9, l10, l11, l12, l13, l14, l15, .val (.int v), l17, l18, l19, l20, l21, l22, l23, l24, l25, l26, l27, l28, l29, l30, l31, l32, l33, l34, l35, l36, l37, l38, l39, l40, l41] st H Q := w_st (i := 16) (p := isI) at_154 rfl rfl rfl rfl rfl rfl
theorem m40_156 : M40 156 [l0, l1, l2, l3, l4, l5, l6, l7, l8, l9, l10, l11, .val (.ref r), l13, l14, l15, l16, l17, l18, l19, l20, l21, l22, l23, l24, l25, l26, l27, l28, l29, l30, l31, l32, l33, l34, l35, l36, l37, l38, l39, l40, l41] st H Q = M40 158 [l0, l1, l2, l3, l4, l5, l6, l7, l8, l9, l10, l11, .val (.ref r), l13, l14, l15, l16, l17, l18, l19, l20, l21, l22, l23, l24, l25, l26, l27, l28, l29, l30, l31, l32, l33, l34, l35, l36, l37, l38, l39, l40, l41] (.ref r :: st) H Q := w_x at_156 rfl
theorem m40_158 : M40 158 ls st H Q = M40 160 ls (.int 14 :: st) H Q := w_con at_158 rfl (by decide)
theorem m40_160 : M40 160 [l0, l1, l2, l3, l4, l5, l6, l7, .val (.int v), l9, l10, l11, l12, l13, l14, l15, l16, l17, l18, l19, l20, l21, l22, l23, l24, l25, l26, l27, l28, l29, l30, l31, l32, l33, l34, l35, l36, l37, l38, l39, l40, l41] st H Q = M40 162 [l0, l1, l2, l3, l4, l5, l6, l7, .val (.int v), l9, l10, l11, l12, l13, l14, l15, l16, l17, l18, l19, l20, l21, l22, l23, l24, l25, l26, l27, l28, l29, l30, l31, l32, l33, l34, l35, l36, l37, l38, l39, l40, l41] (.int v :: st) H Q := w_x at_160 rfl
theorem m40_162 : M40 162 ls (.int y :: .int x :: st) H Q = M40 163 ls (.int (x + y) :: st) H Q := w_x at_162 rfl
theorem m40_163 : M40 163 ls st H Q = M40 165 ls (.int 8 :: st) H Q := w_con at_163 rfl (by decide)
theorem m40_165 : M40 165 [l0, l1, l2, l3, l4, l5, l6, l7, l8, .val (.int v), l10, l11, l12, l13, l14, l15, l16, l17, l18, l19, l20, l21, l22, l23, l24, l25, l26, l27, l28, l29, l30, l31, l32, l33, l34, l35, l36, l37, l38, l39, l40, l41] st H Q = M40 167 [l0, l1, l2, l3, l4, l5, l6, l7, l8, .val (.int v), l10, l11, l12, l13, l14, l15, l16, l17, l18, l19, l20, l21, l22, l23, l24, l25, l26, l27, l28, l29, l30, l31, l32, l33, l34, l35, l36, l37, l38, l39, l40, l41] (.int v :: st) H Q := w_x at_165 rfl
theorem m40_167 : M40 167 ls (.int y :: .int x :: st) H Q = M40 168 ls (.int (x + y) :: st) H Q := w_x at_167 rfl
theorem m40_168 (a0 : Int32) (a1 : Int32) : M40 168 ls [.int a1, .int a0, .ref b] (put b pre s A post) Q = M2 0 [.val (.ref b), .val (.int a0), .val (.int a1), .unset] [] (put b pre s A post) (fun v H1 => M40 171 ls (v.toList ++ []) H1 Q) := w_virt (as := [.int a1, .int a0]) (rest := []) (a := b) at_168 cr40_16 put_o rfl rfl (Nat.le_of_ble_eq_true rfl) (by show 3 ≤ 4; omega) rfl
theorem m40_171u : M40 171 [l0, l1, l2, l3, l4, l5, l6, l7, l8, l9, l10, l11, l12, l13, l14, l15, l16, .unset, l18, l19, l20, l21, l22, l23, l24, l25, l26, l27, l28, l29, l30, l31, l32, l33, l34, l35, l36, l37, l38, l39, l40, l41] ((.int v) :: st) H Q = M40 173 [l0, l1, l2, l3, l4, l5, l6, l7, l8, l9, l10, l11, l12, l13, l14, l15, l16, .val (.int v), l18, l19, l20, l21, l22, l23, l24, l25, l26, l27, l28, l29, l30, l31, l32, l33, l34, l35, l36, l37, l38, l39, l40, l41] st H Q := w_st (i := 17) (p := isI) at_171 rfl rfl rfl rfl rfl rfl
theorem m40_173 : M40 173 [l0, l1, l2, l3, l4, l5, l6, l7, l8, l9, l10, l11, .val (.ref r), l13, l14, l15, l16, l17, l18, l19, l20, l21, l22, l23, l24, l25, l26, l27, l28, l29, l30, l31, l32, l33, l34, l35, l36, l37, l38, l39, l40, l41] st H Q = M40 175 [l0, l1, l2, l3, l4, l5, l6, l7, l8, l9, l10, l11, .val (.ref r), l13, l14, l15, l16, l17, l18, l19, l20, l21, l22, l23, l24, l25, l26, l27, l28, l29, l30, l31, l32, l33, l34, l35, l36, l37, l38, l39, l40, l41] (.ref r :: st) H Q := w_x at_173 rfl
theorem m40_175 : M40 175 ls st H Q = M40 177 ls (.int 14 :: st) H Q := w_con at_175 rfl (by decide)
theorem m40_177 : M40 177 [l0, l1, l2, l3, l4, l5, l6, l7, l8, l9, .val (.int v), l11, l12, l13, l14, l15, l16, l17, l18, l19, l20, l21, l22, l23, l24, l25, l26, l27, l28, l29, l30, l31, l32, l33, l34, l35, l36, l37, l38, l39, l40, l41] st H Q = M40 179 [l0, l1, l2, l3, l4, l5, l6, l7, l8, l9, .val (.int v), l11, l12, l13, l14, l15, l16, l17, l18, l19, l20, l21, l22, l23, l24, l25, l26, l27, l28, l29, l30, l31, l32, l33, l34, l35, l36, l37, l38, l39, l40, l41] (.int v :: st) H Q := w_x at_177 rfl
theorem m40_179 : M40 179 ls (.int y :: .int x :: st) H Q = M40 180 ls (.int (x + y) :: st) H Q := w_x at_179 rfl
theorem cr40_20 : vR tables_1 dn y40 20 = some (false, y18, prog_1_method_5_code, 3, (some .int), 1, 113) := vR_of (cR_of (by decide +kernel) rc_18 dn_18 dn_40 (sig := ⟨[.int], some .int⟩) (by decide +kernel) (by decide +kernel) rfl rfl) (by decide +kernel) (by decide +kernel) (by decide +kernel)
theorem m40_180 (a0 : Int32) : M40 180 ls [.int a0, .ref b] (put b pre s A post) Q = M18 0 [.val (.ref b), .val (.int a0), .unset] [] (put b pre s A post) (fun v H1 => M40 183 ls (v.toList ++ []) H1 Q) := w_virt (as := [.int a0]) (rest := []) (a := b) at_180 cr40_20 put_o rfl rfl (Nat.le_of_ble_eq_true rfl) (by show 2 ≤ 3; omega) rfl
theorem m40_183u : M40 183 [l0, l1, l2, l3, l4, l5, l6, l7, l8, l9, l10, l11, l12, l13, l14, l15, l16, l17, .unset, l19, l20, l21, l22, l23, l24, l25, l26, l27, l28, l29, l30, l31, l32, l33, l34, l35, l36, l37, l38, l39, l40, l41] ((.int v) :: st) H Q = M40 185 [l0, l1, l2, l3, l4, l5, l6, l7, l8, l9, l10, l11, l12, l13, l14, l15, l16, l17, .val (.int v), l19, l20, l21, l22, l23, l24, l25, l26, l27, l28, l29, l30, l31, l32, l33, l34, l35, l36, l37, l38, l39, l40, l41] st H Q := w_st (i := 18) (p := isI) at_183 rfl rfl rfl rfl rfl rfl
theorem m40_185 : M40 185 [l0, l1, l2, l3, l4, l5, l6, l7, l8, l9, l10, l11, .val (.ref r), l13, l14, l15, l16, l17, l18, l19, l20, l21, l22, l23, l24, l25, l26, l27, l28, l29, l30, l31, l32, l33, l34, l35, l36, l37, l38, l39, l40, l41] st H Q = M40 187 [l0, l1, l2, l3, l4, l5, l6, l7, l8, l9, l10, l11, .val (.ref r), l13, l14, l15, l16, l17, l18, l19, l20, l21, l22, l23, l24, l25, l26, l27, l28, l29, l30, l31, l32, l33, l34, l35, l36, l37, l38, l39, l40, l41] (.ref r :: st) H Q := w_x at_185 rfl
theorem m40_187 : M40 187 ls st H Q = M40 189 ls (.int 16 :: st) H Q := w_con at_187 rfl (by decide)
theorem m40_189 : M40 189 [l0, l1, l2, l3, l4, l5, l6, l7, l8, l9, l10, .val (.int v), l12, l13, l14, l15, l16, l17, l18, l19, l20, l21, l22, l23, l24, l25, l26, l27, l28, l29, l30, l31, l32, l33, l34, l35, l36, l37, l38, l39, l40, l41] st H Q = M40 191 [l0, l1, l2, l3, l4, l5, l6, l7, l8, l9, l10, .val (.int v), l12, l13, l14, l15, l16, l17, l18, l19, l20, l21, l22, l23, l24, l25, l26, l27, l28, l29, l30, l31, l32, l33, l34, l35, l36, l37, l38, l39, l40, l41] (.int v :: st) H Q := w_x at_189 rfl
theorem m40_191 : M40 191 ls (.int y :: .int x :: st) H Q = M40 192 ls (.int (x + y) :: st) H Q := w_x at_191 rfl
theorem m40_192 (a0 : Int32) : M40 192 ls [.int a0, .ref b] (put b pre s A post) Q = M18 0 [.val (.ref b), .val (.int a0), .unset] [] (put b pre s A post) (fun v H1 => M40 195 ls (v.toList ++ []) H1 Q) := w_virt (as := [.int a0]) (rest := []) (a := b) at_192 cr40_20 put_o rfl rfl (Nat.le_of_ble_eq_true rfl) (by show 2 ≤ 3; omega) rfl
theorem m40_195u : M40 195 [l0, l1, l2, l3, l4, l5, l6, l7, l8, l9, l10, l11, l12, l13, l14, l15, l16, l17, l18, .unset, l20, l21, l22, l23, l24, l25, l26, l27, l28, l29, l30, l31, l32, l33, l34, l35, l36, l37, l38, l39, l40, l41] ((.int v) :: st) H Q = M40 197 [l0, l1, l2, l3, l4, l5, l6, l7, l8, l9, l10, l11, l12, l13, l14, l15, l16, l17, l18, .val (.int v), l20, l21, l22, l23, l24, l25, l26, l27, l28, l29, l30, l31, l32, l33, l34, l35, l36, l37, l38, l39, l40, l41] st H Q := w_st (i := 19) (p := isI) at_195 rfl rfl rfl rfl rfl rfl
theorem m40_197 : M40 197 [l0, l1, l2, l3, l4, l5, l6, l7, l8, l9, l10, l11, l12, .val (.int v), l14, l15, l16, l17, l18, l19, l20, l21, l22, l23, l24, l25, l26, l27, l28, l29, l30, l31, l32, l33, l34, l35, l36, l37, l38, l39, l40, l41] st H Q = M40 199 [l0, l1, l2, l3, l4, l5, l6, l7, l8, l9, l10, l11, l12, .val (.int v), l14, l15, l16, l17, l18, l19, l20, l21, l22, l23, l24, l25, l26, l27, l28, l29, l30, l31, l32, l33, l34, l35, l36, l37, l38, l39, l40, l41] (.int v :: st) H Q := w_x at_197 rfl
theorem m40_199 : M40 199 ls (.int x :: st) H Q = if x = 0 then M40 244 ls st H Q else M40 202 ls st H Q := w_if at_199 (z_eq x) rfl
theorem m40_202 : M40 202 [l0, l1, l2, l3, l4, l5, l6, l7, l8, l9, l10, l11, l12, l13, .val (.int v), l15, l16, l17, l18, l19, l20, l21, l22, l23, l24, l25, l26, l27, l28, l29, l30, l31, l32, l33, l34, l35, l36, l37, l38, l39, l40, l41] st H Q = M40 204 [l0, l1, l2, l3, l4, l5, l6, l7, l8, l9, l10, l11, l12, l13, .val (.int v), l15, l16, l17, l18, l19, l20, l21, l22, l23, l24, l25, l26, l27, l28, l29, l30, l31, l32, l33, l34, l35, l36, l37, l38, l39, l40, l41] (.int v :: st) H Q := w_x at_202 rfl
theorem m40_204 : M40 204 ls st H Q = M40 205 ls (.int 5 :: st) H Q := w_con at_204 rfl (by decide)
theorem m40_205 : M40 205 ls (.int y :: .int x :: st) H Q = if x = y then M40 208 ls st H Q else M40 244 ls st H Q := w_icmpN at_205 (i_ne x y) rfl
theorem m40_208 : M40 208 [l0, l1, l2, l3, l4, l5, l6, l7, l8, l9, l10, l11, l12, l13, l14, .val (.int v), l16, l17, l18, l19, l20, l21, l22, l23, l24, l25, l26, l27, l28, l29, l30, l31, l32, l33, l34, l35, l36, l37, l38, l39, l40, l41] st H Q = M40 210 [l0, l1, l2, l3, l4, l5, l6, l7, l8, l9, l10, l11, l12, l13, l14, .val (.int v), l16, l17, l18, l19, l20, l21, l22, l23, l24, l25, l26, l27, l28, l29, l30, l31, l32, l33, l34, l35, l36, l37, l38, l39, l40, l41] (.int v :: st) H Q := w_x at_208 rfl
theorem m40_210 : M40 210 ls st H Q = M40 212 ls (.int 6 :: st) H Q := w_con at_210 rfl (by decide)
theorem m40_212 : M40 212 ls (.int y :: .int x :: st) H Q = if x = y then M40 215 ls st H Q else M40 244 ls st H Q := w_icmpN at_212 (i_ne x y) rfl
theorem m40_215 : M40 215 [l0, l1, l2, l3, l4, l5, l6, l7, l8, l9, l10, l11, l12, l13, l14, l15, .val (.int v), l17, l18, l19, l20, l21, l22, l23, l24, l25, l26, l27, l28, l29, l30, l31, l32, l33, l34, l35, l36, l37, l38, l39, l40, l41] st H Q = M40 217 [l0, l1, l2, l3, l4, l5, l6, l7, l8, l9, l10, l11, l12, l13, l14, l15, .val (.int v), l17, l18, l19, l20, l21, l22, l23, l24, l25, l26, l27, l28, l29, l30, l31, l32, l33, l34, l35, l36, l37, l38, l39, l40, l41] (.int v :: st) H Q := w_x at_215 rfl
theorem m40_217 : M40 217 ls st H Q = M40 219 ls (.int 7 :: st) H Q := w_con at_217 rfl (by decide)
theorem m40_219 : M40 219 ls (.int y :: .int x :: st) H Q = if x = y then M40 222 ls st H Q else M40 244 ls st H Q := w_icmpN at_219 (i_ne x y) rfl
theorem m40_222 : M40 222 [l0, l1, l2, l3, l4, l5, l6, l7, l8, l9, l10, l11, l12, l13, l14, l15, l16, .val (.int v), l18, l19, l20, l21, l22, l23, l24, l25, l26, l27, l28, l29, l30, l31, l32, l33, l34, l35, l36, l37, l38, l39, l40, l41] st H Q = M40 224 [l0, l1, l2, l3, l4, l5, l6, l7, l8, l9, l10, l11, l12, l13, l14, l15, l16, .val (.int v), l18, l19, l20, l21, l22, l23, l24, l25, l26, l27, l28, l29, l30, l31, l32, l33, l34, l35, l36, l37, l38, l39, l40, l41] (.int v :: st) H Q := w_x at_222 rfl
theorem m40_224 : M40 224 ls st H Q = M40 226 ls (.int 8 :: st) H Q := w_con at_224 rfl (by decide)
theorem m40_226 : M40 226 ls (.int y :: .int x :: st) H Q = if x = y then M40 229 ls st H Q else M40 244 ls st H Q := w_icmpN at_226 (i_ne x y) rfl
theorem m40_229 : M40 229 [l0, l1, l2, l3, l4, l5, l6, l7, l8, l9, l10, l11, l12, l13, l14, l15, l16, l17, .val (.int v), l19, l20, l21, l22, l23, l24, l25, l26, l27, l28, l29, l30, l31, l32, l33, l34, l35, l36, l37, l38, l39, l40, l41] st H Q = M40 231 [l0, l1, l2, l3, l4, l5, l6, l7, l8, l9, l10, l11, l12, l13, l14, l15, l16, l17, .val (.int v), l19, l20, l21, l22, l23, l24, l25, l26, l27, l28, l29, l30, l31, l32, l33, l34, l35, l36, l37, l38, l39, l40, l41] (.int v :: st) H Q := w_x at_229 rfl
theorem m40_231 : M40 231 ls (.int x :: st) H Q = if x = 0 then M40 234 ls st H Q else M40 244 ls st H Q := w_ifN at_231 (z_ne x) rfl
theorem m40_234 : M40 234 [l0, l1, l2, l3, l4, l5, l6, l7, l8, l9, l10, l11, l12, l13, l14, l15, l16, l17, l18, .val (.int v), l20, l21, l22, l23, l24, l25, l26, l27, l28, l29, l30, l31, l32, l33, l34, l35, l36, l37, l38, l39, l40, l41] st H Q = M40 236 [l0, l1, l2, l3, l4, l5, l6, l7, l8, l9, l10, l11, l12, l13, l14, l15, l16, l17, l18, .val (.int v), l20, l21, l22, l23, l24, l25, l26, l27, l28, l29, l30, l31, l32, l33, l34, l35, l36, l37, l38, l39, l40, l41] (.int v :: st) H Q := w_x at_234 rfl
theorem m40_236 : M40 236 ls st H Q = M40 237 ls (.int 1 :: st) H Q := w_con at_236 rfl (by decide)
theorem m40_237 : M40 237 ls (.int y :: .int x :: st) H Q = if x = y then M40 240 ls st H Q else M40 244 ls st H Q := w_icmpN at_237 (i_ne x y) rfl
theorem m40_240 : M40 240 ls st H Q = M40 241 ls (.int 1 :: st) H Q := w_con at_240 rfl (by decide)
theorem m40_241 : M40 241 ls st H Q = M40 245 ls st H Q := w_x at_241 rfl
theorem m40_245i : M40 245 [l0, l1, l2, l3, l4, l5, l6, l7, l8, l9, l10, l11, l12, .val (.int z), l14, l15, l16, l17, l18, l19, l20, l21, l22, l23, l24, l25, l26, l27, l28, l29, l30, l31, l32, l33, l34, l35, l36, l37, l38, l39, l40, l41] ((.int v) :: st) H Q = M40 247 [l0, l1, l2, l3, l4, l5, l6, l7, l8, l9, l10, l11, l12, .val (.int v), l14, l15, l16, l17, l18, l19, l20, l21, l22, l23, l24, l25, l26, l27, l28, l29, l30, l31, l32, l33, l34, l35, l36, l37, l38, l39, l40, l41] st H Q := w_st (i := 13) (p := isI) at_245 rfl rfl rfl rfl rfl rfl
theorem m40_247 : M40 247 [l0, l1, l2, l3, l4, l5, l6, l7, l8, l9, l10, l11, .val (.ref r), l13, l14, l15, l16, l17, l18, l19, l20, l21, l22, l23, l24, l25, l26, l27, l28, l29, l30, l31, l32, l33, l34, l35, l36, l37, l38, l39, l40, l41] st H Q = M40 249 [l0, l1, l2, l3, l4, l5, l6, l7, l8, l9, l10, l11, .val (.ref r), l13, l14, l15, l16, l17, l18, l19, l20, l21, l22, l23, l24, l25, l26, l27, l28, l29, l30, l31, l32, l33, l34, l35, l36, l37, l38, l39, l40, l41] (.ref r :: st) H Q := w_x at_247 rfl
theorem m40_249 : M40 249 ls st H Q = M40 250 ls (.int 5 :: st) H Q := w_con at_249 rfl (by decide)
theorem cr40_24 : vR tables_1 dn y40 24 = some (false, y19, prog_1_method_12_code, 2, (some .int), 1, 127) := vR_of (cR_of (by decide +kernel) rc_19 dn_19 dn_40 (sig := ⟨[.int], some .int⟩) (by decide +kernel) (by decide +kernel) rfl rfl) (by decide +kernel) (by decide +kernel) (by decide +kernel)
theorem m40_250 (a0 : Int32) : M40 250 ls [.int a0, .ref b] (put b pre s A post) Q = M19 0 [.val (.ref b), .val (.int a0)] [] (put b pre s A post) (fun v H1 => M40 253 ls (v.toList ++ []) H1 Q) := w_virt (as := [.int a0]) (rest := []) (a := b) at_250 cr40_24 put_o rfl rfl (Nat.le_of_ble_eq_true rfl) (by show 2 ≤ 2; omega) rfl
theorem m40_253u : M40 253 [l0, l1, l2, l3, l4, l5, l6, l7, l8, l9, l10, l11, l12, l13, l14, l15, l16, l17, l18, l19, .unset, l21, l22, l23, l24, l25, l26, l27, l28, l29, l30, l31, l32, l33, l34, l35, l36, l37, l38, l39, l40, l41] ((.int v) :: st) H Q = M40 255 [l0, l1, l2, l3, l4, l5, l6, l7, l8, l9, l10, l11, l12, l13, l14, l15, l16, l17, l18, l19, .val (.int v), l21, l22, l23, l24, l25, l26, l27, l28, l29, l30, l31, l32, l33, l34, l35, l36, l37, l38, l39, l40, l41] st H Q := w_st (i := 20) (p := isI) at_253 rfl rfl rfl rfl rfl rfl
theorem m40_255 : M40 255 [l0, l1, l2, l3, l4, l5, l6, l7, l8, l9, l10, l11, .val (.ref r), l13, l14, l15, l16, l17, l18, l19, l20, l21, l22, l23, l24, l25, l26, l27, l28, l29, l30, l31, l32, l33, l34, l35, l36, l37, l38, l39, l40, l41] st H Q = M40 257 [l0, l1, l2, l3, l4, l5, l6, l7, l8, l9, l10, l11, .val (.ref r), l13, l14, l15, l16, l17, l18, l19, l20, l21, l22, l23, l24, l25, l26, l27, l28, l29, l30, l31, l32, l33, l34, l35, l36, l37, l38, l39, l40, l41] (.ref r :: st) H Q := w_x at_255 rfl
theorem m40_257 : M40 257 ls st H Q = M40 259 ls (.int 6 :: st) H Q := w_con at_257 rfl (by decide)
theorem m40_259 (a0 : Int32) : M40 259 ls [.int a0, .ref b] (put b pre s A post) Q = M19 0 [.val (.ref b), .val (.int a0)] [] (put b pre s A post) (fun v H1 => M40 262 ls (v.toList ++ []) H1 Q) := w_virt (as := [.int a0]) (rest := []) (a := b) at_259 cr40_24 put_o rfl rfl (Nat.le_of_ble_eq_true rfl) (by show 2 ≤ 2; omega) rfl
theorem m40_262u : M40 262 [l0, l1, l2, l3, l4, l5, l6, l7, l8, l9, l10, l11, l12, l13, l14, l15, l16, l17, l18, l19, l20, .unset, l22, l23, l24, l25, l26, l27, l28, l29, l30, l31, l32, l33, l34, l35, l36, l37, l38, l39, l40, l41] ((.int v) :: st) H Q = M40 264 [l0, l1, l2, l3, l4, l5, l6, l7, l8, l9, l10, l11, l12, l13, l14, l15, l16, l17, l18, l19, l20, .val (.int v), l22, l23, l24, l25, l26, l27, l28, l29, l30, l31, l32, l33, l34, l35, l36, l37, l38, l39, l40, l41] st H Q := w_st (i := 21) (p := isI) at_262 rfl rfl rfl rfl rfl rfl
theorem m40_264 : M40 264 [l0, l1, l2, l3, l4, l5, l6, l7, l8, l9, l10, l11, .val (.ref r), l13, l14, l15, l16, l17, l18, l19, l20, l21, l22, l23, l24, l25, l26, l27, l28, l29, l30, l31, l32, l33, l34, l35, l36, l37, l38, l39, l40, l41] st H Q = M40 266 [l0, l1, l2, l3, l4, l5, l6, l7, l8, l9, l10, l11, .val (.ref r), l13, l14, l15, l16, l17, l18, l19, l20, l21, l22, l23, l24, l25, l26, l27, l28, l29, l30, l31, l32, l33, l34, l35, l36, l37, l38, l39, l40, l41] (.ref r :: st) H Q := w_x at_264 rfl
theorem m40_266 : M40 266 ls st H Q = M40 268 ls (.int 7 :: st) H Q := w_con at_266 rfl (by decide)
theorem m40_268 (a0 : Int32) : M40 268 ls [.int a0, .ref b] (put b pre s A post) Q = M19 0 [.val (.ref b), .val (.int a0)] [] (put b pre s A post) (fun v H1 => M40 271 ls (v.toList ++ []) H1 Q) := w_virt (as := [.int a0]) (rest := []) (a := b) at_268 cr40_24 put_o rfl rfl (Nat.le_of_ble_eq_true rfl) (by show 2 ≤ 2; omega) rfl
theorem m40_271u : M40 271 [l0, l1, l2, l3, l4, l5, l6, l7, l8, l9, l10, l11, l12, l13, l14, l15, l16, l17, l18, l19, l20, l21, .unset, l23, l24, l25, l26, l27, l28, l29, l30, l31, l32, l33, l34, l35, l36, l37, l38, l39, l40, l41] ((.int v) :: st) H Q = M40 273 [l0, l1, l2, l3, l4, l5, l6, l7, l8, l9, l10, l11, l12, l13, l14, l15, l16, l17, l18, l19, l20, l21, .val (.int v), l23, l24, l25, l26, l27, l28, l29, l30, l31, l32, l33, l34, l35, l36, l37, l38, l39, l40, l41] st H Q := w_st (i := 22) (p := isI) at_271 rfl rfl rfl rfl rfl rfl
theorem m40_273 : M40 273 [l0, l1, l2, l3, l4, l5, l6, l7, l8, l9, l10, l11, .val (.ref r), l13, l14, l15, l16, l17, l18, l19, l20, l21, l22, l23, l24, l25, l26, l27, l28, l29, l30, l31, l32, l33, l34, l35, l36, l37, l38, l39, l40, l41] st H Q = M40 275 [l0, l1, l2, l3, l4, l5, l6, l7, l8, l9, l10, l11, .val (.ref r), l13, l14, l15, l16, l17, l18, l19, l20, l21, l22, l23, l24, l25, l26, l27, l28, l29, l30, l31, l32, l33, l34, l35, l36, l37, l38, l39, l40, l41] (.ref r :: st) H Q := w_x at_273 rfl
theorem m40_275 : M40 275 ls st H Q = M40 277 ls (.int 8 :: st) H Q := w_con at_275 rfl (by decide)
theorem m40_277 (a0 : Int32) : M40 277 ls [.int a0, .ref b] (put b pre s A post) Q = M19 0 [.val (.ref b), .val (.int a0)] [] (put b pre s A post) (fun v H1 => M40 280 ls (v.toList ++ []) H1 Q) := w_virt (as := [.int a0]) (rest := []) (a := b) at_277 cr40_24 put_o rfl rfl (Nat.le_of_ble_eq_true rfl) (by show 2 ≤ 2; omega) rfl
theorem m40_280u : M40 280 [l0, l1, l2, l3, l4, l5, l6, l7, l8, l9, l10, l11, l12, l13, l14, l15, l16, l17, l18, l19, l20, l21, l22, .unset, l24, l25, l26, l27, l28, l29, l30, l31, l32, l33, l34, l35, l36, l37, l38, l39, l40, l41] ((.int v) :: st) H Q = M40 282 [l0, l1, l2, l3, l4, l5, l6, l7, l8, l9, l10, l11, l12, l13, l14, l15, l16, l17, l18, l19, l20, l21, l22, .val (.int v), l24, l25, l26, l27, l28, l29, l30, l31, l32, l33, l34, l35, l36, l37, l38, l39, l40, l41] st H Q := w_st (i := 23) (p := isI) at_280 rfl rfl rfl rfl rfl rfl
theorem m40_282 : M40 282 [l0, l1, l2, l3, l4, l5, l6, l7, l8, l9, l10, l11, .val (.ref r), l13, l14, l15, l16, l17, l18, l19, l20, l21, l22, l23, l24, l25, l26, l27, l28, l29, l30, l31, l32, l33, l34, l35, l36, l37, l38, l39, l40, l41] st H Q = M40 284 [l0, l1, l2, l3, l4, l5, l6, l7, l8, l9, l10, l11, .val (.ref r), l13, l14, l15, l16, l17, l18, l19, l20, l21, l22, l23, l24, l25, l26, l27, l28, l29, l30, l31, l32, l33, l34, l35, l36, l37, l38, l39, l40, l41] (.ref r :: st) H Q := w_x at_282 rfl
theorem cr40_27 : vR tables_1 dn y40 27 = some (false, y20, prog_1_method_14_code, 4, (some .int), 0, 0) := vR_of (cR_of (by decide +kernel) rc_20 dn_20 dn_40 (sig := ⟨[], some .int⟩) (by decide +kernel) (by decide +kernel) rfl rfl) (by decide +kernel) (by decide +kernel) (by decide +kernel)
theorem m40_284 : M40 284 ls [.ref b] (put b pre s A post) Q = M20 0 [.val (.ref b), .unset, .unset, .unset] [] (put b pre s A post) (fun v H1 => M40 287 ls (v.toList ++ []) H1 Q) := w_virt (as := []) (rest := []) (a := b) at_284 cr40_27 put_o rfl rfl (Nat.le_of_ble_eq_true rfl) (by show 1 ≤ 4; omega) rfl
theorem m40_287u : M40 287 [l0, l1, l2, l3, l4, l5, l6, l7, l8, l9, l10, l11, l12, l13, l14, l15, l16, l17, l18, l19, l20, l21, l22, l23, .unset, l25, l26, l27, l28, l29, l30, l31, l32, l33, l34, l35, l36, l37, l38, l39, l40, l41] ((.int v) :: st) H Q = M40 289 [l0, l1, l2, l3, l4, l5, l6, l7, l8, l9, l10, l11, l12, l13, l14, l15, l16, l17, l18, l19, l20, l21, l22, l23, .val (.int v), l25, l26, l27, l28, l29, l30, l31, l32, l33, l34, l35, l36, l37, l38, l39, l40, l41] st H Q := w_st (i := 24) (p := isI) at_287 rfl rfl rfl rfl rfl rfl
theorem m40_289 : M40 289 [l0, l1, l2, l3, l4, l5, l6, l7, l8, l9, l10, l11, .val (.ref r), l13, l14, l15, l16, l17, l18, l19, l20, l21, l22, l23, l24, l25, l26, l27, l28, l29, l30, l31, l32, l33, l34, l35, l36, l37, l38, l39, l40, l41] st H Q = M40 291 [l0, l1, l2, l3, l4, l5, l6, l7, l8, l9, l10, l11, .val (.ref r), l13, l14, l15, l16, l17, l18, l19, l20, l21, l22, l23, l24, l25, l26, l27, l28, l29, l30, l31, l32, l33, l34, l35, l36, l37, l38, l39, l40, l41] (.ref r :: st) H Q := w_x at_289 rfl
theorem cr40_30 : vR tables_1 dn y40 30 = some (false, y33, prog_1_method_15_code, 1, (some .int), 0, 128) := vR_of (cR_of (by decide +kernel) rc_33 dn_33 dn_40 (sig := ⟨[], some .int⟩) (by decide +kernel) (by decide +kernel) rfl rfl) (by decide +kernel) (by decide +kernel) (by decide +kernel)
theorem m40_291 : M40 291 ls [.ref b] (put b pre s A post) Q = M33 0 [.val (.ref b)] [] (put b pre s A post) (fun v H1 => M40 294 ls (v.toList ++ []) H1 Q) := w_virt (as := []) (rest := []) (a := b) at_291 cr40_30 put_o rfl rfl (Nat.le_of_ble_eq_true rfl) (by show 1 ≤ 1; omega) rfl
theorem m40_294u : M40 294 [l0, l1, l2, l3, l4, l5, l6, l7, l8, l9, l10, l11, l12, l13, l14, l15, l16, l17, l18, l19, l20, l21, l22, l23, l24, .unset, l26, l27, l28, l29, l30, l31, l32, l33, l34, l35, l36, l37, l38, l39, l40, l41] ((.int v) :: st) H Q = M40 296 [l0, l1, l2, l3, l4, l5, l6, l7, l8, l9, l10, l11, l12, l13, l14, l15, l16, l17, l18, l19, l20, l21, l22, l23, l24, .val (.int v), l26, l27, l28, l29, l30, l31, l32, l33, l34, l35, l36, l37, l38, l39, l40, l41] st H Q := w_st (i := 25) (p := isI) at_294 rfl rfl rfl rfl rfl rfl
theorem m40_296 : M40 296 [l0, l1, l2, l3, l4, l5, l6, l7, l8, l9, l10, l11, .val (.ref r), l13, l14, l15, l16, l17, l18, l19, l20, l21, l22, l23, l24, l25, l26, l27, l28, l29, l30, l31, l32, l33, l34, l35, l36, l37, l38, l39, l40, l41] st H Q = M40 298 [l0, l1, l2, l3, l4, l5, l6, l7, l8, l9, l10, l11, .val (.ref r), l13, l14, l15, l16, l17, l18, l19, l20, l21, l22, l23, l24, l25, l26, l27, l28, l29, l30, l31, l32, l33, l34, l35, l36, l37, l38, l39, l40, l41] (.ref r :: st) H Q := w_x at_296 rfl
theorem m40_298 : M40 298 ls st H Q = M40 300 ls (.int 7 :: st) H Q := w_con at_298 rfl (by decide)
theorem m40_300 : M40 300 ls st H Q = M40 302 ls (.int 15 :: st) H Q := w_con at_300 rfl (by decide)
theorem cr40_33 : vR tables_1 dn y40 33 = some (false, y34, prog_1_method_13_code, 3, (some .int), 2, 79) := vR_of (cR_of (by decide +kernel) rc_34 dn_34 dn_40 (sig := ⟨[.int, .int], some .int⟩) (by decide +kernel) (by decide +kernel) rfl rfl) (by decide +kernel) (by decide +kernel) (by decide +kernel)
theorem m40_302 (a0 : Int32) (a1 : Int32) : M40 302 ls [.int a1, .int a0, .ref b] (put b pre s A post) Q = M34 0 [.val (.ref b), .val (.int a0), .val (.int a1)] [] (put b pre s A post) (fun v H1 => M40 305 ls (v.toList ++ []) H1 Q) := w_virt (as := [.int a1, .int a0]) (rest := []) (a := b) at_302 cr40_33 put_o rfl rfl (Nat.le_of_ble_eq_true rfl) (by show 3 ≤ 3; omega) rfl
theorem m40_305u : M40 305 [l0, l1, l2, l3, l4, l5, l6, l7, l8, l9, l10, l11, l12, l13, l14, l15, l16, l17, l18, l19, l20, l21, l22, l23, l24, l25, .unset, l27, l28, l29, l30, l31, l32, l33, l34, l35, l36, l37, l38, l39, l40, l41] ((.int v) :: st) H Q = M40 307 [l0, l1, l2, l3, l4, l5, l6, l7, l8, l9, l10, l11, l12, l13, l14, l15, l16, l17, l18, l19, l20, l21, l22, l23, l24, l25, .val (.int v), l27, l28, l29, l30, l31, l32, l33, l34, l35, l36, l37, l38, l39, l40, l41] st H Q := w_st (i := 26) (p := isI) at_305 rfl rfl rfl rfl rfl rfl
theorem m40_307 : M40 307 [l0, l1, l2, l3, l4, l5, l6, l7, l8, l9, l10, l11, .val (.ref r), l13, l14, l15, l16, l17, l18, l19, l20, l21, l22, l23, l24, l25, l26, l27, l28, l29, l30, l31, l32, l33, l34, l35, l36, l37, l38, l39, l40, l41] st H Q = M40 309 [l0, l1, l2, l3, l4, l5, l6, l7, l8, l9, l10, l11, .val (.ref r), l13, l14, l15, l16, l17, l18, l19, l20, l21, l22, l23, l24, l25, l26, l27, l28, l29, l30, l31, l32, l33, l34, l35, l36, l37, l38, l39, l40, l41] (.ref r :: st) H Q := w_x at_307 rfl
theorem m40_309 : M40 309 ls st H Q = M40 311 ls (.int 8 :: st) H Q := w_con at_309 rfl (by decide)
theorem m40_311 : M40 311 ls st H Q = M40 314 ls (.int 144 :: st) H Q := w_con at_311 rfl (by decide)
theorem m40_314 (a0 : Int32) (a1 : Int32) : M40 314 ls [.int a1, .int a0, .ref b] (put b pre s A post) Q = M34 0 [.val (.ref b), .val (.int a0), .val (.int a1)] [] (put b pre s A post) (fun v H1 => M40 317 ls (v.toList ++ []) H1 Q) := w_virt (as := [.int a1, .int a0]) (rest := []) (a := b) at_314 cr40_33 put_o rfl rfl (Nat.le_of_ble_eq_true rfl) (by show 3 ≤ 3; omega) rfl
theorem m40_317u : M40 317 [l0, l1, l2, l3, l4, l5, l6, l7, l8, l9, l10, l11, l12, l13, l14, l15, l16, l17, l18, l19, l20, l21, l22, l23, l24, l25, l26, .unset, l28, l29, l30, l31, l32, l33, l34, l35, l36, l37, l38, l39, l40, l41] ((.int v) :: st) H Q = M40 319 [l0, l1, l2, l3, l4, l5, l6, l7, l8, l9, l10, l11, l12, l13, l14, l15, l16, l17, l18, l19, l20, l21, l22, l23, l24, l25, l26, .val (.int v), l28, l29, l30, l31, l32, l33, l34, l35, l36, l37, l38, l39, l40, l41] st H Q := w_st (i := 27) (p := isI) at_317 rfl rfl rfl rfl rfl rfl
theorem m40_319 : M40 319 [l0, l1, l2, l3, l4, l5, l6, l7, l8, l9, l10, l11, .val (.ref r), l13, l14, l15, l16, l17, l18, l19, l20, l21, l22, l23, l24, l25, l26, l27, l28, l29, l30, l31, l32, l33, l34, l35, l36, l37, l38, l39, l40, l41] st H Q = M40 321 [l0, l1, l2, l3, l4, l5, l6, l7, l8, l9, l10, l11, .val (.ref r), l13, l14, l15, l16, l17, l18, l19, l20, l21, l22, l23, l24, l25, l26, l27, l28, l29, l30, l31, l32, l33, l34, l35, l36, l37, l38, l39, l40, l41] (.ref r :: st) H Q := w_x at_319 rfl
theorem m40_321 : M40 321 [l0, .val (.int v), l2, l3, l4, l5, l6, l7, l8, l9, l10, l11, l12, l13, l14, l15, l16, l17, l18, l19, l20, l21, l22, l23, l24, l25, l26, l27, l28, l29, l30, l31, l32, l33, l34, l35, l36, l37, l38, l39, l40, l41] st H Q = M40 322 [l0, .val (.int v), l2, l3, l4, l5, l6, l7, l8, l9, l10, l11, l12, l13, l14, l15, l16, l17, l18, l19, l20, l21, l22, l23, l24, l25, l26, l27, l28, l29, l30, l31, l32, l33, l34, l35, l36, l37, l38, l39, l40, l41] (.int v :: st) H Q := w_x at_321 rfl
theorem cr40_36 : vR tables_1 dn y40 36 = some (false, y35, prog_1_method_16_code, 5, (some .int), 1, 94) := vR_of (cR_of (by decide +kernel) rc_35 dn_35 dn_40 (sig := ⟨[.int], some .int⟩) (by decide +kernel) (by decide +kernel) rfl rfl) (by decide +kernel) (by decide +kernel) (by decide +kernel)
theorem m40_322 (a0 : Int32) : M40 322 ls [.int a0, .ref b] (put b pre s A post) Q = M35 0 [.val (.ref b), .val (.int a0), .unset, .unset, .unset] [] (put b pre s A post) (fun v H1 => M40 325 ls (v.toList ++ []) H1 Q) := w_virt (as := [.int a0]) (rest := []) (a := b) at_322 cr40_36 put_o rfl rfl (Nat.le_of_ble_eq_true rfl) (by show 2 ≤ 5; omega) rfl
theorem m40_325u : M40 325 [l0, l1, l2, l3, l4, l5, l6, l7, l8, l9, l10, l11, l12, l13, l14, l15, l16, l17, l18, l19, l20, l21, l22, l23, l24, l25, l26, l27, .unset, l29, l30, l31, l32, l33, l34, l35, l36, l37, l38, l39, l40, l41] ((.int v) :: st) H Q = M40 327 [l0, l1, l2, l3, l4, l5, l6, l7, l8, l9, l10, l11, l12, l13, l14, l15, l16, l17, l18, l19, l20, l21, l22, l23, l24, l25, l26, l27, .val (.int v), l29, l30, l31, l32, l33, l34, l35, l36, l37, l38, l39, l40, l41] st H Q := w_st (i := 28) (p := isI) at_325 rfl rfl rfl rfl rfl rfl
theorem m40_327 : M40 327 [l0, l1, l2, l3, l4, l5, l6, l7, l8, l9, l10, l11, .val (.ref r), l13, l14, l15, l16, l17, l18, l19, l20, l21, l22, l23, l24, l25, l26, l27, l28, l29, l30, l31, l32, l33, l34, l35, l36, l37, l38, l39, l40, l41] st H Q = M40 329 [l0, l1, l2, l3, l4, l5, l6, l7, l8, l9, l10, l11, .val (.ref r), l13, l14, l15, l16, l17, l18, l19, l20, l21, l22, l23, l24, l25, l26, l27, l28, l29, l30, l31, l32, l33, l34, l35, l36, l37, l38, l39, l40, l41] (.ref r :: st) H Q := w_x at_327 rfl
theorem m40_329 : M40 329 [l0, .val (.int v), l2, l3, l4, l5, l6, l7, l8, l9, l10, l11, l12, l13, l14, l15, l16, l17, l18, l19, l20, l21, l22, l23, l24, l25, l26, l27, l28, l29, l30, l31, l32, l33, l34, l35, l36, l37, l38, l39, l40, l41] st H Q = M40 330 [l0, .val (.int v), l2, l3, l4, l5, l6, l7, l8, l9, l10, l11, l12, l13, l14, l15, l16, l17, l18, l19, l20, l21, l22, l23, l24, l25, l26, l27, l28, l29, l30, l31, l32, l33, l34, l35, l36, l37, l38, l39, l40, l41] (.int v :: st) H Q := w_x at_329 rfl
theorem cr40_39 : vR tables_1 dn y40 39 = some (false, y38, prog_1_method_17_code, 5, (some .int), 1, 92) := vR_of (cR_of (by decide +kernel) rc_38 dn_38 dn_40 (sig := ⟨[.int], some .int⟩) (by decide +kernel) (by decide +kernel) rfl rfl) (by decide +kernel) (by decide +kernel) (by decide +kernel)
theorem m40_330 (a0 : Int32) : M40 330 ls [.int a0, .ref b] (put b pre s A post) Q = M38 0 [.val (.ref b), .val (.int a0), .unset, .unset, .unset] [] (put b pre s A post) (fun v H1 => M40 333 ls (v.toList ++ []) H1 Q) := w_virt (as := [.int a0]) (rest := []) (a := b) at_330 cr40_39 put_o rfl rfl (Nat.le_of_ble_eq_true rfl) (by show 2 ≤ 5; omega) rfl
theorem m40_333u : M40 333 [l0, l1, l2, l3, l4, l5, l6, l7, l8, l9, l10, l11, l12, l13, l14, l15, l16, l17, l18, l19, l20, l21, l22, l23, l24, l25, l26, l27, l28, .unset, l30, l31, l32, l33, l34, l35, l36, l37, l38, l39, l40, l41] ((.int v) :: st) H Q = M40 335 [l0, l1, l2, l3, l4, l5, l6, l7, l8, l9, l10, l11, l12, l13, l14, l15, l16, l17, l18, l19, l20, l21, l22, l23, l24, l25, l26, l27, l28, .val (.int v), l30, l31, l32, l33, l34, l35, l36, l37, l38, l39, l40, l41] st H Q := w_st (i := 29) (p := isI) at_333 rfl rfl rfl rfl rfl rfl
theorem m40_335 : M40 335 ls st H Q = M40 336 ls (.int 0 :: st) H Q := w_con at_335 rfl (by decide)
theorem m40_336u : M40 336 [l0, l1, l2, l3, l4, l5, l6, l7, l8, l9, l10, l11, l12, l13, l14, l15, l16, l17, l18, l19, l20, l21, l22, l23, l24, l25, l26, l27, l28, l29, .unset, l31, l32, l33, l34, l35, l36, l37, l38, l39, l40, l41] ((.int v) :: st) H Q = M40 338 [l0, l1, l2, l3, l4, l5, l6, l7, l8, l9, l10, l11, l12, l13, l14, l15, l16, l17, l18, l19, l20, l21, l22, l23, l24, l25, l26, l27, l28, l29, .val (.int v), l31, l32, l33, l34, l35, l36, l37, l38, l39, l40, l41] st H Q := w_st (i := 30) (p := isI) at_336 rfl rfl rfl rfl rfl rfl
theorem m40_338 : M40 338 ls st H Q = M40 339 ls (.int 0 :: st) H Q := w_con at_338 rfl (by decide)
theorem m40_339u : M40 339 [l0, l1, l2, l3, l4, l5, l6, l7, l8, l9, l10, l11, l12, l13, l14, l15, l16, l17, l18, l19, l20, l21, l22, l23, l24, l25, l26, l27, l28, l29, l30, .unset, l32, l33, l34, l35, l36, l37, l38, l39, l40, l41] ((.int v) :: st) H Q = M40 341 [l0, l1, l2, l3, l4, l5, l6, l7, l8, l9, l10, l11, l12, l13, l14, l15, l16, l17, l18, l19, l20, l21, l22, l23, l24, l25, l26, l27, l28, l29, l30, .val (.int v), l32, l33, l34, l35, l36, l37, l38, l39, l40, l41] st H Q := w_st (i := 31) (p := isI) at_339 rfl rfl rfl rfl rfl rfl
theorem m40_341 : M40 341 ls st H Q = M40 342 ls (.int 0 :: st) H Q := w_con at_341 rfl (by decide)
theorem m40_342u : M40 342 [l0, l1, l2, l3, l4, l5, l6, l7, l8, l9, l10, l11, l12, l13, l14, l15, l16, l17, l18, l19, l20, l21, l22, l23, l24, l25, l26, l27, l28, l29, l30, l31, .unset, l33, l34, l35, l36, l37, l38, l39, l40, l41] ((.int v) :: st) H Q = M40 344 [l0, l1, l2, l3, l4, l5, l6, l7, l8, l9, l10, l11, l12, l13, l14, l15, l16, l17, l18, l19, l20, l21, l22, l23, l24, l25, l26, l27, l28, l29, l30, l31, .val (.int v), l33, l34, l35, l36, l37, l38, l39, l40, l41] st H Q := w_st (i := 32) (p := isI) at_342 rfl rfl rfl rfl rfl rfl
theorem m40_344 : M40 344 [l0, l1, l2, l3, l4, l5, l6, l7, l8, l9, l10, l11, l12, l13, l14, l15, l16, l17, l18, l19, l20, l21, l22, l23, l24, l25, l26, l27, l28, l29, l30, l31, .val (.int v), l33, l34, l35, l36, l37, l38, l39, l40, l41] st H Q = M40 346 [l0, l1, l2, l3, l4, l5, l6, l7, l8, l9, l10, l11, l12, l13, l14, l15, l16, l17, l18, l19, l20, l21, l22, l23, l24, l25, l26, l27, l28, l29, l30, l31, .val (.int v), l33, l34, l35, l36, l37, l38, l39, l40, l41] (.int v :: st) H Q := w_x at_344 rfl
theorem m40_346 : M40 346 ls st H Q = M40 347 ls (.int 4 :: st) H Q := w_con at_346 rfl (by decide)
theorem m40_347 : M40 347 ls (.int y :: .int x :: st) H Q = if x < y then M40 350 ls st H Q else M40 470 ls st H Q := w_icmpN at_347 (i_ge x y) rfl
theorem m40_350 : M40 350 ls st H Q = M40 351 ls (.int 0 :: st) H Q := w_con at_350 rfl (by decide)
theorem m40_351u : M40 351 [l0, l1, l2, l3, l4, l5, l6, l7, l8, l9, l10, l11, l12, l13, l14, l15, l16, l17, l18, l19, l20, l21, l22, l23, l24, l25, l26, l27, l28, l29, l30, l31, l32, .unset, l34, l35, l36, l37, l38, l39, l40, l41] ((.int v) :: st) H Q = M40 353 [l0, l1, l2, l3, l4, l5, l6, l7, l8, l9, l10, l11, l12, l13, l14, l15, l16, l17, l18, l19, l20, l21, l22, l23, l24, l25, l26, l27, l28, l29, l30, l31, l32, .val (.int v), l34, l35, l36, l37, l38, l39, l40, l41] st H Q := w_st (i := 33) (p := isI) at_351 rfl rfl rfl rfl rfl rfl
theorem m40_351i : M40 351 [l0, l1, l2, l3, l4, l5, l6, l7, l8, l9, l10, l11, l12, l13, l14, l15, l16, l17, l18, l19, l20, l21, l22, l23, l24, l25, l26, l27, l28, l29, l30, l31, l32, .val (.int z), l34, l35, l36, l37, l38, l39, l40, l41] ((.int v) :: st) H Q = M40 353 [l0, l1, l2, l3, l4, l5, l6, l7, l8, l9, l10, l11, l12, l13, l14, l15, l16, l17, l18, l19, l20, l21, l22, l23, l24, l25, l26, l27, l28, l29, l30, l31, l32, .val (.int v), l34, l35, l36, l37, l38, l39, l40, l41] st H Q := w_st (i := 33) (p := isI) at_351 rfl rfl rfl rfl rfl rfl
theorem m40_351r : M40 351 [l0, l1, l2, l3, l4, l5, l6, l7, l8, l9, l10, l11, l12, l13, l14, l15, l16, l17, l18, l19, l20, l21, l22, l23, l24, l25, l26, l27, l28, l29, l30, l31, l32, .val (.ref q), l34, l35, l36, l37, l38, l39, l40, l41] ((.int v) :: st) H Q = M40 353 [l0, l1, l2, l3, l4, l5, l6, l7, l8, l9, l10, l11, l12, l13, l14, l15, l16, l17, l18, l19, l20, l21, l22, l23, l24, l25, l26, l27, l28, l29, l30, l31, l32, .val (.int v), l34, l35, l36, l37, l38, l39, l40, l41] st H Q := w_st (i := 33) (p := isI) at_351 rfl rfl rfl rfl rfl rfl
theorem m40_353 : M40 353 [l0, l1, l2, l3, l4, l5, l6, l7, l8, l9, l10, l11, l12, l13, l14, l15, l16, l17, l18, l19, l20, l21, l22, l23, l24, l25, l26, l27, l28, l29, l30, l31, l32, .val (.int v), l34, l35, l36, l37, l38, l39, l40, l41] st H Q = M40 355 [l0, l1, l2, l3, l4, l5, l6, l7, l8, l9, l10, l11, l12, l13, l14, l15, l16, l17, l18, l19, l20, l21, l22, l23, l24, l25, l26, l27, l28, l29, l30, l31, l32, .val (.int v), l34, l35, l36, l37, l38, l39, l40, l41] (.int v :: st) H Q := w_x at_353 rfl
theorem m40_355 : M40 355 ls st H Q = M40 356 ls (.int 4 :: st) H Q := w_con at_355 rfl (by decide)
theorem m40_356 : M40 356 ls (.int y :: .int x :: st) H Q = if x < y then M40 359 ls st H Q else M40 464 ls st H Q := w_icmpN at_356 (i_ge x y) rfl
theorem m40_359 : M40 359 [l0, l1, l2, l3, l4, l5, l6, l7, l8, l9, l10, l11, l12, l13, l14, l15, l16, l17, l18, l19, l20, l21, l22, l23, l24, l25, l26, l27, l28, l29, l30, l31, .val (.int v), l33, l34, l35, l36, l37, l38, l39, l40, l41] st H Q = M40 361 [l0, l1, l2, l3, l4, l5, l6, l7, l8, l9, l10, l11, l12, l13, l14, l15, l16, l17, l18, l19, l20, l21, l22, l23, l24, l25, l26, l27, l28, l29, l30, l31, .val (.int v), l33, l34, l35, l36, l37, l38, l39, l40, l41] (.int v :: st) H Q := w_x at_359 rfl
theorem m40_361 : M40 361 ls st H Q = M40 362 ls (.int 4 :: st) H Q := w_con at_361 rfl (by decide)
theorem m40_362 : M40 362 ls (.int y :: .int x :: st) H Q = M40 363 ls (.int (x * y) :: st) H Q := w_x at_362 rfl
theorem m40_363 : M40 363 [l0, l1, l2, l3, l4, l5, l6, l7, l8, l9, l10, l11, l12, l13, l14, l15, l16, l17, l18, l19, l20, l21, l22, l23, l24, l25, l26, l27, l28, l29, l30, l31, l32, .val (.int v), l34, l35, l36, l37, l38, l39, l40, l41] st H Q = M40 365 [l0, l1, l2, l3, l4, l5, l6, l7, l8, l9, l10, l11, l12, l13, l14, l15, l16, l17, l18, l19, l20, l21, l22, l23, l24, l25, l26, l27, l28, l29, l30, l31, l32, .val (.int v), l34, l35, l36, l37, l38, l39, l40, l41] (.int v :: st) H Q := w_x at_363 rfl
theorem m40_365 : M40 365 ls (.int y :: .int x :: st) H Q = M40 366 ls (.int (x + y) :: st) H Q := w_x at_365 rfl
theorem m40_366u : M40 366 [l0, l1, l2, l3, l4, l5, l6, l7, l8, l9, l10, l11, l12, l13, l14, l15, l16, l17, l18, l19, l20, l21, l22, l23, l24, l25, l26, l27, l28, l29, l30, l31, l32, l33, .unset, l35, l36, l37, l38, l39, l40, l41] ((.int v) :: st) H Q = M40 368 [l0, l1, l2, l3, l4, l5, l6, l7, l8, l9, l10, l11, l12, l13, l14, l15, l16, l17, l18, l19, l20, l21, l22, l23, l24, l25, l26, l27, l28, l29, l30, l31, l32, l33, .val (.int v), l35, l36, l37, l38, l39, l40, l41] st H Q := w_st (i := 34) (p := isI) at_366 rfl rfl rfl rfl rfl rfl
theorem m40_366i : M40 366 [l0, l1, l2, l3, l4, l5, l6, l7, l8, l9, l10, l11, l12, l13, l14, l15, l16, l17, l18, l19, l20, l21, l22, l23, l24, l25, l26, l27, l28, l29, l30, l31, l32, l33, .val (.int z), l35, l36, l37, l38, l39, l40, l41] ((.int v) :: st) H Q = M40 368 [l0, l1, l2, l3, l4, l5, l6, l7, l8, l9, l10, l11, l12, l13, l14, l15, l16, l17, l18, l19, l20, l21, l22, l23, l24, l25, l26, l27, l28, l29, l30, l31, l32, l33, .val (.int v), l35, l36, l37, l38, l39, l40, l41] st H Q := w_st (i := 34) (p := isI) at_366 rfl rfl rfl rfl rfl rfl
theorem m40_366r : M40 366 [l0, l1, l2, l3, l4, l5, l6, l7, l8, l9, l10, l11, l12, l13, l14, l15, l16, l17, l18, l19, l20, l21, l22, l23, l24, l25, l26, l27, l28, l29, l30, l31, l32, l33, .val (.ref q), l35, l36, l37, l38, l39, l40, l41] ((.int v) :: st) H Q = M40 368 [l0, l1, l2, l3, l4, l5, l6, l7, l8, l9, l10, l11, l12, l13, l14, l15, l16, l17, l18, l19, l20, l21, l22, l23, l24, l25, l26, l27, l28, l29, l30, l31, l32, l33, .val (.int v), l35, l36, l37, l38, l39, l40, l41] st H Q := w_st (i := 34) (p := isI) at_366 rfl rfl rfl rfl rfl rfl
theorem m40_368 : M40 368 [l0, l1, l2, l3, l4, l5, l6, l7, l8, l9, l10, l11, l12, l13, l14, l15, l16, l17, l18, l19, l20, l21, l22, l23, l24, l25, l26, l27, l28, l29, l30, l31, l32, l33, .val (.int v), l35, l36, l37, l38, l39, l40, l41] st H Q = M40 370 [l0, l1, l2, l3, l4, l5, l6, l7, l8, l9, l10, l11, l12, l13, l14, l15, l16, l17, l18, l19, l20, l21, l22, l23, l24, l25, l26, l27, l28, l29, l30, l31, l32, l33, .val (.int v), l35, l36, l37, l38, l39, l40, l41] (.int v :: st) H Q := w_x at_368 rfl
theorem m40_370 : M40 370 ls st H Q = M40 371 ls (.int 1 :: st) H Q := w_con at_370 rfl (by decide)
theorem m40_371 : M40 371 ls (.int y :: .int x :: st) H Q = M40 372 ls (.int (x &&& y) :: st) H Q := w_x at_371 rfl
theorem m40_372 : M40 372 [l0, l1, .val (.int v), l3, l4, l5, l6, l7, l8, l9, l10, l11, l12, l13, l14, l15, l16, l17, l18, l19, l20, l21, l22, l23, l24, l25, l26, l27, l28, l29, l30, l31, l32, l33, l34, l35, l36, l37, l38, l39, l40, l41] st H Q = M40 373 [l0, l1, .val (.int v), l3, l4, l5, l6, l7, l8, l9, l10, l11, l12, l13, l14, l15, l16, l17, l18, l19, l20, l21, l22, l23, l24, l25, l26, l27, l28, l29, l30, l31, l32, l33, l34, l35, l36, l37, l38, l39, l40, l41] (.int v :: st) H Q := w_x at_372 rfl
theorem m40_373 : M40 373 ls (.int y :: .int x :: st) H Q = M40 374 ls (.int (x ^^^ y) :: st) H Q := w_x at_373 rfl
theorem m40_374 : M40 374 [l0, l1, l2, l3, l4, l5, l6, l7, l8, l9, l10, l11, l12, l13, l14, l15, l16, l17, l18, l19, l20, l21, l22, l23, l24, l25, l26, l27, l28, l29, l30, l31, l32, l33, .val (.int v), l35, l36, l37, l38, l39, l40, l41] st H Q = M40 376 [l0, l1, l2, l3, l4, l5, l6, l7, l8, l9, l10, l11, l12, l13, l14, l15, l16, l17, l18, l19, l20, l21, l22, l23, l24, l25, l26, l27, l28, l29, l30, l31, l32, l33, .val (.int v), l35, l36, l37, l38, l39, l40, l41] (.int v :: st) H Q := w_x at_374 rfl
theorem m40_376 : M40 376 ls st H Q = M40 377 ls (.int 1 :: st) H Q := w_con at_376 rfl (by decide)
theorem m40_377 : M40 377 ls (.int y :: .int x :: st) H Q = M40 378 ls (.int (XT.ushr x y) :: st) H Q := w_x at_377 rfl
theorem m40_378 : M40 378 ls st H Q = M40 379 ls (.int 1 :: st) H Q := w_con at_378 rfl (by decide)
theorem m40_379 : M40 379 ls (.int y :: .int x :: st) H Q = M40 380 ls (.int (x &&& y) :: st) H Q := w_x at_379 rfl
theorem m40_380 : M40 380 [l0, l1, l2, .val (.int v), l4, l5, l6, l7, l8, l9, l10, l11, l12, l13, l14, l15, l16, l17, l18, l19, l20, l21, l22, l23, l24, l25, l26, l27, l28, l29, l30, l31, l32, l33, l34, l35, l36, l37, l38, l39, l40, l41] st H Q = M40 381 [l0, l1, l2, .val (.int v), l4, l5, l6, l7, l8, l9, l10, l11, l12, l13, l14, l15, l16, l17, l18, l19, l20, l21, l22, l23, l24, l25, l26, l27, l28, l29, l30, l31, l32, l33, l34, l35, l36, l37, l38, l39, l40, l41] (.int v :: st) H Q := w_x at_380 rfl
theorem m40_381 : M40 381 ls (.int y :: .int x :: st) H Q = M40 382 ls (.int (x ^^^ y) :: st) H Q := w_x at_381 rfl
theorem m40_382 : M40 382 ls (.int y :: .int x :: st) H Q = M40 383 ls (.int (x &&& y) :: st) H Q := w_x at_382 rfl
theorem m40_383u : M40 383 [l0, l1, l2, l3, l4, l5, l6, l7, l8, l9, l10, l11, l12, l13, l14, l15, l16, l17, l18, l19, l20, l21, l22, l23, l24, l25, l26, l27, l28, l29, l30, l31, l32, l33, l34, .unset, l36, l37, l38, l39, l40, l41] ((.int v) :: st) H Q = M40 385 [l0, l1, l2, l3, l4, l5, l6, l7, l8, l9, l10, l11, l12, l13, l14, l15, l16, l17, l18, l19, l20, l21, l22, l23, l24, l25, l26, l27, l28, l29, l30, l31, l32, l33, l34, .val (.int v), l36, l37, l38, l39, l40, l41] st H Q := w_st (i := 35) (p := isI) at_383 rfl rfl rfl rfl rfl rfl
theorem m40_383i : M40 383 [l0, l1, l2, l3, l4, l5, l6, l7, l8, l9, l10, l11, l12, l13, l14, l15, l16, l17, l18, l19, l20, l21, l22, l23, l24, l25, l26, l27, l28, l29, l30, l31, l32, l33, l34, .val (.int z), l36, l37, l38, l39, l40, l41] ((.int v) :: st) H Q = M40 385 [l0, l1, l2, l3, l4, l5, l6, l7, l8, l9, l10, l11, l12, l13, l14, l15, l16, l17, l18, l19, l20, l21, l22, l23, l24, l25, l26, l27, l28, l29, l30, l31, l32, l33, l34, .val (.int v), l36, l37, l38, l39, l40, l41] st H Q := w_st (i := 35) (p := isI) at_383 rfl rfl rfl rfl rfl rfl
theorem m40_383r : M40 383 [l0, l1, l2, l3, l4, l5, l6, l7, l8, l9, l10, l11, l12, l13, l14, l15, l16, l17, l18, l19, l20, l21, l22, l23, l24, l25, l26, l27, l28, l29, l30, l31, l32, l33, l34, .val (.ref q), l36, l37, l38, l39, l40, l41] ((.int v) :: st) H Q = M40 385 [l0, l1, l2, l3, l4, l5, l6, l7, l8, l9, l10, l11, l12, l13, l14, l15, l16, l17, l18, l19, l20, l21, l22, l23, l24, l25, l26, l27, l28, l29, l30, l31, l32, l33, l34, .val (.int v), l36, l37, l38, l39, l40, l41] st H Q := w_st (i := 35) (p := isI) at_383 rfl rfl rfl rfl rfl rfl
theorem m40_385 : M40 385 [l0, l1, l2, l3, l4, l5, l6, l7, l8, l9, l10, l11, l12, l13, l14, l15, l16, l17, l18, l19, l20, l21, l22, l23, l24, l25, l26, l27, l28, l29, l30, l31, l32, l33, .val (.int v), l35, l36, l37, l38, l39, l40, l41] st H Q = M40 387 [l0, l1, l2, l3, l4, l5, l6, l7, l8, l9, l10, l11, l12, l13, l14, l15, l16, l17, l18, l19, l20, l21, l22, l23, l24, l25, l26, l27, l28, l29, l30, l31, l32, l33, .val (.int v), l35, l36, l37, l38, l39, l40, l41] (.int v :: st) H Q := w_x at_385 rfl
theorem m40_387 : M40 387 ls st H Q = M40 388 ls (.int 2 :: st) H Q := w_con at_387 rfl (by decide)
theorem m40_388 : M40 388 ls (.int y :: .int x :: st) H Q = M40 389 ls (.int (XT.ushr x y) :: st) H Q := w_x at_388 rfl
theorem m40_389 : M40 389 ls st H Q = M40 390 ls (.int 1 :: st) H Q := w_con at_389 rfl (by decide)
theorem m40_390 : M40 390 ls (.int y :: .int x :: st) H Q = M40 391 ls (.int (x &&& y) :: st) H Q := w_x at_390 rfl
theorem m40_391 : M40 391 [l0, l1, l2, l3, .val (.int v), l5, l6, l7, l8, l9, l10, l11, l12, l13, l14, l15, l16, l17, l18, l19, l20, l21, l22, l23, l24, l25, l26, l27, l28, l29, l30, l31, l32, l33, l34, l35, l36, l37, l38, l39, l40, l41] st H Q = M40 393 [l0, l1, l2, l3, .val (.int v), l5, l6, l7, l8, l9, l10, l11, l12, l13, l14, l15, l16, l17, l18, l19, l20, l21, l22, l23, l24, l25, l26, l27, l28, l29, l30, l31, l32, l33, l34, l35, l36, l37, l38, l39, l40, l41] (.int v :: st) H Q := w_x at_391 rfl
theorem m40_393 : M40 393 ls (.int y :: .int x :: st) H Q = M40 394 ls (.int (x ^^^ y) :: st) H Q := w_x at_393 rfl
theorem m40_394 : M40 394 [l0, l1, l2, l3, l4, l5, l6, l7, l8, l9, l10, l11, l12, l13, l14, l15, l16, l17, l18, l19, l20, l21, l22, l23, l24, l25, l26, l27, l28, l29, l30, l31, l32, l33, .val (.int v), l35, l36, l37, l38, l39, l40, l41] st H Q = M40 396 [l0, l1, l2, l3, l4, l5, l6, l7, l8, l9, l10, l11, l12, l13, l14, l15, l16, l17, l18, l19, l20, l21, l22, l23, l24, l25, l26, l27, l28, l29, l30, l31, l32, l33, .val (.int v), l35, l36, l37, l38, l39, l40, l41] (.int v :: st) H Q := w_x at_394 rfl
theorem m40_396 : M40 396 ls st H Q = M40 397 ls (.int 3 :: st) H Q := w_con at_396 rfl (by decide)
theorem m40_397 : M40 397 ls (.int y :: .int x :: st) H Q = M40 398 ls (.int (XT.ushr x y) :: st) H Q := w_x at_397 rfl
theorem m40_398 : M40 398 ls st H Q = M40 399 ls (.int 1 :: st) H Q := w_con at_398 rfl (by decide)
theorem m40_399 : M40 399 ls (.int y :: .int x :: st) H Q = M40 400 ls (.int (x &&& y) :: st) H Q := w_x at_399 rfl
theorem m40_400 : M40 400 [l0, l1, l2, l3, l4, .val (.int v), l6, l7, l8, l9, l10, l11, l12, l13, l14, l15, l16, l17, l18, l19, l20, l21, l22, l23, l24, l25, l26, l27, l28, l29, l30, l31, l32, l33, l34, l35, l36, l37, l38, l39, l40, l41] st H Q = M40 402 [l0, l1, l2, l3, l4, .val (.int v), l6, l7, l8, l9, l10, l11, l12, l13, l14, l15, l16, l17, l18, l19, l20, l21, l22, l23, l24, l25, l26, l27, l28, l29, l30, l31, l32, l33, l34, l35, l36, l37, l38, l39, l40, l41] (.int v :: st) H Q := w_x at_400 rfl
theorem m40_402 : M40 402 ls (.int y :: .int x :: st) H Q = M40 403 ls (.int (x ^^^ y) :: st) H Q := w_x at_402 rfl
theorem m40_403 : M40 403 ls (.int y :: .int x :: st) H Q = M40 404 ls (.int (x &&& y) :: st) H Q := w_x at_403 rfl
theorem m40_404u : M40 404 [l0, l1, l2, l3, l4, l5, l6, l7, l8, l9, l10, l11, l12, l13, l14, l15, l16, l17, l18, l19, l20, l21, l22, l23, l24, l25, l26, l27, l28, l29, l30, l31, l32, l33, l34, l35, .unset, l37, l38, l39, l40, l41] ((.int v) :: st) H Q = M40 406 [l0, l1, l2, l3, l4, l5, l6, l7, l8, l9, l10, l11, l12, l13, l14, l15, l16, l17, l18, l19, l20, l21, l22, l23, l24, l25, l26, l27, l28, l29, l30, l31, l32, l33, l34, l35, .val (.int v), l37, l38, l39, l40, l41] st H Q := w_st (i := 36) (p := isI) at_404 rfl rfl rfl rfl rfl rfl
theorem m40_404i : M40 404 [l0, l1, l2, l3, l4, l5, l6, l7, l8, l9, l10, l11, l12, l13, l14, l15, l16, l17, l18, l19, l20, l21, l22, l23, l24, l25, l26, l27, l28, l29, l30, l31, l32, l33, l34, l35, .val (.int z), l37, l38, l39, l40, l41] ((.int v) :: st) H Q = M40 406 [l0, l1, l2, l3, l4, l5, l6, l7, l8, l9, l10, l11, l12, l13, l14, l15, l16, l17, l18, l19, l20, l21, l22, l23, l24, l25, l26, l27, l28, l29, l30, l31, l32, l33, l34, l35, .val (.int v), l37, l38, l39, l40, l41] st H Q := w_st (i := 36) (p := isI) at_404 rfl rfl rfl rfl rfl rfl
theorem m40_404r : M40 404 [l0, l1, l2, l3, l4, l5, l6, l7, l8, l9, l10, l11, l12, l13, l14, l15, l16, l17, l18, l19, l20, l21, l22, l23, l24, l25, l26, l27, l28, l29, l30, l31, l32, l33, l34, l35, .val (.ref q), l37, l38, l39, l40, l41] ((.int v) :: st) H Q = M40 406 [l0, l1, l2, l3, l4, l5, l6, l7, l8, l9, l10, l11, l12, l13, l14, l15, l16, l17, l18, l19, l20, l21, l22, l23, l24, l25, l26, l27, l28, l29, l30, l31, l32, l33, l34, l35, .val (.int v), l37, l38, l39, l40, l41] st H Q := w_st (i := 36) (p := isI) at_404 rfl rfl rfl rfl rfl rfl
theorem m40_406 : M40 406 [l0, l1, l2, l3, l4, l5, l6, l7, l8, l9, l10, l11, l12, l13, l14, l15, l16, l17, l18, l19, l20, l21, l22, l23, l24, l25, l26, l27, l28, l29, l30, l31, l32, l33, l34, .val (.int v), l36, l37, l38, l39, l40, l41] st H Q = M40 408 [l0, l1, l2, l3, l4, l5, l6, l7, l8, l9, l10, l11, l12, l13, l14, l15, l16, l17, l18, l19, l20, l21, l22, l23, l24, l25, l26, l27, l28, l29, l30, l31, l32, l33, l34, .val (.int v), l36, l37, l38, l39, l40, l41] (.int v :: st) H Q := w_x at_406 rfl
theorem m40_408 : M40 408 [l0, l1, l2, l3, l4, l5, .val (.int v), l7, l8, l9, l10, l11, l12, l13, l14, l15, l16, l17, l18, l19, l20, l21, l22, l23, l24, l25, l26, l27, l28, l29, l30, l31, l32, l33, l34, l35, l36, l37, l38, l39, l40, l41] st H Q = M40 410 [l0, l1, l2, l3, l4, l5, .val (.int v), l7, l8, l9, l10, l11, l12, l13, l14, l15, l16, l17, l18, l19, l20, l21, l22, l23, l24, l25, l26, l27, l28, l29, l30, l31, l32, l33, l34, l35, l36, l37, l38, l39, l40, l41] (.int v :: st) H Q := w_x at_408 rfl
theorem m40_410 : M40 410 ls (.int y :: .int x :: st) H Q = M40 411 ls (.int (x ^^^ y) :: st) H Q := w_x at_410 rfl
theorem m40_411 : M40 411 [l0, l1, l2, l3, l4, l5, l6, l7, l8, l9, l10, l11, l12, l13, l14, l15, l16, l17, l18, l19, l20, l21, l22, l23, l24, l25, l26, l27, l28, l29, l30, l31, l32, l33, l34, l35, .val (.int v), l37, l38, l39, l40, l41] st H Q = M40 413 [l0, l1, l2, l3, l4, l5, l6, l7, l8, l9, l10, l11, l12, l13, l14, l15, l16, l17, l18, l19, l20, l21, l22, l23, l24, l25, l26, l27, l28, l29, l30, l31, l32, l33, l34, l35, .val (.int v), l37, l38, l39, l40, l41] (.int v :: st) H Q := w_x at_411 rfl
theorem m40_413 : M40 413 [l0, l1, l2, l3, l4, l5, l6, .val (.int v), l8, l9, l10, l11, l12, l13, l14, l15, l16, l17, l18, l19, l20, l21, l22, l23, l24, l25, l26, l27, l28, l29, l30, l31, l32, l33, l34, l35, l36, l37, l38, l39, l40, l41] st H Q = M40 415 [l0, l1, l2, l3, l4, l5, l6, .val (.int v), l8, l9, l10, l11, l12, l13, l14, l15, l16, l17, l18, l19, l20, l21, l22, l23, l24, l25, l26, l27, l28, l29, l30, l31, l32, l33, l34, l35, l36, l37, l38, l39, l40, l41] (.int v :: st) H Q := w_x at_413 rfl
theorem m40_415 : M40 415 ls (.int y :: .int x :: st) H Q = M40 416 ls (.int (x ^^^ y) :: st) H Q := w_x at_415 rfl
theorem m40_416 : M40 416 ls (.int y :: .int x :: st) H Q = M40 417 ls (.int (x &&& y) :: st) H Q := w_x at_416 rfl
theorem m40_417u : M40 417 [l0, l1, l2, l3, l4, l5, l6, l7, l8, l9, l10, l11, l12, l13, l14, l15, l16, l17, l18, l19, l20, l21, l22, l23, l24, l25, l26, l27, l28, l29, l30, l31, l32, l33, l34, l35, l36, .unset, l38, l39, l40, l41] ((.int v) :: st) H Q = M40 419 [l0, l1, l2, l3, l4, l5, l6, l7, l8, l9, l10, l11, l12, l13, l14, l15, l16, l17, l18, l19, l20, l21, l22, l23, l24, l25, l26, l27, l28, l29, l30, l31, l32, l33, l34, l35, l36, .val (.int v), l38, l39, l40, l41] st H Q := w_st (i := 37) (p := isI) at_417 rfl rfl rfl rfl rfl rfl
theorem m40_417i : M40 417 [l0, l1, l2, l3, l4, l5, l6, l7, l8, l9, l10, l11, l12, l13, l14, l15, l16, l17, l18, l19, l20, l21, l22, l23, l24, l25, l26, l27, l28, l29, l30, l31, l32, l33, l34, l35, l36, .val (.int z), l38, l39, l40, l41] ((.int v) :: st) H Q = M40 419 [l0, l1, l2, l3, l4, l5, l6, l7, l8, l9, l10, l11, l12, l13, l14, l15, l16, l17, l18, l19, l20, l21, l22, l23, l24, l25, l26, l27, l28, l29, l30, l31, l32, l33, l34, l35, l36, .val (.int v), l38, l39, l40, l41] st H Q := w_st (i := 37) (p := isI) at_417 rfl rfl rfl rfl rfl rfl
theorem m40_417r : M40 417 [l0, l1, l2, l3, l4, l5, l6, l7, l8, l9, l10, l11, l12, l13, l14, l15, l16, l17, l18, l19, l20, l21, l22, l23, l24, l25, l26, l27, l28, l29, l30, l31, l32, l33, l34, l35, l36, .val (.ref q), l38, l39, l40, l41] ((.int v) :: st) H Q = M40 419 [l0, l1, l2, l3, l4, l5, l6, l7, l8, l9, l10, l11, l12, l13, l14, l15, l16, l17, l18, l19, l20, l21, l22, l23, l24, l25, l26, l27, l28, l29, l30, l31, l32, l33, l34, l35, l36, .val (.int v), l38, l39, l40, l41] st H Q := w_st (i := 37) (p := isI) at_417 rfl rfl rfl rfl rfl rfl
theorem m40_419 : M40 419 [l0, l1, l2, l3, l4, l5, l6, l7, l8, l9, l10, l11, l12, l13, l14, l15, l16, l17, l18, l19, l20, l21, l22, l23, l24, l25, l26, l27, l28, l29, .val (.int v), l31, l32, l33, l34, l35, l36, l37, l38, l39, l40, l41] st H Q = M40 421 [l0, l1, l2, l3, l4, l5, l6, l7, l8, l9, l10, l11, l12, l13, l14, l15, l16, l17, l18, l19, l20, l21, l22, l23, l24, l25, l26, l27, l28, l29, .val (.int v), l31, l32, l33, l34, l35, l36, l37, l38, l39, l40, l41] (.int v :: st) H Q := w_x at_419 rfl
theorem m40_421 : M40 421 [l0, l1, l2, l3, l4, l5, l6, l7, l8, l9, l10, l11, l12, l13, l14, l15, l16, l17, l18, l19, l20, l21, l22, l23, l24, l25, l26, l27, l28, l29, l30, l31, l32, l33, l34, l35, l36, .val (.int v), l38, l39, l40, l41] st H Q = M40 423 [l0, l1, l2, l3, l4, l5, l6, l7, l8, l9, l10, l11, l12, l13, l14, l15, l16, l17, l18, l19, l20, l21, l22, l23, l24, l25, l26, l27, l28, l29, l30, l31, l32, l33, l34, l35, l36, .val (.int v), l38, l39, l40, l41] (.int v :: st) H Q := w_x at_421 rfl
theorem m40_423 : M40 423 [l0, l1, l2, l3, l4, l5, l6, l7, l8, l9, l10, l11, l12, l13, l14, l15, l16, l17, l18, l19, l20, l21, l22, l23, l24, l25, l26, l27, l28, l29, l30, l31, l32, l33, .val (.int v), l35, l36, l37, l38, l39, l40, l41] st H Q = M40 425 [l0, l1, l2, l3, l4, l5, l6, l7, l8, l9, l10, l11, l12, l13, l14, l15, l16, l17, l18, l19, l20, l21, l22, l23, l24, l25, l26, l27, l28, l29, l30, l31, l32, l33, .val (.int v), l35, l36, l37, l38, l39, l40, l41] (.int v :: st) H Q := w_x at_423 rfl
theorem m40_425 : M40 425 ls (.int y :: .int x :: st) H Q = M40 426 ls (.int (x <<< (y &&& 31)) :: st) H Q := w_x at_425 rfl
theorem m40_426 : M40 426 ls (.int y :: .int x :: st) H Q = M40 427 ls (.int (x ||| y) :: st) H Q := w_x at_426 rfl
theorem m40_427i : M40 427 [l0, l1, l2, l3, l4, l5, l6, l7, l8, l9, l10, l11, l12, l13, l14, l15, l16, l17, l18, l19, l20, l21, l22, l23, l24, l25, l26, l27, l28, l29, .val (.int z), l31, l32, l33, l34, l35, l36, l37, l38, l39, l40, l41] ((.int v) :: st) H Q = M40 429 [l0, l1, l2, l3, l4, l5, l6, l7, l8, l9, l10, l11, l12, l13, l14, l15, l16, l17, l18, l19, l20, l21, l22, l23, l24, l25, l26, l27, l28, l29, .val (.int v), l31, l32, l33, l34, l35, l36, l37, l38, l39, l40, l41] st H Q := w_st (i := 30) (p := isI) at_427 rfl rfl rfl rfl rfl rfl
theorem m40_429 : M40 429 [l0, l1, l2, l3, l4, l5, l6, l7, l8, l9, l10, l11, l12, l13, l14, l15, l16, l17, l18, l19, l20, l21, l22, l23, l24, l25, l26, l27, l28, l29, l30, l31, l32, l33, .val (.int v), l35, l36, l37, l38, l39, l40, l41] st H Q = M40 431 [l0, l1, l2, l3, l4, l5, l6, l7, l8, l9, l10, l11, l12, l13, l14, l15, l16, l17, l18, l19, l20, l21, l22, l23, l24, l25, l26, l27, l28, l29, l30, l31, l32, l33, .val (.int v), l35, l36, l37, l38, l39, l40, l41] (.int v :: st) H Q := w_x at_429 rfl
theorem m40_431 : M40 431 ls st H Q = M40 432 ls (.int 1 :: st) H Q := w_con at_431 rfl (by decide)
theorem m40_432 : M40 432 ls (.int y :: .int x :: st) H Q = M40 433 ls (.int (XT.ushr x y) :: st) H Q := w_x at_432 rfl
theorem m40_433 : M40 433 ls st H Q = M40 434 ls (.int 1 :: st) H Q := w_con at_433 rfl (by decide)
theorem m40_434 : M40 434 ls (.int y :: .int x :: st) H Q = M40 435 ls (.int (x &&& y) :: st) H Q := w_x at_434 rfl
theorem m40_435 : M40 435 [l0, l1, l2, l3, l4, l5, l6, l7, .val (.int v), l9, l10, l11, l12, l13, l14, l15, l16, l17, l18, l19, l20, l21, l22, l23, l24, l25, l26, l27, l28, l29, l30, l31, l32, l33, l34, l35, l36, l37, l38, l39, l40, l41] st H Q = M40 437 [l0, l1, l2, l3, l4, l5, l6, l7, .val (.int v), l9, l10, l11, l12, l13, l14, l15, l16, l17, l18, l19, l20, l21, l22, l23, l24, l25, l26, l27, l28, l29, l30, l31, l32, l33, l34, l35, l36, l37, l38, l39, l40, l41] (.int v :: st) H Q := w_x at_435 rfl
theorem m40_437 : M40 437 ls (.int y :: .int x :: st) H Q = M40 438 ls (.int (x ^^^ y) :: st) H Q := w_x at_437 rfl
theorem m40_438 : M40 438 [l0, l1, l2, l3, l4, l5, l6, l7, l8, l9, l10, l11, l12, l13, l14, l15, l16, l17, l18, l19, l20, l21, l22, l23, l24, l25, l26, l27, l28, l29, l30, l31, l32, l33, .val (.int v), l35, l36, l37, l38, l39, l40, l41] st H Q = M40 440 [l0, l1, l2, l3, l4, l5, l6, l7, l8, l9, l10, l11, l12, l13, l14, l15, l16, l17, l18, l19, l20, l21, l22, l23, l24, l25, l26, l27, l28, l29, l30, l31, l32, l33, .val (.int v), l35, l36, l37, l38, l39, l40, l41] (.int v :: st) H Q := w_x at_438 rfl
theorem m40_440 : M40 440 ls st H Q = M40 441 ls (.int 1 :: st) H Q := w_con at_440 rfl (by decide)
theorem m40_441 : M40 441 ls (.int y :: .int x :: st) H Q = M40 442 ls (.int (x &&& y) :: st) H Q := w_x at_441 rfl
theorem m40_442 : M40 442 [l0, l1, l2, l3, l4, l5, l6, l7, l8, .val (.int v), l10, l11, l12, l13, l14, l15, l16, l17, l18, l19, l20, l21, l22, l23, l24, l25, l26, l27, l28, l29, l30, l31, l32, l33, l34, l35, l36, l37, l38, l39, l40, l41] st H Q = M40 444 [l0, l1, l2, l3, l4, l5, l6, l7, l8, .val (.int v), l10, l11, l12, l13, l14, l15, l16, l17, l18, l19, l20, l21, l22, l23, l24, l25, l26, l27, l28, l29, l30, l31, l32, l33, l34, l35, l36, l37, l38, l39, l40, l41] (.int v :: st) H Q := w_x at_442 rfl
theorem m40_444 : M40 444 ls (.int y :: .int x :: st) H Q = M40 445 ls (.int (x ^^^ y) :: st) H Q := w_x at_444 rfl
theorem m40_445 : M40 445 ls (.int y :: .int x :: st) H Q = M40 446 ls (.int (x &&& y) :: st) H Q := w_x at_445 rfl
theorem m40_446u : M40 446 [l0, l1, l2, l3, l4, l5, l6, l7, l8, l9, l10, l11, l12, l13, l14, l15, l16, l17, l18, l19, l20, l21, l22, l23, l24, l25, l26, l27, l28, l29, l30, l31, l32, l33, l34, l35, l36, l37, .unset, l39, l40, l41] ((.int v) :: st) H Q = M40 448 [l0, l1, l2, l3, l4, l5, l6, l7, l8, l9, l10, l11, l12, l13, l14, l15, l16, l17, l18, l19, l20, l21, l22, l23, l24, l25, l26, l27, l28, l29, l30, l31, l32, l33, l34, l35, l36, l37, .val (.int v), l39, l40, l41] st H Q := w_st (i := 38) (p := isI) at_446 rfl rfl rfl rfl rfl rfl
theorem m40_446i : M40 446 [l0, l1, l2, l3, l4, l5, l6, l7, l8, l9, l10, l11, l12, l13, l14, l15, l16, l17, l18, l19, l20, l21, l22, l23, l24, l25, l26, l27, l28, l29, l30, l31, l32, l33, l34, l35, l36, l37, .val (.int z), l39, l40, l41] ((.int v) :: st) H Q = M40 448 [l0, l1, l2, l3, l4, l5, l6, l7, l8, l9, l10, l11, l12, l13, l14, l15, l16, l17, l18, l19, l20, l21, l22, l23, l24, l25, l26, l27, l28, l29, l30, l31, l32, l33, l34, l35, l36, l37, .val (.int v), l39, l40, l41] st H Q := w_st (i := 38) (p := isI) at_446 rfl rfl rfl rfl rfl rfl
theorem m40_446r : M40 446 [l0, l1, l2, l3, l4, l5, l6, l7, l8, l9, l10, l11, l12, l13, l14, l15, l16, l17, l18, l19, l20, l21, l22, l23, l24, l25, l26, l27, l28, l29, l30, l31, l32, l33, l34, l35, l36, l37, .val (.ref q), l39, l40, l41] ((.int v) :: st) H Q = M40 448 [l0, l1, l2, l3, l4, l5, l6, l7, l8, l9, l10, l11, l12, l13, l14, l15, l16, l17, l18, l19, l20, l21, l22, l23, l24, l25, l26, l27, l28, l29, l30, l31, l32, l33, l34, l35, l36, l37, .val (.int v), l39, l40, l41] st H Q := w_st (i := 38) (p := isI) at_446 rfl rfl rfl rfl rfl rfl
theorem m40_448 : M40 448 [l0, l1, l2, l3, l4, l5, l6, l7, l8, l9, l10, l11, l12, l13, l14, l15, l16, l17, l18, l19, l20, l21, l22, l23, l24, l25, l26, l27, l28, l29, l30, .val (.int v), l32, l33, l34, l35, l36, l37, l38, l39, l40, l41] st H Q = M40 450 [l0, l1, l2, l3, l4, l5, l6, l7, l8, l9, l10, l11, l12, l13, l14, l15, l16, l17, l18, l19, l20, l21, l22, l23, l24, l25, l26, l27, l28, l29, l30, .val (.int v), l32, l33, l34, l35, l36, l37, l38, l39, l40, l41] (.int v :: st) H Q := w_x at_448 rfl
theorem m40_450 : M40 450 [l0, l1, l2, l3, l4, l5, l6, l7, l8, l9, l10, l11, l12, l13, l14, l15, l16, l17, l18, l19, l20, l21, l22, l23, l24, l25, l26, l27, l28, l29, l30, l31, l32, l33, l34, l35, l36, l37, .val (.int v), l39, l40, l41] st H Q = M40 452 [l0, l1, l2, l3, l4, l5, l6, l7, l8, l9, l10, l11, l12, l13, l14, l15, l16, l17, l18, l19, l20, l21, l22, l23, l24, l25, l26, l27, l28, l29, l30, l31, l32, l33, l34, l35, l36, l37, .val (.int v), l39, l40, l41] (.int v :: st) H Q := w_x at_450 rfl
theorem m40_452 : M40 452 [l0, l1, l2, l3, l4, l5, l6, l7, l8, l9, l10, l11, l12, l13, l14, l15, l16, l17, l18, l19, l20, l21, l22, l23, l24, l25, l26, l27, l28, l29, l30, l31, l32, l33, .val (.int v), l35, l36, l37, l38, l39, l40, l41] st H Q = M40 454 [l0, l1, l2, l3, l4, l5, l6, l7, l8, l9, l10, l11, l12, l13, l14, l15, l16, l17, l18, l19, l20, l21, l22, l23, l24, l25, l26, l27, l28, l29, l30, l31, l32, l33, .val (.int v), l35, l36, l37, l38, l39, l40, l41] (.int v :: st) H Q := w_x at_452 rfl
theorem m40_454 : M40 454 ls (.int y :: .int x :: st) H Q = M40 455 ls (.int (x <<< (y &&& 31)) :: st) H Q := w_x at_454 rfl
theorem m40_455 : M40 455 ls (.int y :: .int x :: st) H Q = M40 456 ls (.int (x ||| y) :: st) H Q := w_x at_455 rfl
theorem m40_456i : M40 456 [l0, l1, l2, l3, l4, l5, l6, l7, l8, l9, l10, l11, l12, l13, l14, l15, l16, l17, l18, l19, l20, l21, l22, l23, l24, l25, l26, l27, l28, l29, l30, .val (.int z), l32, l33, l34, l35, l36, l37, l38, l39, l40, l41] ((.int v) :: st) H Q = M40 458 [l0, l1, l2, l3, l4, l5, l6, l7, l8, l9, l10, l11, l12, l13, l14, l15, l16, l17, l18, l19, l20, l21, l22, l23, l24, l25, l26, l27, l28, l29, l30, .val (.int v), l32, l33, l34, l35, l36, l37, l38, l39, l40, l41] st H Q := w_st (i := 31) (p := isI) at_456 rfl rfl rfl rfl rfl rfl
theorem m40_458 : M40 458 [l0, l1, l2, l3, l4, l5, l6, l7, l8, l9, l10, l11, l12, l13, l14, l15, l16, l17, l18, l19, l20, l21, l22, l23, l24, l25, l26, l27, l28, l29, l30, l31, l32, .val (.int v), l34, l35, l36, l37, l38, l39, l40, l41] st H Q = M40 461 [l0, l1, l2, l3, l4, l5, l6, l7, l8, l9, l10, l11, l12, l13, l14, l15, l16, l17, l18, l19, l20, l21, l22, l23, l24, l25, l26, l27, l28, l29, l30, l31, l32, .val (.int (v + 1)), l34, l35, l36, l37, l38, l39, l40, l41] st H Q := w_iinc at_458 rfl (by decide) rfl
theorem m40_461 : M40 461 ls st H Q = M40 353 ls st H Q := w_x at_461 rfl
theorem m40_464 : M40 464 [l0, l1, l2, l3, l4, l5, l6, l7, l8, l9, l10, l11, l12, l13, l14, l15, l16, l17, l18, l19, l20, l21, l22, l23, l24, l25, l26, l27, l28, l29, l30, l31, .val (.int v), l33, l34, l35, l36, l37, l38, l39, l40, l41] st H Q = M40 467 [l0, l1, l2, l3, l4, l5, l6, l7, l8, l9, l10, l11, l12, l13, l14, l15, l16, l17, l18, l19, l20, l21, l22, l23, l24, l25, l26, l27, l28, l29, l30, l31, .val (.int (v + 1)), l33, l34, l35, l36, l37, l38, l39, l40, l41] st H Q := w_iinc at_464 rfl (by decide) rfl
theorem m40_467 : M40 467 ls st H Q = M40 344 ls st H Q := w_x at_467 rfl
theorem m40_470 : M40 470 [l0, .val (.int v), l2, l3, l4, l5, l6, l7, l8, l9, l10, l11, l12, l13, l14, l15, l16, l17, l18, l19, l20, l21, l22, l23, l24, l25, l26, l27, l28, l29, l30, l31, l32, l33, l34, l35, l36, l37, l38, l39, l40, l41] st H Q = M40 471 [l0, .val (.int v), l2, l3, l4, l5, l6, l7, l8, l9, l10, l11, l12, l13, l14, l15, l16, l17, l18, l19, l20, l21, l22, l23, l24, l25, l26, l27, l28, l29, l30, l31, l32, l33, l34, l35, l36, l37, l38, l39, l40, l41] (.int v :: st) H Q := w_x at_470 rfl
theorem m40_471 : M40 471 ls st H Q = M40 472 ls (.int 1 :: st) H Q := w_con at_471 rfl (by decide)
theorem m40_472 : M40 472 ls (.int y :: .int x :: st) H Q = M40 473 ls (.int (x &&& y) :: st) H Q := w_x at_472 rfl
theorem m40_473i : M40 473 [l0, l1, l2, l3, l4, l5, l6, l7, l8, l9, l10, l11, l12, l13, l14, l15, l16, l17, l18, l19, l20, l21, l22, l23, l24, l25, l26, l27, l28, l29, l30, l31, .val (.int z), l33, l34, l35, l36, l37, l38, l39, l40, l41] ((.int v) :: st) H Q = M40 475 [l0, l1, l2, l3, l4, l5, l6, l7, l8, l9, l10, l11, l12, l13, l14, l15, l16, l17, l18, l19, l20, l21, l22, l23, l24, l25, l26, l27, l28, l29, l30, l31, .val (.int v), l33, l34, l35, l36, l37, l38, l39, l40, l41] st H Q := w_st (i := 32) (p := isI) at_473 rfl rfl rfl rfl rfl rfl
theorem m40_475 : M40 475 [l0, .val (.int v), l2, l3, l4, l5, l6, l7, l8, l9, l10, l11, l12, l13, l14, l15, l16, l17, l18, l19, l20, l21, l22, l23, l24, l25, l26, l27, l28, l29, l30, l31, l32, l33, l34, l35, l36, l37, l38, l39, l40, l41] st H Q = M40 476 [l0, .val (.int v), l2, l3, l4, l5, l6, l7, l8, l9, l10, l11, l12, l13, l14, l15, l16, l17, l18, l19, l20, l21, l22, l23, l24, l25, l26, l27, l28, l29, l30, l31, l32, l33, l34, l35, l36, l37, l38, l39, l40, l41] (.int v :: st) H Q := w_x at_475 rfl
theorem m40_476 : M40 476 ls st H Q = M40 477 ls (.int 1 :: st) H Q := w_con at_476 rfl (by decide)
theorem m40_477 : M40 477 ls (.int y :: .int x :: st) H Q = M40 478 ls (.int (XT.ushr x y) :: st) H Q := w_x at_477 rfl
theorem m40_478 : M40 478 ls st H Q = M40 479 ls (.int 1 :: st) H Q := w_con at_478 rfl (by decide)
theorem m40_479 : M40 479 ls (.int y :: .int x :: st) H Q = M40 480 ls (.int (x &&& y) :: st) H Q := w_x at_479 rfl
theorem m40_480u : M40 480 [l0, l1, l2, l3, l4, l5, l6, l7, l8, l9, l10, l11, l12, l13, l14, l15, l16, l17, l18, l19, l20, l21, l22, l23, l24, l25, l26, l27, l28, l29, l30, l31, l32, .unset, l34, l35, l36, l37, l38, l39, l40, l41] ((.int v) :: st) H Q = M40 482 [l0, l1, l2, l3, l4, l5, l6, l7, l8, l9, l10, l11, l12, l13, l14, l15, l16, l17, l18, l19, l20, l21, l22, l23, l24, l25, l26, l27, l28, l29, l30, l31, l32, .val (.int v), l34, l35, l36, l37, l38, l39, l40, l41] st H Q := w_st (i := 33) (p := isI) at_480 rfl rfl rfl rfl rfl rfl
theorem m40_480i : M40 480 [l0, l1, l2, l3, l4, l5, l6, l7, l8, l9, l10, l11, l12, l13, l14, l15, l16, l17, l18, l19, l20, l21, l22, l23, l24, l25, l26, l27, l28, l29, l30, l31, l32, .val (.int z), l34, l35, l36, l37, l38, l39, l40, l41] ((.int v) :: st) H Q = M40 482 [l0, l1, l2, l3, l4, l5, l6, l7, l8, l9, l10, l11, l12, l13, l14, l15, l16, l17, l18, l19, l20, l21, l22, l23, l24, l25, l26, l27, l28, l29, l30, l31, l32, .val (.int v), l34, l35, l36, l37, l38, l39, l40, l41] st H Q := w_st (i := 33) (p := isI) at_480 rfl rfl rfl rfl rfl rfl
theorem m40_480r : M40 480 [l0, l1, l2, l3, l4, l5, l6, l7, l8, l9, l10, l11, l12, l13, l14, l15, l16, l17, l18, l19, l20, l21, l22, l23, l24, l25, l26, l27, l28, l29, l30, l31, l32, .val (.ref q), l34, l35, l36, l37, l38, l39, l40, l41] ((.int v) :: st) H Q = M40 482 [l0, l1, l2, l3, l4, l5, l6, l7, l8, l9, l10, l11, l12, l13, l14, l15, l16, l17, l18, l19, l20, l21, l22, l23, l24, l25, l26, l27, l28, l29, l30, l31, l32, .val (.int v), l34, l35, l36, l37, l38, l39, l40, l41] st H Q := w_st (i := 33) (p := isI) at_480 rfl rfl rfl rfl rfl rfl
theorem m40_482 : M40 482 [l0, .val (.int v), l2, l3, l4, l5, l6, l7, l8, l9, l10, l11, l12, l13, l14, l15, l16, l17, l18, l19, l20, l21, l22, l23, l24, l25, l26, l27, l28, l29, l30, l31, l32, l33, l34, l35, l36, l37, l38, l39, l40, l41] st H Q = M40 483 [l0, .val (.int v), l2, l3, l4, l5, l6, l7, l8, l9, l10, l11, l12, l13, l14, l15, l16, l17, l18, l19, l20, l21, l22, l23, l24, l25, l26, l27, l28, l29, l30, l31, l32, l33, l34, l35, l36, l37, l38, l39, l40, l41] (.int v :: st) H Q := w_x at_482 rfl
theorem m40_483 : M40 483 ls st H Q = M40 484 ls (.int 2 :: st) H Q := w_con at_483 rfl (by decide)
theorem m40_484 : M40 484 ls (.int y :: .int x :: st) H Q = M40 485 ls (.int (XT.ushr x y) :: st) H Q := w_x at_484 rfl
theorem m40_485 : M40 485 ls st H Q = M40 486 ls (.int 1 :: st) H Q := w_con at_485 rfl (by decide)
theorem m40_486 : M40 486 ls (.int y :: .int x :: st) H Q = M40 487 ls (.int (x &&& y) :: st) H Q := w_x at_486 rfl
theorem m40_487u : M40 487 [l0, l1, l2, l3, l4, l5, l6, l7, l8, l9, l10, l11, l12, l13, l14, l15, l16, l17, l18, l19, l20, l21, l22, l23, l24, l25, l26, l27, l28, l29, l30, l31, l32, l33, .unset, l35, l36, l37, l38, l39, l40, l41] ((.int v) :: st) H Q = M40 489 [l0, l1, l2, l3, l4, l5, l6, l7, l8, l9, l10, l11, l12, l13, l14, l15, l16, l17, l18, l19, l20, l21, l22, l23, l24, l25, l26, l27, l28, l29, l30, l31, l32, l33, .val (.int v), l35, l36, l37, l38, l39, l40, l41] st H Q := w_st (i := 34) (p := isI) at_487 rfl rfl rfl rfl rfl rfl
theorem m40_487i : M40 487 [l0, l1, l2, l3, l4, l5, l6, l7, l8, l9, l10, l11, l12, l13, l14, l15, l16, l17, l18, l19, l20, l21, l22, l23, l24, l25, l26, l27, l28, l29, l30, l31, l32, l33, .val (.int z), l35, l36, l37, l38, l39, l40, l41] ((.int v) :: st) H Q = M40 489 [l0, l1, l2, l3, l4, l5, l6, l7, l8, l9, l10, l11, l12, l13, l14, l15, l16, l17, l18, l19, l20, l21, l22, l23, l24, l25, l26, l27, l28, l29, l30, l31, l32, l33, .val (.int v), l35, l36, l37, l38, l39, l40, l41] st H Q := w_st (i := 34) (p := isI) at_487 rfl rfl rfl rfl rfl rfl
theorem m40_487r : M40 487 [l0, l1, l2, l3, l4, l5, l6, l7, l8, l9, l10, l11, l12, l13, l14, l15, l16, l17, l18, l19, l20, l21, l22, l23, l24, l25, l26, l27, l28, l29, l30, l31, l32, l33, .val (.ref q), l35, l36, l37, l38, l39, l40, l41] ((.int v) :: st) H Q = M40 489 [l0, l1, l2, l3, l4, l5, l6, l7, l8, l9, l10, l11, l12, l13, l14, l15, l16, l17, l18, l19, l20, l21, l22, l23, l24, l25, l26, l27, l28, l29, l30, l31, l32, l33, .val (.int v), l35, l36, l37, l38, l39, l40, l41] st H Q := w_st (i := 34) (p := isI) at_487 rfl rfl rfl rfl rfl rfl
theorem m40_489 : M40 489 [l0, .val (.int v), l2, l3, l4, l5, l6, l7, l8, l9, l10, l11, l12, l13, l14, l15, l16, l17, l18, l19, l20, l21, l22, l23, l24, l25, l26, l27, l28, l29, l30, l31, l32, l33, l34, l35, l36, l37, l38, l39, l40, l41] st H Q = M40 490 [l0, .val (.int v), l2, l3, l4, l5, l6, l7, l8, l9, l10, l11, l12, l13, l14, l15, l16, l17, l18, l19, l20, l21, l22, l23, l24, l25, l26, l27, l28, l29, l30, l31, l32, l33, l34, l35, l36, l37, l38, l39, l40, l41] (.int v :: st) H Q := w_x at_489 rfl
theorem m40_490 : M40 490 ls st H Q = M40 491 ls (.int 3 :: st) H Q := w_con at_490 rfl (by decide)
theorem m40_491 : M40 491 ls (.int y :: .int x :: st) H Q = M40 492 ls (.int (XT.ushr x y) :: st) H Q := w_x at_491 rfl
theorem m40_492 : M40 492 ls st H Q = M40 493 ls (.int 1 :: st) H Q := w_con at_492 rfl (by decide)
theorem m40_493 : M40 493 ls (.int y :: .int x :: st) H Q = M40 494 ls (.int (x &&& y) :: st) H Q := w_x at_493 rfl
theorem m40_494u : M40 494 [l0, l1, l2, l3, l4, l5, l6, l7, l8, l9, l10, l11, l12, l13, l14, l15, l16, l17, l18, l19, l20, l21, l22, l23, l24, l25, l26, l27, l28, l29, l30, l31, l32, l33, l34, .unset, l36, l37, l38, l39, l40, l41] ((.int v) :: st) H Q = M40 496 [l0, l1, l2, l3, l4, l5, l6, l7, l8, l9, l10, l11, l12, l13, l14, l15, l16, l17, l18, l19, l20, l21, l22, l23, l24, l25, l26, l27, l28, l29, l30, l31, l32, l33, l34, .val (.int v), l36, l37, l38, l39, l40, l41] st H Q := w_st (i := 35) (p := isI) at_494 rfl rfl rfl rfl rfl rfl
theorem m40_494i : M40 494 [l0, l1, l2, l3, l4, l5, l6, l7, l8, l9, l10, l11, l12, l13, l14, l15, l16, l17, l18, l19, l20, l21, l22, l23, l24, l25, l26, l27, l28, l29, l30, l31, l32, l33, l34, .val (.int z), l36, l37, l38, l39, l40, l41] ((.int v) :: st) H Q = M40 496 [l0, l1, l2, l3, l4, l5, l6, l7, l8, l9, l10, l11, l12, l13, l14, l15, l16, l17, l18, l19, l20, l21, l22, l23, l24, l25, l26, l27, l28, l29, l30, l31, l32, l33, l34, .val (.int v), l36, l37, l38, l39, l40, l41] st H Q := w_st (i := 35) (p := isI) at_494 rfl rfl rfl rfl rfl rfl
theorem m40_494r : M40 494 [l0, l1, l2, l3, l4, l5, l6, l7, l8, l9, l10, l11, l12, l13, l14, l15, l16, l17, l18, l19, l20, l21, l22, l23, l24, l25, l26, l27, l28, l29, l30, l31, l32, l33, l34, .val (.ref q), l36, l37, l38, l39, l40, l41] ((.int v) :: st) H Q = M40 496 [l0, l1, l2, l3, l4, l5, l6, l7, l8, l9, l10, l11, l12, l13, l14, l15, l16, l17, l18, l19, l20, l21, l22, l23, l24, l25, l26, l27, l28, l29, l30, l31, l32, l33, l34, .val (.int v), l36, l37, l38, l39, l40, l41] st H Q := w_st (i := 35) (p := isI) at_494 rfl rfl rfl rfl rfl rfl
theorem m40_496 : M40 496 [l0, .val (.int v), l2, l3, l4, l5, l6, l7, l8, l9, l10, l11, l12, l13, l14, l15, l16, l17, l18, l19, l20, l21, l22, l23, l24, l25, l26, l27, l28, l29, l30, l31, l32, l33, l34, l35, l36, l37, l38, l39, l40, l41] st H Q = M40 497 [l0, .val (.int v), l2, l3, l4, l5, l6, l7, l8, l9, l10, l11, l12, l13, l14, l15, l16, l17, l18, l19, l20, l21, l22, l23, l24, l25, l26, l27, l28, l29, l30, l31, l32, l33, l34, l35, l36, l37, l38, l39, l40, l41] (.int v :: st) H Q := w_x at_496 rfl
theorem m40_497 : M40 497 ls st H Q = M40 498 ls (.int 4 :: st) H Q := w_con at_497 rfl (by decide)
theorem m40_498 : M40 498 ls (.int y :: .int x :: st) H Q = M40 499 ls (.int (XT.ushr x y) :: st) H Q := w_x at_498 rfl
theorem m40_499 : M40 499 ls st H Q = M40 500 ls (.int 1 :: st) H Q := w_con at_499 rfl (by decide)
theorem m40_500 : M40 500 ls (.int y :: .int x :: st) H Q = M40 501 ls (.int (x &&& y) :: st) H Q := w_x at_500 rfl
theorem m40_501u : M40 501 [l0, l1, l2, l3, l4, l5, l6, l7, l8, l9, l10, l11, l12, l13, l14, l15, l16, l17, l18, l19, l20, l21, l22, l23, l24, l25, l26, l27, l28, l29, l30, l31, l32, l33, l34, l35, .unset, l37, l38, l39, l40, l41] ((.int v) :: st) H Q = M40 503 [l0, l1, l2, l3, l4, l5, l6, l7, l8, l9, l10, l11, l12, l13, l14, l15, l16, l17, l18, l19, l20, l21, l22, l23, l24, l25, l26, l27, l28, l29, l30, l31, l32, l33, l34, l35, .val (.int v), l37, l38, l39, l40, l41] st H Q := w_st (i := 36) (p := isI) at_501 rfl rfl rfl rfl rfl rfl
theorem m40_501i : M40 501 [l0, l1, l2, l3, l4, l5, l6, l7, l8, l9, l10, l11, l12, l13, l14, l15, l16, l17, l18, l19, l20, l21, l22, l23, l24, l25, l26, l27, l28, l29, l30, l31, l32, l33, l34, l35, .val (.int z), l37, l38, l39, l40, l41] ((.int v) :: st) H Q = M40 503 [l0, l1, l2, l3, l4, l5, l6, l7, l8, l9, l10, l11, l12, l13, l14, l15, l16, l17, l18, l19, l20, l21, l22, l23, l24, l25, l26, l27, l28, l29, l30, l31, l32, l33, l34, l35, .val (.int v), l37, l38, l39, l40, l41] st H Q := w_st (i := 36) (p := isI) at_501 rfl rfl rfl rfl rfl rfl
theorem m40_501r : M40 501 [l0, l1, l2, l3, l4, l5, l6, l7, l8, l9, l10, l11, l12, l13, l14, l15, l16, l17, l18, l19, l20, l21, l22, l23, l24, l25, l26, l27, l28, l29, l30, l31, l32, l33, l34, l35, .val (.ref q), l37, l38, l39, l40, l41] ((.int v) :: st) H Q = M40 503 [l0, l1, l2, l3, l4, l5, l6, l7, l8, l9, l10, l11, l12, l13, l14, l15, l16, l17, l18, l19, l20, l21, l22, l23, l24, l25, l26, l27, l28, l29, l30, l31, l32, l33, l34, l35, .val (.int v), l37, l38, l39, l40, l41] st H Q := w_st (i := 36) (p := isI) at_501 rfl rfl rfl rfl rfl rfl
theorem m40_503 : M40 503 [l0, l1, l2, l3, l4, l5, l6, l7, l8, l9, l10, l11, l12, l13, l14, l15, l16, l17, l18, l19, l20, l21, l22, l23, l24, l25, l26, l27, l28, l29, l30, l31, .val (.int v), l33, l34, l35, l36, l37, l38, l39, l40, l41] st H Q = M40 505 [l0, l1, l2, l3, l4, l5, l6, l7, l8, l9, l10, l11, l12, l13, l14, l15, l16, l17, l18, l19, l20, l21, l22, l23, l24, l25, l26, l27, l28, l29, l30, l31, .val (.int v), l33, l34, l35, l36, l37, l38, l39, l40, l41] (.int v :: st) H Q := w_x at_503 rfl
theorem m40_505 : M40 505 [l0, l1, .val (.int v), l3, l4, l5, l6, l7, l8, l9, l10, l11, l12, l13, l14, l15, l16, l17, l18, l19, l20, l21, l22, l23, l24, l25, l26, l27, l28, l29, l30, l31, l32, l33, l34, l35, l36, l37, l38, l39, l40, l41] st H Q = M40 506 [l0, l1, .val (.int v), l3, l4, l5, l6, l7, l8, l9, l10, l11, l12, l13, l14, l15, l16, l17, l18, l19, l20, l21, l22, l23, l24, l25, l26, l27, l28, l29, l30, l31, l32, l33, l34, l35, l36, l37, l38, l39, l40, l41] (.int v :: st) H Q := w_x at_505 rfl
theorem m40_506 : M40 506 ls (.int y :: .int x :: st) H Q = M40 507 ls (.int (x ^^^ y) :: st) H Q := w_x at_506 rfl
theorem m40_507 : M40 507 [l0, l1, l2, l3, l4, l5, l6, l7, l8, l9, l10, l11, l12, l13, l14, l15, l16, l17, l18, l19, l20, l21, l22, l23, l24, l25, l26, l27, l28, l29, l30, l31, l32, .val (.int v), l34, l35, l36, l37, l38, l39, l40, l41] st H Q = M40 509 [l0, l1, l2, l3, l4, l5, l6, l7, l8, l9, l10, l11, l12, l13, l14, l15, l16, l17, l18, l19, l20, l21, l22, l23, l24, l25, l26, l27, l28, l29, l30, l31, l32, .val (.int v), l34, l35, l36, l37, l38, l39, l40, l41] (.int v :: st) H Q := w_x at_507 rfl
theorem m40_509 : M40 509 [l0, l1, l2, .val (.int v), l4, l5, l6, l7, l8, l9, l10, l11, l12, l13, l14, l15, l16, l17, l18, l19, l20, l21, l22, l23, l24, l25, l26, l27, l28, l29, l30, l31, l32, l33, l34, l35, l36, l37, l38, l39, l40, l41] st H Q = M40 510 [l0, l1, l2, .val (.int v), l4, l5, l6, l7, l8, l9, l10, l11, l12, l13, l14, l15, l16, l17, l18, l19, l20, l21, l22, l23, l24, l25, l26, l27, l28, l29, l30, l31, l32, l33, l34, l35, l36, l37, l38, l39, l40, l41] (.int v :: st) H Q := w_x at_509 rfl
theorem m40_510 : M40 510 ls (.int y :: .int x :: st) H Q = M40 511 ls (.int (x ^^^ y) :: st) H Q := w_x at_510 rfl
theorem m40_511 : M40 511 ls (.int y :: .int x :: st) H Q = M40 512 ls (.int (x &&& y) :: st) H Q := w_x at_511 rfl
theorem m40_512u : M40 512 [l0, l1, l2, l3, l4, l5, l6, l7, l8, l9, l10, l11, l12, l13, l14, l15, l16, l17, l18, l19, l20, l21, l22, l23, l24, l25, l26, l27, l28, l29, l30, l31, l32, l33, l34, l35, l36, .unset, l38, l39, l40, l41] ((.int v) :: st) H Q = M40 514 [l0, l1, l2, l3, l4, l5, l6, l7, l8, l9, l10, l11, l12, l13, l14, l15, l16, l17, l18, l19, l20, l21, l22, l23, l24, l25, l26, l27, l28, l29, l30, l31, l32, l33, l34, l35, l36, .val (.int v), l38, l39, l40, l41] st H Q := w_st (i := 37) (p := isI) at_512 rfl rfl rfl rfl rfl rfl
theorem m40_512i : M40 512 [l0, l1, l2, l3, l4, l5, l6, l7, l8, l9, l10, l11, l12, l13, l14, l15, l16, l17, l18, l19, l20, l21, l22, l23, l24, l25, l26, l27, l28, l29, l30, l31, l32, l33, l34, l35, l36, .val (.int z), l38, l39, l40, l41] ((.int v) :: st) H Q = M40 514 [l0, l1, l2, l3, l4, l5, l6, l7, l8, l9, l10, l11, l12, l13, l14, l15, l16, l17, l18, l19, l20, l21, l22, l23, l24, l25, l26, l27, l28, l29, l30, l31, l32, l33, l34, l35, l36, .val (.int v), l38, l39, l40, l41] st H Q := w_st (i := 37) (p := isI) at_512 rfl rfl rfl rfl rfl rfl
theorem m40_512r : M40 512 [l0, l1, l2, l3, l4, l5, l6, l7, l8, l9, l10, l11, l12, l13, l14, l15, l16, l17, l18, l19, l20, l21, l22, l23, l24, l25, l26, l27, l28, l29, l30, l31, l32, l33, l34, l35, l36, .val (.ref q), l38, l39, l40, l41] ((.int v) :: st) H Q = M40 514 [l0, l1, l2, l3, l4, l5, l6, l7, l8, l9, l10, l11, l12, l13, l14, l15, l16, l17, l18, l19, l20, l21, l22, l23, l24, l25, l26, l27, l28, l29, l30, l31, l32, l33, l34, l35, l36, .val (.int v), l38, l39, l40, l41] st H Q := w_st (i := 37) (p := isI) at_512 rfl rfl rfl rfl rfl rfl
theorem m40_514 : M40 514 [l0, l1, l2, l3, l4, l5, l6, l7, l8, l9, l10, l11, l12, l13, l14, l15, l16, l17, l18, l19, l20, l21, l22, l23, l24, l25, l26, l27, l28, l29, l30, l31, l32, l33, .val (.int v), l35, l36, l37, l38, l39, l40, l41] st H Q = M40 516 [l0, l1, l2, l3, l4, l5, l6, l7, l8, l9, l10, l11, l12, l13, l14, l15, l16, l17, l18, l19, l20, l21, l22, l23, l24, l25, l26, l27, l28, l29, l30, l31, l32, l33, .val (.int v), l35, l36, l37, l38, l39, l40, l41] (.int v :: st) H Q := w_x at_514 rfl
theorem m40_516 : M40 516 [l0, l1, l2, l3, .val (.int v), l5, l6, l7, l8, l9, l10, l11, l12, l13, l14, l15, l16, l17, l18, l19, l20, l21, l22, l23, l24, l25, l26, l27, l28, l29, l30, l31, l32, l33, l34, l35, l36, l37, l38, l39, l40, l41] st H Q = M40 518 [l0, l1, l2, l3, .val (.int v), l5, l6, l7, l8, l9, l10, l11, l12, l13, l14, l15, l16, l17, l18, l19, l20, l21, l22, l23, l24, l25, l26, l27, l28, l29, l30, l31, l32, l33, l34, l35, l36, l37, l38, l39, l40, l41] (.int v :: st) H Q := w_x at_516 rfl
theorem m40_518 : M40 518 ls (.int y :: .int x :: st) H Q = M40 519 ls (.int (x ^^^ y) :: st) H Q := w_x at_518 rfl
theorem m40_519 : M40 519 [l0, l1, l2, l3, l4, l5, l6, l7, l8, l9, l10, l11, l12, l13, l14, l15, l16, l17, l18, l19, l20, l21, l22, l23, l24, l25, l26, l27, l28, l29, l30, l31, l32, l33, l34, .val (.int v), l36, l37, l38, l39, l40, l41] st H Q = M40 521 [l0, l1, l2, l3, l4, l5, l6, l7, l8, l9, l10, l11, l12, l13, l14, l15, l16, l17, l18, l19, l20, l21, l22, l23, l24, l25, l26, l27, l28, l29, l30, l31, l32, l33, l34, .val (.int v), l36, l37, l38, l39, l40, l41] (.int v :: st) H Q := w_x at_519 rfl
theorem m40_521 : M40 521 [l0, l1, l2, l3, l4, .val (.int v), l6, l7, l8, l9, l10, l11, l12, l13, l14, l15, l16, l17, l18, l19, l20, l21, l22, l23, l24, l25, l26, l27, l28, l29, l30, l31, l32, l33, l34, l35, l36, l37, l38, l39, l40, l41] st H Q = M40 523 [l0, l1, l2, l3, l4, .val (.int v), l6, l7, l8, l9, l10, l11, l12, l13, l14, l15, l16, l17, l18, l19, l20, l21, l22, l23, l24, l25, l26, l27, l28, l29, l30, l31, l32, l33, l34, l35, l36, l37, l38, l39, l40, l41] (.int v :: st) H Q := w_x at_521 rfl
theorem m40_523 : M40 523 ls (.int y :: .int x :: st) H Q = M40 524 ls (.int (x ^^^ y) :: st) H Q := w_x at_523 rfl
theorem m40_524 : M40 524 ls (.int y :: .int x :: st) H Q = M40 525 ls (.int (x &&& y) :: st) H Q := w_x at_524 rfl
theorem m40_525u : M40 525 [l0, l1, l2, l3, l4, l5, l6, l7, l8, l9, l10, l11, l12, l13, l14, l15, l16, l17, l18, l19, l20, l21, l22, l23, l24, l25, l26, l27, l28, l29, l30, l31, l32, l33, l34, l35, l36, l37, .unset, l39, l40, l41] ((.int v) :: st) H Q = M40 527 [l0, l1, l2, l3, l4, l5, l6, l7, l8, l9, l10, l11, l12, l13, l14, l15, l16, l17, l18, l19, l20, l21, l22, l23, l24, l25, l26, l27, l28, l29, l30, l31, l32, l33, l34, l35, l36, l37, .val (.int v), l39, l40, l41] st H Q := w_st (i := 38) (p := isI) at_525 rfl rfl rfl rfl rfl rfl
theorem m40_525i : M40 525 [l0, l1, l2, l3, l4, l5, l6, l7, l8, l9, l10, l11, l12, l13, l14, l15, l16, l17, l18, l19, l20, l21, l22, l23, l24, l25, l26, l27, l28, l29, l30, l31, l32, l33, l34, l35, l36, l37, .val (.int z), l39, l40, l41] ((.int v) :: st) H Q = M40 527 [l0, l1, l2, l3, l4, l5, l6, l7, l8, l9, l10, l11, l12, l13, l14, l15, l16, l17, l18, l19, l20, l21, l22, l23, l24, l25, l26, l27, l28, l29, l30, l31, l32, l33, l34, l35, l36, l37, .val (.int v), l39, l40, l41] st H Q := w_st (i := 38) (p := isI) at_525 rfl rfl rfl rfl rfl rfl
theorem m40_525r : M40 525 [l0, l1, l2, l3, l4, l5, l6, l7, l8, l9, l10, l11, l12, l13, l14, l15, l16, l17, l18, l19, l20, l21, l22, l23, l24, l25, l26, l27, l28, l29, l30, l31, l32, l33, l34, l35, l36, l37, .val (.ref q), l39, l40, l41] ((.int v) :: st) H Q = M40 527 [l0, l1, l2, l3, l4, l5, l6, l7, l8, l9, l10, l11, l12, l13, l14, l15, l16, l17, l18, l19, l20, l21, l22, l23, l24, l25, l26, l27, l28, l29, l30, l31, l32, l33, l34, l35, l36, l37, .val (.int v), l39, l40, l41] st H Q := w_st (i := 38) (p := isI) at_525 rfl rfl rfl rfl rfl rfl
theorem m40_527 : M40 527 [l0, l1, l2, l3, l4, l5, l6, l7, l8, l9, l10, l11, l12, l13, l14, l15, l16, l17, l18, l19, l20, l21, l22, l23, l24, l25, l26, l27, l28, l29, l30, l31, l32, l33, l34, l35, l36, .val (.int v), l38, l39, l40, l41] st H Q = M40 529 [l0, l1, l2, l3, l4, l5, l6, l7, l8, l9, l10, l11, l12, l13, l14, l15, l16, l17, l18, l19, l20, l21, l22, l23, l24, l25, l26, l27, l28, l29, l30, l31, l32, l33, l34, l35, l36, .val (.int v), l38, l39, l40, l41] (.int v :: st) H Q := w_x at_527 rfl
theorem m40_529 : M40 529 [l0, l1, l2, l3, l4, l5, .val (.int v), l7, l8, l9, l10, l11, l12, l13, l14, l15, l16, l17, l18, l19, l20, l21, l22, l23, l24, l25, l26, l27, l28, l29, l30, l31, l32, l33, l34, l35, l36, l37, l38, l39, l40, l41] st H Q = M40 531 [l0, l1, l2, l3, l4, l5, .val (.int v), l7, l8, l9, l10, l11, l12, l13, l14, l15, l16, l17, l18, l19, l20, l21, l22, l23, l24, l25, l26, l27, l28, l29, l30, l31, l32, l33, l34, l35, l36, l37, l38, l39, l40, l41] (.int v :: st) H Q := w_x at_529 rfl
theorem m40_531 : M40 531 ls (.int y :: .int x :: st) H Q = M40 532 ls (.int (x ^^^ y) :: st) H Q := w_x at_531 rfl
theorem m40_532 : M40 532 [l0, l1, l2, l3, l4, l5, l6, l7, l8, l9, l10, l11, l12, l13, l14, l15, l16, l17, l18, l19, l20, l21, l22, l23, l24, l25, l26, l27, l28, l29, l30, l31, l32, l33, l34, l35, l36, l37, .val (.int v), l39, l40, l41] st H Q = M40 534 [l0, l1, l2, l3, l4, l5, l6, l7, l8, l9, l10, l11, l12, l13, l14, l15, l16, l17, l18, l19, l20, l21, l22, l23, l24, l25, l26, l27, l28, l29, l30, l31, l32, l33, l34, l35, l36, l37, .val (.int v), l39, l40, l41] (.int v :: st) H Q := w_x at_532 rfl
theorem m40_534 : M40 534 [l0, l1, l2, l3, l4, l5, l6, .val (.int v), l8, l9, l10, l11, l12, l13, l14, l15, l16, l17, l18, l19, l20, l21, l22, l23, l24, l25, l26, l27, l28, l29, l30, l31, l32, l33, l34, l35, l36, l37, l38, l39, l40, l41] st H Q = M40 536 [l0, l1, l2, l3, l4, l5, l6, .val (.int v), l8, l9, l10, l11, l12, l13, l14, l15, l16, l17, l18, l19, l20, l21, l22, l23, l24, l25, l26, l27, l28, l29, l30, l31, l32, l33, l34, l35, l36, l37, l38, l39, l40, l41] (.int v :: st) H Q := w_x at_534 rfl
theorem m40_536 : M40 536 ls (.int y :: .int x :: st) H Q = M40 537 ls (.int (x ^^^ y) :: st) H Q := w_x at_536 rfl
theorem m40_537 : M40 537 ls (.int y :: .int x :: st) H Q = M40 538 ls (.int (x &&& y) :: st) H Q := w_x at_537 rfl
theorem m40_538u : M40 538 [l0, l1, l2, l3, l4, l5, l6, l7, l8, l9, l10, l11, l12, l13, l14, l15, l16, l17, l18, l19, l20, l21, l22, l23, l24, l25, l26, l27, l28, l29, l30, l31, l32, l33, l34, l35, l36, l37, l38, .unset, l40, l41] ((.int v) :: st) H Q = M40 540 [l0, l1, l2, l3, l4, l5, l6, l7, l8, l9, l10, l11, l12, l13, l14, l15, l16, l17, l18, l19, l20, l21, l22, l23, l24, l25, l26, l27, l28, l29, l30, l31, l32, l33, l34, l35, l36, l37, l38, .val (.int v), l40, l41] st H Q := w_st (i := 39) (p := isI) at_538 rfl rfl rfl rfl rfl rfl
theorem m40_540 : M40 540 [l0, l1, l2, l3, l4, l5, l6, l7, l8, l9, l10, l11, l12, l13, l14, l15, l16, l17, l18, l19, l20, l21, l22, l23, l24, l25, l26, l27, l28, l29, l30, l31, l32, l33, l34, l35, l36, l37, l38, .val (.int v), l40, l41] st H Q = M40 542 [l0, l1, l2, l3, l4, l5, l6, l7, l8, l9, l10, l11, l12, l13, l14, l15, l16, l17, l18, l19, l20, l21, l22, l23, l24, l25, l26, l27, l28, l29, l30, l31, l32, l33, l34, l35, l36, l37, l38, .val (.int v), l40, l41] (.int v :: st) H Q := w_x at_540 rfl
theorem m40_542 : M40 542 [l0, l1, l2, l3, l4, l5, l6, l7, .val (.int v), l9, l10, l11, l12, l13, l14, l15, l16, l17, l18, l19, l20, l21, l22, l23, l24, l25, l26, l27, l28, l29, l30, l31, l32, l33, l34, l35, l36, l37, l38, l39, l40, l41] st H Q = M40 544 [l0, l1, l2, l3, l4, l5, l6, l7, .val (.int v), l9, l10, l11, l12, l13, l14, l15, l16, l17, l18, l19, l20, l21, l22, l23, l24, l25, l26, l27, l28, l29, l30, l31, l32, l33, l34, l35, l36, l37, l38, l39, l40, l41] (.int v :: st) H Q := w_x at_542 rfl
theorem m40_544 : M40 544 ls (.int y :: .int x :: st) H Q = M40 545 ls (.int (x ^^^ y) :: st) H Q := w_x at_544 rfl
theorem m40_545 : M40 545 [l0, l1, l2, l3, l4, l5, l6, l7, l8, l9, l10, l11, l12, l13, l14, l15, l16, l17, l18, l19, l20, l21, l22, l23, l24, l25, l26, l27, l28, l29, l30, l31, l32, l33, l34, l35, .val (.int v), l37, l38, l39, l40, l41] st H Q = M40 547 [l0, l1, l2, l3, l4, l5, l6, l7, l8, l9, l10, l11, l12, l13, l14, l15, l16, l17, l18, l19, l20, l21, l22, l23, l24, l25, l26, l27, l28, l29, l30, l31, l32, l33, l34, l35, .val (.int v), l37, l38, l39, l40, l41] (.int v :: st) H Q := w_x at_545 rfl
theorem m40_547 : M40 547 [l0, l1, l2, l3, l4, l5, l6, l7, l8, .val (.int v), l10, l11, l12, l13, l14, l15, l16, l17, l18, l19, l20, l21, l22, l23, l24, l25, l26, l27, l28, l29, l30, l31, l32, l33, l34, l35, l36, l37, l38, l39, l40, l41] st H Q = M40 549 [l0, l1, l2, l3, l4, l5, l6, l7, l8, .val (.int v), l10, l11, l12, l13, l14, l15, l16, l17, l18, l19, l20, l21, l22, l23, l24, l25, l26, l27, l28, l29, l30, l31, l32, l33, l34, l35, l36, l37, l38, l39, l40, l41] (.int v :: st) H Q := w_x at_547 rfl
theorem m40_549 : M40 549 ls (.int y :: .int x :: st) H Q = M40 550 ls (.int (x ^^^ y) :: st) H Q := w_x at_549 rfl
theorem m40_550 : M40 550 ls (.int y :: .int x :: st) H Q = M40 551 ls (.int (x &&& y) :: st) H Q := w_x at_550 rfl
theorem m40_551u : M40 551 [l0, l1, l2, l3, l4, l5, l6, l7, l8, l9, l10, l11, l12, l13, l14, l15, l16, l17, l18, l19, l20, l21, l22, l23, l24, l25, l26, l27, l28, l29, l30, l31, l32, l33, l34, l35, l36, l37, l38, l39, .unset, l41] ((.int v) :: st) H Q = M40 553 [l0, l1, l2, l3, l4, l5, l6, l7, l8, l9, l10, l11, l12, l13, l14, l15, l16, l17, l18, l19, l20, l21, l22, l23, l24, l25, l26, l27, l28, l29, l30, l31, l32, l33, l34, l35, l36, l37, l38, l39, .val (.int v), l41] st H Q := w_st (i := 40) (p := isI) at_551 rfl rfl rfl rfl rfl rfl
theorem m40_553 : M40 553 [l0, l1, l2, l3, l4, l5, l6, l7, l8, l9, l10, l11, l12, l13, l14, l15, l16, l17, l18, l19, l20, l21, l22, l23, l24, l25, l26, l27, l28, l29, l30, l31, l32, l33, l34, l35, l36, l37, l38, .val (.int v), l40, l41] st H Q = M40 555 [l0, l1, l2, l3, l4, l5, l6, l7, l8, l9, l10, l11, l12, l13, l14, l15, l16, l17, l18, l19, l20, l21, l22, l23, l24, l25, l26, l27, l28, l29, l30, l31, l32, l33, l34, l35, l36, l37, l38, .val (.int v), l40, l41] (.int v :: st) H Q := w_x at_553 rfl
theorem m40_555 : M40 555 [l0, l1, l2, l3, l4, l5, l6, l7, l8, l9, .val (.int v), l11, l12, l13, l14, l15, l16, l17, l18, l19, l20, l21, l22, l23, l24, l25, l26, l27, l28, l29, l30, l31, l32, l33, l34, l35, l36, l37, l38, l39, l40, l41] st H Q = M40 557 [l0, l1, l2, l3, l4, l5, l6, l7, l8, l9, .val (.int v), l11, l12, l13, l14, l15, l16, l17, l18, l19, l20, l21, l22, l23, l24, l25, l26, l27, l28, l29, l30, l31, l32, l33, l34, l35, l36, l37, l38, l39, l40, l41] (.int v :: st) H Q := w_x at_555 rfl
theorem m40_557 : M40 557 ls (.int y :: .int x :: st) H Q = M40 558 ls (.int (x ^^^ y) :: st) H Q := w_x at_557 rfl
theorem m40_558 : M40 558 [l0, l1, l2, l3, l4, l5, l6, l7, l8, l9, l10, l11, l12, l13, l14, l15, l16, l17, l18, l19, l20, l21, l22, l23, l24, l25, l26, l27, l28, l29, l30, l31, l32, l33, l34, l35, l36, l37, l38, l39, .val (.int v), l41] st H Q = M40 560 [l0, l1, l2, l3, l4, l5, l6, l7, l8, l9, l10, l11, l12, l13, l14, l15, l16, l17, l18, l19, l20, l21, l22, l23, l24, l25, l26, l27, l28, l29, l30, l31, l32, l33, l34, l35, l36, l37, l38, l39, .val (.int v), l41] (.int v :: st) H Q := w_x at_558 rfl
theorem m40_560 : M40 560 [l0, l1, l2, l3, l4, l5, l6, l7, l8, l9, l10, .val (.int v), l12, l13, l14, l15, l16, l17, l18, l19, l20, l21, l22, l23, l24, l25, l26, l27, l28, l29, l30, l31, l32, l33, l34, l35, l36, l37, l38, l39, l40, l41] st H Q = M40 562 [l0, l1, l2, l3, l4, l5, l6, l7, l8, l9, l10, .val (.int v), l12, l13, l14, l15, l16, l17, l18, l19, l20, l21, l22, l23, l24, l25, l26, l27, l28, l29, l30, l31, l32, l33, l34, l35, l36, l37, l38, l39, l40, l41] (.int v :: st) H Q := w_x at_560 rfl
theorem m40_562 : M40 562 ls (.int y :: .int x :: st) H Q = M40 563 ls (.int (x ^^^ y) :: st) H Q := w_x at_562 rfl
theorem m40_563 : M40 563 ls st H Q = M40 564 ls (.int 1 :: st) H Q := w_con at_563 rfl (by decide)
theorem m40_564 : M40 564 ls (.int y :: .int x :: st) H Q = M40 565 ls (.int (x <<< (y &&& 31)) :: st) H Q := w_x at_564 rfl
theorem m40_565 : M40 565 ls (.int y :: .int x :: st) H Q = M40 566 ls (.int (x ||| y) :: st) H Q := w_x at_565 rfl
theorem m40_566u : M40 566 [l0, l1, l2, l3, l4, l5, l6, l7, l8, l9, l10, l11, l12, l13, l14, l15, l16, l17, l18, l19, l20, l21, l22, l23, l24, l25, l26, l27, l28, l29, l30, l31, l32, l33, l34, l35, l36, l37, l38, l39, l40, .unset] ((.int v) :: st) H Q = M40 568 [l0, l1, l2, l3, l4, l5, l6, l7, l8, l9, l10, l11, l12, l13, l14, l15, l16, l17, l18, l19, l20, l21, l22, l23, l24, l25, l26, l27, l28, l29, l30, l31, l32, l33, l34, l35, l36, l37, l38, l39, l40, .val (.int v)] st H Q := w_st (i := 41) (p := isI) at_566 rfl rfl rfl rfl rfl rfl
theorem m40_568 : M40 568 [l0, l1, l2, l3, l4, l5, l6, l7, l8, l9, l10, l11, l12, .val (.int v), l14, l15, l16, l17, l18, l19, l20, l21, l22, l23, l24, l25, l26, l27, l28, l29, l30, l31, l32, l33, l34, l35, l36, l37, l38, l39, l40, l41] st H Q = M40 570 [l0, l1, l2, l3, l4, l5, l6, l7, l8, l9, l10, l11, l12, .val (.int v), l14, l15, l16, l17, l18, l19, l20, l21, l22, l23, l24, l25, l26, l27, l28, l29, l30, l31, l32, l33, l34, l35, l36, l37, l38, l39, l40, l41] (.int v :: st) H Q := w_x at_568 rfl
theorem m40_570 : M40 570 ls (.int x :: st) H Q = if x = 0 then M40 641 ls st H Q else M40 573 ls st H Q := w_if at_570 (z_eq x) rfl
theorem m40_573 : M40 573 [l0, l1, l2, l3, l4, l5, l6, l7, l8, l9, l10, l11, l12, l13, l14, l15, l16, l17, l18, l19, .val (.int v), l21, l22, l23, l24, l25, l26, l27, l28, l29, l30, l31, l32, l33, l34, l35, l36, l37, l38, l39, l40, l41] st H Q = M40 575 [l0, l1, l2, l3, l4, l5, l6, l7, l8, l9, l10, l11, l12, l13, l14, l15, l16, l17, l18, l19, .val (.int v), l21, l22, l23, l24, l25, l26, l27, l28, l29, l30, l31, l32, l33, l34, l35, l36, l37, l38, l39, l40, l41] (.int v :: st) H Q := w_x at_573 rfl
theorem m40_575 : M40 575 ls st H Q = M40 576 ls (.int 1 :: st) H Q := w_con at_575 rfl (by decide)
theorem m40_576 : M40 576 ls (.int y :: .int x :: st) H Q = if x = y then M40 579 ls st H Q else M40 641 ls st H Q := w_icmpN at_576 (i_ne x y) rfl
theorem m40_579 : M40 579 [l0, l1, l2, l3, l4, l5, l6, l7, l8, l9, l10, l11, l12, l13, l14, l15, l16, l17, l18, l19, l20, .val (.int v), l22, l23, l24, l25, l26, l27, l28, l29, l30, l31, l32, l33, l34, l35, l36, l37, l38, l39, l40, l41] st H Q = M40 581 [l0, l1, l2, l3, l4, l5, l6, l7, l8, l9, l10, l11, l12, l13, l14, l15, l16, l17, l18, l19, l20, .val (.int v), l22, l23, l24, l25, l26, l27, l28, l29, l30, l31, l32, l33, l34, l35, l36, l37, l38, l39, l40, l41] (.int v :: st) H Q := w_x at_579 rfl
theorem m40_581 : M40 581 ls st H Q = M40 582 ls (.int 1 :: st) H Q := w_con at_581 rfl (by decide)
theorem m40_582 : M40 582 ls (.int y :: .int x :: st) H Q = if x = y then M40 585 ls st H Q else M40 641 ls st H Q := w_icmpN at_582 (i_ne x y) rfl
theorem m40_585 : M40 585 [l0, l1, l2, l3, l4, l5, l6, l7, l8, l9, l10, l11, l12, l13, l14, l15, l16, l17, l18, l19, l20, l21, .val (.int v), l23, l24, l25, l26, l27, l28, l29, l30, l31, l32, l33, l34, l35, l36, l37, l38, l39, l40, l41] st H Q = M40 587 [l0, l1, l2, l3, l4, l5, l6, l7, l8, l9, l10, l11, l12, l13, l14, l15, l16, l17, l18, l19, l20, l21, .val (.int v), l23, l24, l25, l26, l27, l28, l29, l30, l31, l32, l33, l34, l35, l36, l37, l38, l39, l40, l41] (.int v :: st) H Q := w_x at_585 rfl
theorem m40_587 : M40 587 ls st H Q = M40 588 ls (.int 1 :: st) H Q := w_con at_587 rfl (by decide)
theorem m40_588 : M40 588 ls (.int y :: .int x :: st) H Q = if x = y then M40 591 ls st H Q else M40 641 ls st H Q := w_icmpN at_588 (i_ne x y) rfl
theorem m40_591 : M40 591 [l0, l1, l2, l3, l4, l5, l6, l7, l8, l9, l10, l11, l12, l13, l14, l15, l16, l17, l18, l19, l20, l21, l22, .val (.int v), l24, l25, l26, l27, l28, l29, l30, l31, l32, l33, l34, l35, l36, l37, l38, l39, l40, l41] st H Q = M40 593 [l0, l1, l2, l3, l4, l5, l6, l7, l8, l9, l10, l11, l12, l13, l14, l15, l16, l17, l18, l19, l20, l21, l22, .val (.int v), l24, l25, l26, l27, l28, l29, l30, l31, l32, l33, l34, l35, l36, l37, l38, l39, l40, l41] (.int v :: st) H Q := w_x at_591 rfl
theorem m40_593 : M40 593 ls st H Q = M40 594 ls (.int 2 :: st) H Q := w_con at_593 rfl (by decide)
theorem m40_594 : M40 594 ls (.int y :: .int x :: st) H Q = if x = y then M40 597 ls st H Q else M40 641 ls st H Q := w_icmpN at_594 (i_ne x y) rfl
theorem m40_597 : M40 597 [l0, l1, l2, l3, l4, l5, l6, l7, l8, l9, l10, l11, l12, l13, l14, l15, l16, l17, l18, l19, l20, l21, l22, l23, .val (.int v), l25, l26, l27, l28, l29, l30, l31, l32, l33, l34, l35, l36, l37, l38, l39, l40, l41] st H Q = M40 599 [l0, l1, l2, l3, l4, l5, l6, l7, l8, l9, l10, l11, l12, l13, l14, l15, l16, l17, l18, l19, l20, l21, l22, l23, .val (.int v), l25, l26, l27, l28, l29, l30, l31, l32, l33, l34, l35, l36, l37, l38, l39, l40, l41] (.int v :: st) H Q := w_x at_597 rfl
theorem m40_599 : M40 599 ls st H Q = M40 600 ls (.int 2 :: st) H Q := w_con at_599 rfl (by decide)
theorem m40_600 : M40 600 ls (.int y :: .int x :: st) H Q = if x = y then M40 603 ls st H Q else M40 641 ls st H Q := w_icmpN at_600 (i_ne x y) rfl
theorem m40_603 : M40 603 [l0, l1, l2, l3, l4, l5, l6, l7, l8, l9, l10, l11, l12, l13, l14, l15, l16, l17, l18, l19, l20, l21, l22, l23, l24, .val (.int v), l26, l27, l28, l29, l30, l31, l32, l33, l34, l35, l36, l37, l38, l39, l40, l41] st H Q = M40 605 [l0, l1, l2, l3, l4, l5, l6, l7, l8, l9, l10, l11, l12, l13, l14, l15, l16, l17, l18, l19, l20, l21, l22, l23, l24, .val (.int v), l26, l27, l28, l29, l30, l31, l32, l33, l34, l35, l36, l37, l38, l39, l40, l41] (.int v :: st) H Q := w_x at_603 rfl
theorem m40_605 : M40 605 ls st H Q = M40 606 ls (.int 2 :: st) H Q := w_con at_605 rfl (by decide)
theorem m40_606 : M40 606 ls (.int y :: .int x :: st) H Q = if x = y then M40 609 ls st H Q else M40 641 ls st H Q := w_icmpN at_606 (i_ne x y) rfl
theorem m40_609 : M40 609 [l0, l1, l2, l3, l4, l5, l6, l7, l8, l9, l10, l11, l12, l13, l14, l15, l16, l17, l18, l19, l20, l21, l22, l23, l24, l25, .val (.int v), l27, l28, l29, l30, l31, l32, l33, l34, l35, l36, l37, l38, l39, l40, l41] st H Q = M40 611 [l0, l1, l2, l3, l4, l5, l6, l7, l8, l9, l10, l11, l12, l13, l14, l15, l16, l17, l18, l19, l20, l21, l22, l23, l24, l25, .val (.int v), l27, l28, l29, l30, l31, l32, l33, l34, l35, l36, l37, l38, l39, l40, l41] (.int v :: st) H Q := w_x at_609 rfl
theorem m40_611 : M40 611 [l0, l1, l2, l3, l4, l5, l6, l7, l8, l9, l10, l11, l12, l13, l14, l15, l16, l17, l18, l19, l20, l21, l22, l23, l24, l25, l26, l27, l28, l29, .val (.int v), l31, l32, l33, l34, l35, l36, l37, l38, l39, l40, l41] st H Q = M40 613 [l0, l1, l2, l3, l4, l5, l6, l7, l8, l9, l10, l11, l12, l13, l14, l15, l16, l17, l18, l19, l20, l21, l22, l23, l24, l25, l26, l27, l28, l29, .val (.int v), l31, l32, l33, l34, l35, l36, l37, l38, l39, l40, l41] (.int v :: st) H Q := w_x at_611 rfl
theorem m40_613 : M40 613 ls (.int y :: .int x :: st) H Q = if x = y then M40 616 ls st H Q else M40 641 ls st H Q := w_icmpN at_613 (i_ne x y) rfl
theorem m40_616 : M40 616 [l0, l1, l2, l3, l4, l5, l6, l7, l8, l9, l10, l11, l12, l13, l14, l15, l16, l17, l18, l19, l20, l21, l22, l23, l24, l25, l26, .val (.int v), l28, l29, l30, l31, l32, l33, l34, l35, l36, l37, l38, l39, l40, l41] st H Q = M40 618 [l0, l1, l2, l3, l4, l5, l6, l7, l8, l9, l10, l11, l12, l13, l14, l15, l16, l17, l18, l19, l20, l21, l22, l23, l24, l25, l26, .val (.int v), l28, l29, l30, l31, l32, l33, l34, l35, l36, l37, l38, l39, l40, l41] (.int v :: st) H Q := w_x at_616 rfl
theorem m40_618 : M40 618 [l0, l1, l2, l3, l4, l5, l6, l7, l8, l9, l10, l11, l12, l13, l14, l15, l16, l17, l18, l19, l20, l21, l22, l23, l24, l25, l26, l27, l28, l29, l30, .val (.int v), l32, l33, l34, l35, l36, l37, l38, l39, l40, l41] st H Q = M40 620 [l0, l1, l2, l3, l4, l5, l6, l7, l8, l9, l10, l11, l12, l13, l14, l15, l16, l17, l18, l19, l20, l21, l22, l23, l24, l25, l26, l27, l28, l29, l30, .val (.int v), l32, l33, l34, l35, l36, l37, l38, l39, l40, l41] (.int v :: st) H Q := w_x at_618 rfl
theorem m40_620 : M40 620 ls (.int y :: .int x :: st) H Q = if x = y then M40 623 ls st H Q else M40 641 ls st H Q := w_icmpN at_620 (i_ne x y) rfl
theorem m40_623 : M40 623 [l0, l1, l2, l3, l4, l5, l6, l7, l8, l9, l10, l11, l12, l13, l14, l15, l16, l17, l18, l19, l20, l21, l22, l23, l24, l25, l26, l27, .val (.int v), l29, l30, l31, l32, l33, l34, l35, l36, l37, l38, l39, l40, l41] st H Q = M40 625 [l0, l1, l2, l3, l4, l5, l6, l7, l8, l9, l10, l11, l12, l13, l14, l15, l16, l17, l18, l19, l20, l21, l22, l23, l24, l25, l26, l27, .val (.int v), l29, l30, l31, l32, l33, l34, l35, l36, l37, l38, l39, l40, l41] (.int v :: st) H Q := w_x at_623 rfl
theorem m40_625 : M40 625 [l0, l1, l2, l3, l4, l5, l6, l7, l8, l9, l10, l11, l12, l13, l14, l15, l16, l17, l18, l19, l20, l21, l22, l23, l24, l25, l26, l27, l28, l29, l30, l31, l32, l33, l34, l35, l36, l37, l38, l39, l40, .val (.int v)] st H Q = M40 627 [l0, l1, l2, l3, l4, l5, l6, l7, l8, l9, l10, l11, l12, l13, l14, l15, l16, l17, l18, l19, l20, l21, l22, l23, l24, l25, l26, l27, l28, l29, l30, l31, l32, l33, l34, l35, l36, l37, l38, l39, l40, .val (.int v)] (.int v :: st) H Q := w_x at_625 rfl
theorem m40_627 : M40 627 ls (.int y :: .int x :: st) H Q = if x = y then M40 630 ls st H Q else M40 641 ls st H Q := w_icmpN at_627 (i_ne x y) rfl
theorem m40_630 : M40 630 [l0, l1, l2, l3, l4, l5, l6, l7, l8, l9, l10, l11, l12, l13, l14, l15, l16, l17, l18, l19, l20, l21, l22, l23, l24, l25, l26, l27, l28, .val (.int v), l30, l31, l32, l33, l34, l35, l36, l37, l38, l39, l40, l41] st H Q = M40 632 [l0, l1, l2, l3, l4, l5, l6, l7, l8, l9, l10, l11, l12, l13, l14, l15, l16, l17, l18, l19, l20, l21, l22, l23, l24, l25, l26, l27, l28, .val (.int v), l30, l31, l32, l33, l34, l35, l36, l37, l38, l39, l40, l41] (.int v :: st) H Q := w_x at_630 rfl
theorem m40_632 : M40 632 [l0, l1, l2, l3, l4, l5, l6, l7, l8, l9, l10, l11, l12, l13, l14, l15, l16, l17, l18, l19, l20, l21, l22, l23, l24, l25, l26, l27, l28, l29, l30, l31, l32, l33, l34, l35, l36, l37, l38, l39, l40, .val (.int v)] st H Q = M40 634 [l0, l1, l2, l3, l4, l5, l6, l7, l8, l9, l10, l11, l12, l13, l14, l15, l16, l17, l18, l19, l20, l21, l22, l23, l24, l25, l26, l27, l28, l29, l30, l31, l32, l33, l34, l35, l36, l37, l38, l39, l40, .val (.int v)] (.int v :: st) H Q := w_x at_632 rfl
theorem m40_634 : M40 634 ls (.int y :: .int x :: st) H Q = if x = y then M40 637 ls st H Q else M40 641 ls st H Q := w_icmpN at_634 (i_ne x y) rfl
theorem m40_637 : M40 637 ls st H Q = M40 638 ls (.int 1 :: st) H Q := w_con at_637 rfl (by decide)
theorem m40_638 : M40 638 ls st H Q = M40 642 ls st H Q := w_x at_638 rfl
theorem m40_642 : M40 642 ls (.int z :: st) H Q = Q (some (.int (nar .boolean z))) H := w_iretN at_642 rfl (by simp)
theorem pf0_7 : pfR tables_1 y0.cls y0.name 7 = some ("LutMapper", 0, .array .int) := by decide +kernel
theorem m0_4a (hH : H.length = b) {vs : List Value} {r : AHeap} (hj : 0 < vs.length) : M0 4 (.val (.ref b) :: [l1, l2]) [] (H ++ (.object "LutMapper", vs) :: r) Q = M0 12 (.val (.ref b) :: [l1, l2]) [] (H ++ (.object "LutMapper", vs.set 0 (.ref (b + (r.length + 1)))) :: (r ++ [(.array .int, List.replicate 32 (.int 0))])) Q := w_iarr (n := 32) rfl hH (Nat.zero_le _) (show decode kb0 4 = .ok (.aload_n 0, 1) from by decide +kernel) rfl (show decode kb0 5 = .ok (.bipush 32, 2) from by decide +kernel) (fun _ => rfl) (by decide) (show decode kb0 7 = .ok (.newarray .int, 2) from by decide +kernel) rfl (by decide +kernel) (by decide) (by decide) rfl (show decode kb0 9 = .ok (.putfield 7, 3) from by decide +kernel) pf0_7 hj
theorem pf0_13 : pfR tables_1 y0.cls y0.name 13 = some ("LutMapper", 1, .array .int) := by decide +kernel
theorem m0_12a (hH : H.length = b) {vs : List Value} {r : AHeap} (hj : 1 < vs.length) : M0 12 (.val (.ref b) :: [l1, l2]) [] (H ++ (.object "LutMapper", vs) :: r) Q = M0 20 (.val (.ref b) :: [l1, l2]) [] (H ++ (.object "LutMapper", vs.set 1 (.ref (b + (r.length + 1)))) :: (r ++ [(.array .int, List.replicate 32 (.int 0))])) Q := w_iarr (n := 32) rfl hH (Nat.zero_le _) (show decode kb0 12 = .ok (.aload_n 0, 1) from by decide +kernel) rfl (show decode kb0 13 = .ok (.bipush 32, 2) from by decide +kernel) (fun _ => rfl) (by decide) (show decode kb0 15 = .ok (.newarray .int, 2) from by decide +kernel) rfl (by decide +kernel) (by decide) (by decide) rfl (show decode kb0 17 = .ok (.putfield 13, 3) from by decide +kernel) pf0_13 hj
theorem pf0_16 : pfR tables_1 y0.cls y0.name 16 = some ("LutMapper", 2, .array .int) := by decide +kernel
theorem m0_20a (hH : H.length = b) {vs : List Value} {r : AHeap} (hj : 2 < vs.length) : M0 20 (.val (.ref b) :: [l1, l2]) [] (H ++ (.object "LutMapper", vs) :: r) Q = M0 28 (.val (.ref b) :: [l1, l2]) [] (H ++ (.object "LutMapper", vs.set 2 (.ref (b + (r.length + 1)))) :: (r ++ [(.array .int, List.replicate 32 (.int 0))])) Q := w_iarr (n := 32) rfl hH (Nat.zero_le _) (show decode kb0 20 = .ok (.aload_n 0, 1) from by decide +kernel) rfl (show decode kb0 21 = .ok (.bipush 32, 2) from by decide +kernel) (fun _ => rfl) (by decide) (show decode kb0 23 = .ok (.newarray .int, 2) from by decide +kernel) rfl (by decide +kernel) (by decide) (by decide) rfl (show decode kb0 25 = .ok (.putfield 16, 3) from by decide +kernel) pf0_16 hj
theorem pf0_19 : pfR tables_1 y0.cls y0.name 19 = some ("LutMapper", 3, .array .int) := by decide +kernel
theorem m0_28a (hH : H.length = b) {vs : List Value} {r : AHeap} (hj : 3 < vs.length) : M0 28 (.val (.ref b) :: [l1, l2]) [] (H ++ (.object "LutMapper", vs) :: r) Q = M0 36 (.val (.ref b) :: [l1, l2]) [] (H ++ (.object "LutMapper", vs.set 3 (.ref (b + (r.length + 1)))) :: (r ++ [(.array .int, List.replicate 32 (.int 0))])) Q := w_iarr (n := 32) rfl hH (Nat.zero_le _) (show decode kb0 28 = .ok (.aload_n 0, 1) from by decide +kernel) rfl (show decode kb0 29 = .ok (.bipush 32, 2) from by decide +kernel) (fun _ => rfl) (by decide) (show decode kb0 31 = .ok (.newarray .int, 2) from by decide +kernel) rfl (by decide +kernel) (by decide) (by decide) rfl (show decode kb0 33 = .ok (.putfield 19, 3) from by decide +kernel) pf0_19 hj
theorem pf0_22 : pfR tables_1 y0.cls y0.name 22 = some ("LutMapper", 4, .array .int) := by decide +kernel
theorem m0_36a (hH : H.length = b) {vs : List Value} {r : AHeap} (hj : 4 < vs.length) : M0 36 (.val (.ref b) :: [l1, l2]) [] (H ++ (.object "LutMapper", vs) :: r) Q = M0 44 (.val (.ref b) :: [l1, l2]) [] (H ++ (.object "LutMapper", vs.set 4 (.ref (b + (r.length + 1)))) :: (r ++ [(.array .int, List.replicate 32 (.int 0))])) Q := w_iarr (n := 32) rfl hH (Nat.zero_le _) (show decode kb0 36 = .ok (.aload_n 0, 1) from by decide +kernel) rfl (show decode kb0 37 = .ok (.bipush 32, 2) from by decide +kernel) (fun _ => rfl) (by decide) (show decode kb0 39 = .ok (.newarray .int, 2) from by decide +kernel) rfl (by decide +kernel) (by decide) (by decide) rfl (show decode kb0 41 = .ok (.putfield 22, 3) from by decide +kernel) pf0_22 hj
theorem pf0_25 : pfR tables_1 y0.cls y0.name 25 = some ("LutMapper", 5, .array .int) := by decide +kernel
theorem m0_44a (hH : H.length = b) {vs : List Value} {r : AHeap} (hj : 5 < vs.length) : M0 44 (.val (.ref b) :: [l1, l2]) [] (H ++ (.object "LutMapper", vs) :: r) Q = M0 52 (.val (.ref b) :: [l1, l2]) [] (H ++ (.object "LutMapper", vs.set 5 (.ref (b + (r.length + 1)))) :: (r ++ [(.array .int, List.replicate 8 (.int 0))])) Q := w_iarr (n := 8) rfl hH (Nat.zero_le _) (show decode kb0 44 = .ok (.aload_n 0, 1) from by decide +kernel) rfl (show decode kb0 45 = .ok (.bipush 8, 2) from by decide +kernel) (fun _ => rfl) (by decide) (show decode kb0 47 = .ok (.newarray .int, 2) from by decide +kernel) rfl (by decide +kernel) (by decide) (by decide) rfl (show decode kb0 49 = .ok (.putfield 25, 3) from by decide +kernel) pf0_25 hj
theorem pf0_28 : pfR tables_1 y0.cls y0.name 28 = some ("LutMapper", 6, .array .int) := by decide +kernel
theorem m0_52a (hH : H.length = b) {vs : List Value} {r : AHeap} (hj : 6 < vs.length) : M0 52 (.val (.ref b) :: [l1, l2]) [] (H ++ (.object "LutMapper", vs) :: r) Q = M0 60 (.val (.ref b) :: [l1, l2]) [] (H ++ (.object "LutMapper", vs.set 6 (.ref (b + (r.length + 1)))) :: (r ++ [(.array .int, List.replicate 32 (.int 0))])) Q := w_iarr (n := 32) rfl hH (Nat.zero_le _) (show decode kb0 52 = .ok (.aload_n 0, 1) from by decide +kernel) rfl (show decode kb0 53 = .ok (.bipush 32, 2) from by decide +kernel) (fun _ => rfl) (by decide) (show decode kb0 55 = .ok (.newarray .int, 2) from by decide +kernel) rfl (by decide +kernel) (by decide) (by decide) rfl (show decode kb0 57 = .ok (.putfield 28, 3) from by decide +kernel) pf0_28 hj
theorem pf0_31 : pfR tables_1 y0.cls y0.name 31 = some ("LutMapper", 7, .array .int) := by decide +kernel
theorem m0_60a (hH : H.length = b) {vs : List Value} {r : AHeap} (hj : 7 < vs.length) : M0 60 (.val (.ref b) :: [l1, l2]) [] (H ++ (.object "LutMapper", vs) :: r) Q = M0 68 (.val (.ref b) :: [l1, l2]) [] (H ++ (.object "LutMapper", vs.set 7 (.ref (b + (r.length + 1)))) :: (r ++ [(.array .int, List.replicate 64 (.int 0))])) Q := w_iarr (n := 64) rfl hH (Nat.zero_le _) (show decode kb0 60 = .ok (.aload_n 0, 1) from by decide +kernel) rfl (show decode kb0 61 = .ok (.bipush 64, 2) from by decide +kernel) (fun _ => rfl) (by decide) (show decode kb0 63 = .ok (.newarray .int, 2) from by decide +kernel) rfl (by decide +kernel) (by decide) (by decide) rfl (show decode kb0 65 = .ok (.putfield 31, 3) from by decide +kernel) pf0_31 hj
theorem pf0_34 : pfR tables_1 y0.cls y0.name 34 = some ("LutMapper", 8, .array .int) := by decide +kernel
theorem m0_68a (hH : H.length = b) {vs : List Value} {r : AHeap} (hj : 8 < vs.length) : M0 68 (.val (.ref b) :: [l1, l2]) [] (H ++ (.object "LutMapper", vs) :: r) Q = M0 76 (.val (.ref b) :: [l1, l2]) [] (H ++ (.object "LutMapper", vs.set 8 (.ref (b + (r.length + 1)))) :: (r ++ [(.array .int, List.replicate 65 (.int 0))])) Q := w_iarr (n := 65) rfl hH (Nat.zero_le _) (show decode kb0 68 = .ok (.aload_n 0, 1) from by decide +kernel) rfl (show decode kb0 69 = .ok (.bipush 65, 2) from by decide +kernel) (fun _ => rfl) (by decide) (show decode kb0 71 = .ok (.newarray .int, 2) from by decide +kernel) rfl (by decide +kernel) (by decide) (by decide) rfl (show decode kb0 73 = .ok (.putfield 34, 3) from by decide +kernel) pf0_34 hj
theorem pf0_37 : pfR tables_1 y0.cls y0.name 37 = some ("LutMapper", 9, .array .int) := by decide +kernel
theorem m0_76a (hH : H.length = b) {vs : List Value} {r : AHeap} (hj : 9 < vs.length) : M0 76 (.val (.ref b) :: [l1, l2]) [] (H ++ (.object "LutMapper", vs) :: r) Q = M0 84 (.val (.ref b) :: [l1, l2]) [] (H ++ (.object "LutMapper", vs.set 9 (.ref (b + (r.length + 1)))) :: (r ++ [(.array .int, List.replicate 65 (.int 0))])) Q := w_iarr (n := 65) rfl hH (Nat.zero_le _) (show decode kb0 76 = .ok (.aload_n 0, 1) from by decide +kernel) rfl (show decode kb0 77 = .ok (.bipush 65, 2) from by decide +kernel) (fun _ => rfl) (by decide) (show decode kb0 79 = .ok (.newarray .int, 2) from by decide +kernel) rfl (by decide +kernel) (by decide) (by decide) rfl (show decode kb0 81 = .ok (.putfield 37, 3) from by decide +kernel) pf0_37 hj
theorem pf0_40 : pfR tables_1 y0.cls y0.name 40 = some ("LutMapper", 10, .array .int) := by decide +kernel
theorem m0_84a (hH : H.length = b) {vs : List Value} {r : AHeap} (hj : 10 < vs.length) : M0 84 (.val (.ref b) :: [l1, l2]) [] (H ++ (.object "LutMapper", vs) :: r) Q = M0 92 (.val (.ref b) :: [l1, l2]) [] (H ++ (.object "LutMapper", vs.set 10 (.ref (b + (r.length + 1)))) :: (r ++ [(.array .int, List.replicate 65 (.int 0))])) Q := w_iarr (n := 65) rfl hH (Nat.zero_le _) (show decode kb0 84 = .ok (.aload_n 0, 1) from by decide +kernel) rfl (show decode kb0 85 = .ok (.bipush 65, 2) from by decide +kernel) (fun _ => rfl) (by decide) (show decode kb0 87 = .ok (.newarray .int, 2) from by decide +kernel) rfl (by decide +kernel) (by decide) (by decide) rfl (show decode kb0 89 = .ok (.putfield 40, 3) from by decide +kernel) pf0_40 hj
theorem pf0_43 : pfR tables_1 y0.cls y0.name 43 = some ("LutMapper", 11, .array .int) := by decide +kernel
theorem m0_92a (hH : H.length = b) {vs : List Value} {r : AHeap} (hj : 11 < vs.length) : M0 92 (.val (.ref b) :: [l1, l2]) [] (H ++ (.object "LutMapper", vs) :: r) Q = M0 100 (.val (.ref b) :: [l1, l2]) [] (H ++ (.object "LutMapper", vs.set 11 (.ref (b + (r.length + 1)))) :: (r ++ [(.array .int, List.replicate 32 (.int 0))])) Q := w_iarr (n := 32) rfl hH (Nat.zero_le _) (show decode kb0 92 = .ok (.aload_n 0, 1) from by decide +kernel) rfl (show decode kb0 93 = .ok (.bipush 32, 2) from by decide +kernel) (fun _ => rfl) (by decide) (show decode kb0 95 = .ok (.newarray .int, 2) from by decide +kernel) rfl (by decide +kernel) (by decide) (by decide) rfl (show decode kb0 97 = .ok (.putfield 43, 3) from by decide +kernel) pf0_43 hj
theorem pf0_46 : pfR tables_1 y0.cls y0.name 46 = some ("LutMapper", 12, .array .int) := by decide +kernel
theorem m0_100a (hH : H.length = b) {vs : List Value} {r : AHeap} (hj : 12 < vs.length) : M0 100 (.val (.ref b) :: [l1, l2]) [] (H ++ (.object "LutMapper", vs) :: r) Q = M0 108 (.val (.ref b) :: [l1, l2]) [] (H ++ (.object "LutMapper", vs.set 12 (.ref (b + (r.length + 1)))) :: (r ++ [(.array .int, List.replicate 32 (.int 0))])) Q := w_iarr (n := 32) rfl hH (Nat.zero_le _) (show decode kb0 100 = .ok (.aload_n 0, 1) from by decide +kernel) rfl (show decode kb0 101 = .ok (.bipush 32, 2) from by decide +kernel) (fun _ => rfl) (by decide) (show decode kb0 103 = .ok (.newarray .int, 2) from by decide +kernel) rfl (by decide +kernel) (by decide) (by decide) rfl (show decode kb0 105 = .ok (.putfield 46, 3) from by decide +kernel) pf0_46 hj
theorem pf0_49 : pfR tables_1 y0.cls y0.name 49 = some ("LutMapper", 13, .array .int) := by decide +kernel
theorem m0_108a (hH : H.length = b) {vs : List Value} {r : AHeap} (hj : 13 < vs.length) : M0 108 (.val (.ref b) :: [l1, l2]) [] (H ++ (.object "LutMapper", vs) :: r) Q = M0 116 (.val (.ref b) :: [l1, l2]) [] (H ++ (.object "LutMapper", vs.set 13 (.ref (b + (r.length + 1)))) :: (r ++ [(.array .int, List.replicate 32 (.int 0))])) Q := w_iarr (n := 32) rfl hH (Nat.zero_le _) (show decode kb0 108 = .ok (.aload_n 0, 1) from by decide +kernel) rfl (show decode kb0 109 = .ok (.bipush 32, 2) from by decide +kernel) (fun _ => rfl) (by decide) (show decode kb0 111 = .ok (.newarray .int, 2) from by decide +kernel) rfl (by decide +kernel) (by decide) (by decide) rfl (show decode kb0 113 = .ok (.putfield 49, 3) from by decide +kernel) pf0_49 hj
theorem pf0_52 : pfR tables_1 y0.cls y0.name 52 = some ("LutMapper", 14, .array .int) := by decide +kernel
theorem m0_116a (hH : H.length = b) {vs : List Value} {r : AHeap} (hj : 14 < vs.length) : M0 116 (.val (.ref b) :: [l1, l2]) [] (H ++ (.object "LutMapper", vs) :: r) Q = M0 124 (.val (.ref b) :: [l1, l2]) [] (H ++ (.object "LutMapper", vs.set 14 (.ref (b + (r.length + 1)))) :: (r ++ [(.array .int, List.replicate 32 (.int 0))])) Q := w_iarr (n := 32) rfl hH (Nat.zero_le _) (show decode kb0 116 = .ok (.aload_n 0, 1) from by decide +kernel) rfl (show decode kb0 117 = .ok (.bipush 32, 2) from by decide +kernel) (fun _ => rfl) (by decide) (show decode kb0 119 = .ok (.newarray .int, 2) from by decide +kernel) rfl (by decide +kernel) (by decide) (by decide) rfl (show decode kb0 121 = .ok (.putfield 52, 3) from by decide +kernel) pf0_52 hj
def A0 : Nat → List Int32
  | 0 => List.replicate 32 0
  | 1 => List.replicate 32 0
  | 2 => List.replicate 32 0
  | 3 => List.replicate 32 0
  | 4 => List.replicate 32 0
  | 5 => List.replicate 8 0
  | 6 => List.replicate 32 0
  | 7 => List.replicate 64 0
  | 8 => List.replicate 65 0
  | 9 => List.replicate 65 0
  | 10 => List.replicate 65 0
  | 11 => List.replicate 32 0
  | 12 => List.replicate 32 0
  | 13 => List.replicate 32 0
  | 14 => List.replicate 32 0
  | _ => []
theorem A0l_0 : (A0 0).length = 32 := List.length_replicate
theorem A0g_0 (j : Int32) : getA (A0 0) j = 0 := getA_rep _ _
theorem A0l_1 : (A0 1).length = 32 := List.length_replicate
theorem A0g_1 (j : Int32) : getA (A0 1) j = 0 := getA_rep _ _
theorem A0l_2 : (A0 2).length = 32 := List.length_replicate
theorem A0g_2 (j : Int32) : getA (A0 2) j = 0 := getA_rep _ _
theorem A0l_3 : (A0 3).length = 32 := List.length_replicate
theorem A0g_3 (j : Int32) : getA (A0 3) j = 0 := getA_rep _ _
theorem A0l_4 : (A0 4).length = 32 := List.length_replicate
theorem A0g_4 (j : Int32) : getA (A0 4) j = 0 := getA_rep _ _
theorem A0l_5 : (A0 5).length = 8 := List.length_replicate
theorem A0g_5 (j : Int32) : getA (A0 5) j = 0 := getA_rep _ _
theorem A0l_6 : (A0 6).length = 32 := List.length_replicate
theorem A0g_6 (j : Int32) : getA (A0 6) j = 0 := getA_rep _ _
theorem A0l_7 : (A0 7).length = 64 := List.length_replicate
theorem A0g_7 (j : Int32) : getA (A0 7) j = 0 := getA_rep _ _
theorem A0l_8 : (A0 8).length = 65 := List.length_replicate
theorem A0g_8 (j : Int32) : getA (A0 8) j = 0 := getA_rep _ _
theorem A0l_9 : (A0 9).length = 65 := List.length_replicate
theorem A0g_9 (j : Int32) : getA (A0 9) j = 0 := getA_rep _ _
theorem A0l_10 : (A0 10).length = 65 := List.length_replicate
theorem A0g_10 (j : Int32) : getA (A0 10) j = 0 := getA_rep _ _
theorem A0l_11 : (A0 11).length = 32 := List.length_replicate
theorem A0g_11 (j : Int32) : getA (A0 11) j = 0 := getA_rep _ _
theorem A0l_12 : (A0 12).length = 32 := List.length_replicate
theorem A0g_12 (j : Int32) : getA (A0 12) j = 0 := getA_rep _ _
theorem A0l_13 : (A0 13).length = 32 := List.length_replicate
theorem A0g_13 (j : Int32) : getA (A0 13) j = 0 := getA_rep _ _
theorem A0l_14 : (A0 14).length = 32 := List.length_replicate
theorem A0g_14 (j : Int32) : getA (A0 14) j = 0 := getA_rep _ _
theorem own_ctor0 (hb : pre.length = b) : M0 0 (.val (.ref b) :: [l1, l2]) [] (pre ++ [(.object "LutMapper", D0)]) Q = M0 124 (.val (.ref b) :: [l1, l2]) [] (put b pre (fun _ => 0) A0 []) Q := by
  rw [m0_0, m0_1, m0_4a hb (by (repeat rw [List.length_set]); exact Nat.le_of_ble_eq_true rfl), m0_12a hb (by (repeat rw [List.length_set]); exact Nat.le_of_ble_eq_true rfl), m0_20a hb (by (repeat rw [List.length_set]); exact Nat.le_of_ble_eq_true rfl), m0_28a hb (by (repeat rw [List.length_set]); exact Nat.le_of_ble_eq_true rfl), m0_36a hb (by (repeat rw [List.length_set]); exact Nat.le_of_ble_eq_true rfl), m0_44a hb (by (repeat rw [List.length_set]); exact Nat.le_of_ble_eq_true rfl), m0_52a hb (by (repeat rw [List.length_set]); exact Nat.le_of_ble_eq_true rfl), m0_60a hb (by (repeat rw [List.length_set]); exact Nat.le_of_ble_eq_true rfl), m0_68a hb (by (repeat rw [List.length_set]); exact Nat.le_of_ble_eq_true rfl), m0_76a hb (by (repeat rw [List.length_set]); exact Nat.le_of_ble_eq_true rfl), m0_84a hb (by (repeat rw [List.length_set]); exact Nat.le_of_ble_eq_true rfl), m0_92a hb (by (repeat rw [List.length_set]); exact Nat.le_of_ble_eq_true rfl), m0_100a hb (by (repeat rw [List.length_set]); exact Nat.le_of_ble_eq_true rfl), m0_108a hb (by (repeat rw [List.length_set]); exact Nat.le_of_ble_eq_true rfl), m0_116a hb (by (repeat rw [List.length_set]); exact Nat.le_of_ble_eq_true rfl)]
  simp only [put, pad_eq hb, objv, D0, A0, List.map_replicate, List.set_cons_succ, List.set_cons_zero, List.nil_append, List.cons_append, List.length_cons, List.length_nil, List.append_nil]
end Rules
/- methods: 0=LutMapper.<init>(I)V; 1=LutMapper.addInput()I; 2=LutMapper.addAnd(II)I; 3=LutMapper.validLit(I)Z; 4=LutMapper.computeLabel(I)I; 5=LutMapper.maxFlow(II)I; 6=LutMapper.prepareFlow(II)V; 7=LutMapper.markCone(II)I; 8=LutMapper.bitOf(II)I; 9=LutMapper.searchPath()Z; 10=LutMapper.markVisited(I)V; 11=LutMapper.expandExit(II)I; 12=LutMapper.visit(IIII)I; 13=LutMapper.isVisited(I)Z; 14=LutMapper.expandEntry(II)I; 15=LutMapper.isUnit(I)Z; 16=LutMapper.augment()V; 17=LutMapper.applyEdge(III)V; 18=LutMapper.addOutput(I)I; 19=LutMapper.getLabel(I)I; 20=LutMapper.map()I; 21=LutMapper.resetCover()V; 22=LutMapper.selectLut(I)V; 23=LutMapper.chooseCut(II)I; 24=LutMapper.sinkSideCut()I; 25=LutMapper.reach(II)I; 26=LutMapper.reachIntoExit(II)I; 27=LutMapper.reachIntoEntry(II)I; 28=LutMapper.isCut(II)Z; 29=LutMapper.bitCount(I)I; 30=LutMapper.truthOf(II)I; 31=LutMapper.varTable(I)I; 32=LutMapper.litTable(I)I; 33=LutMapper.getMappedDepth()I; 34=LutMapper.cutTruth(II)I; 35=LutMapper.evalGraph(I)I; 36=LutMapper.litVal(II)I; 37=LutMapper.packOutputs(I)I; 38=LutMapper.evalMapped(I)I; 39=LutMapper.lutValue(II)I; 40=LutMapperL3.law(II)Z -/
theorem own_l0 : ((-43691) : Int32) &&& 65535 = 21845 := by decide +kernel
theorem own_l1 : ((-52429) : Int32) &&& 65535 = 13107 := by decide +kernel
theorem own_l2 : ((-61681) : Int32) &&& 65535 = 3855 := by decide +kernel
theorem own_l3 : (0 : Int32) &&& 1 = 0 := by decide +kernel
theorem own_l4 : (0 : Int32) &&& 31 = 0 := by decide +kernel
theorem own_l5 : (0 : Int32) ||| 1 = 1 := by decide +kernel
theorem own_l6 : (0 : Int32) ||| 128 = 128 := by decide +kernel
theorem own_l7 : (0 : Int32) ||| 16 = 16 := by decide +kernel
theorem own_l8 : (0 : Int32) ||| 2 = 2 := by decide +kernel
theorem own_l9 : (0 : Int32) ||| 256 = 256 := by decide +kernel
theorem own_l10 : (0 : Int32) ||| 32 = 32 := by decide +kernel
theorem own_l11 : (1 : Int32) &&& 1 = 1 := by decide +kernel
theorem own_l12 : (1 : Int32) &&& 31 = 1 := by decide +kernel
theorem own_l13 : (1 : Int32) <<< 0 = 1 := by decide +kernel
theorem own_l14 : (1 : Int32) <<< 1 = 2 := by decide +kernel
theorem own_l15 : (1 : Int32) <<< 2 = 4 := by decide +kernel
theorem own_l16 : (1 : Int32) <<< 3 = 8 := by decide +kernel
theorem own_l17 : (1 : Int32) <<< 4 = 16 := by decide +kernel
theorem own_l18 : (1 : Int32) <<< 5 = 32 := by decide +kernel
theorem own_l19 : (1 : Int32) <<< 6 = 64 := by decide +kernel
theorem own_l20 : (1 : Int32) <<< 7 = 128 := by decide +kernel
theorem own_l21 : (1 : Int32) <<< 8 = 256 := by decide +kernel
theorem own_l22 : (1 : Int32) ||| 2 = 3 := by decide +kernel
theorem own_l23 : (10 : Int32) &&& 1 = 0 := by decide +kernel
theorem own_l24 : (10 : Int32) &&& 31 = 10 := by decide +kernel
theorem own_l25 : (100 : Int32) &&& 1 = 0 := by decide +kernel
theorem own_l26 : (103 : Int32) ||| 8 = 111 := by decide +kernel
theorem own_l27 : (11 : Int32) &&& 1 = 1 := by decide +kernel
theorem own_l28 : (11 : Int32) &&& 31 = 11 := by decide +kernel
theorem own_l29 : (111 : Int32) &&& 1 = 1 := by decide +kernel
theorem own_l30 : (112 : Int32) &&& 1 = 0 := by decide +kernel
theorem own_l31 : (119 : Int32) &&& 1 = 1 := by decide +kernel
theorem own_l32 : (12 : Int32) &&& 1 = 0 := by decide +kernel
theorem own_l33 : (12 : Int32) &&& 31 = 12 := by decide +kernel
theorem own_l34 : (120 : Int32) &&& 1 = 0 := by decide +kernel
theorem own_l35 : (127 : Int32) &&& 1 = 1 := by decide +kernel
theorem own_l36 : (127 : Int32) ||| 128 = 255 := by decide +kernel
theorem own_l37 : (128 : Int32) ||| 16 = 144 := by decide +kernel
theorem own_l38 : (128 : Int32) ||| 256 = 384 := by decide +kernel
theorem own_l39 : (128 : Int32) ||| 32 = 160 := by decide +kernel
theorem own_l40 : (13 : Int32) &&& 1 = 1 := by decide +kernel
theorem own_l41 : (13 : Int32) &&& 31 = 13 := by decide +kernel
theorem own_l42 : (14 : Int32) &&& 1 = 0 := by decide +kernel
theorem own_l43 : (14 : Int32) &&& 31 = 14 := by decide +kernel
theorem own_l44 : (14 : Int32) ||| 1 = 15 := by decide +kernel
theorem own_l45 : (144 : Int32) &&& 1 = 0 := by decide +kernel
theorem own_l46 : (144 : Int32) &&& 400 = 144 := by decide +kernel
theorem own_l47 : (144 : Int32) ||| 32 = 176 := by decide +kernel
theorem own_l48 : (15 : Int32) &&& 1 = 1 := by decide +kernel
theorem own_l49 : (15 : Int32) &&& 239 = 15 := by decide +kernel
theorem own_l50 : (15 : Int32) &&& 31 = 15 := by decide +kernel
theorem own_l51 : (15 : Int32) ||| 16 = 31 := by decide +kernel
theorem own_l52 : (15 : Int32) ||| 64 = 79 := by decide +kernel
theorem own_l53 : (16 : Int32) ||| 128 = 144 := by decide +kernel
theorem own_l54 : (160 : Int32) ||| 64 = 224 := by decide +kernel
theorem own_l55 : (17 : Int32) &&& 1 = 1 := by decide +kernel
theorem own_l56 : (176 : Int32) ||| 64 = 240 := by decide +kernel
theorem own_l57 : (18 : Int32) &&& 1 = 0 := by decide +kernel
theorem own_l58 : (192 : Int32) &&& 1 = 0 := by decide +kernel
theorem own_l59 : (2 : Int32) &&& 1 = 0 := by decide +kernel
theorem own_l60 : (2 : Int32) &&& 31 = 2 := by decide +kernel
theorem own_l61 : (2 : Int32) ||| 4 = 6 := by decide +kernel
theorem own_l62 : (200 : Int32) &&& 1 = 0 := by decide +kernel
theorem own_l63 : (224 : Int32) &&& 1 = 0 := by decide +kernel
theorem own_l64 : (224 : Int32) ||| 1 = 225 := by decide +kernel
theorem own_l65 : (224 : Int32) ||| 2 = 226 := by decide +kernel
theorem own_l66 : (224 : Int32) ||| 4 = 228 := by decide +kernel
theorem own_l67 : (224 : Int32) ||| 8 = 232 := by decide +kernel
theorem own_l68 : (225 : Int32) ||| 2 = 227 := by decide +kernel
theorem own_l69 : (226 : Int32) ||| 4 = 230 := by decide +kernel
theorem own_l70 : (227 : Int32) ||| 4 = 231 := by decide +kernel
theorem own_l71 : (228 : Int32) ||| 8 = 236 := by decide +kernel
theorem own_l72 : (230 : Int32) ||| 8 = 238 := by decide +kernel
theorem own_l73 : (231 : Int32) ||| 8 = 239 := by decide +kernel
theorem own_l74 : (236 : Int32) ||| 1 = 237 := by decide +kernel
theorem own_l75 : (237 : Int32) ||| 2 = 239 := by decide +kernel
theorem own_l76 : (239 : Int32) &&& 1 = 1 := by decide +kernel
theorem own_l77 : (24 : Int32) &&& 1 = 0 := by decide +kernel
theorem own_l78 : (240 : Int32) &&& 1 = 0 := by decide +kernel
theorem own_l79 : (240 : Int32) ||| 1 = 241 := by decide +kernel
theorem own_l80 : (241 : Int32) ||| 2 = 243 := by decide +kernel
theorem own_l81 : (243 : Int32) ||| 4 = 247 := by decide +kernel
theorem own_l82 : (247 : Int32) ||| 8 = 255 := by decide +kernel
theorem own_l83 : (25 : Int32) &&& 1 = 1 := by decide +kernel
theorem own_l84 : (255 : Int32) &&& 1 = 1 := by decide +kernel
theorem own_l85 : (256 : Int32) ||| 128 = 384 := by decide +kernel
theorem own_l86 : (27 : Int32) &&& 1 = 1 := by decide +kernel
theorem own_l87 : (28 : Int32) &&& 1 = 0 := by decide +kernel
theorem own_l88 : (29 : Int32) &&& 1 = 1 := by decide +kernel
theorem own_l89 : (3 : Int32) &&& 1 = 1 := by decide +kernel
theorem own_l90 : (3 : Int32) &&& 31 = 3 := by decide +kernel
theorem own_l91 : (3 : Int32) ||| 4 = 7 := by decide +kernel
theorem own_l92 : (30 : Int32) &&& 1 = 0 := by decide +kernel
theorem own_l93 : (31 : Int32) &&& 1 = 1 := by decide +kernel
theorem own_l94 : (31 : Int32) ||| 32 = 63 := by decide +kernel
theorem own_l95 : (32 : Int32) ||| 64 = 96 := by decide +kernel
theorem own_l96 : (36 : Int32) &&& 1 = 0 := by decide +kernel
theorem own_l97 : (384 : Int32) &&& 1 = 0 := by decide +kernel
theorem own_l98 : (384 : Int32) ||| 128 = 384 := by decide +kernel
theorem own_l99 : (384 : Int32) ||| 16 = 400 := by decide +kernel
theorem own_l100 : (384 : Int32) ||| 32 = 416 := by decide +kernel
theorem own_l101 : (4 : Int32) &&& 1 = 0 := by decide +kernel
theorem own_l102 : (4 : Int32) &&& 31 = 4 := by decide +kernel
theorem own_l103 : (400 : Int32) &&& 1 = 0 := by decide +kernel
theorem own_l104 : (400 : Int32) ||| 32 = 432 := by decide +kernel
theorem own_l105 : (416 : Int32) ||| 64 = 480 := by decide +kernel
theorem own_l106 : (432 : Int32) ||| 64 = 496 := by decide +kernel
theorem own_l107 : (43690 : Int32) ^^^ (-1) = (-43691) := by decide +kernel
theorem own_l108 : (48 : Int32) &&& 1 = 0 := by decide +kernel
theorem own_l109 : (480 : Int32) &&& 1 = 0 := by decide +kernel
theorem own_l110 : (480 : Int32) ||| 1 = 481 := by decide +kernel
theorem own_l111 : (480 : Int32) ||| 2 = 482 := by decide +kernel
theorem own_l112 : (480 : Int32) ||| 4 = 484 := by decide +kernel
theorem own_l113 : (480 : Int32) ||| 8 = 488 := by decide +kernel
theorem own_l114 : (481 : Int32) ||| 2 = 483 := by decide +kernel
theorem own_l115 : (482 : Int32) ||| 4 = 486 := by decide +kernel
theorem own_l116 : (483 : Int32) ||| 4 = 487 := by decide +kernel
theorem own_l117 : (484 : Int32) ||| 8 = 492 := by decide +kernel
theorem own_l118 : (486 : Int32) ||| 8 = 494 := by decide +kernel
theorem own_l119 : (487 : Int32) ||| 8 = 495 := by decide +kernel
theorem own_l120 : (496 : Int32) ||| 4 = 500 := by decide +kernel
theorem own_l121 : (5 : Int32) &&& 1 = 1 := by decide +kernel
theorem own_l122 : (5 : Int32) &&& 31 = 5 := by decide +kernel
theorem own_l123 : (50 : Int32) &&& 1 = 0 := by decide +kernel
theorem own_l124 : (500 : Int32) ||| 8 = 508 := by decide +kernel
theorem own_l125 : (508 : Int32) ||| 1 = 509 := by decide +kernel
theorem own_l126 : (509 : Int32) ||| 2 = 511 := by decide +kernel
theorem own_l127 : (511 : Int32) &&& 1 = 1 := by decide +kernel
theorem own_l128 : (52428 : Int32) ^^^ (-1) = (-52429) := by decide +kernel
theorem own_l129 : (55 : Int32) &&& 1 = 1 := by decide +kernel
theorem own_l130 : (56 : Int32) &&& 1 = 0 := by decide +kernel
theorem own_l131 : (59 : Int32) &&& 1 = 1 := by decide +kernel
theorem own_l132 : (6 : Int32) &&& 1 = 0 := by decide +kernel
theorem own_l133 : (6 : Int32) &&& 31 = 6 := by decide +kernel
theorem own_l134 : (6 : Int32) ||| 8 = 14 := by decide +kernel
theorem own_l135 : (60 : Int32) &&& 1 = 0 := by decide +kernel
theorem own_l136 : (61680 : Int32) ^^^ (-1) = (-61681) := by decide +kernel
theorem own_l137 : (63 : Int32) &&& 1 = 1 := by decide +kernel
theorem own_l138 : (63 : Int32) ||| 64 = 127 := by decide +kernel
theorem own_l139 : (7 : Int32) &&& 1 = 1 := by decide +kernel
theorem own_l140 : (7 : Int32) &&& 31 = 7 := by decide +kernel
theorem own_l141 : (7 : Int32) ||| 8 = 15 := by decide +kernel
theorem own_l142 : (72 : Int32) &&& 1 = 0 := by decide +kernel
theorem own_l143 : (79 : Int32) ||| 32 = 111 := by decide +kernel
theorem own_l144 : (8 : Int32) &&& 1 = 0 := by decide +kernel
theorem own_l145 : (8 : Int32) &&& 31 = 8 := by decide +kernel
theorem own_l146 : (9 : Int32) &&& 1 = 1 := by decide +kernel
theorem own_l147 : (9 : Int32) &&& 31 = 9 := by decide +kernel
theorem own_l148 : (96 : Int32) &&& 1 = 0 := by decide +kernel
theorem own_l149 : (96 : Int32) ||| 1 = 97 := by decide +kernel
theorem own_l150 : (97 : Int32) ||| 2 = 99 := by decide +kernel
theorem own_l151 : (99 : Int32) ||| 4 = 103 := by decide +kernel
theorem own_l152 : XT.ushr 0 0 = 0 := by decide +kernel
theorem own_l153 : XT.ushr 0 1 = 0 := by decide +kernel
theorem own_l154 : XT.ushr 0 2 = 0 := by decide +kernel
theorem own_l155 : XT.ushr 0 3 = 0 := by decide +kernel
theorem own_l156 : XT.ushr 0 4 = 0 := by decide +kernel
theorem own_l157 : XT.ushr 0 5 = 0 := by decide +kernel
theorem own_l158 : XT.ushr 0 6 = 0 := by decide +kernel
theorem own_l159 : XT.ushr 0 7 = 0 := by decide +kernel
theorem own_l160 : XT.ushr 0 8 = 0 := by decide +kernel
theorem own_l161 : XT.ushr 1 1 = 0 := by decide +kernel
theorem own_l162 : XT.ushr 1 2 = 0 := by decide +kernel
theorem own_l163 : XT.ushr 1 3 = 0 := by decide +kernel
theorem own_l164 : XT.ushr 10 1 = 5 := by decide +kernel
theorem own_l165 : XT.ushr 10 2 = 2 := by decide +kernel
theorem own_l166 : XT.ushr 10 3 = 1 := by decide +kernel
theorem own_l167 : XT.ushr 103 3 = 12 := by decide +kernel
theorem own_l168 : XT.ushr 11 1 = 5 := by decide +kernel
theorem own_l169 : XT.ushr 11 2 = 2 := by decide +kernel
theorem own_l170 : XT.ushr 11 3 = 1 := by decide +kernel
theorem own_l171 : XT.ushr 111 0 = 111 := by decide +kernel
theorem own_l172 : XT.ushr 111 1 = 55 := by decide +kernel
theorem own_l173 : XT.ushr 111 2 = 27 := by decide +kernel
theorem own_l174 : XT.ushr 111 3 = 13 := by decide +kernel
theorem own_l175 : XT.ushr 111 4 = 6 := by decide +kernel
theorem own_l176 : XT.ushr 111 5 = 3 := by decide +kernel
theorem own_l177 : XT.ushr 111 6 = 1 := by decide +kernel
theorem own_l178 : XT.ushr 111 7 = 0 := by decide +kernel
theorem own_l179 : XT.ushr 12 1 = 6 := by decide +kernel
theorem own_l180 : XT.ushr 12 2 = 3 := by decide +kernel
theorem own_l181 : XT.ushr 12 3 = 1 := by decide +kernel
theorem own_l182 : XT.ushr 127 0 = 127 := by decide +kernel
theorem own_l183 : XT.ushr 127 5 = 3 := by decide +kernel
theorem own_l184 : XT.ushr 127 6 = 1 := by decide +kernel
theorem own_l185 : XT.ushr 127 7 = 0 := by decide +kernel
theorem own_l186 : XT.ushr 128 4 = 8 := by decide +kernel
theorem own_l187 : XT.ushr 128 5 = 4 := by decide +kernel
theorem own_l188 : XT.ushr 128 7 = 1 := by decide +kernel
theorem own_l189 : XT.ushr 13 1 = 6 := by decide +kernel
theorem own_l190 : XT.ushr 13 2 = 3 := by decide +kernel
theorem own_l191 : XT.ushr 13 3 = 1 := by decide +kernel
theorem own_l192 : XT.ushr 14 0 = 14 := by decide +kernel
theorem own_l193 : XT.ushr 14 1 = 7 := by decide +kernel
theorem own_l194 : XT.ushr 14 2 = 3 := by decide +kernel
theorem own_l195 : XT.ushr 14 3 = 1 := by decide +kernel
theorem own_l196 : XT.ushr 144 0 = 144 := by decide +kernel
theorem own_l197 : XT.ushr 144 1 = 72 := by decide +kernel
theorem own_l198 : XT.ushr 144 10 = 0 := by decide +kernel
theorem own_l199 : XT.ushr 144 11 = 0 := by decide +kernel
theorem own_l200 : XT.ushr 144 12 = 0 := by decide +kernel
theorem own_l201 : XT.ushr 144 13 = 0 := by decide +kernel
theorem own_l202 : XT.ushr 144 14 = 0 := by decide +kernel
theorem own_l203 : XT.ushr 144 15 = 0 := by decide +kernel
theorem own_l204 : XT.ushr 144 16 = 0 := by decide +kernel
theorem own_l205 : XT.ushr 144 17 = 0 := by decide +kernel
theorem own_l206 : XT.ushr 144 18 = 0 := by decide +kernel
theorem own_l207 : XT.ushr 144 19 = 0 := by decide +kernel
theorem own_l208 : XT.ushr 144 2 = 36 := by decide +kernel
theorem own_l209 : XT.ushr 144 20 = 0 := by decide +kernel
theorem own_l210 : XT.ushr 144 21 = 0 := by decide +kernel
theorem own_l211 : XT.ushr 144 22 = 0 := by decide +kernel
theorem own_l212 : XT.ushr 144 23 = 0 := by decide +kernel
theorem own_l213 : XT.ushr 144 24 = 0 := by decide +kernel
theorem own_l214 : XT.ushr 144 25 = 0 := by decide +kernel
theorem own_l215 : XT.ushr 144 26 = 0 := by decide +kernel
theorem own_l216 : XT.ushr 144 27 = 0 := by decide +kernel
theorem own_l217 : XT.ushr 144 28 = 0 := by decide +kernel
theorem own_l218 : XT.ushr 144 29 = 0 := by decide +kernel
theorem own_l219 : XT.ushr 144 3 = 18 := by decide +kernel
theorem own_l220 : XT.ushr 144 30 = 0 := by decide +kernel
theorem own_l221 : XT.ushr 144 31 = 0 := by decide +kernel
theorem own_l222 : XT.ushr 144 4 = 9 := by decide +kernel
theorem own_l223 : XT.ushr 144 5 = 4 := by decide +kernel
theorem own_l224 : XT.ushr 144 6 = 2 := by decide +kernel
theorem own_l225 : XT.ushr 144 7 = 1 := by decide +kernel
theorem own_l226 : XT.ushr 144 8 = 0 := by decide +kernel
theorem own_l227 : XT.ushr 144 9 = 0 := by decide +kernel
theorem own_l228 : XT.ushr 15 0 = 15 := by decide +kernel
theorem own_l229 : XT.ushr 15 1 = 7 := by decide +kernel
theorem own_l230 : XT.ushr 15 10 = 0 := by decide +kernel
theorem own_l231 : XT.ushr 15 11 = 0 := by decide +kernel
theorem own_l232 : XT.ushr 15 12 = 0 := by decide +kernel
theorem own_l233 : XT.ushr 15 13 = 0 := by decide +kernel
theorem own_l234 : XT.ushr 15 14 = 0 := by decide +kernel
theorem own_l235 : XT.ushr 15 15 = 0 := by decide +kernel
theorem own_l236 : XT.ushr 15 16 = 0 := by decide +kernel
theorem own_l237 : XT.ushr 15 17 = 0 := by decide +kernel
theorem own_l238 : XT.ushr 15 18 = 0 := by decide +kernel
theorem own_l239 : XT.ushr 15 19 = 0 := by decide +kernel
theorem own_l240 : XT.ushr 15 2 = 3 := by decide +kernel
theorem own_l241 : XT.ushr 15 20 = 0 := by decide +kernel
theorem own_l242 : XT.ushr 15 21 = 0 := by decide +kernel
theorem own_l243 : XT.ushr 15 22 = 0 := by decide +kernel
theorem own_l244 : XT.ushr 15 23 = 0 := by decide +kernel
theorem own_l245 : XT.ushr 15 24 = 0 := by decide +kernel
theorem own_l246 : XT.ushr 15 25 = 0 := by decide +kernel
theorem own_l247 : XT.ushr 15 26 = 0 := by decide +kernel
theorem own_l248 : XT.ushr 15 27 = 0 := by decide +kernel
theorem own_l249 : XT.ushr 15 28 = 0 := by decide +kernel
theorem own_l250 : XT.ushr 15 29 = 0 := by decide +kernel
theorem own_l251 : XT.ushr 15 3 = 1 := by decide +kernel
theorem own_l252 : XT.ushr 15 30 = 0 := by decide +kernel
theorem own_l253 : XT.ushr 15 31 = 0 := by decide +kernel
theorem own_l254 : XT.ushr 15 4 = 0 := by decide +kernel
theorem own_l255 : XT.ushr 15 5 = 0 := by decide +kernel
theorem own_l256 : XT.ushr 15 6 = 0 := by decide +kernel
theorem own_l257 : XT.ushr 15 7 = 0 := by decide +kernel
theorem own_l258 : XT.ushr 15 8 = 0 := by decide +kernel
theorem own_l259 : XT.ushr 15 9 = 0 := by decide +kernel
theorem own_l260 : XT.ushr 160 6 = 2 := by decide +kernel
theorem own_l261 : XT.ushr 160 7 = 1 := by decide +kernel
theorem own_l262 : XT.ushr 17 1 = 8 := by decide +kernel
theorem own_l263 : XT.ushr 176 6 = 2 := by decide +kernel
theorem own_l264 : XT.ushr 2 1 = 1 := by decide +kernel
theorem own_l265 : XT.ushr 2 2 = 0 := by decide +kernel
theorem own_l266 : XT.ushr 2 3 = 0 := by decide +kernel
theorem own_l267 : XT.ushr 224 0 = 224 := by decide +kernel
theorem own_l268 : XT.ushr 224 1 = 112 := by decide +kernel
theorem own_l269 : XT.ushr 224 2 = 56 := by decide +kernel
theorem own_l270 : XT.ushr 224 3 = 28 := by decide +kernel
theorem own_l271 : XT.ushr 224 5 = 7 := by decide +kernel
theorem own_l272 : XT.ushr 224 6 = 3 := by decide +kernel
theorem own_l273 : XT.ushr 224 7 = 1 := by decide +kernel
theorem own_l274 : XT.ushr 225 1 = 112 := by decide +kernel
theorem own_l275 : XT.ushr 226 2 = 56 := by decide +kernel
theorem own_l276 : XT.ushr 227 2 = 56 := by decide +kernel
theorem own_l277 : XT.ushr 228 3 = 28 := by decide +kernel
theorem own_l278 : XT.ushr 230 3 = 28 := by decide +kernel
theorem own_l279 : XT.ushr 231 3 = 28 := by decide +kernel
theorem own_l280 : XT.ushr 236 5 = 7 := by decide +kernel
theorem own_l281 : XT.ushr 239 0 = 239 := by decide +kernel
theorem own_l282 : XT.ushr 239 1 = 119 := by decide +kernel
theorem own_l283 : XT.ushr 239 2 = 59 := by decide +kernel
theorem own_l284 : XT.ushr 239 3 = 29 := by decide +kernel
theorem own_l285 : XT.ushr 239 4 = 14 := by decide +kernel
theorem own_l286 : XT.ushr 239 5 = 7 := by decide +kernel
theorem own_l287 : XT.ushr 239 6 = 3 := by decide +kernel
theorem own_l288 : XT.ushr 239 7 = 1 := by decide +kernel
theorem own_l289 : XT.ushr 240 0 = 240 := by decide +kernel
theorem own_l290 : XT.ushr 240 7 = 1 := by decide +kernel
theorem own_l291 : XT.ushr 241 1 = 120 := by decide +kernel
theorem own_l292 : XT.ushr 243 2 = 60 := by decide +kernel
theorem own_l293 : XT.ushr 243 5 = 7 := by decide +kernel
theorem own_l294 : XT.ushr 247 3 = 30 := by decide +kernel
theorem own_l295 : XT.ushr 255 0 = 255 := by decide +kernel
theorem own_l296 : XT.ushr 255 1 = 127 := by decide +kernel
theorem own_l297 : XT.ushr 255 2 = 63 := by decide +kernel
theorem own_l298 : XT.ushr 255 3 = 31 := by decide +kernel
theorem own_l299 : XT.ushr 255 4 = 15 := by decide +kernel
theorem own_l300 : XT.ushr 255 5 = 7 := by decide +kernel
theorem own_l301 : XT.ushr 255 6 = 3 := by decide +kernel
theorem own_l302 : XT.ushr 255 7 = 1 := by decide +kernel
theorem own_l303 : XT.ushr 256 7 = 2 := by decide +kernel
theorem own_l304 : XT.ushr 256 8 = 1 := by decide +kernel
theorem own_l305 : XT.ushr 3 1 = 1 := by decide +kernel
theorem own_l306 : XT.ushr 3 2 = 0 := by decide +kernel
theorem own_l307 : XT.ushr 3 3 = 0 := by decide +kernel
theorem own_l308 : XT.ushr 31 0 = 31 := by decide +kernel
theorem own_l309 : XT.ushr 31 1 = 15 := by decide +kernel
theorem own_l310 : XT.ushr 31 2 = 7 := by decide +kernel
theorem own_l311 : XT.ushr 31 3 = 3 := by decide +kernel
theorem own_l312 : XT.ushr 31 4 = 1 := by decide +kernel
theorem own_l313 : XT.ushr 31 5 = 0 := by decide +kernel
theorem own_l314 : XT.ushr 31 6 = 0 := by decide +kernel
theorem own_l315 : XT.ushr 31 7 = 0 := by decide +kernel
theorem own_l316 : XT.ushr 32 6 = 0 := by decide +kernel
theorem own_l317 : XT.ushr 384 0 = 384 := by decide +kernel
theorem own_l318 : XT.ushr 384 1 = 192 := by decide +kernel
theorem own_l319 : XT.ushr 384 2 = 96 := by decide +kernel
theorem own_l320 : XT.ushr 384 3 = 48 := by decide +kernel
theorem own_l321 : XT.ushr 384 4 = 24 := by decide +kernel
theorem own_l322 : XT.ushr 384 5 = 12 := by decide +kernel
theorem own_l323 : XT.ushr 384 6 = 6 := by decide +kernel
theorem own_l324 : XT.ushr 384 7 = 3 := by decide +kernel
theorem own_l325 : XT.ushr 384 8 = 1 := by decide +kernel
theorem own_l326 : XT.ushr 4 1 = 2 := by decide +kernel
theorem own_l327 : XT.ushr 4 2 = 1 := by decide +kernel
theorem own_l328 : XT.ushr 4 3 = 0 := by decide +kernel
theorem own_l329 : XT.ushr 400 0 = 400 := by decide +kernel
theorem own_l330 : XT.ushr 400 1 = 200 := by decide +kernel
theorem own_l331 : XT.ushr 400 2 = 100 := by decide +kernel
theorem own_l332 : XT.ushr 400 3 = 50 := by decide +kernel
theorem own_l333 : XT.ushr 400 4 = 25 := by decide +kernel
theorem own_l334 : XT.ushr 400 5 = 12 := by decide +kernel
theorem own_l335 : XT.ushr 400 6 = 6 := by decide +kernel
theorem own_l336 : XT.ushr 400 7 = 3 := by decide +kernel
theorem own_l337 : XT.ushr 400 8 = 1 := by decide +kernel
theorem own_l338 : XT.ushr 416 6 = 6 := by decide +kernel
theorem own_l339 : XT.ushr 416 7 = 3 := by decide +kernel
theorem own_l340 : XT.ushr 480 0 = 480 := by decide +kernel
theorem own_l341 : XT.ushr 480 1 = 240 := by decide +kernel
theorem own_l342 : XT.ushr 480 2 = 120 := by decide +kernel
theorem own_l343 : XT.ushr 480 3 = 60 := by decide +kernel
theorem own_l344 : XT.ushr 480 5 = 15 := by decide +kernel
theorem own_l345 : XT.ushr 480 6 = 7 := by decide +kernel
theorem own_l346 : XT.ushr 480 7 = 3 := by decide +kernel
theorem own_l347 : XT.ushr 481 1 = 240 := by decide +kernel
theorem own_l348 : XT.ushr 482 2 = 120 := by decide +kernel
theorem own_l349 : XT.ushr 483 2 = 120 := by decide +kernel
theorem own_l350 : XT.ushr 484 3 = 60 := by decide +kernel
theorem own_l351 : XT.ushr 486 3 = 60 := by decide +kernel
theorem own_l352 : XT.ushr 487 3 = 60 := by decide +kernel
theorem own_l353 : XT.ushr 496 6 = 7 := by decide +kernel
theorem own_l354 : XT.ushr 5 1 = 2 := by decide +kernel
theorem own_l355 : XT.ushr 5 2 = 1 := by decide +kernel
theorem own_l356 : XT.ushr 5 3 = 0 := by decide +kernel
theorem own_l357 : XT.ushr 508 5 = 15 := by decide +kernel
theorem own_l358 : XT.ushr 511 0 = 511 := by decide +kernel
theorem own_l359 : XT.ushr 511 1 = 255 := by decide +kernel
theorem own_l360 : XT.ushr 511 2 = 127 := by decide +kernel
theorem own_l361 : XT.ushr 511 3 = 63 := by decide +kernel
theorem own_l362 : XT.ushr 511 4 = 31 := by decide +kernel
theorem own_l363 : XT.ushr 511 5 = 15 := by decide +kernel
theorem own_l364 : XT.ushr 511 6 = 7 := by decide +kernel
theorem own_l365 : XT.ushr 511 7 = 3 := by decide +kernel
theorem own_l366 : XT.ushr 511 8 = 1 := by decide +kernel
theorem own_l367 : XT.ushr 6 1 = 3 := by decide +kernel
theorem own_l368 : XT.ushr 6 2 = 1 := by decide +kernel
theorem own_l369 : XT.ushr 6 3 = 0 := by decide +kernel
theorem own_l370 : XT.ushr 63 6 = 0 := by decide +kernel
theorem own_l371 : XT.ushr 7 1 = 3 := by decide +kernel
theorem own_l372 : XT.ushr 7 2 = 1 := by decide +kernel
theorem own_l373 : XT.ushr 7 3 = 0 := by decide +kernel
theorem own_l374 : XT.ushr 79 5 = 2 := by decide +kernel
theorem own_l375 : XT.ushr 8 1 = 4 := by decide +kernel
theorem own_l376 : XT.ushr 8 2 = 2 := by decide +kernel
theorem own_l377 : XT.ushr 8 3 = 1 := by decide +kernel
theorem own_l378 : XT.ushr 9 1 = 4 := by decide +kernel
theorem own_l379 : XT.ushr 9 2 = 2 := by decide +kernel
theorem own_l380 : XT.ushr 9 3 = 1 := by decide +kernel
theorem own_l381 : XT.ushr 96 0 = 96 := by decide +kernel
theorem own_l382 : XT.ushr 97 1 = 48 := by decide +kernel
theorem own_l383 : XT.ushr 99 2 = 24 := by decide +kernel
theorem own_l384 : XT.ushr 99 5 = 3 := by decide +kernel
theorem own_ush0 (x : Int32) : XT.ushr x 0 = x := by
  unfold XT.ushr
  have e : ((0 : Int32) &&& 31).toUInt32 = 0 := by decide +kernel
  rw [e, UInt32.shiftRight_zero]
  rfl
theorem own_lt {b : Nat} {pre post : AHeap} {s : Nat → Int32} {A : Nat → List Int32} {lit : Int32} {Q : Option Value → AHeap → Prop} : M32 0 [.val (.ref b), .val (.int lit), .unset] [] (put b pre s A post) Q = (inB (XT.ushr lit 1) (A 14) ∧ Q (some (.int (if lit &&& 1 = 0 then getA (A 14) (XT.ushr lit 1) else (getA (A 14) (XT.ushr lit 1) ^^^ -1) &&& 65535))) (put b pre s A post)) := by
  by_cases z : lit &&& 1 = 0 <;> simp [z, m32_0, m32_1, m32_4, m32_5, m32_6, m32_7, m32_8u, m32_9, m32_10, m32_11, m32_12, m32_15, m32_16, m32_17, m32_18, m32_20, m32_21, m32_22, m32_23, nb0, nb1, ou_a, Option.toList_some, Option.toList_none, List.nil_append, List.cons_append]
def own_b (t : Bool) : Int32 := if t then 1 else 0
theorem own_tb {s : Int32} (h : s = 0 ∨ s = 1) : ∃ t, s = own_b t := by
  rcases h with rfl | rfl
  · exact ⟨false, rfl⟩
  · exact ⟨true, rfl⟩
theorem own_fin (s' : Nat → Int32) (A' : Nat → List Int32) (hl : ∀ i, (A' i).length = (A0 i).length) : (some (Value.int 1) : Option Value) = some (.int 1) ∧ (put 0 [] s' A' []).length - ([] : AHeap).length ≤ 40 ∧ tot tables_1 (put 0 [] s' A' []) - tot tables_1 [] ≤ 1344 := by
  refine ⟨rfl, ?_, ?_⟩ <;> simp only [hl, put_len, put_tot, pad_0, tot_nil, List.length_nil, List.length_cons, A0l_0, A0l_1, A0l_2, A0l_3, A0l_4, A0l_5, A0l_6, A0l_7, A0l_8, A0l_9, A0l_10, A0l_11, A0l_12, A0l_13, A0l_14] <;> omega
theorem x5_0 {b0 b1 b2 b3 b4 : Int32} (h0 : b0 = 0 ∨ b0 = 1) (h1 : b1 = 0 ∨ b1 = 1) (h2 : b2 = 0 ∨ b2 = 1) (h3 : b3 = 0 ∨ b3 = 1) (h4 : b4 = 0 ∨ b4 = 1) : (b0 ||| b1 <<< 1 ||| b2 <<< 2 ||| b3 <<< 3 ||| b4 <<< 4) &&& 1 = b0 := by
  obtain ⟨t0, rfl⟩ := own_tb h0
  obtain ⟨t1, rfl⟩ := own_tb h1
  obtain ⟨t2, rfl⟩ := own_tb h2
  obtain ⟨t3, rfl⟩ := own_tb h3
  obtain ⟨t4, rfl⟩ := own_tb h4
  revert t0 t1 t2 t3 t4
  decide +kernel
theorem x5_1 {b0 b1 b2 b3 b4 : Int32} (h0 : b0 = 0 ∨ b0 = 1) (h1 : b1 = 0 ∨ b1 = 1) (h2 : b2 = 0 ∨ b2 = 1) (h3 : b3 = 0 ∨ b3 = 1) (h4 : b4 = 0 ∨ b4 = 1) : XT.ushr (b0 ||| b1 <<< 1 ||| b2 <<< 2 ||| b3 <<< 3 ||| b4 <<< 4) 1 &&& 1 = b1 := by
  obtain ⟨t0, rfl⟩ := own_tb h0
  obtain ⟨t1, rfl⟩ := own_tb h1
  obtain ⟨t2, rfl⟩ := own_tb h2
  obtain ⟨t3, rfl⟩ := own_tb h3
  obtain ⟨t4, rfl⟩ := own_tb h4
  revert t0 t1 t2 t3 t4
  decide +kernel
theorem x5_2 {b0 b1 b2 b3 b4 : Int32} (h0 : b0 = 0 ∨ b0 = 1) (h1 : b1 = 0 ∨ b1 = 1) (h2 : b2 = 0 ∨ b2 = 1) (h3 : b3 = 0 ∨ b3 = 1) (h4 : b4 = 0 ∨ b4 = 1) : XT.ushr (b0 ||| b1 <<< 1 ||| b2 <<< 2 ||| b3 <<< 3 ||| b4 <<< 4) 2 &&& 1 = b2 := by
  obtain ⟨t0, rfl⟩ := own_tb h0
  obtain ⟨t1, rfl⟩ := own_tb h1
  obtain ⟨t2, rfl⟩ := own_tb h2
  obtain ⟨t3, rfl⟩ := own_tb h3
  obtain ⟨t4, rfl⟩ := own_tb h4
  revert t0 t1 t2 t3 t4
  decide +kernel
theorem x5_3 {b0 b1 b2 b3 b4 : Int32} (h0 : b0 = 0 ∨ b0 = 1) (h1 : b1 = 0 ∨ b1 = 1) (h2 : b2 = 0 ∨ b2 = 1) (h3 : b3 = 0 ∨ b3 = 1) (h4 : b4 = 0 ∨ b4 = 1) : XT.ushr (b0 ||| b1 <<< 1 ||| b2 <<< 2 ||| b3 <<< 3 ||| b4 <<< 4) 3 &&& 1 = b3 := by
  obtain ⟨t0, rfl⟩ := own_tb h0
  obtain ⟨t1, rfl⟩ := own_tb h1
  obtain ⟨t2, rfl⟩ := own_tb h2
  obtain ⟨t3, rfl⟩ := own_tb h3
  obtain ⟨t4, rfl⟩ := own_tb h4
  revert t0 t1 t2 t3 t4
  decide +kernel
theorem x5_4 {b0 b1 b2 b3 b4 : Int32} (h0 : b0 = 0 ∨ b0 = 1) (h1 : b1 = 0 ∨ b1 = 1) (h2 : b2 = 0 ∨ b2 = 1) (h3 : b3 = 0 ∨ b3 = 1) (h4 : b4 = 0 ∨ b4 = 1) : XT.ushr (b0 ||| b1 <<< 1 ||| b2 <<< 2 ||| b3 <<< 3 ||| b4 <<< 4) 4 &&& 1 = b4 := by
  obtain ⟨t0, rfl⟩ := own_tb h0
  obtain ⟨t1, rfl⟩ := own_tb h1
  obtain ⟨t2, rfl⟩ := own_tb h2
  obtain ⟨t3, rfl⟩ := own_tb h3
  obtain ⟨t4, rfl⟩ := own_tb h4
  revert t0 t1 t2 t3 t4
  decide +kernel
theorem x6_2 {b0 b1 b2 b3 b4 b5 : Int32} (h0 : b0 = 0 ∨ b0 = 1) (h1 : b1 = 0 ∨ b1 = 1) (h2 : b2 = 0 ∨ b2 = 1) (h3 : b3 = 0 ∨ b3 = 1) (h4 : b4 = 0 ∨ b4 = 1) (h5 : b5 = 0 ∨ b5 = 1) : XT.ushr (b0 ||| b1 <<< 1 ||| b2 <<< 2 ||| b3 <<< 3 ||| b4 <<< 4 ||| b5 <<< 5) 2 &&& 1 = b2 := by
  obtain ⟨t0, rfl⟩ := own_tb h0
  obtain ⟨t1, rfl⟩ := own_tb h1
  obtain ⟨t2, rfl⟩ := own_tb h2
  obtain ⟨t3, rfl⟩ := own_tb h3
  obtain ⟨t4, rfl⟩ := own_tb h4
  obtain ⟨t5, rfl⟩ := own_tb h5
  revert t0 t1 t2 t3 t4 t5
  decide +kernel
theorem x6_3 {b0 b1 b2 b3 b4 b5 : Int32} (h0 : b0 = 0 ∨ b0 = 1) (h1 : b1 = 0 ∨ b1 = 1) (h2 : b2 = 0 ∨ b2 = 1) (h3 : b3 = 0 ∨ b3 = 1) (h4 : b4 = 0 ∨ b4 = 1) (h5 : b5 = 0 ∨ b5 = 1) : XT.ushr (b0 ||| b1 <<< 1 ||| b2 <<< 2 ||| b3 <<< 3 ||| b4 <<< 4 ||| b5 <<< 5) 3 &&& 1 = b3 := by
  obtain ⟨t0, rfl⟩ := own_tb h0
  obtain ⟨t1, rfl⟩ := own_tb h1
  obtain ⟨t2, rfl⟩ := own_tb h2
  obtain ⟨t3, rfl⟩ := own_tb h3
  obtain ⟨t4, rfl⟩ := own_tb h4
  obtain ⟨t5, rfl⟩ := own_tb h5
  revert t0 t1 t2 t3 t4 t5
  decide +kernel
theorem x7_5 {b0 b1 b2 b3 b4 b5 b6 : Int32} (h0 : b0 = 0 ∨ b0 = 1) (h1 : b1 = 0 ∨ b1 = 1) (h2 : b2 = 0 ∨ b2 = 1) (h3 : b3 = 0 ∨ b3 = 1) (h4 : b4 = 0 ∨ b4 = 1) (h5 : b5 = 0 ∨ b5 = 1) (h6 : b6 = 0 ∨ b6 = 1) : XT.ushr (b0 ||| b1 <<< 1 ||| b2 <<< 2 ||| b3 <<< 3 ||| b4 <<< 4 ||| b5 <<< 5 ||| b6 <<< 6) 5 &&& 1 = b5 := by
  obtain ⟨t0, rfl⟩ := own_tb h0
  obtain ⟨t1, rfl⟩ := own_tb h1
  obtain ⟨t2, rfl⟩ := own_tb h2
  obtain ⟨t3, rfl⟩ := own_tb h3
  obtain ⟨t4, rfl⟩ := own_tb h4
  obtain ⟨t5, rfl⟩ := own_tb h5
  obtain ⟨t6, rfl⟩ := own_tb h6
  revert t0 t1 t2 t3 t4 t5 t6
  decide +kernel
theorem x7_6 {b0 b1 b2 b3 b4 b5 b6 : Int32} (h0 : b0 = 0 ∨ b0 = 1) (h1 : b1 = 0 ∨ b1 = 1) (h2 : b2 = 0 ∨ b2 = 1) (h3 : b3 = 0 ∨ b3 = 1) (h4 : b4 = 0 ∨ b4 = 1) (h5 : b5 = 0 ∨ b5 = 1) (h6 : b6 = 0 ∨ b6 = 1) : XT.ushr (b0 ||| b1 <<< 1 ||| b2 <<< 2 ||| b3 <<< 3 ||| b4 <<< 4 ||| b5 <<< 5 ||| b6 <<< 6) 6 &&& 1 = b6 := by
  obtain ⟨t0, rfl⟩ := own_tb h0
  obtain ⟨t1, rfl⟩ := own_tb h1
  obtain ⟨t2, rfl⟩ := own_tb h2
  obtain ⟨t3, rfl⟩ := own_tb h3
  obtain ⟨t4, rfl⟩ := own_tb h4
  obtain ⟨t5, rfl⟩ := own_tb h5
  obtain ⟨t6, rfl⟩ := own_tb h6
  revert t0 t1 t2 t3 t4 t5 t6
  decide +kernel
theorem x8_7 {b0 b1 b2 b3 b4 b5 b6 b7 : Int32} (h0 : b0 = 0 ∨ b0 = 1) (h1 : b1 = 0 ∨ b1 = 1) (h2 : b2 = 0 ∨ b2 = 1) (h3 : b3 = 0 ∨ b3 = 1) (h4 : b4 = 0 ∨ b4 = 1) (h5 : b5 = 0 ∨ b5 = 1) (h6 : b6 = 0 ∨ b6 = 1) (h7 : b7 = 0 ∨ b7 = 1) : XT.ushr (b0 ||| b1 <<< 1 ||| b2 <<< 2 ||| b3 <<< 3 ||| b4 <<< 4 ||| b5 <<< 5 ||| b6 <<< 6 ||| b7 <<< 7) 7 &&& 1 = b7 := by
  obtain ⟨t0, rfl⟩ := own_tb h0
  obtain ⟨t1, rfl⟩ := own_tb h1
  obtain ⟨t2, rfl⟩ := own_tb h2
  obtain ⟨t3, rfl⟩ := own_tb h3
  obtain ⟨t4, rfl⟩ := own_tb h4
  obtain ⟨t5, rfl⟩ := own_tb h5
  obtain ⟨t6, rfl⟩ := own_tb h6
  obtain ⟨t7, rfl⟩ := own_tb h7
  revert t0 t1 t2 t3 t4 t5 t6 t7
  decide +kernel
theorem x8_4 {b0 b1 b2 b3 b4 b5 b6 b7 : Int32} (h0 : b0 = 0 ∨ b0 = 1) (h1 : b1 = 0 ∨ b1 = 1) (h2 : b2 = 0 ∨ b2 = 1) (h3 : b3 = 0 ∨ b3 = 1) (h4 : b4 = 0 ∨ b4 = 1) (h5 : b5 = 0 ∨ b5 = 1) (h6 : b6 = 0 ∨ b6 = 1) (h7 : b7 = 0 ∨ b7 = 1) : XT.ushr (b0 ||| b1 <<< 1 ||| b2 <<< 2 ||| b3 <<< 3 ||| b4 <<< 4 ||| b5 <<< 5 ||| b6 <<< 6 ||| b7 <<< 7) 4 &&& 1 = b4 := by
  obtain ⟨t0, rfl⟩ := own_tb h0
  obtain ⟨t1, rfl⟩ := own_tb h1
  obtain ⟨t2, rfl⟩ := own_tb h2
  obtain ⟨t3, rfl⟩ := own_tb h3
  obtain ⟨t4, rfl⟩ := own_tb h4
  obtain ⟨t5, rfl⟩ := own_tb h5
  obtain ⟨t6, rfl⟩ := own_tb h6
  obtain ⟨t7, rfl⟩ := own_tb h7
  revert t0 t1 t2 t3 t4 t5 t6 t7
  decide +kernel
theorem x9_7 {b0 b1 b2 b3 b4 b5 b6 b7 b8 : Int32} (h0 : b0 = 0 ∨ b0 = 1) (h1 : b1 = 0 ∨ b1 = 1) (h2 : b2 = 0 ∨ b2 = 1) (h3 : b3 = 0 ∨ b3 = 1) (h4 : b4 = 0 ∨ b4 = 1) (h5 : b5 = 0 ∨ b5 = 1) (h6 : b6 = 0 ∨ b6 = 1) (h7 : b7 = 0 ∨ b7 = 1) (h8 : b8 = 0 ∨ b8 = 1) : XT.ushr (b0 ||| b1 <<< 1 ||| b2 <<< 2 ||| b3 <<< 3 ||| b4 <<< 4 ||| b5 <<< 5 ||| b6 <<< 6 ||| b7 <<< 7 ||| b8 <<< 8) 7 &&& 1 = b7 := by
  obtain ⟨t0, rfl⟩ := own_tb h0
  obtain ⟨t1, rfl⟩ := own_tb h1
  obtain ⟨t2, rfl⟩ := own_tb h2
  obtain ⟨t3, rfl⟩ := own_tb h3
  obtain ⟨t4, rfl⟩ := own_tb h4
  obtain ⟨t5, rfl⟩ := own_tb h5
  obtain ⟨t6, rfl⟩ := own_tb h6
  obtain ⟨t7, rfl⟩ := own_tb h7
  obtain ⟨t8, rfl⟩ := own_tb h8
  revert t0 t1 t2 t3 t4 t5 t6 t7 t8
  decide +kernel
theorem x9_8 {b0 b1 b2 b3 b4 b5 b6 b7 b8 : Int32} (h0 : b0 = 0 ∨ b0 = 1) (h1 : b1 = 0 ∨ b1 = 1) (h2 : b2 = 0 ∨ b2 = 1) (h3 : b3 = 0 ∨ b3 = 1) (h4 : b4 = 0 ∨ b4 = 1) (h5 : b5 = 0 ∨ b5 = 1) (h6 : b6 = 0 ∨ b6 = 1) (h7 : b7 = 0 ∨ b7 = 1) (h8 : b8 = 0 ∨ b8 = 1) : XT.ushr (b0 ||| b1 <<< 1 ||| b2 <<< 2 ||| b3 <<< 3 ||| b4 <<< 4 ||| b5 <<< 5 ||| b6 <<< 6 ||| b7 <<< 7 ||| b8 <<< 8) 8 &&& 1 = b8 := by
  obtain ⟨t0, rfl⟩ := own_tb h0
  obtain ⟨t1, rfl⟩ := own_tb h1
  obtain ⟨t2, rfl⟩ := own_tb h2
  obtain ⟨t3, rfl⟩ := own_tb h3
  obtain ⟨t4, rfl⟩ := own_tb h4
  obtain ⟨t5, rfl⟩ := own_tb h5
  obtain ⟨t6, rfl⟩ := own_tb h6
  obtain ⟨t7, rfl⟩ := own_tb h7
  obtain ⟨t8, rfl⟩ := own_tb h8
  revert t0 t1 t2 t3 t4 t5 t6 t7 t8
  decide +kernel
theorem y6_4 {b0 b1 b2 b3 b4 b7 : Int32} (h0 : b0 = 0 ∨ b0 = 1) (h1 : b1 = 0 ∨ b1 = 1) (h2 : b2 = 0 ∨ b2 = 1) (h3 : b3 = 0 ∨ b3 = 1) (h4 : b4 = 0 ∨ b4 = 1) (h7 : b7 = 0 ∨ b7 = 1) : XT.ushr (b0 ||| b1 <<< 1 ||| b2 <<< 2 ||| b3 <<< 3 ||| b4 <<< 4 ||| b7 <<< 7) 4 &&& 1 = b4 := by
  obtain ⟨t0, rfl⟩ := own_tb h0
  obtain ⟨t1, rfl⟩ := own_tb h1
  obtain ⟨t2, rfl⟩ := own_tb h2
  obtain ⟨t3, rfl⟩ := own_tb h3
  obtain ⟨t4, rfl⟩ := own_tb h4
  obtain ⟨t7, rfl⟩ := own_tb h7
  revert t0 t1 t2 t3 t4 t7
  decide +kernel
theorem y6_7 {b0 b1 b2 b3 b4 b7 : Int32} (h0 : b0 = 0 ∨ b0 = 1) (h1 : b1 = 0 ∨ b1 = 1) (h2 : b2 = 0 ∨ b2 = 1) (h3 : b3 = 0 ∨ b3 = 1) (h4 : b4 = 0 ∨ b4 = 1) (h7 : b7 = 0 ∨ b7 = 1) : XT.ushr (b0 ||| b1 <<< 1 ||| b2 <<< 2 ||| b3 <<< 3 ||| b4 <<< 4 ||| b7 <<< 7) 7 &&& 1 = b7 := by
  obtain ⟨t0, rfl⟩ := own_tb h0
  obtain ⟨t1, rfl⟩ := own_tb h1
  obtain ⟨t2, rfl⟩ := own_tb h2
  obtain ⟨t3, rfl⟩ := own_tb h3
  obtain ⟨t4, rfl⟩ := own_tb h4
  obtain ⟨t7, rfl⟩ := own_tb h7
  revert t0 t1 t2 t3 t4 t7
  decide +kernel
theorem y7_7 {b0 b1 b2 b3 b4 b7 b8 : Int32} (h0 : b0 = 0 ∨ b0 = 1) (h1 : b1 = 0 ∨ b1 = 1) (h2 : b2 = 0 ∨ b2 = 1) (h3 : b3 = 0 ∨ b3 = 1) (h4 : b4 = 0 ∨ b4 = 1) (h7 : b7 = 0 ∨ b7 = 1) (h8 : b8 = 0 ∨ b8 = 1) : XT.ushr (b0 ||| b1 <<< 1 ||| b2 <<< 2 ||| b3 <<< 3 ||| b4 <<< 4 ||| b7 <<< 7 ||| b8 <<< 8) 7 &&& 1 = b7 := by
  obtain ⟨t0, rfl⟩ := own_tb h0
  obtain ⟨t1, rfl⟩ := own_tb h1
  obtain ⟨t2, rfl⟩ := own_tb h2
  obtain ⟨t3, rfl⟩ := own_tb h3
  obtain ⟨t4, rfl⟩ := own_tb h4
  obtain ⟨t7, rfl⟩ := own_tb h7
  obtain ⟨t8, rfl⟩ := own_tb h8
  revert t0 t1 t2 t3 t4 t7 t8
  decide +kernel
theorem y7_8 {b0 b1 b2 b3 b4 b7 b8 : Int32} (h0 : b0 = 0 ∨ b0 = 1) (h1 : b1 = 0 ∨ b1 = 1) (h2 : b2 = 0 ∨ b2 = 1) (h3 : b3 = 0 ∨ b3 = 1) (h4 : b4 = 0 ∨ b4 = 1) (h7 : b7 = 0 ∨ b7 = 1) (h8 : b8 = 0 ∨ b8 = 1) : XT.ushr (b0 ||| b1 <<< 1 ||| b2 <<< 2 ||| b3 <<< 3 ||| b4 <<< 4 ||| b7 <<< 7 ||| b8 <<< 8) 8 &&& 1 = b8 := by
  obtain ⟨t0, rfl⟩ := own_tb h0
  obtain ⟨t1, rfl⟩ := own_tb h1
  obtain ⟨t2, rfl⟩ := own_tb h2
  obtain ⟨t3, rfl⟩ := own_tb h3
  obtain ⟨t4, rfl⟩ := own_tb h4
  obtain ⟨t7, rfl⟩ := own_tb h7
  obtain ⟨t8, rfl⟩ := own_tb h8
  revert t0 t1 t2 t3 t4 t7 t8
  decide +kernel
theorem bxr {a c : Int32} (ha : a = 0 ∨ a = 1) (hc : c = 0 ∨ c = 1) : a ^^^ c = 0 ∨ a ^^^ c = 1 := by rcases ha with rfl | rfl <;> rcases hc with rfl | rfl <;> decide
theorem ban {a c : Int32} (ha : a = 0 ∨ a = 1) (hc : c = 0 ∨ c = 1) : a &&& c = 0 ∨ a &&& c = 1 := by rcases ha with rfl | rfl <;> rcases hc with rfl | rfl <;> decide
theorem t7 {v0 v1 v2 v3 s0 s1 s2 s3 s4 s5 : Int32} (w0 : v0 = 0 ∨ v0 = 1) (w1 : v1 = 0 ∨ v1 = 1) (w2 : v2 = 0 ∨ v2 = 1) (w3 : v3 = 0 ∨ v3 = 1) (b0 : s0 = 0 ∨ s0 = 1) (b1 : s1 = 0 ∨ s1 = 1) (b2 : s2 = 0 ∨ s2 = 1) (b3 : s3 = 0 ∨ s3 = 1) (b4 : s4 = 0 ∨ s4 = 1) (b5 : s5 = 0 ∨ s5 = 1) : XT.ushr ((if s4 = 0 then (if s0 = 0 then 43690 else ~~~43690 &&& 65535) &&& (if s1 = 0 then 52428 else ~~~52428 &&& 65535) else ~~~((if s0 = 0 then 43690 else ~~~43690 &&& 65535) &&& (if s1 = 0 then 52428 else ~~~52428 &&& 65535)) &&& 65535) &&& (if s5 = 0 then (if s2 = 0 then 61680 else ~~~61680 &&& 65535) &&& (if s3 = 0 then 65280 else ~~~65280 &&& 65535) else ~~~((if s2 = 0 then 61680 else ~~~61680 &&& 65535) &&& (if s3 = 0 then 65280 else ~~~65280 &&& 65535)) &&& 65535)) (v0 ||| v1 <<< 1 ||| v2 <<< 2 ||| v3 <<< 3) &&& 1 = ((((v0 ^^^ s0) &&& (v1 ^^^ s1)) ^^^ s4) &&& (((v2 ^^^ s2) &&& (v3 ^^^ s3)) ^^^ s5)) := by
  obtain ⟨p0, rfl⟩ := own_tb w0
  obtain ⟨p1, rfl⟩ := own_tb w1
  obtain ⟨p2, rfl⟩ := own_tb w2
  obtain ⟨p3, rfl⟩ := own_tb w3
  obtain ⟨t0, rfl⟩ := own_tb b0
  obtain ⟨t1, rfl⟩ := own_tb b1
  obtain ⟨t2, rfl⟩ := own_tb b2
  obtain ⟨t3, rfl⟩ := own_tb b3
  obtain ⟨t4, rfl⟩ := own_tb b4
  obtain ⟨t5, rfl⟩ := own_tb b5
  revert p0 p1 p2 p3 t0 t1 t2 t3 t4 t5
  decide +kernel
theorem t8 {m v4 s6 s7 : Int32} (hm : m = 0 ∨ m = 1) (w4 : v4 = 0 ∨ v4 = 1) (b6 : s6 = 0 ∨ s6 = 1) (b7 : s7 = 0 ∨ s7 = 1) : XT.ushr ((if s6 = 0 then 52428 else ~~~52428 &&& 65535) &&& (if s7 = 0 then 43690 else ~~~43690 &&& 65535)) (v4 ||| m <<< 1) &&& 1 = (m ^^^ s6) &&& (v4 ^^^ s7) := by
  obtain ⟨q, rfl⟩ := own_tb hm
  obtain ⟨p4, rfl⟩ := own_tb w4
  obtain ⟨t6, rfl⟩ := own_tb b6
  obtain ⟨t7, rfl⟩ := own_tb b7
  revert q p4 t6 t7
  decide +kernel
set_option maxRecDepth 1000000 in
set_option maxHeartbeats 40000000 in
theorem own_main (i0 i1 s0 s1 s2 s3 s4 s5 s6 s7 s8 s9 : Int32) (b0 : s0 = 0 ∨ s0 = 1) (b1 : s1 = 0 ∨ s1 = 1) (b2 : s2 = 0 ∨ s2 = 1) (b3 : s3 = 0 ∨ s3 = 1) (b4 : s4 = 0 ∨ s4 = 1) (b5 : s5 = 0 ∨ s5 = 1) (b6 : s6 = 0 ∨ s6 = 1) (b7 : s7 = 0 ∨ s7 = 1) (b8 : s8 = 0 ∨ s8 = 1) (b9 : s9 = 0 ∨ s9 = 1) (s : Nat → Int32) (h0 : s 0 = 16) (h1 : s 1 = 0) (h2 : s 2 = 0) (h3 : s 3 = 0) (h4 : s 4 = 0) (h5 : s 5 = 0) (h6 : s 6 = 0) (h7 : s 7 = 0) (h8 : s 8 = 0) (h9 : s 9 = 0) (h10 : s 10 = 0) (h11 : s 11 = 0) (h12 : s 12 = 0) (Q : Option Value → AHeap → Prop) (hQ : ∀ s' A', (∀ i, (A' i).length = (A0 i).length) → Q (some (.int 1)) (put 0 [] s' A' [])) :
    M40 79 [.val (.int i0), .val (.int i1), .val (.int s0), .val (.int s1), .val (.int s2), .val (.int s3), .val (.int s4), .val (.int s5), .val (.int s6), .val (.int s7), .val (.int s8), .val (.int s9), .unset, .unset, .unset, .unset, .unset, .unset, .unset, .unset, .unset, .unset, .unset, .unset, .unset, .unset, .unset, .unset, .unset, .unset, .unset, .unset, .unset, .unset, .unset, .unset, .unset, .unset, .unset, .unset, .unset, .unset] [.ref 0] (put 0 [] s A0 []) Q := by
  have f0_0 : XT.ushr (s0) 1 = 0 := by rcases b0 with rfl | rfl <;> decide
  have f0_1 : (s0) &&& 1 = s0 := by rcases b0 with rfl | rfl <;> decide
  have f0_2 : ¬ (s0) < 0 := by rcases b0 with rfl | rfl <;> decide
  have f0_3 : (s0) < 10 := by rcases b0 with rfl | rfl <;> decide
  have f1_0 : XT.ushr (2 + s1) 1 = 1 := by rcases b1 with rfl | rfl <;> decide
  have f1_1 : (2 + s1) &&& 1 = s1 := by rcases b1 with rfl | rfl <;> decide
  have f1_2 : ¬ (2 + s1) < 0 := by rcases b1 with rfl | rfl <;> decide
  have f1_3 : (2 + s1) < 10 := by rcases b1 with rfl | rfl <;> decide
  have f2_0 : XT.ushr (4 + s2) 1 = 2 := by rcases b2 with rfl | rfl <;> decide
  have f2_1 : (4 + s2) &&& 1 = s2 := by rcases b2 with rfl | rfl <;> decide
  have f2_2 : ¬ (4 + s2) < 0 := by rcases b2 with rfl | rfl <;> decide
  have f2_3 : (4 + s2) < 12 := by rcases b2 with rfl | rfl <;> decide
  have f3_0 : XT.ushr (6 + s3) 1 = 3 := by rcases b3 with rfl | rfl <;> decide
  have f3_1 : (6 + s3) &&& 1 = s3 := by rcases b3 with rfl | rfl <;> decide
  have f3_2 : ¬ (6 + s3) < 0 := by rcases b3 with rfl | rfl <;> decide
  have f3_3 : (6 + s3) < 12 := by rcases b3 with rfl | rfl <;> decide
  have f4_0 : XT.ushr (10 + s4) 1 = 5 := by rcases b4 with rfl | rfl <;> decide
  have f4_1 : (10 + s4) &&& 1 = s4 := by rcases b4 with rfl | rfl <;> decide
  have f4_2 : ¬ (10 + s4) < 0 := by rcases b4 with rfl | rfl <;> decide
  have f4_3 : (10 + s4) < 14 := by rcases b4 with rfl | rfl <;> decide
  have f5_0 : XT.ushr (12 + s5) 1 = 6 := by rcases b5 with rfl | rfl <;> decide
  have f5_1 : (12 + s5) &&& 1 = s5 := by rcases b5 with rfl | rfl <;> decide
  have f5_2 : ¬ (12 + s5) < 0 := by rcases b5 with rfl | rfl <;> decide
  have f5_3 : (12 + s5) < 14 := by rcases b5 with rfl | rfl <;> decide
  have f6_0 : XT.ushr (14 + s6) 1 = 7 := by rcases b6 with rfl | rfl <;> decide
  have f6_1 : (14 + s6) &&& 1 = s6 := by rcases b6 with rfl | rfl <;> decide
  have f6_2 : ¬ (14 + s6) < 0 := by rcases b6 with rfl | rfl <;> decide
  have f6_3 : (14 + s6) < 16 := by rcases b6 with rfl | rfl <;> decide
  have f7_0 : XT.ushr (8 + s7) 1 = 4 := by rcases b7 with rfl | rfl <;> decide
  have f7_1 : (8 + s7) &&& 1 = s7 := by rcases b7 with rfl | rfl <;> decide
  have f7_2 : ¬ (8 + s7) < 0 := by rcases b7 with rfl | rfl <;> decide
  have f7_3 : (8 + s7) < 16 := by rcases b7 with rfl | rfl <;> decide
  have f8_0 : XT.ushr (14 + s8) 1 = 7 := by rcases b8 with rfl | rfl <;> decide
  have f8_1 : (14 + s8) &&& 1 = s8 := by rcases b8 with rfl | rfl <;> decide
  have f8_2 : ¬ (14 + s8) < 0 := by rcases b8 with rfl | rfl <;> decide
  have f8_3 : (14 + s8) < 18 := by rcases b8 with rfl | rfl <;> decide
  have f9_0 : XT.ushr (16 + s9) 1 = 8 := by rcases b9 with rfl | rfl <;> decide
  have f9_1 : (16 + s9) &&& 1 = s9 := by rcases b9 with rfl | rfl <;> decide
  have f9_2 : ¬ (16 + s9) < 0 := by rcases b9 with rfl | rfl <;> decide
  have f9_3 : (16 + s9) < 18 := by rcases b9 with rfl | rfl <;> decide
  obtain ⟨v0, e0⟩ : ∃ v, i1 &&& 1 = v := ⟨_, rfl⟩
  have w0 : v0 = 0 ∨ v0 = 1 := e0 ▸ bit1 _
  obtain ⟨v1, e1⟩ : ∃ v, XT.ushr i1 1 &&& 1 = v := ⟨_, rfl⟩
  have w1 : v1 = 0 ∨ v1 = 1 := e1 ▸ bit1 _
  obtain ⟨v2, e2⟩ : ∃ v, XT.ushr i1 2 &&& 1 = v := ⟨_, rfl⟩
  have w2 : v2 = 0 ∨ v2 = 1 := e2 ▸ bit1 _
  obtain ⟨v3, e3⟩ : ∃ v, XT.ushr i1 3 &&& 1 = v := ⟨_, rfl⟩
  have w3 : v3 = 0 ∨ v3 = 1 := e3 ▸ bit1 _
  obtain ⟨v4, e4⟩ : ∃ v, XT.ushr i1 4 &&& 1 = v := ⟨_, rfl⟩
  have w4 : v4 = 0 ∨ v4 = 1 := e4 ▸ bit1 _
  have hn5 : ((v0 ^^^ s0) &&& (v1 ^^^ s1)) = 0 ∨ ((v0 ^^^ s0) &&& (v1 ^^^ s1)) = 1 := ban (bxr w0 b0) (bxr w1 b1)
  have hn6 : ((v2 ^^^ s2) &&& (v3 ^^^ s3)) = 0 ∨ ((v2 ^^^ s2) &&& (v3 ^^^ s3)) = 1 := ban (bxr w2 b2) (bxr w3 b3)
  have hn7 : ((((v0 ^^^ s0) &&& (v1 ^^^ s1)) ^^^ s4) &&& (((v2 ^^^ s2) &&& (v3 ^^^ s3)) ^^^ s5)) = 0 ∨ ((((v0 ^^^ s0) &&& (v1 ^^^ s1)) ^^^ s4) &&& (((v2 ^^^ s2) &&& (v3 ^^^ s3)) ^^^ s5)) = 1 := ban (bxr hn5 b4) (bxr hn6 b5)
  have hn8 : ((((((v0 ^^^ s0) &&& (v1 ^^^ s1)) ^^^ s4) &&& (((v2 ^^^ s2) &&& (v3 ^^^ s3)) ^^^ s5)) ^^^ s6) &&& (v4 ^^^ s7)) = 0 ∨ ((((((v0 ^^^ s0) &&& (v1 ^^^ s1)) ^^^ s4) &&& (((v2 ^^^ s2) &&& (v3 ^^^ s3)) ^^^ s5)) ^^^ s6) &&& (v4 ^^^ s7)) = 1 := ban (bxr hn7 b6) (bxr w4 b7)
  have gx5_0 := x5_0 w0 w1 w2 w3 w4
  have gx5_1 := x5_1 w0 w1 w2 w3 w4
  have gx5_2 := x5_2 w0 w1 w2 w3 w4
  have gx5_3 := x5_3 w0 w1 w2 w3 w4
  have gx5_4 := x5_4 w0 w1 w2 w3 w4
  have gx6_2 := x6_2 w0 w1 w2 w3 w4 hn5
  have gx6_3 := x6_3 w0 w1 w2 w3 w4 hn5
  have gx7_5 := x7_5 w0 w1 w2 w3 w4 hn5 hn6
  have gx7_6 := x7_6 w0 w1 w2 w3 w4 hn5 hn6
  have gx8_7 := x8_7 w0 w1 w2 w3 w4 hn5 hn6 hn7
  have gx8_4 := x8_4 w0 w1 w2 w3 w4 hn5 hn6 hn7
  have gx9_7 := x9_7 w0 w1 w2 w3 w4 hn5 hn6 hn7 hn8
  have gx9_8 := x9_8 w0 w1 w2 w3 w4 hn5 hn6 hn7 hn8
  have gy6_4 := y6_4 w0 w1 w2 w3 w4 hn7
  have gy6_7 := y6_7 w0 w1 w2 w3 w4 hn7
  have gy7_7 := y7_7 w0 w1 w2 w3 w4 hn7 hn8
  have gy7_8 := y7_8 w0 w1 w2 w3 w4 hn7 hn8
  have gt7 := t7 w0 w1 w2 w3 b0 b1 b2 b3 b4 b5
  have gt8 := t8 hn7 w4 b6 b7
  simp (maxSteps := 100000000) [h0, h1, h2, h3, h4, h5, h6, h7, h8, h9, h10, h11, h12, f0_0, f0_1, f0_2, f0_3, f1_0, f1_1, f1_2, f1_3, f2_0, f2_1, f2_2, f2_3, f3_0, f3_1, f3_2, f3_3, f4_0, f4_1, f4_2, f4_3, f5_0, f5_1, f5_2, f5_3, f6_0, f6_1, f6_2, f6_3, f7_0, f7_1, f7_2, f7_3, f8_0, f8_1, f8_2, f8_3, f9_0, f9_1, f9_2, f9_3, e0, e1, e2, e3, e4, gx5_0, gx5_1, gx5_2, gx5_3, gx5_4, gx6_2, gx6_3, gx7_5, gx7_6, gx8_7, gx8_4, gx9_7, gx9_8, gy6_4, gy6_7, gy7_7, gy7_8, gt7, gt8, own_lt, own_ush0, m0_0, m0_1, m0_4, m0_5, m0_12, m0_13, m0_20, m0_21, m0_28, m0_29, m0_36, m0_37, m0_44, m0_45, m0_52, m0_53, m0_60, m0_61, m0_68, m0_69, m0_76, m0_77, m0_84, m0_85, m0_92, m0_93, m0_100, m0_101, m0_108, m0_109, m0_116, m0_117, m0_124, m0_125u, m0_126, m0_127, m0_129, m0_132, m0_134i, m0_135, m0_136, m0_138, m0_141, m0_143i, m0_144, m0_145, m0_146, m0_149, m0_150, m0_151, m0_154, m0_155, m0_156, m0_159, m0_160, m0_161, m0_164, m0_165, m0_166, m0_169, m0_170, m0_171, m0_174, m0_175, m0_176, m0_179, m1_0, m1_1, m1_4, m1_5, m1_8, m1_13, m1_14, m1_17, m1_19, m1_24, m1_25, m1_28u, m1_29, m1_30, m1_33, m1_34, m1_35, m1_36, m1_37, m1_40, m1_41, m1_42, m1_43, m1_44, m1_47, m1_48, m1_49, m1_50, m1_51, m1_54, m1_55, m1_56, m1_59, m1_60, m1_61, m1_64, m1_65, m1_66, m1_67, m1_68, m1_69, m1_70, m1_71, m1_74, m1_75, m1_76, m1_79, m1_80, m1_81, m1_84, m1_85, m1_86, m1_89, m1_90, m2_0, m2_1, m2_4, m2_5, m2_8, m2_13, m2_14, m2_15, m2_18, m2_23, m2_24, m2_25, m2_28, m2_33, m2_34, m2_37u, m2_38, m2_39, m2_42, m2_43, m2_44, m2_45, m2_46, m2_49, m2_50, m2_51, m2_52, m2_53, m2_56, m2_57, m2_58, m2_59, m2_60, m2_63, m2_64, m2_65, m2_66, m2_67, m2_68, m2_69, m2_70, m2_73, m2_74, m2_75, m2_78, m2_79, m2_82, m2_83, m2_84, m2_85, m2_88, m2_89, m2_90, m3_0, m3_1, m3_4, m3_5, m3_6, m3_7, m3_10, m3_11, m3_14, m3_15, m3_19, m4_0, m4_1, m4_4, m4_5, m4_8, m4_9, m4_10, m4_11, m4_12, m4_13u, m4_14, m4_15, m4_18, m4_19, m4_22, m4_23, m4_24, m4_25, m4_26, m4_27u, m4_28, m4_29, m4_30, m4_33, m4_34, m4_37, m4_38u, m4_40, m4_42, m4_45, m4_46, m4_47, m4_48, m4_49, m4_51, m4_54u, m4_56, m4_58, m4_59, m4_62, m4_64, m4_65, m4_67, m4_68, m4_69, m5_0, m5_1, m5_2, m5_3, m5_6, m5_7u, m5_8, m5_9u, m5_11, m5_13, m5_14, m5_17, m5_18, m5_21, m5_24, m5_25, m5_26, m5_27, m5_30, m5_33, m5_36, m5_39, m5_40, m6_0, m6_1, m6_2, m6_5, m6_6, m6_7, m6_8, m6_9, m6_12, m6_15, m6_16, m6_17, m6_20, m6_21u, m6_22, m6_23, m6_25, m6_28, m6_29, m6_32, m6_33, m6_34, m6_35, m6_36, m6_39, m6_40, m6_41, m6_42, m6_43, m6_44, m6_45, m6_48, m6_49, m6_50, m6_51, m6_52, m6_53, m6_54, m6_55, m6_56, m6_57, m6_60, m6_61, m6_62, m6_65, m6_66, m6_69, m6_72, m6_73, m6_76, m6_77, m6_78, m6_79, m6_82, m6_83, m6_84, m6_87, m6_88, m6_89, m6_90, m6_91, m6_94, m6_97, m6_100, m7_0, m7_1, m7_2, m7_3u, m7_4, m7_5u, m7_7, m7_9, m7_12, m7_13, m7_14, m7_16, m7_19, m7_22, m7_23, m7_24, m7_26, m7_29, m7_32, m7_33, m7_36, m7_38, m7_39, m7_40, m7_43, m7_44, m7_45, m7_46, m7_49, m7_51, m7_52, m7_53, m7_54, m7_55, m7_56i, m7_57, m7_58, m7_59, m7_60, m7_63, m7_65, m7_66, m7_67, m7_68, m7_69, m7_70i, m7_71, m7_74, m7_77, m7_78, m8_0, m8_1, m8_2, m8_3, m8_4, m8_5, m9_0, m9_1, m9_2, m9_5, m9_6, m9_7, m9_8u, m9_9, m9_10, m9_11, m9_14, m9_15, m9_16, m9_19, m9_20, m9_21, m9_24, m9_25, m9_26, m9_29, m9_30, m9_33, m9_34, m9_35, m9_36, m9_37, m9_40, m9_41, m9_42, m9_43, m9_44, m9_47, m9_48, m9_49, m9_50, m9_51u, m9_52, m9_53u, m9_54, m9_55, m9_56, m9_59, m9_60, m9_62, m9_65, m9_66, m9_69, m9_70, m9_71u, m9_71i, m9_71r, m9_73, m9_75, m9_76, m9_77, m9_80, m9_81, m9_83, m9_84, m9_87i, m9_88, m9_91, m9_92, m9_94, m9_95, m9_98i, m9_99, m9_100, m9_103, m9_106, m9_107, m9_108, m9_111, m9_114, m9_115, m10_0, m10_1, m10_3, m10_6, m10_7, m10_8, m10_11, m10_14, m10_15, m10_16, m10_17, m10_20, m10_21, m10_22, m10_25, m10_26, m10_27, m10_28, m10_29, m10_30, m10_31, m10_34, m10_37, m10_38, m10_39, m10_42, m10_43, m10_44, m10_45, m10_46, m10_47, m10_48, m10_51, m11_0, m11_1, m11_2, m11_3u, m11_4, m11_5u, m11_7, m11_8, m11_11, m11_12, m11_13, m11_14, m11_17, m11_18, m11_20, m11_21, m11_23, m11_25, m11_28i, m11_30, m11_33, m11_34, m11_35, m11_36, m11_39, m11_40, m11_41, m11_42, m11_43, m11_44, m11_45, m11_46, m11_48, m11_51i, m11_53, m11_54, m11_55, m11_56, m11_59, m11_60, m11_61, m11_62, m11_63, m11_64, m11_65, m11_66, m11_68, m11_71i, m11_73, m11_74, m11_75, m11_78, m11_81, m11_82, m11_85, m11_86, m11_87, m11_90, m11_91, m11_92, m11_93, m11_94, m11_95, m11_96, m11_98, m11_101i, m11_103, m11_105, m12_0, m12_1, m12_2, m12_5, m12_8, m12_10, m12_11, m12_12, m12_13, m12_16, m12_17, m12_20, m12_21, m12_22, m12_23, m12_24, m12_27, m12_28, m12_29, m12_30, m12_31, m12_33, m12_36, m12_38, m12_40, m12_43, m12_45, m12_46, m12_47, m12_50, m12_52, m12_53, m12_54, m12_56, m12_57, m12_58, m13_0, m13_1, m13_3, m13_6, m13_7, m13_10, m13_11, m13_12, m13_13, m13_14, m13_17, m13_18, m13_19, m13_22, m13_23, m13_24, m13_25, m13_28, m13_31, m13_32, m13_35, m13_36, m13_37, m13_38, m13_39, m13_42, m13_43, m13_44, m13_45, m13_48, m13_51, m13_52, m13_55, m13_56, m14_0, m14_1, m14_2, m14_3u, m14_4, m14_5u, m14_7, m14_8, m14_9, m14_12, m14_15, m14_16, m14_19, m14_20, m14_21, m14_24, m14_25, m14_26, m14_27, m14_28, m14_29, m14_30, m14_32, m14_35i, m14_37, m14_38, m14_39, m14_40u, m14_42, m14_44, m14_45, m14_48, m14_51, m14_53, m14_55, m14_58, m14_59, m14_60, m14_63, m14_65, m14_68, m14_71, m14_72, m14_75, m14_77, m14_78, m14_79, m14_82, m14_85, m14_86, m14_89, m14_91, m14_92, m14_93, m14_94, m14_95, m14_98, m14_99, m14_102, m14_103, m14_105, m14_106, m14_107, m14_110, m14_111, m14_112, m14_114, m14_115, m14_116, m14_117, m14_118, m14_119, m14_121, m14_124i, m14_126, m14_127, m14_130, m14_132, m14_133, m14_134, m14_135, m14_136, m14_139, m14_140, m14_143, m14_144, m14_146, m14_147, m14_148, m14_149, m14_150, m14_153, m14_154, m14_155, m14_157, m14_158, m14_159, m14_160, m14_161, m14_162, m14_164, m14_167i, m14_169, m14_172, m14_175, m14_177, m15_0, m15_1, m15_2, m15_5, m15_6, m15_9, m15_12, m15_13, m15_16, m15_17, m16_0, m16_1, m16_2, m16_5, m16_6, m16_7, m16_8u, m16_9, m16_11u, m16_12, m16_13u, m16_14, m16_15, m16_17, m16_20, m16_21, m16_22, m16_25, m16_26, m16_29, m16_30, m16_31u, m16_31i, m16_31r, m16_33, m16_34, m16_36, m16_37, m16_38, m16_41, m16_42, m16_43, m16_46, m16_48i, m16_49, m16_52, m16_55, m17_0, m17_1, m17_4, m17_5, m17_8, m17_9, m17_10, m17_11, m17_12, m17_13, m17_14, m17_15, m17_16, m17_19, m17_20, m17_21, m17_39, m17_40, m17_41, m17_44, m17_45, m17_48, m17_49, m17_50, m17_51, m17_52, m17_53, m17_54, m17_55, m17_56, m17_57, m17_58, m17_61, m17_62, m17_63, m17_66, m17_67, m17_70, m17_71, m17_72, m17_73, m17_74, m17_75, m17_76, m17_77, m17_78, m17_79, m17_80, m17_81, m17_82, m17_85, m17_86, m17_87, m17_107, m17_108, m17_109, m17_128, m18_0, m18_1, m18_4, m18_6, m18_11, m18_12, m18_13, m18_16, m18_21, m18_22, m18_25u, m18_26, m18_27, m18_30, m18_31, m18_32, m18_33, m18_34, m18_35, m18_36, m18_37, m18_40, m18_41, m18_42, m18_45, m18_46, m19_0, m19_1, m19_4, m19_5, m19_6, m19_9, m19_14, m19_15, m19_18, m19_19, m19_20, m20_0, m20_1, m20_4, m20_9, m20_10u, m20_11, m20_12u, m20_13, m20_14, m20_15, m20_18, m20_21, m20_22, m20_24, m20_27, m20_28, m20_31, m20_32, m20_33, m20_34, m20_35u, m20_35i, m20_35r, m20_36, m20_37, m20_40, m20_41, m20_42, m20_43, m20_46, m20_47, m20_50, m20_51, m20_52i, m20_53, m20_56, m20_59, m20_60, m20_63, m20_64i, m20_65, m20_66, m20_67, m20_70, m20_73, m20_74, m20_76, m20_79, m20_80, m20_83, m20_84, m20_85, m20_86, m20_87u, m20_87i, m20_87r, m20_88, m20_89, m20_92, m20_93, m20_94, m20_95, m20_98, m20_99, m20_100, m20_103, m20_104, m20_105, m20_106, m20_107, m20_110, m20_111, m20_114, m20_115, m20_116, m20_117, m20_120, m20_123, m20_124, m20_127, m20_128, m20_129i, m20_130, m20_131, m20_134, m20_135, m20_136, m20_139, m20_140, m20_143, m20_146, m20_147, m20_150, m20_151, m20_152, m20_153, m20_156, m20_157, m20_158, m20_161, m20_164, m20_167, m20_168, m20_169, m20_172, m20_173, m20_174, m20_177, m20_178, m21_0, m21_1, m21_2, m21_5, m21_6u, m21_7, m21_8, m21_10, m21_13, m21_14, m21_17, m21_18, m21_20, m21_21, m21_22, m21_25, m21_26, m21_27, m21_28, m21_29, m21_32, m21_33, m21_34, m21_35, m21_38, m21_41, m22_0, m22_1, m22_4, m22_5, m22_6u, m22_7, m22_8, m22_9, m22_10, m22_13u, m22_14, m22_15, m22_18, m22_19, m22_20, m22_21, m22_22, m22_25, m22_26, m22_27, m22_28, m22_29, m22_32, m22_33, m22_34u, m22_36, m22_38, m22_39, m22_42, m22_43, m22_44, m22_46, m22_49, m22_52, m22_53, m22_56, m22_58, m22_59, m22_60, m22_63, m22_66, m22_67, m22_68, m22_71, m22_72, m22_74, m22_75, m22_76, m22_79, m22_80, m22_83, m22_85, m22_86, m22_87, m22_88, m22_89, m22_92, m22_93, m22_96, m22_98, m22_99, m22_100, m22_101, m22_102, m22_105, m22_108, m23_0, m23_1, m23_2, m23_3, m23_6u, m23_7, m23_8u, m23_10, m23_11, m23_12, m23_15, m23_16, m23_19i, m23_21, m23_22, m23_23, m23_25, m23_28u, m23_30, m23_32, m23_34, m23_35i, m23_37, m23_39, m23_42, m23_43, m23_44, m23_46, m23_49, m23_75, m23_77, m24_0, m24_1, m24_2, m24_5, m24_6, m24_7, m24_10, m24_11, m24_12, m24_15, m24_16u, m24_17, m24_18u, m24_19, m24_20, m24_21, m24_24, m24_27, m24_28, m24_29, m24_32, m24_33, m24_36, m24_39, m24_40, m24_43, m24_44, m24_45, m24_46, m24_49, m24_50, m24_51, m24_52, m24_53, m24_54, m24_55, m24_56, m24_59i, m24_60, m24_63, m24_66, m24_67i, m24_68, m24_69, m24_70, m24_73, m24_74, m24_76, m24_79, m24_80, m24_83, m24_84, m24_85u, m24_85i, m24_85r, m24_86, m24_87, m24_88, m24_89, m24_92, m24_93, m24_94, m24_95, m24_98i, m24_99, m24_102, m24_103, m24_104, m24_105, m24_108i, m24_109, m24_112, m24_115, m24_116i, m24_117, m24_118u, m24_118i, m24_118r, m24_119, m24_120, m24_121, m24_124, m24_127, m24_128, m24_129, m24_132, m24_135, m24_136, m24_137, m24_140, m24_141, m24_144, m24_147, m24_148, m24_149, m24_152, m24_153, m24_156, m24_159, m24_160, m24_161, m24_162, m24_163, m24_164i, m24_165, m24_168, m24_171, m24_172, m25_0, m25_1, m25_2, m25_5, m25_8, m25_9, m25_11, m25_14, m25_15, m25_16, m25_17, m25_18, m25_21, m25_22, m25_25, m25_26, m25_27, m25_28, m25_29, m25_30, m25_31, m26_0, m26_1, m26_2, m26_3u, m26_4, m26_5u, m26_7, m26_8, m26_9, m26_12, m26_15, m26_16, m26_17, m26_20, m26_23, m26_24, m26_27, m26_28, m26_29, m26_32, m26_33, m26_34, m26_35, m26_36, m26_38, m26_41i, m26_43, m26_44, m26_47, m26_48, m26_49, m26_50, m26_53, m26_54, m26_57, m26_58, m26_59, m26_60, m26_61, m26_64, m26_65, m26_66, m26_67, m26_70, m26_71, m26_72, m26_73, m26_74, m26_75, m26_77, m26_80i, m26_82, m26_83, m26_86, m26_87, m26_88, m26_89, m26_92, m26_93, m26_96, m26_97, m26_98, m26_99, m26_100, m26_101, m26_102, m26_123, m26_125, m27_0, m27_1, m27_2, m27_3u, m27_4, m27_5u, m27_7, m27_8, m27_9, m27_10u, m27_12, m27_14, m27_15, m27_18, m27_21, m27_23, m27_25, m27_28, m27_29, m27_30, m27_33, m27_35, m27_38, m27_41, m27_42, m27_45, m27_47, m27_48, m27_49, m27_52, m27_55, m27_56, m27_59, m27_61, m27_62, m27_63, m27_64, m27_65, m27_68, m27_69, m27_72, m27_74, m27_75, m27_76, m27_77, m27_78, m27_81, m27_82, m27_83, m27_85, m27_86, m27_87, m27_88, m27_90, m27_93i, m27_95, m27_98, m27_101, m27_102, m27_105, m27_106, m27_107, m27_110, m27_111, m27_112, m27_113, m27_114, m27_116, m27_119i, m27_121, m27_123, m28_0, m28_1, m28_2, m28_3, m28_6, m28_11, m28_12, m28_13, m28_16u, m28_17, m28_18, m28_19, m28_22, m28_23, m28_24, m28_29, m28_30, m28_31, m28_32, m28_35u, m28_37, m28_38u, m28_40, m28_42, m28_43, m28_46, m28_47, m28_49, m28_51, m28_54, m28_57, m28_58, m28_61, m28_63, m28_64, m28_65, m28_68, m28_69, m28_70, m28_72, m28_75, m28_80, m28_83, m28_86, m28_87, m29_0, m29_1u, m29_2, m29_3u, m29_4, m29_5, m29_7, m29_10, m29_11, m29_12, m29_13, m29_14, m29_15, m29_16, m29_17i, m29_18, m29_21, m29_24, m29_25, m30_0, m30_1, m30_2, m30_3, m30_6u, m30_7, m30_8u, m30_10, m30_11u, m30_13, m30_15, m30_16, m30_19, m30_20, m30_21, m30_23, m30_26, m30_29, m30_30, m30_33, m30_35, m30_36, m30_38, m30_41, m30_42, m30_45, m30_48, m30_49, m30_50, m30_52, m30_55, m30_58, m30_59, m30_62, m30_64, m30_65, m30_66, m30_69, m30_70, m30_73, m30_75, m30_76, m30_77, m30_80, m30_82, m30_83, m30_86, m30_87, m30_88, m30_91, m30_93, m30_94, m30_97, m30_98, m30_99, m30_102, m30_105, m30_106, m30_109, m30_110, m30_111, m31_0, m31_1, m31_4, m31_6, m31_7, m31_8, m31_9, m31_12, m31_14, m31_15, m31_16, m31_17, m31_20, m31_22, m31_23, m31_24, m31_25, m31_28, m31_30, m33_0, m33_1, m33_4, m33_9, m33_10, m33_13, m34_0, m34_1, m34_4, m34_5, m34_6, m34_9, m34_12, m34_13, m34_16, m34_17, m34_18, m34_19, m34_24, m34_25, m34_28, m34_30, m34_33, m34_34, m34_35, m34_38, m34_39, m34_44, m34_45, m34_46, m34_47, m34_50, m34_55, m34_56, m34_57, m34_58, m34_61, m35_0, m35_1u, m35_2, m35_3u, m35_4, m35_5, m35_6, m35_9, m35_12, m35_13, m35_15, m35_18, m35_19, m35_22, m35_23, m35_24, m35_25, m35_28, m35_29, m35_30, m35_33, m35_34, m35_35, m35_36, m35_37, m35_38u, m35_38i, m35_38r, m35_40, m35_43, m35_44, m35_45, m35_46, m35_49, m35_50, m35_51, m35_54, m35_55, m35_56, m35_57, m35_60, m35_61, m35_62, m35_65, m35_66u, m35_66i, m35_66r, m35_68, m35_69, m35_71, m35_72, m35_73, m35_74i, m35_75, m35_78, m35_81, m35_82, m35_83, m35_86, m36_0, m36_1, m36_2, m36_3, m36_4, m36_5, m36_6, m36_7, m36_8, m36_9, m36_10, m36_11, m37_0, m37_1u, m37_2, m37_3u, m37_4, m37_5, m37_6, m37_9, m37_12, m37_13, m37_15, m37_18, m37_19, m37_20, m37_21, m37_22, m37_25, m37_26, m37_27, m37_30, m37_31, m37_32, m37_33i, m37_34, m37_37, m37_40, m37_41, m38_0, m38_1, m38_4, m38_9, m38_10u, m38_11, m38_12u, m38_13, m38_14, m38_15, m38_18, m38_21, m38_22, m38_24, m38_27, m38_28, m38_31, m38_32, m38_33, m38_34, m38_37, m38_38, m38_39, m38_40, m38_43, m38_44, m38_45, m38_46, m38_47, m38_48, m38_49, m38_50, m38_51i, m38_52, m38_55, m38_56, m38_57, m38_60, m38_61, m38_64, m38_67, m38_68, m38_69, m38_70, m38_73u, m38_73i, m38_73r, m38_75, m38_76, m38_78, m38_79, m38_80, m38_81i, m38_82, m38_85, m38_88, m38_89, m38_90, m38_93, m39_0, m39_1, m39_4, m39_5, m39_6u, m39_7, m39_8u, m39_10, m39_11u, m39_13, m39_14u, m39_16, m39_18, m39_19, m39_22, m39_23, m39_24, m39_26, m39_29, m39_32, m39_34, m39_35, m39_38, m39_40, m39_41, m39_43, m39_44, m39_45, m39_46, m39_48, m39_49, m39_50i, m39_52, m39_55, m39_58, m39_61, m39_62, m39_65, m39_66, m39_67, m39_69, m39_70, m39_71, m39_72, m40_0, m40_1, m40_2, m40_3u, m40_4, m40_5, m40_6, m40_7, m40_8, m40_9u, m40_10, m40_11, m40_12, m40_13, m40_14, m40_15u, m40_17, m40_18, m40_19, m40_20, m40_21, m40_22u, m40_24, m40_25, m40_26, m40_27, m40_28, m40_29u, m40_31, m40_32, m40_33, m40_34, m40_35, m40_36u, m40_38, m40_39, m40_41, m40_42, m40_43, m40_44u, m40_46, m40_47, m40_49, m40_50, m40_51, m40_52u, m40_54, m40_55, m40_57, m40_58, m40_59, m40_60u, m40_62, m40_63, m40_65, m40_66, m40_67, m40_68u, m40_70, m40_73, m40_74, m40_76, m40_79u, m40_81, m40_82u, m40_84, m40_85u, m40_87, m40_89, m40_90, m40_93, m40_95, m40_98, m40_100, m40_106, m40_109, m40_112, m40_114, m40_115, m40_116, m40_117, m40_118, m40_121i, m40_123, m40_125, m40_126, m40_128, m40_129, m40_131, m40_133, m40_134, m40_137u, m40_139, m40_141, m40_143, m40_145, m40_146, m40_148, m40_150, m40_151, m40_154u, m40_156, m40_158, m40_160, m40_162, m40_163, m40_165, m40_167, m40_168, m40_171u, m40_173, m40_175, m40_177, m40_179, m40_180, m40_183u, m40_185, m40_187, m40_189, m40_191, m40_192, m40_195u, m40_197, m40_199, m40_202, m40_204, m40_205, m40_208, m40_210, m40_212, m40_215, m40_217, m40_219, m40_222, m40_224, m40_226, m40_229, m40_231, m40_234, m40_236, m40_237, m40_240, m40_241, m40_245i, m40_247, m40_249, m40_250, m40_253u, m40_255, m40_257, m40_259, m40_262u, m40_264, m40_266, m40_268, m40_271u, m40_273, m40_275, m40_277, m40_280u, m40_282, m40_284, m40_287u, m40_289, m40_291, m40_294u, m40_296, m40_298, m40_300, m40_302, m40_305u, m40_307, m40_309, m40_311, m40_314, m40_317u, m40_319, m40_321, m40_322, m40_325u, m40_327, m40_329, m40_330, m40_333u, m40_335, m40_336u, m40_338, m40_339u, m40_341, m40_342u, m40_344, m40_346, m40_347, m40_350, m40_351u, m40_351i, m40_351r, m40_353, m40_355, m40_356, m40_359, m40_361, m40_362, m40_363, m40_365, m40_366u, m40_366i, m40_366r, m40_368, m40_370, m40_371, m40_372, m40_373, m40_374, m40_376, m40_377, m40_378, m40_379, m40_380, m40_381, m40_382, m40_383u, m40_383i, m40_383r, m40_385, m40_387, m40_388, m40_389, m40_390, m40_391, m40_393, m40_394, m40_396, m40_397, m40_398, m40_399, m40_400, m40_402, m40_403, m40_404u, m40_404i, m40_404r, m40_406, m40_408, m40_410, m40_411, m40_413, m40_415, m40_416, m40_417u, m40_417i, m40_417r, m40_419, m40_421, m40_423, m40_425, m40_426, m40_427i, m40_429, m40_431, m40_432, m40_433, m40_434, m40_435, m40_437, m40_438, m40_440, m40_441, m40_442, m40_444, m40_445, m40_446u, m40_446i, m40_446r, m40_448, m40_450, m40_452, m40_454, m40_455, m40_456i, m40_458, m40_461, m40_464, m40_467, m40_470, m40_471, m40_472, m40_473i, m40_475, m40_476, m40_477, m40_478, m40_479, m40_480u, m40_480i, m40_480r, m40_482, m40_483, m40_484, m40_485, m40_486, m40_487u, m40_487i, m40_487r, m40_489, m40_490, m40_491, m40_492, m40_493, m40_494u, m40_494i, m40_494r, m40_496, m40_497, m40_498, m40_499, m40_500, m40_501u, m40_501i, m40_501r, m40_503, m40_505, m40_506, m40_507, m40_509, m40_510, m40_511, m40_512u, m40_512i, m40_512r, m40_514, m40_516, m40_518, m40_519, m40_521, m40_523, m40_524, m40_525u, m40_525i, m40_525r, m40_527, m40_529, m40_531, m40_532, m40_534, m40_536, m40_537, m40_538u, m40_540, m40_542, m40_544, m40_545, m40_547, m40_549, m40_550, m40_551u, m40_553, m40_555, m40_557, m40_558, m40_560, m40_562, m40_563, m40_564, m40_565, m40_566u, m40_568, m40_570, m40_573, m40_575, m40_576, m40_579, m40_581, m40_582, m40_585, m40_587, m40_588, m40_591, m40_593, m40_594, m40_597, m40_599, m40_600, m40_603, m40_605, m40_606, m40_609, m40_611, m40_616, m40_618, m40_620, m40_623, m40_625, m40_627, m40_630, m40_632, m40_634, m40_637, m40_638, m40_642, nb0, nb1, ou_a, Option.toList_some, Option.toList_none, List.nil_append, List.cons_append, ou_same, ou_comm, setA_same, own_l0, own_l1, own_l2, own_l3, own_l4, own_l5, own_l6, own_l7, own_l8, own_l9, own_l10, own_l11, own_l12, own_l13, own_l14, own_l15, own_l16, own_l17, own_l18, own_l19, own_l20, own_l21, own_l22, own_l23, own_l24, own_l25, own_l26, own_l27, own_l28, own_l29, own_l30, own_l31, own_l32, own_l33, own_l34, own_l35, own_l36, own_l37, own_l38, own_l39, own_l40, own_l41, own_l42, own_l43, own_l44, own_l45, own_l46, own_l47, own_l48, own_l49, own_l50, own_l51, own_l52, own_l53, own_l54, own_l55, own_l56, own_l57, own_l58, own_l59, own_l60, own_l61, own_l62, own_l63, own_l64, own_l65, own_l66, own_l67, own_l68, own_l69, own_l70, own_l71, own_l72, own_l73, own_l74, own_l75, own_l76, own_l77, own_l78, own_l79, own_l80, own_l81, own_l82, own_l83, own_l84, own_l85, own_l86, own_l87, own_l88, own_l89, own_l90, own_l91, own_l92, own_l93, own_l94, own_l95, own_l96, own_l97, own_l98, own_l99, own_l100, own_l101, own_l102, own_l103, own_l104, own_l105, own_l106, own_l107, own_l108, own_l109, own_l110, own_l111, own_l112, own_l113, own_l114, own_l115, own_l116, own_l117, own_l118, own_l119, own_l120, own_l121, own_l122, own_l123, own_l124, own_l125, own_l126, own_l127, own_l128, own_l129, own_l130, own_l131, own_l132, own_l133, own_l134, own_l135, own_l136, own_l137, own_l138, own_l139, own_l140, own_l141, own_l142, own_l143, own_l144, own_l145, own_l146, own_l147, own_l148, own_l149, own_l150, own_l151, own_l152, own_l153, own_l154, own_l155, own_l156, own_l157, own_l158, own_l159, own_l160, own_l161, own_l162, own_l163, own_l164, own_l165, own_l166, own_l167, own_l168, own_l169, own_l170, own_l171, own_l172, own_l173, own_l174, own_l175, own_l176, own_l177, own_l178, own_l179, own_l180, own_l181, own_l182, own_l183, own_l184, own_l185, own_l186, own_l187, own_l188, own_l189, own_l190, own_l191, own_l192, own_l193, own_l194, own_l195, own_l196, own_l197, own_l198, own_l199, own_l200, own_l201, own_l202, own_l203, own_l204, own_l205, own_l206, own_l207, own_l208, own_l209, own_l210, own_l211, own_l212, own_l213, own_l214, own_l215, own_l216, own_l217, own_l218, own_l219, own_l220, own_l221, own_l222, own_l223, own_l224, own_l225, own_l226, own_l227, own_l228, own_l229, own_l230, own_l231, own_l232, own_l233, own_l234, own_l235, own_l236, own_l237, own_l238, own_l239, own_l240, own_l241, own_l242, own_l243, own_l244, own_l245, own_l246, own_l247, own_l248, own_l249, own_l250, own_l251, own_l252, own_l253, own_l254, own_l255, own_l256, own_l257, own_l258, own_l259, own_l260, own_l261, own_l262, own_l263, own_l264, own_l265, own_l266, own_l267, own_l268, own_l269, own_l270, own_l271, own_l272, own_l273, own_l274, own_l275, own_l276, own_l277, own_l278, own_l279, own_l280, own_l281, own_l282, own_l283, own_l284, own_l285, own_l286, own_l287, own_l288, own_l289, own_l290, own_l291, own_l292, own_l293, own_l294, own_l295, own_l296, own_l297, own_l298, own_l299, own_l300, own_l301, own_l302, own_l303, own_l304, own_l305, own_l306, own_l307, own_l308, own_l309, own_l310, own_l311, own_l312, own_l313, own_l314, own_l315, own_l316, own_l317, own_l318, own_l319, own_l320, own_l321, own_l322, own_l323, own_l324, own_l325, own_l326, own_l327, own_l328, own_l329, own_l330, own_l331, own_l332, own_l333, own_l334, own_l335, own_l336, own_l337, own_l338, own_l339, own_l340, own_l341, own_l342, own_l343, own_l344, own_l345, own_l346, own_l347, own_l348, own_l349, own_l350, own_l351, own_l352, own_l353, own_l354, own_l355, own_l356, own_l357, own_l358, own_l359, own_l360, own_l361, own_l362, own_l363, own_l364, own_l365, own_l366, own_l367, own_l368, own_l369, own_l370, own_l371, own_l372, own_l373, own_l374, own_l375, own_l376, own_l377, own_l378, own_l379, own_l380, own_l381, own_l382, own_l383, own_l384, getA_set2, setA_len, inB_iff, A0g_0, A0g_1, A0g_2, A0g_3, A0g_4, A0g_5, A0g_6, A0g_7, A0g_8, A0g_9, A0g_10, A0g_11, A0g_12, A0g_13, A0g_14, A0l_0, A0l_1, A0l_2, A0l_3, A0l_4, A0l_5, A0l_6, A0l_7, A0l_8, A0l_9, A0l_10, A0l_11, A0l_12, A0l_13, A0l_14]
  rw [m40_613, if_pos]
  rotate_left
  · clear hQ
    clear gx5_0 gx5_1 gx5_2 gx5_3 gx5_4 gx6_2 gx6_3 gx7_5 gx7_6 gx8_7 gx8_4 gx9_7 gx9_8 gy6_4 gy6_7 gy7_7 gy7_8 gt7 gt8 hn8 hn7 hn6 hn5 f0_0 f0_1 f0_2 f0_3 f1_0 f1_1 f1_2 f1_3 f2_0 f2_1 f2_2 f2_3 f3_0 f3_1 f3_2 f3_3 f4_0 f4_1 f4_2 f4_3 f5_0 f5_1 f5_2 f5_3 f6_0 f6_1 f6_2 f6_3 f7_0 f7_1 f7_2 f7_3 f8_0 f8_1 f8_2 f8_3 f9_0 f9_1 f9_2 f9_3
    obtain ⟨t0, rfl⟩ := own_tb b0
    obtain ⟨t1, rfl⟩ := own_tb b1
    obtain ⟨t2, rfl⟩ := own_tb b2
    obtain ⟨t3, rfl⟩ := own_tb b3
    obtain ⟨t4, rfl⟩ := own_tb b4
    obtain ⟨t5, rfl⟩ := own_tb b5
    revert t0 t1 t2 t3 t4 t5
    decide +kernel
  simp [m40_0, m40_1, m40_2, m40_3u, m40_4, m40_5, m40_6, m40_7, m40_8, m40_9u, m40_10, m40_11, m40_12, m40_13, m40_14, m40_15u, m40_17, m40_18, m40_19, m40_20, m40_21, m40_22u, m40_24, m40_25, m40_26, m40_27, m40_28, m40_29u, m40_31, m40_32, m40_33, m40_34, m40_35, m40_36u, m40_38, m40_39, m40_41, m40_42, m40_43, m40_44u, m40_46, m40_47, m40_49, m40_50, m40_51, m40_52u, m40_54, m40_55, m40_57, m40_58, m40_59, m40_60u, m40_62, m40_63, m40_65, m40_66, m40_67, m40_68u, m40_70, m40_73, m40_74, m40_76, m40_79u, m40_81, m40_82u, m40_84, m40_85u, m40_87, m40_89, m40_90, m40_93, m40_95, m40_98, m40_100, m40_106, m40_109, m40_112, m40_114, m40_115, m40_116, m40_117, m40_118, m40_121i, m40_123, m40_125, m40_126, m40_128, m40_129, m40_131, m40_133, m40_134, m40_137u, m40_139, m40_141, m40_143, m40_145, m40_146, m40_148, m40_150, m40_151, m40_154u, m40_156, m40_158, m40_160, m40_162, m40_163, m40_165, m40_167, m40_168, m40_171u, m40_173, m40_175, m40_177, m40_179, m40_180, m40_183u, m40_185, m40_187, m40_189, m40_191, m40_192, m40_195u, m40_197, m40_199, m40_202, m40_204, m40_205, m40_208, m40_210, m40_212, m40_215, m40_217, m40_219, m40_222, m40_224, m40_226, m40_229, m40_231, m40_234, m40_236, m40_237, m40_240, m40_241, m40_245i, m40_247, m40_249, m40_250, m40_253u, m40_255, m40_257, m40_259, m40_262u, m40_264, m40_266, m40_268, m40_271u, m40_273, m40_275, m40_277, m40_280u, m40_282, m40_284, m40_287u, m40_289, m40_291, m40_294u, m40_296, m40_298, m40_300, m40_302, m40_305u, m40_307, m40_309, m40_311, m40_314, m40_317u, m40_319, m40_321, m40_322, m40_325u, m40_327, m40_329, m40_330, m40_333u, m40_335, m40_336u, m40_338, m40_339u, m40_341, m40_342u, m40_344, m40_346, m40_347, m40_350, m40_351u, m40_351i, m40_351r, m40_353, m40_355, m40_356, m40_359, m40_361, m40_362, m40_363, m40_365, m40_366u, m40_366i, m40_366r, m40_368, m40_370, m40_371, m40_372, m40_373, m40_374, m40_376, m40_377, m40_378, m40_379, m40_380, m40_381, m40_382, m40_383u, m40_383i, m40_383r, m40_385, m40_387, m40_388, m40_389, m40_390, m40_391, m40_393, m40_394, m40_396, m40_397, m40_398, m40_399, m40_400, m40_402, m40_403, m40_404u, m40_404i, m40_404r, m40_406, m40_408, m40_410, m40_411, m40_413, m40_415, m40_416, m40_417u, m40_417i, m40_417r, m40_419, m40_421, m40_423, m40_425, m40_426, m40_427i, m40_429, m40_431, m40_432, m40_433, m40_434, m40_435, m40_437, m40_438, m40_440, m40_441, m40_442, m40_444, m40_445, m40_446u, m40_446i, m40_446r, m40_448, m40_450, m40_452, m40_454, m40_455, m40_456i, m40_458, m40_461, m40_464, m40_467, m40_470, m40_471, m40_472, m40_473i, m40_475, m40_476, m40_477, m40_478, m40_479, m40_480u, m40_480i, m40_480r, m40_482, m40_483, m40_484, m40_485, m40_486, m40_487u, m40_487i, m40_487r, m40_489, m40_490, m40_491, m40_492, m40_493, m40_494u, m40_494i, m40_494r, m40_496, m40_497, m40_498, m40_499, m40_500, m40_501u, m40_501i, m40_501r, m40_503, m40_505, m40_506, m40_507, m40_509, m40_510, m40_511, m40_512u, m40_512i, m40_512r, m40_514, m40_516, m40_518, m40_519, m40_521, m40_523, m40_524, m40_525u, m40_525i, m40_525r, m40_527, m40_529, m40_531, m40_532, m40_534, m40_536, m40_537, m40_538u, m40_540, m40_542, m40_544, m40_545, m40_547, m40_549, m40_550, m40_551u, m40_553, m40_555, m40_557, m40_558, m40_560, m40_562, m40_563, m40_564, m40_565, m40_566u, m40_568, m40_570, m40_573, m40_575, m40_576, m40_579, m40_581, m40_582, m40_585, m40_587, m40_588, m40_591, m40_593, m40_594, m40_597, m40_599, m40_600, m40_603, m40_605, m40_606, m40_609, m40_611, m40_613, m40_616, m40_618, m40_623, m40_625, m40_627, m40_630, m40_632, m40_634, m40_637, m40_638, m40_642, nb0, nb1, ou_a, Option.toList_some, Option.toList_none, List.nil_append, List.cons_append]
  rw [m40_620, if_pos]
  rotate_left
  · clear hQ
    clear gx5_0 gx5_1 gx5_2 gx5_3 gx5_4 gx6_2 gx6_3 gx7_5 gx7_6 gx8_7 gx8_4 gx9_7 gx9_8 gy6_4 gy6_7 gy7_7 gy7_8 gt7 gt8 hn8 hn7 hn6 hn5 f0_0 f0_1 f0_2 f0_3 f1_0 f1_1 f1_2 f1_3 f2_0 f2_1 f2_2 f2_3 f3_0 f3_1 f3_2 f3_3 f4_0 f4_1 f4_2 f4_3 f5_0 f5_1 f5_2 f5_3 f6_0 f6_1 f6_2 f6_3 f7_0 f7_1 f7_2 f7_3 f8_0 f8_1 f8_2 f8_3 f9_0 f9_1 f9_2 f9_3
    obtain ⟨t6, rfl⟩ := own_tb b6
    obtain ⟨t7, rfl⟩ := own_tb b7
    revert t6 t7
    decide +kernel
  simp [m40_0, m40_1, m40_2, m40_3u, m40_4, m40_5, m40_6, m40_7, m40_8, m40_9u, m40_10, m40_11, m40_12, m40_13, m40_14, m40_15u, m40_17, m40_18, m40_19, m40_20, m40_21, m40_22u, m40_24, m40_25, m40_26, m40_27, m40_28, m40_29u, m40_31, m40_32, m40_33, m40_34, m40_35, m40_36u, m40_38, m40_39, m40_41, m40_42, m40_43, m40_44u, m40_46, m40_47, m40_49, m40_50, m40_51, m40_52u, m40_54, m40_55, m40_57, m40_58, m40_59, m40_60u, m40_62, m40_63, m40_65, m40_66, m40_67, m40_68u, m40_70, m40_73, m40_74, m40_76, m40_79u, m40_81, m40_82u, m40_84, m40_85u, m40_87, m40_89, m40_90, m40_93, m40_95, m40_98, m40_100, m40_106, m40_109, m40_112, m40_114, m40_115, m40_116, m40_117, m40_118, m40_121i, m40_123, m40_125, m40_126, m40_128, m40_129, m40_131, m40_133, m40_134, m40_137u, m40_139, m40_141, m40_143, m40_145, m40_146, m40_148, m40_150, m40_151, m40_154u, m40_156, m40_158, m40_160, m40_162, m40_163, m40_165, m40_167, m40_168, m40_171u, m40_173, m40_175, m40_177, m40_179, m40_180, m40_183u, m40_185, m40_187, m40_189, m40_191, m40_192, m40_195u, m40_197, m40_199, m40_202, m40_204, m40_205, m40_208, m40_210, m40_212, m40_215, m40_217, m40_219, m40_222, m40_224, m40_226, m40_229, m40_231, m40_234, m40_236, m40_237, m40_240, m40_241, m40_245i, m40_247, m40_249, m40_250, m40_253u, m40_255, m40_257, m40_259, m40_262u, m40_264, m40_266, m40_268, m40_271u, m40_273, m40_275, m40_277, m40_280u, m40_282, m40_284, m40_287u, m40_289, m40_291, m40_294u, m40_296, m40_298, m40_300, m40_302, m40_305u, m40_307, m40_309, m40_311, m40_314, m40_317u, m40_319, m40_321, m40_322, m40_325u, m40_327, m40_329, m40_330, m40_333u, m40_335, m40_336u, m40_338, m40_339u, m40_341, m40_342u, m40_344, m40_346, m40_347, m40_350, m40_351u, m40_351i, m40_351r, m40_353, m40_355, m40_356, m40_359, m40_361, m40_362, m40_363, m40_365, m40_366u, m40_366i, m40_366r, m40_368, m40_370, m40_371, m40_372, m40_373, m40_374, m40_376, m40_377, m40_378, m40_379, m40_380, m40_381, m40_382, m40_383u, m40_383i, m40_383r, m40_385, m40_387, m40_388, m40_389, m40_390, m40_391, m40_393, m40_394, m40_396, m40_397, m40_398, m40_399, m40_400, m40_402, m40_403, m40_404u, m40_404i, m40_404r, m40_406, m40_408, m40_410, m40_411, m40_413, m40_415, m40_416, m40_417u, m40_417i, m40_417r, m40_419, m40_421, m40_423, m40_425, m40_426, m40_427i, m40_429, m40_431, m40_432, m40_433, m40_434, m40_435, m40_437, m40_438, m40_440, m40_441, m40_442, m40_444, m40_445, m40_446u, m40_446i, m40_446r, m40_448, m40_450, m40_452, m40_454, m40_455, m40_456i, m40_458, m40_461, m40_464, m40_467, m40_470, m40_471, m40_472, m40_473i, m40_475, m40_476, m40_477, m40_478, m40_479, m40_480u, m40_480i, m40_480r, m40_482, m40_483, m40_484, m40_485, m40_486, m40_487u, m40_487i, m40_487r, m40_489, m40_490, m40_491, m40_492, m40_493, m40_494u, m40_494i, m40_494r, m40_496, m40_497, m40_498, m40_499, m40_500, m40_501u, m40_501i, m40_501r, m40_503, m40_505, m40_506, m40_507, m40_509, m40_510, m40_511, m40_512u, m40_512i, m40_512r, m40_514, m40_516, m40_518, m40_519, m40_521, m40_523, m40_524, m40_525u, m40_525i, m40_525r, m40_527, m40_529, m40_531, m40_532, m40_534, m40_536, m40_537, m40_538u, m40_540, m40_542, m40_544, m40_545, m40_547, m40_549, m40_550, m40_551u, m40_553, m40_555, m40_557, m40_558, m40_560, m40_562, m40_563, m40_564, m40_565, m40_566u, m40_568, m40_570, m40_573, m40_575, m40_576, m40_579, m40_581, m40_582, m40_585, m40_587, m40_588, m40_591, m40_593, m40_594, m40_597, m40_599, m40_600, m40_603, m40_605, m40_606, m40_609, m40_611, m40_613, m40_616, m40_618, m40_620, m40_623, m40_625, m40_627, m40_630, m40_632, m40_634, m40_637, m40_638, m40_642, nb0, nb1, ou_a, Option.toList_some, Option.toList_none, List.nil_append, List.cons_append]
  exact hQ _ _ (by (repeat refine len_ou ?_ (by simp only [setA_len])); exact fun _ => rfl)
set_option maxRecDepth 1000000 in
set_option maxHeartbeats 20000000 in
theorem own_gen (i0 : Int32) (i1 : Int32) {Q : Option Value → AHeap → Prop} (hQ : ∀ s' A', (∀ i, (A' i).length = (A0 i).length) → Q (some (.int 1)) (put 0 [] s' A' [])) : M40 0 [.val (.int i0), .val (.int i1), .unset, .unset, .unset, .unset, .unset, .unset, .unset, .unset, .unset, .unset, .unset, .unset, .unset, .unset, .unset, .unset, .unset, .unset, .unset, .unset, .unset, .unset, .unset, .unset, .unset, .unset, .unset, .unset, .unset, .unset, .unset, .unset, .unset, .unset, .unset, .unset, .unset, .unset, .unset, .unset] [] [] Q := by
  rw [m40_0, m40_1, m40_2, m40_3u, m40_4, m40_5, m40_6, m40_7, m40_8, m40_9u, m40_10, m40_11, m40_12, m40_13, m40_14, m40_15u, m40_17, m40_18, m40_19, m40_20, m40_21, m40_22u, m40_24, m40_25, m40_26, m40_27, m40_28, m40_29u, m40_31, m40_32, m40_33, m40_34, m40_35, m40_36u, m40_38, m40_39, m40_41, m40_42, m40_43, m40_44u, m40_46, m40_47, m40_49, m40_50, m40_51, m40_52u, m40_54, m40_55, m40_57, m40_58, m40_59, m40_60u, m40_62, m40_63, m40_65, m40_66, m40_67, m40_68u, m40_70, m40_73, m40_74, m40_76, own_ctor0 rfl]
  simp [m0_0, m0_1, m0_4, m0_5, m0_12, m0_13, m0_20, m0_21, m0_28, m0_29, m0_36, m0_37, m0_44, m0_45, m0_52, m0_53, m0_60, m0_61, m0_68, m0_69, m0_76, m0_77, m0_84, m0_85, m0_92, m0_93, m0_100, m0_101, m0_108, m0_109, m0_116, m0_117, m0_124, m0_125u, m0_126, m0_127, m0_129, m0_132, m0_134i, m0_135, m0_136, m0_138, m0_141, m0_143i, m0_144, m0_145, m0_146, m0_149, m0_150, m0_151, m0_154, m0_155, m0_156, m0_159, m0_160, m0_161, m0_164, m0_165, m0_166, m0_169, m0_170, m0_171, m0_174, m0_175, m0_176, m0_179, nb0, nb1, ou_a, Option.toList_some, Option.toList_none, List.nil_append, List.cons_append]
  exact own_main _ _ _ _ _ _ _ _ _ _ _ _ (bit1 _) (bit1 _) (bit1 _) (bit1 _) (bit1 _) (bit1 _) (bit1 _) (bit1 _) (bit1 _) (bit1 _) _ (by simp [ou_a]) (by simp [ou_a]) (by simp [ou_a]) (by simp [ou_a]) (by simp [ou_a]) (by simp [ou_a]) (by simp [ou_a]) (by simp [ou_a]) (by simp [ou_a]) (by simp [ou_a]) (by simp [ou_a]) (by simp [ou_a]) (by simp [ou_a]) _ hQ
set_option maxRecDepth 1000000 in
set_option maxHeartbeats 20000000 in
theorem own_law (i0 : Int32) (i1 : Int32) : W tables_1 dn 0 x code ret 0 (entry [.int i0, .int i1] maxLocals) [] [] (fun v H1 => v = some (.int 1) ∧ H1.length - ([] : AHeap).length ≤ 40 ∧ tot tables_1 H1 - tot tables_1 [] ≤ 1344) := by
  show M40 0 [.val (.int i0), .val (.int i1), .unset, .unset, .unset, .unset, .unset, .unset, .unset, .unset, .unset, .unset, .unset, .unset, .unset, .unset, .unset, .unset, .unset, .unset, .unset, .unset, .unset, .unset, .unset, .unset, .unset, .unset, .unset, .unset, .unset, .unset, .unset, .unset, .unset, .unset, .unset, .unset, .unset, .unset, .unset, .unset] [] [] _
  exact own_gen _ _ own_fin
theorem own_dn : ∀ f' l', dnOf dn x = some (f', l') → f' ≤ room_1.frames ∧ l' ≤ room_1.locals := by
  have h : dnOf dn x = some (9, 140) := by decide +kernel
  intro f' l' q; rw [h] at q; cases q; decide
theorem own_pn : Jvm.plainName x.cls = true := by first | (simp [Jvm.plainName, overriddenIn, x]; done) | decide +kernel
theorem own_rm (l : Launch) (Z : State) (a0 : Array Value) (hw : ∀ d ∈ tables_1, d.before a0 Z = true) (i0 : Int32) (i1 : Int32) (h : Heap) :
    MetFree l x (head1 (Jvm.Cond.code x code maxLocals ret :: tables_1) room_1) (fun a U => a = #[.int i0, .int i1] ∧ Z.Warmed39 U.vm ∧ U.heap = h) (fun _ _ _ _ _ => True) (fun _ U o U' => ∃ w L, o = .returned w ∧ (w = some (.int 1) ∧ Fr h.size L) ∧ FrameEnd U o U' L 40 1344) :=
  law_of (as := [.int i0, .int i1]) (mx := maxLocals) (f := room_1.frames) (lc := room_1.locals) hw l tables_1 own_pn (by show 2 ≤ 42; omega) (own_law i0 i1) own_dn (Sim.empty Z tables_1 h)
set_option maxRecDepth 65536 in
set_option maxHeartbeats 40000000 in
theorem comes_1 {Post : Tables → Env → Array Value → State → Outcome → State → Prop} (hpost : ∀ tb e args s v u, (limb_1_1.after args s (.returned v) u = true ∧ limb_1_2.after args s (.returned v) u = true ∧ True) → FrameEnd s (.returned v) u (Jvm.fieldLocs frame_1_writes args s ++ Jvm.arrayLocs frame_1_arrays args s ++ Jvm.staticLocs frame_1_statics s) 40 1344 → Post tb e args s (.returned v) u) :
    ArmFor flags0 classFile x code maxLocals ret World_1 tables_1 room_1 Calls_1 rest_1 Pre_1 Post := by
  intro l hfl _ _ p e ha hc hk s m args below hf hA hF happ hP
  obtain ⟨hcalls, hrest, hpre⟩ := hP
  obtain ⟨-, -, -, hnamed, -, -, -, hat⟩ := (Spec.applies_iff hf).mp happ
  obtain ⟨hg, hn⟩ := and_e (Cond.before_iff.mp (show (Jvm.Cond.and given_1 narrow_1).before args s = true from hpre))
  obtain ⟨g0, t0⟩ := and_e hg
  obtain ⟨q0, t1⟩ := and_e t0
  have q1 := t1
  obtain ⟨w0, w1, rfl⟩ : ∃ w0 w1 : Value, args = #[w0, w1] := by
    have hs : args.size = 2 := by simpa [Cond.value, given_1] using g0
    obtain ⟨L⟩ := args
    match L, hs with
    | [w0, w1], _ => exact ⟨w0, w1, rfl⟩
  have hw := fun d (hd : d ∈ tables_1) => atoms_spec (ws := Jvm.Cond.code x code maxLocals ret :: tables_1) hat d (List.mem_cons_of_mem _ hd)
  obtain ⟨i0, ei0⟩ := is_v q0
  obtain rfl : w0 = (.int i0) := Option.some.inj ei0
  obtain ⟨i1, ei1⟩ := is_v q1
  obtain rfl : w1 = (.int i1) := Option.some.inj ei1
  obtain ⟨n, o, h1, h2, h3, _, L, rfl, ⟨rfl, N⟩, hq⟩ := own_rm l s _ hw i0 i1 s.heap p e ha hc hk s m _ below hf ((Spec.applies_iff_loose hf).mp happ).1 ⟨rfl, State.Warmed39.refl s, rfl⟩ trivial
  exact ⟨n, _, h1, h2, h3, hpost _ _ _ _ _ _ ⟨Cond.after_iff.mpr rfl, Cond.after_iff.mpr (eq_i res_at (Term.int_eval (1)) rfl), trivial⟩ ⟨hq.1, hq.2.1, (hq.2.2.sift fun y hy => Or.inr (N y hy)).mono (by decide) (by decide)⟩⟩
theorem main_1_1 : Claimed_1_1 := comes_1 fun _ _ _ _ _ _ h hF => ⟨h.1, hF⟩
theorem main_1_2 : Claimed_1_2 := comes_1 fun _ _ _ _ _ _ h hF => ⟨h.2.1, hF⟩
end Jvm.Pilot.@@N@@
namespace Jvm.Pilot.@@N@@
open Jvm Jvm.ClassFile Sem Op Lib Jvm.Free Jvm.Stand Jvm.Pilot.@@N@@.Jvm.D
/-! MADE BY PROGRAM (witnessworld.py) out of the Statement's table words and the real class files: 9 classes; the members and pool entries that the words name. The judged class is class 1, her method 1. -/
namespace start1
open Jvm.ClassFile
def u (s : String) : CpInfo := .utf8 (stringToUtf16 s)
/-- a pool by its gaps: so many unusable entries, then the entry; so many at the end -/
def gap : Nat → List CpInfo → List CpInfo
  | 0, r => r
  | n + 1, r => .unusable :: gap n r
def poolList (es : List (Nat × CpInfo)) (last : Nat) : List CpInfo := es.foldr (fun e r => gap e.1 (e.2 :: r)) (gap last [])
def pool (es : List (Nat × CpInfo)) (last : Nat) : Array CpInfo := ⟨poolList es last⟩
def fileOf (pool : Array CpInfo) (this : Nat) (attrs : Array Attribute := #[]) (ms : Array MethodInfo := #[]) (fl : Nat := 33) (sup : Nat := 0) (ifs : Array Nat := #[]) (fds : Array FieldInfo := #[]) : ClassFile where
  minorVersion := 0
  majorVersion := 65
  constantPool := pool
  accessFlags := fl
  thisClass := this
  superClass := sup
  interfaces := ifs
  fields := fds
  methods := ms
  attributes := attrs
def plain (name : String) (sup : Option ClassId) : Class where
  name := name
  kind := .ordinary
  loader := none
  accessFlags := 33
  super := sup
  interfaces := #[]
  cf := none
  fields := #[]
  methods := #[]
  instanceTypes := #[]
  staticTypes := #[]
  resolved := #[]
  callSites := []
  init := .initialized
  statics := none
  mirror := none

def pool0 : Array CpInfo := pool [(5, u "<init>"), (0, u "()V"), (1, .class_ 10), (1, u "java/lang/Object")] 113

def k0c0 : Code := { maxStack := 0, maxLocals := 1, code := object_method_1_code, exceptionTable := #[], attributes := #[] }
def k0m0 : Method := { name := "<init>", desc := "()V", sig := { parameters := [], returnType := none }, accessFlags := 1, code := some k0c0 }
/-- java/lang/Object -/
def k0 : Class := { plain "java/lang/Object" none with
  accessFlags := 33
  interfaces := #[]
  cf := some (fileOf pool0 8 #[] #[{ accessFlags := 1, nameIndex := 5, descriptorIndex := 6, attributes := #[] }] 33 0 #[] #[])
  fields := #[]
  methods := #[k0m0]
  instanceTypes := #[]
  staticTypes := #[]
  resolved := Array.replicate 124 none
  statics := none }

def pool1 : Array CpInfo := pool [(2, .class_ 4), (1, u "java/lang/Object"), (0, u "<init>"), (0, u "()V"), (0, .class_ 8), (0, u "LutMapper"), (0, .methodref 7 10), (0, .nameAndType 5 11), (0, u "(I)V"), (0, .methodref 7 13), (0, .nameAndType 14 15), (0, u "addInput"), (0, u "()I"), (0, .methodref 7 17), (0, .nameAndType 18 19), (0, u "addAnd"), (0, u "(II)I"), (0, .methodref 7 21), (0, .nameAndType 22 23), (0, u "addOutput"), (0, u "(I)I"), (0, .methodref 7 25), (0, .nameAndType 26 23), (0, u "getLabel"), (0, .methodref 7 28), (0, .nameAndType 29 15), (0, u "map"), (0, .methodref 7 31), (0, .nameAndType 32 15), (0, u "getMappedDepth"), (0, .methodref 7 34), (0, .nameAndType 35 19), (0, u "cutTruth"), (0, .methodref 7 37), (0, .nameAndType 38 23), (0, u "evalGraph"), (0, .methodref 7 40), (0, .nameAndType 41 23), (0, u "evalMapped"), (0, .class_ 43), (0, u "LutMapperL3"), (2, u "law"), (0, u "(II)Z")] 3

def k1m0 : Method := { name := "<init>", desc := "()V", sig := { parameters := [], returnType := none }, accessFlags := 1, code := none }
def k1c1 : Code := { maxStack := 4, maxLocals := 42, code := code, exceptionTable := #[], attributes := #[] }
def k1m1 : Method := { name := "law", desc := "(II)Z", sig := { parameters := [.int, .int], returnType := some .boolean }, accessFlags := 9, code := some k1c1 }
/-- LutMapperL3 -/
def k1 : Class := { plain "LutMapperL3" (some 0) with
  accessFlags := 49
  interfaces := #[]
  cf := some (fileOf pool1 42 #[] #[{ accessFlags := 1, nameIndex := 5, descriptorIndex := 6, attributes := #[] }, { accessFlags := 9, nameIndex := 46, descriptorIndex := 47, attributes := #[] }] 49 2 #[] #[])
  fields := #[]
  methods := #[k1m0, k1m1]
  instanceTypes := #[]
  staticTypes := #[]
  resolved := Array.replicate 51 none
  statics := none }

def pool2 : Array CpInfo := pool [(1, .methodref 2 3), (0, .class_ 4), (0, .nameAndType 5 6), (0, u "java/lang/Object"), (0, u "<init>"), (0, u "()V"), (0, .fieldref 8 9), (0, .class_ 10), (0, .nameAndType 11 12), (0, u "LutMapper"), (0, u "kind"), (0, u "[I"), (0, .fieldref 8 14), (0, .nameAndType 15 12), (0, u "fan0"), (0, .fieldref 8 17), (0, .nameAndType 18 12), (0, u "fan1"), (0, .fieldref 8 20), (0, .nameAndType 21 12), (0, u "inputNum"), (0, .fieldref 8 23), (0, .nameAndType 24 12), (0, u "label"), (0, .fieldref 8 26), (0, .nameAndType 27 12), (0, u "outLit"), (0, .fieldref 8 29), (0, .nameAndType 30 12), (0, u "flowInt"), (0, .fieldref 8 32), (0, .nameAndType 33 12), (0, u "flowEdge"), (0, .fieldref 8 35), (0, .nameAndType 36 12), (0, u "queue"), (0, .fieldref 8 38), (0, .nameAndType 39 12), (0, u "prevV"), (0, .fieldref 8 41), (0, .nameAndType 42 12), (0, u "prevC"), (0, .fieldref 8 44), (0, .nameAndType 45 12), (0, u "req"), (0, .fieldref 8 47), (0, .nameAndType 48 12), (0, u "lutLeaves"), (0, .fieldref 8 50), (0, .nameAndType 51 12), (0, u "lutTruth"), (0, .fieldref 8 53), (0, .nameAndType 54 12), (0, u "tt"), (0, .fieldref 8 56), (0, .nameAndType 57 58), (0, u "capacity"), (0, u "I"), (0, .fieldref 8 60), (0, .nameAndType 61 58), (0, u "nodeCount"), (0, .fieldref 8 63), (0, .nameAndType 64 58), (0, u "inputCount"), (0, .fieldref 8 66), (0, .nameAndType 67 58), (0, u "outputCount"), (0, .fieldref 8 69), (0, .nameAndType 70 71), (0, u "mapped"), (0, u "Z"), (0, .fieldref 8 73), (0, .nameAndType 74 58), (0, u "mappedDepth"), (0, .fieldref 8 76), (0, .nameAndType 77 58), (0, u "neededMask"), (0, .methodref 8 79), (0, .nameAndType 80 81), (0, u "validLit"), (0, u "(I)Z"), (0, .methodref 8 83), (0, .nameAndType 84 85), (0, u "computeLabel"), (0, u "(I)I"), (0, .methodref 8 87), (0, .nameAndType 88 89), (0, u "isCut"), (0, u "(II)Z"), (0, .methodref 8 91), (0, .nameAndType 92 93), (0, u "truthOf"), (0, u "(II)I"), (0, .methodref 8 95), (0, .nameAndType 96 6), (0, u "resetCover"), (0, .methodref 8 98), (0, .nameAndType 99 93), (0, u "bitOf"), (0, .methodref 8 101), (0, .nameAndType 102 103), (0, u "selectLut"), (0, u "(I)V"), (0, .methodref 8 105), (0, .nameAndType 106 93), (0, u "litVal"), (0, .methodref 8 108), (0, .nameAndType 109 85), (0, u "packOutputs"), (0, .methodref 8 111), (0, .nameAndType 112 93), (0, u "lutValue"), (0, .fieldref 8 114), (0, .nameAndType 115 58), (0, u "unitMask"), (0, .methodref 8 117), (0, .nameAndType 118 85), (0, u "bitCount"), (0, .methodref 8 120), (0, .nameAndType 121 93), (0, u "markCone"), (0, .integer 43690), (0, .integer 52428), (0, .integer 61680), (0, .integer 65280), (0, .integer 65535), (0, .methodref 8 128), (0, .nameAndType 129 85), (0, u "varTable"), (0, .methodref 8 131), (0, .nameAndType 132 85), (0, u "litTable"), (0, .methodref 8 134), (0, .nameAndType 135 93), (0, u "maxFlow"), (0, .fieldref 8 137), (0, .nameAndType 138 58), (0, u "srcNode"), (0, .fieldref 8 140), (0, .nameAndType 141 58), (0, u "coneMask"), (0, .methodref 8 143), (0, .nameAndType 144 145), (0, u "prepareFlow"), (0, u "(II)V"), (0, .methodref 8 147), (0, .nameAndType 148 149), (0, u "searchPath"), (0, u "()Z"), (0, .methodref 8 151), (0, .nameAndType 152 6), (0, u "augment"), (0, .fieldref 8 154), (0, .nameAndType 155 71), (0, u "visSink"), (0, .fieldref 8 157), (0, .nameAndType 158 58), (0, u "visIn"), (0, .fieldref 8 160), (0, .nameAndType 161 58), (0, u "visOut"), (0, .methodref 8 163), (0, .nameAndType 164 81), (0, u "isVisited"), (0, .methodref 8 166), (0, .nameAndType 167 103), (0, u "markVisited"), (0, .methodref 8 169), (0, .nameAndType 170 93), (0, u "expandEntry"), (0, .methodref 8 172), (0, .nameAndType 173 93), (0, u "expandExit"), (0, .methodref 8 175), (0, .nameAndType 176 81), (0, u "isUnit"), (0, .methodref 8 178), (0, .nameAndType 179 180), (0, u "visit"), (0, u "(IIII)I"), (0, .methodref 8 182), (0, .nameAndType 183 184), (0, u "applyEdge"), (0, u "(III)V"), (0, .methodref 8 186), (0, .nameAndType 187 93), (0, u "reach"), (0, .methodref 8 189), (0, .nameAndType 190 93), (0, u "reachIntoExit"), (0, .methodref 8 192), (0, .nameAndType 193 93), (0, u "reachIntoEntry"), (0, .integer 1048576), (0, .methodref 8 196), (0, .nameAndType 197 198), (0, u "sinkSideCut"), (0, u "()I"), (0, .methodref 8 200), (0, .nameAndType 201 93), (0, u "chooseCut"), (0, u "REFUSED"), (2, u "MIN_NODES"), (1, u "MAX_NODES"), (1, u "MAX_INPUTS"), (1, u "MAX_OUTPUTS"), (0, u "MAX_LEAVES"), (1, u "KIND_NONE"), (1, u "KIND_INPUT"), (1, u "KIND_AND"), (5, u "addInput"), (0, u "addAnd"), (0, u "addOutput"), (6, u "getLabel"), (0, u "cutTruth"), (0, u "map"), (0, u "getMappedDepth"), (0, u "evalGraph"), (0, u "evalMapped")] 2

def k2c0 : Code := { maxStack := 2, maxLocals := 3, code := prog_1_method_1_code, exceptionTable := #[], attributes := #[] }
def k2m0 : Method := { name := "<init>", desc := "(I)V", sig := { parameters := [.int], returnType := none }, accessFlags := 1, code := some k2c0 }
def k2c1 : Code := { maxStack := 3, maxLocals := 2, code := prog_1_method_3_code, exceptionTable := #[], attributes := #[] }
def k2m1 : Method := { name := "addInput", desc := "()I", sig := { parameters := [], returnType := some .int }, accessFlags := 1, code := some k2c1 }
def k2c2 : Code := { maxStack := 4, maxLocals := 4, code := prog_1_method_4_code, exceptionTable := #[], attributes := #[] }
def k2m2 : Method := { name := "addAnd", desc := "(II)I", sig := { parameters := [.int, .int], returnType := some .int }, accessFlags := 1, code := some k2c2 }
def k2c3 : Code := { maxStack := 3, maxLocals := 3, code := prog_1_method_5_code, exceptionTable := #[], attributes := #[] }
def k2m3 : Method := { name := "addOutput", desc := "(I)I", sig := { parameters := [.int], returnType := some .int }, accessFlags := 1, code := some k2c3 }
def k2c4 : Code := { maxStack := 2, maxLocals := 2, code := prog_1_method_12_code, exceptionTable := #[], attributes := #[] }
def k2m4 : Method := { name := "getLabel", desc := "(I)I", sig := { parameters := [.int], returnType := some .int }, accessFlags := 1, code := some k2c4 }
def k2c5 : Code := { maxStack := 3, maxLocals := 3, code := prog_1_method_13_code, exceptionTable := #[], attributes := #[] }
def k2m5 : Method := { name := "cutTruth", desc := "(II)I", sig := { parameters := [.int, .int], returnType := some .int }, accessFlags := 1, code := some k2c5 }
def k2c6 : Code := { maxStack := 4, maxLocals := 4, code := prog_1_method_14_code, exceptionTable := #[], attributes := #[] }
def k2m6 : Method := { name := "map", desc := "()I", sig := { parameters := [], returnType := some .int }, accessFlags := 1, code := some k2c6 }
def k2c7 : Code := { maxStack := 1, maxLocals := 1, code := prog_1_method_15_code, exceptionTable := #[], attributes := #[] }
def k2m7 : Method := { name := "getMappedDepth", desc := "()I", sig := { parameters := [], returnType := some .int }, accessFlags := 1, code := some k2c7 }
def k2c8 : Code := { maxStack := 5, maxLocals := 5, code := prog_1_method_16_code, exceptionTable := #[], attributes := #[] }
def k2m8 : Method := { name := "evalGraph", desc := "(I)I", sig := { parameters := [.int], returnType := some .int }, accessFlags := 1, code := some k2c8 }
def k2c9 : Code := { maxStack := 4, maxLocals := 5, code := prog_1_method_17_code, exceptionTable := #[], attributes := #[] }
def k2m9 : Method := { name := "evalMapped", desc := "(I)I", sig := { parameters := [.int], returnType := some .int }, accessFlags := 1, code := some k2c9 }
def k2c10 : Code := { maxStack := 3, maxLocals := 2, code := prog_1_method_18_code, exceptionTable := #[], attributes := #[] }
def k2m10 : Method := { name := "validLit", desc := "(I)Z", sig := { parameters := [.int], returnType := some .boolean }, accessFlags := 2, code := some k2c10 }
def k2c11 : Code := { maxStack := 2, maxLocals := 3, code := prog_1_method_19_code, exceptionTable := #[], attributes := #[] }
def k2m11 : Method := { name := "bitOf", desc := "(II)I", sig := { parameters := [.int, .int], returnType := some .int }, accessFlags := 2, code := some k2c11 }
def k2c12 : Code := { maxStack := 3, maxLocals := 4, code := prog_1_method_20_code, exceptionTable := #[], attributes := #[] }
def k2m12 : Method := { name := "bitCount", desc := "(I)I", sig := { parameters := [.int], returnType := some .int }, accessFlags := 2, code := some k2c12 }
def k2c13 : Code := { maxStack := 3, maxLocals := 2, code := prog_1_method_21_code, exceptionTable := #[], attributes := #[] }
def k2m13 : Method := { name := "isUnit", desc := "(I)Z", sig := { parameters := [.int], returnType := some .boolean }, accessFlags := 2, code := some k2c13 }
def k2c14 : Code := { maxStack := 3, maxLocals := 3, code := prog_1_method_22_code, exceptionTable := #[], attributes := #[] }
def k2m14 : Method := { name := "litVal", desc := "(II)I", sig := { parameters := [.int, .int], returnType := some .int }, accessFlags := 2, code := some k2c14 }
def k2c15 : Code := { maxStack := 5, maxLocals := 4, code := prog_1_method_23_code, exceptionTable := #[], attributes := #[] }
def k2m15 : Method := { name := "packOutputs", desc := "(I)I", sig := { parameters := [.int], returnType := some .int }, accessFlags := 2, code := some k2c15 }
def k2c16 : Code := { maxStack := 4, maxLocals := 5, code := prog_1_method_24_code, exceptionTable := #[], attributes := #[] }
def k2m16 : Method := { name := "markCone", desc := "(II)I", sig := { parameters := [.int, .int], returnType := some .int }, accessFlags := 2, code := some k2c16 }
def k2c17 : Code := { maxStack := 3, maxLocals := 6, code := prog_1_method_25_code, exceptionTable := #[], attributes := #[] }
def k2m17 : Method := { name := "isCut", desc := "(II)Z", sig := { parameters := [.int, .int], returnType := some .boolean }, accessFlags := 2, code := some k2c17 }
def k2c18 : Code := { maxStack := 2, maxLocals := 2, code := prog_1_method_26_code, exceptionTable := #[], attributes := #[] }
def k2m18 : Method := { name := "varTable", desc := "(I)I", sig := { parameters := [.int], returnType := some .int }, accessFlags := 2, code := some k2c18 }
def k2c19 : Code := { maxStack := 3, maxLocals := 3, code := prog_1_method_27_code, exceptionTable := #[], attributes := #[] }
def k2m19 : Method := { name := "litTable", desc := "(I)I", sig := { parameters := [.int], returnType := some .int }, accessFlags := 2, code := some k2c19 }
def k2c20 : Code := { maxStack := 6, maxLocals := 6, code := prog_1_method_28_code, exceptionTable := #[], attributes := #[] }
def k2m20 : Method := { name := "truthOf", desc := "(II)I", sig := { parameters := [.int, .int], returnType := some .int }, accessFlags := 2, code := some k2c20 }
def k2c21 : Code := { maxStack := 3, maxLocals := 6, code := prog_1_method_29_code, exceptionTable := #[], attributes := #[] }
def k2m21 : Method := { name := "computeLabel", desc := "(I)I", sig := { parameters := [.int], returnType := some .int }, accessFlags := 2, code := some k2c21 }
def k2c22 : Code := { maxStack := 4, maxLocals := 4, code := prog_1_method_30_code, exceptionTable := #[], attributes := #[] }
def k2m22 : Method := { name := "prepareFlow", desc := "(II)V", sig := { parameters := [.int, .int], returnType := none }, accessFlags := 2, code := some k2c22 }
def k2c23 : Code := { maxStack := 3, maxLocals := 5, code := prog_1_method_31_code, exceptionTable := #[], attributes := #[] }
def k2m23 : Method := { name := "maxFlow", desc := "(II)I", sig := { parameters := [.int, .int], returnType := some .int }, accessFlags := 2, code := some k2c23 }
def k2c24 : Code := { maxStack := 4, maxLocals := 2, code := prog_1_method_32_code, exceptionTable := #[], attributes := #[] }
def k2m24 : Method := { name := "isVisited", desc := "(I)Z", sig := { parameters := [.int], returnType := some .boolean }, accessFlags := 2, code := some k2c24 }
def k2c25 : Code := { maxStack := 5, maxLocals := 2, code := prog_1_method_33_code, exceptionTable := #[], attributes := #[] }
def k2m25 : Method := { name := "markVisited", desc := "(I)V", sig := { parameters := [.int], returnType := none }, accessFlags := 2, code := some k2c25 }
def k2c26 : Code := { maxStack := 3, maxLocals := 5, code := prog_1_method_34_code, exceptionTable := #[], attributes := #[] }
def k2m26 : Method := { name := "visit", desc := "(IIII)I", sig := { parameters := [.int, .int, .int, .int], returnType := some .int }, accessFlags := 2, code := some k2c26 }
def k2c27 : Code := { maxStack := 3, maxLocals := 5, code := prog_1_method_35_code, exceptionTable := #[], attributes := #[] }
def k2m27 : Method := { name := "searchPath", desc := "()Z", sig := { parameters := [], returnType := some .boolean }, accessFlags := 2, code := some k2c27 }
def k2c28 : Code := { maxStack := 5, maxLocals := 6, code := prog_1_method_36_code, exceptionTable := #[], attributes := #[] }
def k2m28 : Method := { name := "expandEntry", desc := "(II)I", sig := { parameters := [.int, .int], returnType := some .int }, accessFlags := 2, code := some k2c28 }
def k2c29 : Code := { maxStack := 5, maxLocals := 5, code := prog_1_method_37_code, exceptionTable := #[], attributes := #[] }
def k2m29 : Method := { name := "expandExit", desc := "(II)I", sig := { parameters := [.int, .int], returnType := some .int }, accessFlags := 2, code := some k2c29 }
def k2c30 : Code := { maxStack := 5, maxLocals := 5, code := prog_1_method_38_code, exceptionTable := #[], attributes := #[] }
def k2m30 : Method := { name := "augment", desc := "()V", sig := { parameters := [], returnType := none }, accessFlags := 2, code := some k2c30 }
def k2c31 : Code := { maxStack := 4, maxLocals := 4, code := prog_1_method_39_code, exceptionTable := #[], attributes := #[] }
def k2m31 : Method := { name := "applyEdge", desc := "(III)V", sig := { parameters := [.int, .int, .int], returnType := none }, accessFlags := 2, code := some k2c31 }
def k2c32 : Code := { maxStack := 3, maxLocals := 3, code := prog_1_method_40_code, exceptionTable := #[], attributes := #[] }
def k2m32 : Method := { name := "reach", desc := "(II)I", sig := { parameters := [.int, .int], returnType := some .int }, accessFlags := 2, code := some k2c32 }
def k2c33 : Code := { maxStack := 3, maxLocals := 4, code := prog_1_method_41_code, exceptionTable := #[], attributes := #[] }
def k2m33 : Method := { name := "sinkSideCut", desc := "()I", sig := { parameters := [], returnType := some .int }, accessFlags := 2, code := some k2c33 }
def k2c34 : Code := { maxStack := 4, maxLocals := 5, code := prog_1_method_42_code, exceptionTable := #[], attributes := #[] }
def k2m34 : Method := { name := "reachIntoExit", desc := "(II)I", sig := { parameters := [.int, .int], returnType := some .int }, accessFlags := 2, code := some k2c34 }
def k2c35 : Code := { maxStack := 3, maxLocals := 6, code := prog_1_method_43_code, exceptionTable := #[], attributes := #[] }
def k2m35 : Method := { name := "reachIntoEntry", desc := "(II)I", sig := { parameters := [.int, .int], returnType := some .int }, accessFlags := 2, code := some k2c35 }
def k2c36 : Code := { maxStack := 3, maxLocals := 2, code := prog_1_method_44_code, exceptionTable := #[], attributes := #[] }
def k2m36 : Method := { name := "resetCover", desc := "()V", sig := { parameters := [], returnType := none }, accessFlags := 2, code := some k2c36 }
def k2c37 : Code := { maxStack := 4, maxLocals := 6, code := prog_1_method_45_code, exceptionTable := #[], attributes := #[] }
def k2m37 : Method := { name := "chooseCut", desc := "(II)I", sig := { parameters := [.int, .int], returnType := some .int }, accessFlags := 2, code := some k2c37 }
def k2c38 : Code := { maxStack := 5, maxLocals := 5, code := prog_1_method_46_code, exceptionTable := #[], attributes := #[] }
def k2m38 : Method := { name := "selectLut", desc := "(I)V", sig := { parameters := [.int], returnType := none }, accessFlags := 2, code := some k2c38 }
def k2c39 : Code := { maxStack := 3, maxLocals := 7, code := prog_1_method_47_code, exceptionTable := #[], attributes := #[] }
def k2m39 : Method := { name := "lutValue", desc := "(II)I", sig := { parameters := [.int, .int], returnType := some .int }, accessFlags := 2, code := some k2c39 }
/-- LutMapper -/
def k2 : Class := { plain "LutMapper" (some 0) with
  accessFlags := 49
  interfaces := #[]
  cf := some (fileOf pool2 8 #[] #[{ accessFlags := 1, nameIndex := 5, descriptorIndex := 103, attributes := #[] }, { accessFlags := 1, nameIndex := 224, descriptorIndex := 198, attributes := #[] }, { accessFlags := 1, nameIndex := 225, descriptorIndex := 93, attributes := #[] }, { accessFlags := 1, nameIndex := 226, descriptorIndex := 85, attributes := #[] }, { accessFlags := 1, nameIndex := 233, descriptorIndex := 85, attributes := #[] }, { accessFlags := 1, nameIndex := 234, descriptorIndex := 93, attributes := #[] }, { accessFlags := 1, nameIndex := 235, descriptorIndex := 198, attributes := #[] }, { accessFlags := 1, nameIndex := 236, descriptorIndex := 198, attributes := #[] }, { accessFlags := 1, nameIndex := 237, descriptorIndex := 85, attributes := #[] }, { accessFlags := 1, nameIndex := 238, descriptorIndex := 85, attributes := #[] }, { accessFlags := 2, nameIndex := 80, descriptorIndex := 81, attributes := #[] }, { accessFlags := 2, nameIndex := 99, descriptorIndex := 93, attributes := #[] }, { accessFlags := 2, nameIndex := 118, descriptorIndex := 85, attributes := #[] }, { accessFlags := 2, nameIndex := 176, descriptorIndex := 81, attributes := #[] }, { accessFlags := 2, nameIndex := 106, descriptorIndex := 93, attributes := #[] }, { accessFlags := 2, nameIndex := 109, descriptorIndex := 85, attributes := #[] }, { accessFlags := 2, nameIndex := 121, descriptorIndex := 93, attributes := #[] }, { accessFlags := 2, nameIndex := 88, descriptorIndex := 89, attributes := #[] }, { accessFlags := 2, nameIndex := 129, descriptorIndex := 85, attributes := #[] }, { accessFlags := 2, nameIndex := 132, descriptorIndex := 85, attributes := #[] }, { accessFlags := 2, nameIndex := 92, descriptorIndex := 93, attributes := #[] }, { accessFlags := 2, nameIndex := 84, descriptorIndex := 85, attributes := #[] }, { accessFlags := 2, nameIndex := 144, descriptorIndex := 145, attributes := #[] }, { accessFlags := 2, nameIndex := 135, descriptorIndex := 93, attributes := #[] }, { accessFlags := 2, nameIndex := 164, descriptorIndex := 81, attributes := #[] }, { accessFlags := 2, nameIndex := 167, descriptorIndex := 103, attributes := #[] }, { accessFlags := 2, nameIndex := 179, descriptorIndex := 180, attributes := #[] }, { accessFlags := 2, nameIndex := 148, descriptorIndex := 149, attributes := #[] }, { accessFlags := 2, nameIndex := 170, descriptorIndex := 93, attributes := #[] }, { accessFlags := 2, nameIndex := 173, descriptorIndex := 93, attributes := #[] }, { accessFlags := 2, nameIndex := 152, descriptorIndex := 6, attributes := #[] }, { accessFlags := 2, nameIndex := 183, descriptorIndex := 184, attributes := #[] }, { accessFlags := 2, nameIndex := 187, descriptorIndex := 93, attributes := #[] }, { accessFlags := 2, nameIndex := 197, descriptorIndex := 198, attributes := #[] }, { accessFlags := 2, nameIndex := 190, descriptorIndex := 93, attributes := #[] }, { accessFlags := 2, nameIndex := 193, descriptorIndex := 93, attributes := #[] }, { accessFlags := 2, nameIndex := 96, descriptorIndex := 6, attributes := #[] }, { accessFlags := 2, nameIndex := 201, descriptorIndex := 93, attributes := #[] }, { accessFlags := 2, nameIndex := 102, descriptorIndex := 103, attributes := #[] }, { accessFlags := 2, nameIndex := 112, descriptorIndex := 93, attributes := #[] }] 49 2 #[] #[{ accessFlags := 25, nameIndex := 202, descriptorIndex := 58, attributes := #[] }, { accessFlags := 25, nameIndex := 205, descriptorIndex := 58, attributes := #[] }, { accessFlags := 25, nameIndex := 207, descriptorIndex := 58, attributes := #[] }, { accessFlags := 25, nameIndex := 209, descriptorIndex := 58, attributes := #[] }, { accessFlags := 25, nameIndex := 211, descriptorIndex := 58, attributes := #[] }, { accessFlags := 25, nameIndex := 212, descriptorIndex := 58, attributes := #[] }, { accessFlags := 25, nameIndex := 214, descriptorIndex := 58, attributes := #[] }, { accessFlags := 25, nameIndex := 216, descriptorIndex := 58, attributes := #[] }, { accessFlags := 25, nameIndex := 218, descriptorIndex := 58, attributes := #[] }, { accessFlags := 2, nameIndex := 57, descriptorIndex := 58, attributes := #[] }, { accessFlags := 2, nameIndex := 61, descriptorIndex := 58, attributes := #[] }, { accessFlags := 2, nameIndex := 64, descriptorIndex := 58, attributes := #[] }, { accessFlags := 2, nameIndex := 67, descriptorIndex := 58, attributes := #[] }, { accessFlags := 18, nameIndex := 11, descriptorIndex := 12, attributes := #[] }, { accessFlags := 18, nameIndex := 15, descriptorIndex := 12, attributes := #[] }, { accessFlags := 18, nameIndex := 18, descriptorIndex := 12, attributes := #[] }, { accessFlags := 18, nameIndex := 21, descriptorIndex := 12, attributes := #[] }, { accessFlags := 18, nameIndex := 24, descriptorIndex := 12, attributes := #[] }, { accessFlags := 18, nameIndex := 27, descriptorIndex := 12, attributes := #[] }, { accessFlags := 18, nameIndex := 30, descriptorIndex := 12, attributes := #[] }, { accessFlags := 18, nameIndex := 33, descriptorIndex := 12, attributes := #[] }, { accessFlags := 18, nameIndex := 36, descriptorIndex := 12, attributes := #[] }, { accessFlags := 18, nameIndex := 39, descriptorIndex := 12, attributes := #[] }, { accessFlags := 18, nameIndex := 42, descriptorIndex := 12, attributes := #[] }, { accessFlags := 2, nameIndex := 138, descriptorIndex := 58, attributes := #[] }, { accessFlags := 2, nameIndex := 141, descriptorIndex := 58, attributes := #[] }, { accessFlags := 2, nameIndex := 115, descriptorIndex := 58, attributes := #[] }, { accessFlags := 2, nameIndex := 158, descriptorIndex := 58, attributes := #[] }, { accessFlags := 2, nameIndex := 161, descriptorIndex := 58, attributes := #[] }, { accessFlags := 2, nameIndex := 155, descriptorIndex := 71, attributes := #[] }, { accessFlags := 2, nameIndex := 70, descriptorIndex := 71, attributes := #[] }, { accessFlags := 2, nameIndex := 74, descriptorIndex := 58, attributes := #[] }, { accessFlags := 2, nameIndex := 77, descriptorIndex := 58, attributes := #[] }, { accessFlags := 18, nameIndex := 45, descriptorIndex := 12, attributes := #[] }, { accessFlags := 18, nameIndex := 48, descriptorIndex := 12, attributes := #[] }, { accessFlags := 18, nameIndex := 51, descriptorIndex := 12, attributes := #[] }, { accessFlags := 18, nameIndex := 54, descriptorIndex := 12, attributes := #[] }])
  fields := #[{ name := "REFUSED", type := .int, accessFlags := 25, slot := 0, constantValue := 0 }, { name := "MIN_NODES", type := .int, accessFlags := 25, slot := 1, constantValue := 0 }, { name := "MAX_NODES", type := .int, accessFlags := 25, slot := 2, constantValue := 0 }, { name := "MAX_INPUTS", type := .int, accessFlags := 25, slot := 3, constantValue := 0 }, { name := "MAX_OUTPUTS", type := .int, accessFlags := 25, slot := 4, constantValue := 0 }, { name := "MAX_LEAVES", type := .int, accessFlags := 25, slot := 5, constantValue := 0 }, { name := "KIND_NONE", type := .int, accessFlags := 25, slot := 6, constantValue := 0 }, { name := "KIND_INPUT", type := .int, accessFlags := 25, slot := 7, constantValue := 0 }, { name := "KIND_AND", type := .int, accessFlags := 25, slot := 8, constantValue := 0 }, { name := "capacity", type := .int, accessFlags := 2, slot := 0, constantValue := 0 }, { name := "nodeCount", type := .int, accessFlags := 2, slot := 1, constantValue := 0 }, { name := "inputCount", type := .int, accessFlags := 2, slot := 2, constantValue := 0 }, { name := "outputCount", type := .int, accessFlags := 2, slot := 3, constantValue := 0 }, { name := "kind", type := (.array .int), accessFlags := 18, slot := 4, constantValue := 0 }, { name := "fan0", type := (.array .int), accessFlags := 18, slot := 5, constantValue := 0 }, { name := "fan1", type := (.array .int), accessFlags := 18, slot := 6, constantValue := 0 }, { name := "inputNum", type := (.array .int), accessFlags := 18, slot := 7, constantValue := 0 }, { name := "label", type := (.array .int), accessFlags := 18, slot := 8, constantValue := 0 }, { name := "outLit", type := (.array .int), accessFlags := 18, slot := 9, constantValue := 0 }, { name := "flowInt", type := (.array .int), accessFlags := 18, slot := 10, constantValue := 0 }, { name := "flowEdge", type := (.array .int), accessFlags := 18, slot := 11, constantValue := 0 }, { name := "queue", type := (.array .int), accessFlags := 18, slot := 12, constantValue := 0 }, { name := "prevV", type := (.array .int), accessFlags := 18, slot := 13, constantValue := 0 }, { name := "prevC", type := (.array .int), accessFlags := 18, slot := 14, constantValue := 0 }, { name := "srcNode", type := .int, accessFlags := 2, slot := 15, constantValue := 0 }, { name := "coneMask", type := .int, accessFlags := 2, slot := 16, constantValue := 0 }, { name := "unitMask", type := .int, accessFlags := 2, slot := 17, constantValue := 0 }, { name := "visIn", type := .int, accessFlags := 2, slot := 18, constantValue := 0 }, { name := "visOut", type := .int, accessFlags := 2, slot := 19, constantValue := 0 }, { name := "visSink", type := .boolean, accessFlags := 2, slot := 20, constantValue := 0 }, { name := "mapped", type := .boolean, accessFlags := 2, slot := 21, constantValue := 0 }, { name := "mappedDepth", type := .int, accessFlags := 2, slot := 22, constantValue := 0 }, { name := "neededMask", type := .int, accessFlags := 2, slot := 23, constantValue := 0 }, { name := "req", type := (.array .int), accessFlags := 18, slot := 24, constantValue := 0 }, { name := "lutLeaves", type := (.array .int), accessFlags := 18, slot := 25, constantValue := 0 }, { name := "lutTruth", type := (.array .int), accessFlags := 18, slot := 26, constantValue := 0 }, { name := "tt", type := (.array .int), accessFlags := 18, slot := 27, constantValue := 0 }]
  methods := #[k2m0, k2m1, k2m2, k2m3, k2m4, k2m5, k2m6, k2m7, k2m8, k2m9, k2m10, k2m11, k2m12, k2m13, k2m14, k2m15, k2m16, k2m17, k2m18, k2m19, k2m20, k2m21, k2m22, k2m23, k2m24, k2m25, k2m26, k2m27, k2m28, k2m29, k2m30, k2m31, k2m32, k2m33, k2m34, k2m35, k2m36, k2m37, k2m38, k2m39]
  instanceTypes := #[.int, .int, .int, .int, (.array .int), (.array .int), (.array .int), (.array .int), (.array .int), (.array .int), (.array .int), (.array .int), (.array .int), (.array .int), (.array .int), .int, .int, .int, .int, .int, .boolean, .boolean, .int, .int, (.array .int), (.array .int), (.array .int), (.array .int)]
  staticTypes := #[.int, .int, .int, .int, .int, .int, .int, .int, .int]
  resolved := Array.replicate 241 none
  statics := none }

def pool3 : Array CpInfo := pool [(1, u "java/lang/Cloneable"), (0, .class_ 1), (0, u "java/lang/Object"), (0, .class_ 3)] 3

/-- java/lang/Cloneable -/
def k3 : Class := { plain "java/lang/Cloneable" (some 0) with
  accessFlags := 1537
  interfaces := #[]
  cf := some (fileOf pool3 2 #[] #[] 1537 4 #[] #[])
  fields := #[]
  methods := #[]
  instanceTypes := #[]
  staticTypes := #[]
  resolved := Array.replicate 8 none
  statics := none }

def pool4 : Array CpInfo := pool [(1, u "java/io/Serializable"), (0, .class_ 1), (0, u "java/lang/Object"), (0, .class_ 3)] 3

/-- java/io/Serializable -/
def k4 : Class := { plain "java/io/Serializable" (some 0) with
  accessFlags := 1537
  interfaces := #[]
  cf := some (fileOf pool4 2 #[] #[] 1537 4 #[] #[])
  fields := #[]
  methods := #[]
  instanceTypes := #[]
  staticTypes := #[]
  resolved := Array.replicate 8 none
  statics := none }

/-- the primitive byte -/
def k5 : Class := { plain "byte" none with kind := .primitive 'B', accessFlags := 0x411 }
/-- [B -/
def k6 : Class := { plain "[B" (some 0) with kind := .array 5 .byte, interfaces := #[3, 4], accessFlags := 1041 }

/-- the primitive int -/
def k7 : Class := { plain "int" none with kind := .primitive 'I', accessFlags := 0x411 }
/-- [I -/
def k8 : Class := { plain "[I" (some 0) with kind := .array 7 .int, interfaces := #[3, 4], accessFlags := 1041 }

def heap : Heap := #[]
def classes : Array Class := #[k0, k1, k2, k3, k4, k5, k6, k7, k8]
def interned : List (Array UInt16 × Addr) := []
def slotsUsed : Nat := 0
def theMethod : MethodId := ⟨1, 1⟩
def args0 : Array Value := #[.int 341, .int 21]
def aboutOver (below : List Frame) : State where
  vm := { classes := classes, interned := interned.toArray }
  heap := heap
  slotsUsed := slotsUsed
  threads := #[{ frames := .invoking theMethod args0 :: below }]
def below0 : List Frame := [.native { method := ⟨0, 0⟩, args := #[] }]
def about1 : State := aboutOver below0
def p0 : Program := .bare "" "" ""
def e0 : Env := launch0.env 0 0 0
theorem w_frames : about1.frames = Frame.invoking theMethod args0 :: below0 := rfl
set_option maxRecDepth 65536 in
theorem w_args : argsFit about1.vm theMethod args0 = true := by decide +kernel
set_option maxRecDepth 65536 in
theorem w_heap : heapFits about1 = true := by decide +kernel
set_option maxRecDepth 65536 in
theorem w_runnable : about1.curStatus? = some .runnable := by decide +kernel
set_option maxRecDepth 65536 in
theorem w_alone : about1.alone = true := by decide +kernel
set_option maxRecDepth 65536 in
theorem w_named : about1.methodNamed? x = some theMethod := by decide +kernel
set_option maxRecDepth 65536 in
theorem w_hears : about1.hears theMethod below0 = true := by decide +kernel
set_option maxRecDepth 65536 in
theorem w_ripe : about1.ripe theMethod args0 below0 = true := by decide +kernel
theorem w_running : about1.status = .running := rfl
set_option maxRecDepth 65536 in
theorem w_room : about1.hasRoom e0.platform room_1 = true :=
  launch0.hasRoom_least _ room_1 (by decide +kernel) (by decide +kernel) (by decide +kernel) (by decide +kernel) (by decide +kernel) (by decide +kernel)
theorem allAtoms_all (ts : List Jvm.Cond) (a : Array Jvm.Value) (st : Jvm.State) : (allAtoms ts).before a st = ts.all (fun c => c.before a st) := by
  induction ts with
  | nil => rfl
  | cons c t ih =>
    show (Jvm.Cond.and c (allAtoms t)).before a st = _
    rw [Jvm.Cond.before_and, ih, List.all_cons]
def words1 : List Jvm.Cond := Jvm.Cond.code x code maxLocals ret :: tables_1
/-- a 'code' word, met by the world's own term for the bytes: nothing is compared byte by byte -/
theorem code_word {y : MethodName} {bytes : ByteArray} {mx : Nat} {rt : Option FieldType} {a : Array Value} {s : State} {m : MethodId} {meth : Method} {c : Code} (h1 : s.methodNamed? y = some m) (h2 : s.vm.method? m = some meth) (h3 : meth.code = some c) (h4 : c.code = bytes)
    (h5 : (c.maxLocals == mx && c.exceptionTable.isEmpty && decide (c.maxStack ≤ mostOperands) && decide (meth.sig.returnType = rt) && !meth.locks && decide (parseMethodDescriptor y.desc = some meth.sig)) = true) : (Jvm.Cond.code y bytes mx rt).before a s = true := by
  simp only [Bool.and_eq_true, beq_iff_eq, Bool.not_eq_true', decide_eq_true_eq] at h5
  obtain ⟨⟨⟨⟨⟨g1, g2⟩, g3⟩, g4⟩, g5⟩, g6⟩ := h5
  simp [Cond.before, Cond.holds, Cond.value, h1, h2, h3, h4, g1, g2, g3, g4, g5, g6]
def isCode : Jvm.Cond → Bool
  | .code _ _ _ _ => true
  | _ => false
theorem all_split {L : List Jvm.Cond} {P : Jvm.Cond → Bool} (h1 : L.all (fun c => isCode c || P c) = true) (h2 : ∀ c ∈ L.filter isCode, P c = true) : L.all P = true := by
  refine List.all_eq_true.mpr fun c hc => ?_
  have h := List.all_eq_true.mp h1 c hc
  rcases Bool.eq_false_or_eq_true (isCode c) with hi | hi
  · exact h2 c (List.mem_filter.mpr ⟨hc, hi⟩)
  · simpa [hi] using h
set_option maxRecDepth 65536 in
theorem w_c0 : (Jvm.Cond.code x code maxLocals ret).before args0 about1 = true := code_word (m := ⟨1, 1⟩) (meth := k1m1) (c := k1c1) (by decide +kernel) rfl rfl rfl (by decide +kernel)
set_option maxRecDepth 65536 in
theorem w_c1 : (Jvm.Cond.code ({ cls := "LutMapper", name := "<init>", desc := "(I)V" } : Jvm.MethodName) prog_1_method_1_code (3 : Nat) (Option.none : Option Jvm.ClassFile.FieldType)).before args0 about1 = true := code_word (m := ⟨2, 0⟩) (meth := k2m0) (c := k2c0) (by decide +kernel) rfl rfl rfl (by decide +kernel)
set_option maxRecDepth 65536 in
theorem w_c2 : (Jvm.Cond.code ({ cls := "java/lang/Object", name := "<init>", desc := "()V" } : Jvm.MethodName) object_method_1_code (1 : Nat) (Option.none : Option Jvm.ClassFile.FieldType)).before args0 about1 = true := code_word (m := ⟨0, 0⟩) (meth := k0m0) (c := k0c0) (by decide +kernel) rfl rfl rfl (by decide +kernel)
set_option maxRecDepth 65536 in
theorem w_c3 : (Jvm.Cond.code ({ cls := "LutMapper", name := "addInput", desc := "()I" } : Jvm.MethodName) prog_1_method_3_code (2 : Nat) (Option.some Jvm.ClassFile.FieldType.int)).before args0 about1 = true := code_word (m := ⟨2, 1⟩) (meth := k2m1) (c := k2c1) (by decide +kernel) rfl rfl rfl (by decide +kernel)
set_option maxRecDepth 65536 in
theorem w_c4 : (Jvm.Cond.code ({ cls := "LutMapper", name := "addAnd", desc := "(II)I" } : Jvm.MethodName) prog_1_method_4_code (4 : Nat) (Option.some Jvm.ClassFile.FieldType.int)).before args0 about1 = true := code_word (m := ⟨2, 2⟩) (meth := k2m2) (c := k2c2) (by decide +kernel) rfl rfl rfl (by decide +kernel)
set_option maxRecDepth 65536 in
theorem w_c5 : (Jvm.Cond.code ({ cls := "LutMapper", name := "validLit", desc := "(I)Z" } : Jvm.MethodName) prog_1_method_18_code (2 : Nat) (Option.some Jvm.ClassFile.FieldType.boolean)).before args0 about1 = true := code_word (m := ⟨2, 10⟩) (meth := k2m10) (c := k2c10) (by decide +kernel) rfl rfl rfl (by decide +kernel)
set_option maxRecDepth 65536 in
theorem w_c6 : (Jvm.Cond.code ({ cls := "LutMapper", name := "computeLabel", desc := "(I)I" } : Jvm.MethodName) prog_1_method_29_code (6 : Nat) (Option.some Jvm.ClassFile.FieldType.int)).before args0 about1 = true := code_word (m := ⟨2, 21⟩) (meth := k2m21) (c := k2c21) (by decide +kernel) rfl rfl rfl (by decide +kernel)
set_option maxRecDepth 65536 in
theorem w_c7 : (Jvm.Cond.code ({ cls := "LutMapper", name := "maxFlow", desc := "(II)I" } : Jvm.MethodName) prog_1_method_31_code (5 : Nat) (Option.some Jvm.ClassFile.FieldType.int)).before args0 about1 = true := code_word (m := ⟨2, 23⟩) (meth := k2m23) (c := k2c23) (by decide +kernel) rfl rfl rfl (by decide +kernel)
set_option maxRecDepth 65536 in
theorem w_c8 : (Jvm.Cond.code ({ cls := "LutMapper", name := "prepareFlow", desc := "(II)V" } : Jvm.MethodName) prog_1_method_30_code (4 : Nat) (Option.none : Option Jvm.ClassFile.FieldType)).before args0 about1 = true := code_word (m := ⟨2, 22⟩) (meth := k2m22) (c := k2c22) (by decide +kernel) rfl rfl rfl (by decide +kernel)
set_option maxRecDepth 65536 in
theorem w_c9 : (Jvm.Cond.code ({ cls := "LutMapper", name := "markCone", desc := "(II)I" } : Jvm.MethodName) prog_1_method_24_code (5 : Nat) (Option.some Jvm.ClassFile.FieldType.int)).before args0 about1 = true := code_word (m := ⟨2, 16⟩) (meth := k2m16) (c := k2c16) (by decide +kernel) rfl rfl rfl (by decide +kernel)
set_option maxRecDepth 65536 in
theorem w_c10 : (Jvm.Cond.code ({ cls := "LutMapper", name := "bitOf", desc := "(II)I" } : Jvm.MethodName) prog_1_method_19_code (3 : Nat) (Option.some Jvm.ClassFile.FieldType.int)).before args0 about1 = true := code_word (m := ⟨2, 11⟩) (meth := k2m11) (c := k2c11) (by decide +kernel) rfl rfl rfl (by decide +kernel)
set_option maxRecDepth 65536 in
theorem w_c11 : (Jvm.Cond.code ({ cls := "LutMapper", name := "searchPath", desc := "()Z" } : Jvm.MethodName) prog_1_method_35_code (5 : Nat) (Option.some Jvm.ClassFile.FieldType.boolean)).before args0 about1 = true := code_word (m := ⟨2, 27⟩) (meth := k2m27) (c := k2c27) (by decide +kernel) rfl rfl rfl (by decide +kernel)
set_option maxRecDepth 65536 in
theorem w_c12 : (Jvm.Cond.code ({ cls := "LutMapper", name := "markVisited", desc := "(I)V" } : Jvm.MethodName) prog_1_method_33_code (2 : Nat) (Option.none : Option Jvm.ClassFile.FieldType)).before args0 about1 = true := code_word (m := ⟨2, 25⟩) (meth := k2m25) (c := k2c25) (by decide +kernel) rfl rfl rfl (by decide +kernel)
set_option maxRecDepth 65536 in
theorem w_c13 : (Jvm.Cond.code ({ cls := "LutMapper", name := "expandExit", desc := "(II)I" } : Jvm.MethodName) prog_1_method_37_code (5 : Nat) (Option.some Jvm.ClassFile.FieldType.int)).before args0 about1 = true := code_word (m := ⟨2, 29⟩) (meth := k2m29) (c := k2c29) (by decide +kernel) rfl rfl rfl (by decide +kernel)
set_option maxRecDepth 65536 in
theorem w_c14 : (Jvm.Cond.code ({ cls := "LutMapper", name := "visit", desc := "(IIII)I" } : Jvm.MethodName) prog_1_method_34_code (5 : Nat) (Option.some Jvm.ClassFile.FieldType.int)).before args0 about1 = true := code_word (m := ⟨2, 26⟩) (meth := k2m26) (c := k2c26) (by decide +kernel) rfl rfl rfl (by decide +kernel)
set_option maxRecDepth 65536 in
theorem w_c15 : (Jvm.Cond.code ({ cls := "LutMapper", name := "isVisited", desc := "(I)Z" } : Jvm.MethodName) prog_1_method_32_code (2 : Nat) (Option.some Jvm.ClassFile.FieldType.boolean)).before args0 about1 = true := code_word (m := ⟨2, 24⟩) (meth := k2m24) (c := k2c24) (by decide +kernel) rfl rfl rfl (by decide +kernel)
set_option maxRecDepth 65536 in
theorem w_c16 : (Jvm.Cond.code ({ cls := "LutMapper", name := "expandEntry", desc := "(II)I" } : Jvm.MethodName) prog_1_method_36_code (6 : Nat) (Option.some Jvm.ClassFile.FieldType.int)).before args0 about1 = true := code_word (m := ⟨2, 28⟩) (meth := k2m28) (c := k2c28) (by decide +kernel) rfl rfl rfl (by decide +kernel)
set_option maxRecDepth 65536 in
theorem w_c17 : (Jvm.Cond.code ({ cls := "LutMapper", name := "isUnit", desc := "(I)Z" } : Jvm.MethodName) prog_1_method_21_code (2 : Nat) (Option.some Jvm.ClassFile.FieldType.boolean)).before args0 about1 = true := code_word (m := ⟨2, 13⟩) (meth := k2m13) (c := k2c13) (by decide +kernel) rfl rfl rfl (by decide +kernel)
set_option maxRecDepth 65536 in
theorem w_c18 : (Jvm.Cond.code ({ cls := "LutMapper", name := "augment", desc := "()V" } : Jvm.MethodName) prog_1_method_38_code (5 : Nat) (Option.none : Option Jvm.ClassFile.FieldType)).before args0 about1 = true := code_word (m := ⟨2, 30⟩) (meth := k2m30) (c := k2c30) (by decide +kernel) rfl rfl rfl (by decide +kernel)
set_option maxRecDepth 65536 in
theorem w_c19 : (Jvm.Cond.code ({ cls := "LutMapper", name := "applyEdge", desc := "(III)V" } : Jvm.MethodName) prog_1_method_39_code (4 : Nat) (Option.none : Option Jvm.ClassFile.FieldType)).before args0 about1 = true := code_word (m := ⟨2, 31⟩) (meth := k2m31) (c := k2c31) (by decide +kernel) rfl rfl rfl (by decide +kernel)
set_option maxRecDepth 65536 in
theorem w_c20 : (Jvm.Cond.code ({ cls := "LutMapper", name := "addOutput", desc := "(I)I" } : Jvm.MethodName) prog_1_method_5_code (3 : Nat) (Option.some Jvm.ClassFile.FieldType.int)).before args0 about1 = true := code_word (m := ⟨2, 3⟩) (meth := k2m3) (c := k2c3) (by decide +kernel) rfl rfl rfl (by decide +kernel)
set_option maxRecDepth 65536 in
theorem w_c21 : (Jvm.Cond.code ({ cls := "LutMapper", name := "getLabel", desc := "(I)I" } : Jvm.MethodName) prog_1_method_12_code (2 : Nat) (Option.some Jvm.ClassFile.FieldType.int)).before args0 about1 = true := code_word (m := ⟨2, 4⟩) (meth := k2m4) (c := k2c4) (by decide +kernel) rfl rfl rfl (by decide +kernel)
set_option maxRecDepth 65536 in
theorem w_c22 : (Jvm.Cond.code ({ cls := "LutMapper", name := "map", desc := "()I" } : Jvm.MethodName) prog_1_method_14_code (4 : Nat) (Option.some Jvm.ClassFile.FieldType.int)).before args0 about1 = true := code_word (m := ⟨2, 6⟩) (meth := k2m6) (c := k2c6) (by decide +kernel) rfl rfl rfl (by decide +kernel)
set_option maxRecDepth 65536 in
theorem w_c23 : (Jvm.Cond.code ({ cls := "LutMapper", name := "resetCover", desc := "()V" } : Jvm.MethodName) prog_1_method_44_code (2 : Nat) (Option.none : Option Jvm.ClassFile.FieldType)).before args0 about1 = true := code_word (m := ⟨2, 36⟩) (meth := k2m36) (c := k2c36) (by decide +kernel) rfl rfl rfl (by decide +kernel)
set_option maxRecDepth 65536 in
theorem w_c24 : (Jvm.Cond.code ({ cls := "LutMapper", name := "selectLut", desc := "(I)V" } : Jvm.MethodName) prog_1_method_46_code (5 : Nat) (Option.none : Option Jvm.ClassFile.FieldType)).before args0 about1 = true := code_word (m := ⟨2, 38⟩) (meth := k2m38) (c := k2c38) (by decide +kernel) rfl rfl rfl (by decide +kernel)
set_option maxRecDepth 65536 in
theorem w_c25 : (Jvm.Cond.code ({ cls := "LutMapper", name := "chooseCut", desc := "(II)I" } : Jvm.MethodName) prog_1_method_45_code (6 : Nat) (Option.some Jvm.ClassFile.FieldType.int)).before args0 about1 = true := code_word (m := ⟨2, 37⟩) (meth := k2m37) (c := k2c37) (by decide +kernel) rfl rfl rfl (by decide +kernel)
set_option maxRecDepth 65536 in
theorem w_c26 : (Jvm.Cond.code ({ cls := "LutMapper", name := "sinkSideCut", desc := "()I" } : Jvm.MethodName) prog_1_method_41_code (4 : Nat) (Option.some Jvm.ClassFile.FieldType.int)).before args0 about1 = true := code_word (m := ⟨2, 33⟩) (meth := k2m33) (c := k2c33) (by decide +kernel) rfl rfl rfl (by decide +kernel)
set_option maxRecDepth 65536 in
theorem w_c27 : (Jvm.Cond.code ({ cls := "LutMapper", name := "reach", desc := "(II)I" } : Jvm.MethodName) prog_1_method_40_code (3 : Nat) (Option.some Jvm.ClassFile.FieldType.int)).before args0 about1 = true := code_word (m := ⟨2, 32⟩) (meth := k2m32) (c := k2c32) (by decide +kernel) rfl rfl rfl (by decide +kernel)
set_option maxRecDepth 65536 in
theorem w_c28 : (Jvm.Cond.code ({ cls := "LutMapper", name := "reachIntoExit", desc := "(II)I" } : Jvm.MethodName) prog_1_method_42_code (5 : Nat) (Option.some Jvm.ClassFile.FieldType.int)).before args0 about1 = true := code_word (m := ⟨2, 34⟩) (meth := k2m34) (c := k2c34) (by decide +kernel) rfl rfl rfl (by decide +kernel)
set_option maxRecDepth 65536 in
theorem w_c29 : (Jvm.Cond.code ({ cls := "LutMapper", name := "reachIntoEntry", desc := "(II)I" } : Jvm.MethodName) prog_1_method_43_code (6 : Nat) (Option.some Jvm.ClassFile.FieldType.int)).before args0 about1 = true := code_word (m := ⟨2, 35⟩) (meth := k2m35) (c := k2c35) (by decide +kernel) rfl rfl rfl (by decide +kernel)
set_option maxRecDepth 65536 in
theorem w_c30 : (Jvm.Cond.code ({ cls := "LutMapper", name := "isCut", desc := "(II)Z" } : Jvm.MethodName) prog_1_method_25_code (6 : Nat) (Option.some Jvm.ClassFile.FieldType.boolean)).before args0 about1 = true := code_word (m := ⟨2, 17⟩) (meth := k2m17) (c := k2c17) (by decide +kernel) rfl rfl rfl (by decide +kernel)
set_option maxRecDepth 65536 in
theorem w_c31 : (Jvm.Cond.code ({ cls := "LutMapper", name := "bitCount", desc := "(I)I" } : Jvm.MethodName) prog_1_method_20_code (4 : Nat) (Option.some Jvm.ClassFile.FieldType.int)).before args0 about1 = true := code_word (m := ⟨2, 12⟩) (meth := k2m12) (c := k2c12) (by decide +kernel) rfl rfl rfl (by decide +kernel)
set_option maxRecDepth 65536 in
theorem w_c32 : (Jvm.Cond.code ({ cls := "LutMapper", name := "truthOf", desc := "(II)I" } : Jvm.MethodName) prog_1_method_28_code (6 : Nat) (Option.some Jvm.ClassFile.FieldType.int)).before args0 about1 = true := code_word (m := ⟨2, 20⟩) (meth := k2m20) (c := k2c20) (by decide +kernel) rfl rfl rfl (by decide +kernel)
set_option maxRecDepth 65536 in
theorem w_c33 : (Jvm.Cond.code ({ cls := "LutMapper", name := "varTable", desc := "(I)I" } : Jvm.MethodName) prog_1_method_26_code (2 : Nat) (Option.some Jvm.ClassFile.FieldType.int)).before args0 about1 = true := code_word (m := ⟨2, 18⟩) (meth := k2m18) (c := k2c18) (by decide +kernel) rfl rfl rfl (by decide +kernel)
set_option maxRecDepth 65536 in
theorem w_c34 : (Jvm.Cond.code ({ cls := "LutMapper", name := "litTable", desc := "(I)I" } : Jvm.MethodName) prog_1_method_27_code (3 : Nat) (Option.some Jvm.ClassFile.FieldType.int)).before args0 about1 = true := code_word (m := ⟨2, 19⟩) (meth := k2m19) (c := k2c19) (by decide +kernel) rfl rfl rfl (by decide +kernel)
set_option maxRecDepth 65536 in
theorem w_c35 : (Jvm.Cond.code ({ cls := "LutMapper", name := "getMappedDepth", desc := "()I" } : Jvm.MethodName) prog_1_method_15_code (1 : Nat) (Option.some Jvm.ClassFile.FieldType.int)).before args0 about1 = true := code_word (m := ⟨2, 7⟩) (meth := k2m7) (c := k2c7) (by decide +kernel) rfl rfl rfl (by decide +kernel)
set_option maxRecDepth 65536 in
theorem w_c36 : (Jvm.Cond.code ({ cls := "LutMapper", name := "cutTruth", desc := "(II)I" } : Jvm.MethodName) prog_1_method_13_code (3 : Nat) (Option.some Jvm.ClassFile.FieldType.int)).before args0 about1 = true := code_word (m := ⟨2, 5⟩) (meth := k2m5) (c := k2c5) (by decide +kernel) rfl rfl rfl (by decide +kernel)
set_option maxRecDepth 65536 in
theorem w_c37 : (Jvm.Cond.code ({ cls := "LutMapper", name := "evalGraph", desc := "(I)I" } : Jvm.MethodName) prog_1_method_16_code (5 : Nat) (Option.some Jvm.ClassFile.FieldType.int)).before args0 about1 = true := code_word (m := ⟨2, 8⟩) (meth := k2m8) (c := k2c8) (by decide +kernel) rfl rfl rfl (by decide +kernel)
set_option maxRecDepth 65536 in
theorem w_c38 : (Jvm.Cond.code ({ cls := "LutMapper", name := "litVal", desc := "(II)I" } : Jvm.MethodName) prog_1_method_22_code (3 : Nat) (Option.some Jvm.ClassFile.FieldType.int)).before args0 about1 = true := code_word (m := ⟨2, 14⟩) (meth := k2m14) (c := k2c14) (by decide +kernel) rfl rfl rfl (by decide +kernel)
set_option maxRecDepth 65536 in
theorem w_c39 : (Jvm.Cond.code ({ cls := "LutMapper", name := "packOutputs", desc := "(I)I" } : Jvm.MethodName) prog_1_method_23_code (4 : Nat) (Option.some Jvm.ClassFile.FieldType.int)).before args0 about1 = true := code_word (m := ⟨2, 15⟩) (meth := k2m15) (c := k2c15) (by decide +kernel) rfl rfl rfl (by decide +kernel)
set_option maxRecDepth 65536 in
theorem w_c40 : (Jvm.Cond.code ({ cls := "LutMapper", name := "evalMapped", desc := "(I)I" } : Jvm.MethodName) prog_1_method_17_code (5 : Nat) (Option.some Jvm.ClassFile.FieldType.int)).before args0 about1 = true := code_word (m := ⟨2, 9⟩) (meth := k2m9) (c := k2c9) (by decide +kernel) rfl rfl rfl (by decide +kernel)
set_option maxRecDepth 65536 in
theorem w_c41 : (Jvm.Cond.code ({ cls := "LutMapper", name := "lutValue", desc := "(II)I" } : Jvm.MethodName) prog_1_method_47_code (7 : Nat) (Option.some Jvm.ClassFile.FieldType.int)).before args0 about1 = true := code_word (m := ⟨2, 39⟩) (meth := k2m39) (c := k2c39) (by decide +kernel) rfl rfl rfl (by decide +kernel)
def codes1 : List Jvm.Cond := [Jvm.Cond.code x code maxLocals ret, Jvm.Cond.code ({ cls := "LutMapper", name := "<init>", desc := "(I)V" } : Jvm.MethodName) prog_1_method_1_code (3 : Nat) (Option.none : Option Jvm.ClassFile.FieldType), Jvm.Cond.code ({ cls := "java/lang/Object", name := "<init>", desc := "()V" } : Jvm.MethodName) object_method_1_code (1 : Nat) (Option.none : Option Jvm.ClassFile.FieldType), Jvm.Cond.code ({ cls := "LutMapper", name := "addInput", desc := "()I" } : Jvm.MethodName) prog_1_method_3_code (2 : Nat) (Option.some Jvm.ClassFile.FieldType.int), Jvm.Cond.code ({ cls := "LutMapper", name := "addAnd", desc := "(II)I" } : Jvm.MethodName) prog_1_method_4_code (4 : Nat) (Option.some Jvm.ClassFile.FieldType.int), Jvm.Cond.code ({ cls := "LutMapper", name := "validLit", desc := "(I)Z" } : Jvm.MethodName) prog_1_method_18_code (2 : Nat) (Option.some Jvm.ClassFile.FieldType.boolean), Jvm.Cond.code ({ cls := "LutMapper", name := "computeLabel", desc := "(I)I" } : Jvm.MethodName) prog_1_method_29_code (6 : Nat) (Option.some Jvm.ClassFile.FieldType.int), Jvm.Cond.code ({ cls := "LutMapper", name := "maxFlow", desc := "(II)I" } : Jvm.MethodName) prog_1_method_31_code (5 : Nat) (Option.some Jvm.ClassFile.FieldType.int), Jvm.Cond.code ({ cls := "LutMapper", name := "prepareFlow", desc := "(II)V" } : Jvm.MethodName) prog_1_method_30_code (4 : Nat) (Option.none : Option Jvm.ClassFile.FieldType), Jvm.Cond.code ({ cls := "LutMapper", name := "markCone", desc := "(II)I" } : Jvm.MethodName) prog_1_method_24_code (5 : Nat) (Option.some Jvm.ClassFile.FieldType.int), Jvm.Cond.code ({ cls := "LutMapper", name := "bitOf", desc := "(II)I" } : Jvm.MethodName) prog_1_method_19_code (3 : Nat) (Option.some Jvm.ClassFile.FieldType.int), Jvm.Cond.code ({ cls := "LutMapper", name := "searchPath", desc := "()Z" } : Jvm.MethodName) prog_1_method_35_code (5 : Nat) (Option.some Jvm.ClassFile.FieldType.boolean), Jvm.Cond.code ({ cls := "LutMapper", name := "markVisited", desc := "(I)V" } : Jvm.MethodName) prog_1_method_33_code (2 : Nat) (Option.none : Option Jvm.ClassFile.FieldType), Jvm.Cond.code ({ cls := "LutMapper", name := "expandExit", desc := "(II)I" } : Jvm.MethodName) prog_1_method_37_code (5 : Nat) (Option.some Jvm.ClassFile.FieldType.int), Jvm.Cond.code ({ cls := "LutMapper", name := "visit", desc := "(IIII)I" } : Jvm.MethodName) prog_1_method_34_code (5 : Nat) (Option.some Jvm.ClassFile.FieldType.int), Jvm.Cond.code ({ cls := "LutMapper", name := "isVisited", desc := "(I)Z" } : Jvm.MethodName) prog_1_method_32_code (2 : Nat) (Option.some Jvm.ClassFile.FieldType.boolean), Jvm.Cond.code ({ cls := "LutMapper", name := "expandEntry", desc := "(II)I" } : Jvm.MethodName) prog_1_method_36_code (6 : Nat) (Option.some Jvm.ClassFile.FieldType.int), Jvm.Cond.code ({ cls := "LutMapper", name := "isUnit", desc := "(I)Z" } : Jvm.MethodName) prog_1_method_21_code (2 : Nat) (Option.some Jvm.ClassFile.FieldType.boolean), Jvm.Cond.code ({ cls := "LutMapper", name := "augment", desc := "()V" } : Jvm.MethodName) prog_1_method_38_code (5 : Nat) (Option.none : Option Jvm.ClassFile.FieldType), Jvm.Cond.code ({ cls := "LutMapper", name := "applyEdge", desc := "(III)V" } : Jvm.MethodName) prog_1_method_39_code (4 : Nat) (Option.none : Option Jvm.ClassFile.FieldType), Jvm.Cond.code ({ cls := "LutMapper", name := "addOutput", desc := "(I)I" } : Jvm.MethodName) prog_1_method_5_code (3 : Nat) (Option.some Jvm.ClassFile.FieldType.int), Jvm.Cond.code ({ cls := "LutMapper", name := "getLabel", desc := "(I)I" } : Jvm.MethodName) prog_1_method_12_code (2 : Nat) (Option.some Jvm.ClassFile.FieldType.int), Jvm.Cond.code ({ cls := "LutMapper", name := "map", desc := "()I" } : Jvm.MethodName) prog_1_method_14_code (4 : Nat) (Option.some Jvm.ClassFile.FieldType.int), Jvm.Cond.code ({ cls := "LutMapper", name := "resetCover", desc := "()V" } : Jvm.MethodName) prog_1_method_44_code (2 : Nat) (Option.none : Option Jvm.ClassFile.FieldType), Jvm.Cond.code ({ cls := "LutMapper", name := "selectLut", desc := "(I)V" } : Jvm.MethodName) prog_1_method_46_code (5 : Nat) (Option.none : Option Jvm.ClassFile.FieldType), Jvm.Cond.code ({ cls := "LutMapper", name := "chooseCut", desc := "(II)I" } : Jvm.MethodName) prog_1_method_45_code (6 : Nat) (Option.some Jvm.ClassFile.FieldType.int), Jvm.Cond.code ({ cls := "LutMapper", name := "sinkSideCut", desc := "()I" } : Jvm.MethodName) prog_1_method_41_code (4 : Nat) (Option.some Jvm.ClassFile.FieldType.int), Jvm.Cond.code ({ cls := "LutMapper", name := "reach", desc := "(II)I" } : Jvm.MethodName) prog_1_method_40_code (3 : Nat) (Option.some Jvm.ClassFile.FieldType.int), Jvm.Cond.code ({ cls := "LutMapper", name := "reachIntoExit", desc := "(II)I" } : Jvm.MethodName) prog_1_method_42_code (5 : Nat) (Option.some Jvm.ClassFile.FieldType.int), Jvm.Cond.code ({ cls := "LutMapper", name := "reachIntoEntry", desc := "(II)I" } : Jvm.MethodName) prog_1_method_43_code (6 : Nat) (Option.some Jvm.ClassFile.FieldType.int), Jvm.Cond.code ({ cls := "LutMapper", name := "isCut", desc := "(II)Z" } : Jvm.MethodName) prog_1_method_25_code (6 : Nat) (Option.some Jvm.ClassFile.FieldType.boolean), Jvm.Cond.code ({ cls := "LutMapper", name := "bitCount", desc := "(I)I" } : Jvm.MethodName) prog_1_method_20_code (4 : Nat) (Option.some Jvm.ClassFile.FieldType.int), Jvm.Cond.code ({ cls := "LutMapper", name := "truthOf", desc := "(II)I" } : Jvm.MethodName) prog_1_method_28_code (6 : Nat) (Option.some Jvm.ClassFile.FieldType.int), Jvm.Cond.code ({ cls := "LutMapper", name := "varTable", desc := "(I)I" } : Jvm.MethodName) prog_1_method_26_code (2 : Nat) (Option.some Jvm.ClassFile.FieldType.int), Jvm.Cond.code ({ cls := "LutMapper", name := "litTable", desc := "(I)I" } : Jvm.MethodName) prog_1_method_27_code (3 : Nat) (Option.some Jvm.ClassFile.FieldType.int), Jvm.Cond.code ({ cls := "LutMapper", name := "getMappedDepth", desc := "()I" } : Jvm.MethodName) prog_1_method_15_code (1 : Nat) (Option.some Jvm.ClassFile.FieldType.int), Jvm.Cond.code ({ cls := "LutMapper", name := "cutTruth", desc := "(II)I" } : Jvm.MethodName) prog_1_method_13_code (3 : Nat) (Option.some Jvm.ClassFile.FieldType.int), Jvm.Cond.code ({ cls := "LutMapper", name := "evalGraph", desc := "(I)I" } : Jvm.MethodName) prog_1_method_16_code (5 : Nat) (Option.some Jvm.ClassFile.FieldType.int), Jvm.Cond.code ({ cls := "LutMapper", name := "litVal", desc := "(II)I" } : Jvm.MethodName) prog_1_method_22_code (3 : Nat) (Option.some Jvm.ClassFile.FieldType.int), Jvm.Cond.code ({ cls := "LutMapper", name := "packOutputs", desc := "(I)I" } : Jvm.MethodName) prog_1_method_23_code (4 : Nat) (Option.some Jvm.ClassFile.FieldType.int), Jvm.Cond.code ({ cls := "LutMapper", name := "evalMapped", desc := "(I)I" } : Jvm.MethodName) prog_1_method_17_code (5 : Nat) (Option.some Jvm.ClassFile.FieldType.int), Jvm.Cond.code ({ cls := "LutMapper", name := "lutValue", desc := "(II)I" } : Jvm.MethodName) prog_1_method_47_code (7 : Nat) (Option.some Jvm.ClassFile.FieldType.int)]
set_option maxRecDepth 65536 in
theorem codes_eq : words1.filter isCode = codes1 := rfl
theorem w_codes : ∀ c ∈ words1.filter isCode, c.before args0 about1 = true := by
  rw [codes_eq]
  intro c hc
  simp only [codes1, List.mem_cons, List.not_mem_nil, or_false] at hc
  rcases hc with rfl | rfl | rfl | rfl | rfl | rfl | rfl | rfl | rfl | rfl | rfl | rfl | rfl | rfl | rfl | rfl | rfl | rfl | rfl | rfl | rfl | rfl | rfl | rfl | rfl | rfl | rfl | rfl | rfl | rfl | rfl | rfl | rfl | rfl | rfl | rfl | rfl | rfl | rfl | rfl | rfl | rfl
  · exact w_c0
  · exact w_c1
  · exact w_c2
  · exact w_c3
  · exact w_c4
  · exact w_c5
  · exact w_c6
  · exact w_c7
  · exact w_c8
  · exact w_c9
  · exact w_c10
  · exact w_c11
  · exact w_c12
  · exact w_c13
  · exact w_c14
  · exact w_c15
  · exact w_c16
  · exact w_c17
  · exact w_c18
  · exact w_c19
  · exact w_c20
  · exact w_c21
  · exact w_c22
  · exact w_c23
  · exact w_c24
  · exact w_c25
  · exact w_c26
  · exact w_c27
  · exact w_c28
  · exact w_c29
  · exact w_c30
  · exact w_c31
  · exact w_c32
  · exact w_c33
  · exact w_c34
  · exact w_c35
  · exact w_c36
  · exact w_c37
  · exact w_c38
  · exact w_c39
  · exact w_c40
  · exact w_c41
set_option maxRecDepth 65536 in
theorem w_t1 : (words1.take 24).all (fun c => isCode c || c.before args0 about1) = true := by decide +kernel
set_option maxRecDepth 65536 in
theorem w_t2 : ((words1.drop 24).take 24).all (fun c => isCode c || c.before args0 about1) = true := by decide +kernel
set_option maxRecDepth 65536 in
theorem w_t3 : (((words1.drop 24).drop 24).take 24).all (fun c => isCode c || c.before args0 about1) = true := by decide +kernel
set_option maxRecDepth 65536 in
theorem w_t4 : ((((words1.drop 24).drop 24).drop 24).take 24).all (fun c => isCode c || c.before args0 about1) = true := by decide +kernel
set_option maxRecDepth 65536 in
theorem w_t5 : (((((words1.drop 24).drop 24).drop 24).drop 24).take 24).all (fun c => isCode c || c.before args0 about1) = true := by decide +kernel
set_option maxRecDepth 65536 in
theorem w_t6 : ((((((words1.drop 24).drop 24).drop 24).drop 24).drop 24).take 24).all (fun c => isCode c || c.before args0 about1) = true := by decide +kernel
set_option maxRecDepth 65536 in
theorem w_t7 : (((((((words1.drop 24).drop 24).drop 24).drop 24).drop 24).drop 24).take 24).all (fun c => isCode c || c.before args0 about1) = true := by decide +kernel
set_option maxRecDepth 65536 in
theorem w_t8 : ((((((((words1.drop 24).drop 24).drop 24).drop 24).drop 24).drop 24).drop 24).take 24).all (fun c => isCode c || c.before args0 about1) = true := by decide +kernel
set_option maxRecDepth 65536 in
theorem w_t9 : (((((((((words1.drop 24).drop 24).drop 24).drop 24).drop 24).drop 24).drop 24).drop 24).take 24).all (fun c => isCode c || c.before args0 about1) = true := by decide +kernel
set_option maxRecDepth 65536 in
theorem w_t10 : (((((((((words1.drop 24).drop 24).drop 24).drop 24).drop 24).drop 24).drop 24).drop 24).drop 24).all (fun c => isCode c || c.before args0 about1) = true := by decide +kernel
theorem w_tables : (allAtoms (Jvm.Cond.code x code maxLocals ret :: tables_1)).before args0 about1 = true := by
  rw [allAtoms_all]
  show words1.all (fun c => c.before args0 about1) = true
  refine all_split ?_ w_codes
  rw [← List.take_append_drop 24 words1, List.all_append, w_t1, ← List.take_append_drop 24 (words1.drop 24), List.all_append, w_t2, ← List.take_append_drop 24 ((words1.drop 24).drop 24), List.all_append, w_t3, ← List.take_append_drop 24 (((words1.drop 24).drop 24).drop 24), List.all_append, w_t4, ← List.take_append_drop 24 ((((words1.drop 24).drop 24).drop 24).drop 24), List.all_append, w_t5, ← List.take_append_drop 24 (((((words1.drop 24).drop 24).drop 24).drop 24).drop 24), List.all_append, w_t6, ← List.take_append_drop 24 ((((((words1.drop 24).drop 24).drop 24).drop 24).drop 24).drop 24), List.all_append, w_t7, ← List.take_append_drop 24 (((((((words1.drop 24).drop 24).drop 24).drop 24).drop 24).drop 24).drop 24), List.all_append, w_t8, ← List.take_append_drop 24 ((((((((words1.drop 24).drop 24).drop 24).drop 24).drop 24).drop 24).drop 24).drop 24), List.all_append, w_t9, w_t10]
  rfl
set_option maxRecDepth 65536 in
theorem w_case : (Jvm.Cond.and given_1 narrow_1).before args0 about1 = true := by decide +kernel
theorem w_applies : (headSpec (Jvm.Cond.code x code maxLocals ret :: tables_1) room_1).applies x e0.platform about1 = true :=
  (Spec.applies_iff w_frames).mpr ⟨w_running, w_runnable, w_alone, w_named, w_hears, w_ripe, w_room, w_tables⟩
theorem atStart : AtStart classFile x code maxLocals ret World_1 tables_1 room_1 Calls_1 rest_1 Pre_1 launch0 p0 e0 about1 theMethod args0 below0 :=
  ⟨lists_1, trivial, launch0.admits_env _ _ _, launch0.least_env, fairChoices_fair.cas, fairChoices_fair.clock, w_frames, w_args, w_heap, w_applies, trivial, trivial, w_case⟩
end start1
theorem witness_1 : WitnessClaimed_1 := ⟨start1.p0, start1.e0, start1.about1, start1.theMethod, start1.args0, start1.below0, start1.atStart⟩
end Jvm.Pilot.@@N@@
