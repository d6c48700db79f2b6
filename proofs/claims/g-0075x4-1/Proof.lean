import JvmDerived
import JvmDerived.Pilot.@@N@@Statement
import JvmDerived.Pilot.@@N@@Code
set_option linter.unusedVariables false
set_option linter.unusedSimpArgs false
namespace Jvm.Own
open Sem ClassFile Op Lib Jvm.Stand Jvm.Free Jvm.LawKit Jvm.RoadKit
/-! OWN 1: words of the sheet, resolved -/
abbrev AHeap := List (FieldType × List Value)
abbrev Ws := List Jvm.Cond
def rFld (ws : Ws) (own : String) (i : Nat) : Option (String × String × String) :=
  ws.findSome? fun d => match d with
    | .fieldLink o j C n t => if o = own ∧ j = i then some (C, n, t) else none
    | _ => none
def rCls (ws : Ws) (own : String) (i : Nat) : Option String :=
  ws.findSome? fun d => match d with
    | .classLink o j C => if o = own ∧ j = i then some C else none
    | _ => none
def rMth (ws : Ws) (own : String) (i : Nat) : Option MethodName :=
  ws.findSome? fun d => match d with
    | .methodLink o j y => if o = own ∧ j = i then some y else none
    | _ => none
def rCon (ws : Ws) (own : String) (i : Nat) : Option Int32 :=
  ws.findSome? fun d => match d with
    | .constant o j v => if o = own ∧ j = i then some v else none
    | _ => none
def rConL (ws : Ws) (own : String) (i : Nat) : Option Int64 :=
  ws.findSome? fun d => match d with
    | .constantLong o j v => if o = own ∧ j = i then some v else none
    | _ => none
def rInst (ws : Ws) (C : String) : Option Nat :=
  ws.findSome? fun d => match d with
    | .instantiable c n => if c = C then some n else none
    | _ => none
def rCode (ws : Ws) (y : MethodName) : Option (ByteArray × Nat × Option FieldType) :=
  ws.findSome? fun d => match d with
    | .code z b m r => if z = y then some (b, m, r) else none
    | _ => none
def hasInit (ws : Ws) (C : String) : Bool := ws.any fun d => match d with | .initialized c => c == C | _ => false
def hasArr (ws : Ws) (t : FieldType) : Bool := ws.any fun d => match d with | .arrayClass c => decide (c = t) | _ => false
def hasStat (ws : Ws) (y : MethodName) : Bool := ws.any fun d => match d with | .static z => decide (z = y) | _ => false
def hasIM (ws : Ws) (y : MethodName) : Bool := ws.any fun d => match d with | .instanceMethod z => decide (z = y) | _ => false
def hasPriv (ws : Ws) (y : MethodName) : Bool := ws.any fun d => match d with | .privateMethod z => decide (z = y) | _ => false
def hasDecl (ws : Ws) (y : MethodName) : Bool := ws.any fun d => match d with | .declares z => decide (z = y) | _ => false
def hasSel (ws : Ws) (y : MethodName) : Bool := ws.any fun d => match d with | .selects c z z' => decide (c = y.cls ∧ z = y ∧ z' = y) | _ => false
def hasLays (ws : Ws) (C n t : String) : Bool := ws.any fun d => match d with | .lays c o n' t' => decide (c = C ∧ o = C ∧ n' = n ∧ t' = t) | _ => false
def hasLaysF (ws : Ws) (C n t : String) : Bool := ws.any fun d => match d with | .laysFinal c o n' t' => decide (c = C ∧ o = C ∧ n' = n ∧ t' = t) | _ => false
def layE (C : String) : Jvm.Cond → Option (String × String)
  | .lays c o n t => if c = C ∧ o = C ∧ (parseFieldDescriptor t).isSome = true then some (n, t) else none
  | .laysFinal c o n t => if c = C ∧ o = C ∧ (parseFieldDescriptor t).isSome = true then some (n, t) else none
  | _ => none
def olay (ws : Ws) (C : String) : List (String × String) := ws.filterMap (layE C)
def idx (x : String × String) : List (String × String) → Option Nat
  | [] => none
  | y :: r => if y = x then some 0 else (idx x r).map (· + 1)
def fidx (ws : Ws) (C n t : String) : Option Nat := idx (n, t) (olay ws C)
def gfR (ws : Ws) (own : String) (i : Nat) : Option (String × Nat) :=
  match rFld ws own i with
  | some (C, n, t) => (fidx ws C n t).map fun j => (C, j)
  | none => none
def pfR (ws : Ws) (own mn : String) (i : Nat) : Option (String × Nat × FieldType) :=
  match rFld ws own i with
  | some (C, n, t) =>
    match fidx ws C n t, parseFieldDescriptor t with
    | some j, some ty => if (hasLays ws C n t || (hasLaysF ws C n t && own == C && mn == "<init>")) && (rInst ws C).isSome && (olay ws C).all (fun q => q.1 != n || q.2 == t) then some (C, j, ty) else none
    | _, _ => none
  | none => none
section Res
variable {ws : Ws} {own C n t : String} {i : Nat} {y : MethodName}
theorem rFld_mem (h : rFld ws own i = some (C, n, t)) : Jvm.Cond.fieldLink own i C n t ∈ ws := by
  obtain ⟨d, hd, e⟩ := List.exists_of_findSome?_eq_some h
  split at e
  · split at e
    · rename_i q; obtain ⟨rfl, rfl⟩ := q; cases e; exact hd
    · cases e
  · cases e
theorem rCls_mem (h : rCls ws own i = some C) : Jvm.Cond.classLink own i C ∈ ws := by
  obtain ⟨d, hd, e⟩ := List.exists_of_findSome?_eq_some h
  split at e
  · split at e
    · rename_i q; obtain ⟨rfl, rfl⟩ := q; cases e; exact hd
    · cases e
  · cases e
theorem rMth_mem (h : rMth ws own i = some y) : Jvm.Cond.methodLink own i y ∈ ws := by
  obtain ⟨d, hd, e⟩ := List.exists_of_findSome?_eq_some h
  split at e
  · split at e
    · rename_i q; obtain ⟨rfl, rfl⟩ := q; cases e; exact hd
    · cases e
  · cases e
theorem rCon_mem {v : Int32} (h : rCon ws own i = some v) : Jvm.Cond.constant own i v ∈ ws := by
  obtain ⟨d, hd, e⟩ := List.exists_of_findSome?_eq_some h
  split at e
  · split at e
    · rename_i q; obtain ⟨rfl, rfl⟩ := q; cases e; exact hd
    · cases e
  · cases e
theorem rConL_mem {v : Int64} (h : rConL ws own i = some v) : Jvm.Cond.constantLong own i v ∈ ws := by
  obtain ⟨d, hd, e⟩ := List.exists_of_findSome?_eq_some h
  split at e
  · split at e
    · rename_i q; obtain ⟨rfl, rfl⟩ := q; cases e; exact hd
    · cases e
  · cases e
theorem rInst_mem {k : Nat} (h : rInst ws C = some k) : Jvm.Cond.instantiable C k ∈ ws := by
  obtain ⟨d, hd, e⟩ := List.exists_of_findSome?_eq_some h
  split at e
  · split at e
    · rename_i q; subst q; cases e; exact hd
    · cases e
  · cases e
theorem rCode_mem {b : ByteArray} {k : Nat} {r : Option FieldType} (h : rCode ws y = some (b, k, r)) : Jvm.Cond.code y b k r ∈ ws := by
  obtain ⟨d, hd, e⟩ := List.exists_of_findSome?_eq_some h
  split at e
  · split at e
    · rename_i q; subst q; cases e; exact hd
    · cases e
  · cases e
theorem hasInit_mem (h : hasInit ws C = true) : Jvm.Cond.initialized C ∈ ws := by
  obtain ⟨d, hd, e⟩ := List.any_eq_true.mp h
  split at e
  · rw [beq_iff_eq] at e; subst e; exact hd
  · cases e
theorem hasArr_mem {ty : FieldType} (h : hasArr ws ty = true) : Jvm.Cond.arrayClass ty ∈ ws := by
  obtain ⟨d, hd, e⟩ := List.any_eq_true.mp h
  split at e
  · have e := of_decide_eq_true e; subst e; exact hd
  · cases e
theorem hasStat_mem (h : hasStat ws y = true) : Jvm.Cond.static y ∈ ws := by
  obtain ⟨d, hd, e⟩ := List.any_eq_true.mp h
  split at e
  · have e := of_decide_eq_true e; subst e; exact hd
  · cases e
theorem hasIM_mem (h : hasIM ws y = true) : Jvm.Cond.instanceMethod y ∈ ws := by
  obtain ⟨d, hd, e⟩ := List.any_eq_true.mp h
  split at e
  · have e := of_decide_eq_true e; subst e; exact hd
  · cases e
theorem hasPriv_mem (h : hasPriv ws y = true) : Jvm.Cond.privateMethod y ∈ ws := by
  obtain ⟨d, hd, e⟩ := List.any_eq_true.mp h
  split at e
  · have e := of_decide_eq_true e; subst e; exact hd
  · cases e
theorem hasDecl_mem (h : hasDecl ws y = true) : Jvm.Cond.declares y ∈ ws := by
  obtain ⟨d, hd, e⟩ := List.any_eq_true.mp h
  split at e
  · have e := of_decide_eq_true e; subst e; exact hd
  · cases e
theorem hasSel_mem (h : hasSel ws y = true) : Jvm.Cond.selects y.cls y y ∈ ws := by
  obtain ⟨d, hd, e⟩ := List.any_eq_true.mp h
  split at e
  · obtain ⟨rfl, rfl, rfl⟩ := of_decide_eq_true e; exact hd
  · cases e
theorem hasLays_mem (h : hasLays ws C n t = true) : Jvm.Cond.lays C C n t ∈ ws := by
  obtain ⟨d, hd, e⟩ := List.any_eq_true.mp h
  split at e
  · obtain ⟨rfl, rfl, rfl, rfl⟩ := of_decide_eq_true e; exact hd
  · cases e
theorem hasLaysF_mem (h : hasLaysF ws C n t = true) : Jvm.Cond.laysFinal C C n t ∈ ws := by
  obtain ⟨d, hd, e⟩ := List.any_eq_true.mp h
  split at e
  · obtain ⟨rfl, rfl, rfl, rfl⟩ := of_decide_eq_true e; exact hd
  · cases e
theorem lay_mem (h : (n, t) ∈ olay ws C) : (Jvm.Cond.lays C C n t ∈ ws ∨ Jvm.Cond.laysFinal C C n t ∈ ws) ∧ ∃ ty, parseFieldDescriptor t = some ty := by
  obtain ⟨d, hd, e⟩ := List.mem_filterMap.mp h
  unfold layE at e
  split at e
  · split at e
    · rename_i q; obtain ⟨rfl, rfl, q⟩ := q; cases e; exact ⟨Or.inl hd, Option.isSome_iff_exists.mp q⟩
    · cases e
  · split at e
    · rename_i q; obtain ⟨rfl, rfl, q⟩ := q; cases e; exact ⟨Or.inr hd, Option.isSome_iff_exists.mp q⟩
    · cases e
  · cases e
theorem idx_get {x : String × String} : ∀ {l : List (String × String)} {j : Nat}, idx x l = some j → l[j]? = some x
  | [], _, h => by cases h
  | y :: r, j, h => by
    unfold idx at h
    split at h
    · rename_i q; cases h; simp [q]
    · obtain ⟨j', h', rfl⟩ := Option.map_eq_some_iff.mp h
      simpa using idx_get h'
theorem fidx_mem {j : Nat} (h : fidx ws C n t = some j) : (n, t) ∈ olay ws C := List.mem_of_getElem? (idx_get h)
theorem fidx_inj {n' t' : String} {j : Nat} (h : fidx ws C n t = some j) (h' : fidx ws C n' t' = some j) : n = n' ∧ t = t' := by
  have := (idx_get h).symm.trans (idx_get h')
  simpa using this
theorem gfR_some {j : Nat} (h : gfR ws own i = some (C, j)) : ∃ n t, rFld ws own i = some (C, n, t) ∧ fidx ws C n t = some j := by
  unfold gfR at h
  split at h
  · rename_i C' n' t' q
    obtain ⟨j', h', e⟩ := Option.map_eq_some_iff.mp h
    cases e; exact ⟨_, _, q, h'⟩
  · cases h
theorem pfR_some {mn : String} {j : Nat} {ty : FieldType} (h : pfR ws own mn i = some (C, j, ty)) : ∃ n t, rFld ws own i = some (C, n, t) ∧ fidx ws C n t = some j ∧ parseFieldDescriptor t = some ty ∧
    (Jvm.Cond.lays C C n t ∈ ws ∨ (Jvm.Cond.laysFinal C C n t ∈ ws ∧ own = C ∧ mn = "<init>")) ∧ (∃ k, Jvm.Cond.instantiable C k ∈ ws) ∧ ∀ n' t', (n', t') ∈ olay ws C → n' ≠ n ∨ t' = t := by
  unfold pfR at h
  split at h
  · rename_i C' n' t' q
    split at h
    · rename_i j' ty' q1 q2
      split at h
      · rename_i g
        cases h
        simp only [Bool.and_eq_true, Bool.or_eq_true, beq_iff_eq, List.all_eq_true, bne_iff_ne, ne_eq] at g
        obtain ⟨⟨g1, g2⟩, g3⟩ := g
        obtain ⟨k, hk⟩ := Option.isSome_iff_exists.mp g2
        refine ⟨n', t', q, q1, q2, ?_, ⟨k, rInst_mem hk⟩, fun a b hab => g3 (a, b) hab⟩
        rcases g1 with g1 | ⟨⟨g1, g4⟩, g5⟩
        · exact Or.inl (hasLays_mem g1)
        · exact Or.inr ⟨hasLaysF_mem g1, g4, g5⟩
      · cases h
    · cases h
  · cases h
end Res
end Jvm.Own
namespace Jvm.Own
open Sem ClassFile Op Lib Jvm.Stand Jvm.Free Jvm.LawKit Jvm.RoadKit
/-! OWN 2: the abstract machine -/
abbrev XR := Option (Nat × List Slot × List Value)
def chk {α : Type} (a b : Nat) (x : Option α) : Option α := if a = b then x else none
def isI : Value → Bool | .int _ => true | _ => false
def isL : Value → Bool | .long _ => true | _ => false
def stl (ls : List Slot) (i : Nat) (v : Value) : Option (List Slot) := (storeLocals ls.toArray i v).map Array.toList
def ldV (p : Value → Bool) (nx i : Nat) (ls : List Slot) (st : List Value) : XR :=
  match ls[i]? with
  | some (.val v) => if p v = true then some (nx, ls, v :: st) else none
  | _ => none
def stV (p : Value → Bool) (nx i : Nat) (ls : List Slot) : List Value → XR
  | v :: r => if p v = true then (stl ls i v).map fun l' => (nx, l', r) else none
  | [] => none
def b2 (f : Int32 → Int32 → Int32) (nx : Nat) (ls : List Slot) : List Value → XR
  | .int y :: .int x :: r => some (nx, ls, .int (f x y) :: r)
  | _ => none
def d2 (f : Int32 → Int32 → Int32) (nx : Nat) (ls : List Slot) : List Value → XR
  | .int y :: .int x :: r => if y = 0 then none else some (nx, ls, .int (f x y) :: r)
  | _ => none
def u1 (f : Int32 → Int32) (nx : Nat) (ls : List Slot) : List Value → XR
  | .int x :: r => some (nx, ls, .int (f x) :: r)
  | _ => none
def l2 (f : Int64 → Int64 → Int64) (nx : Nat) (ls : List Slot) : List Value → XR
  | .long y :: .long x :: r => some (nx, ls, .long (f x y) :: r)
  | _ => none
def lsh (f : Int64 → Int32 → Int64) (nx : Nat) (ls : List Slot) : List Value → XR
  | .int y :: .long x :: r => some (nx, ls, .long (f x y) :: r)
  | _ => none
def jmp (pc : Nat) (o : Int) : Option Nat := if 0 ≤ (pc : Int) + o then some ((pc : Int) + o).toNat else none
def br (c : Bool) (pc : Nat) (o : Int) (ls : List Slot) (r : List Value) : XR :=
  if c = true then (jmp pc o).map fun q => (q, ls, r) else some (pc + 3, ls, r)
def sw (pc : Nat) (dflt low high : Int) (offs : Array Int) (ls : List Slot) : List Value → XR
  | .int i :: r => if i.toInt < low ∨ i.toInt > high then (jmp pc dflt).map fun q => (q, ls, r) else
      match offs[(i.toInt - low).toNat]? with
      | some o => (jmp pc o).map fun q => (q, ls, r)
      | none => none
  | _ => none
def xstep (ins : Instr) (len pc : Nat) (ls : List Slot) (st : List Value) : XR :=
  match ins with
  | .aload_n i => chk len 1 (ldV Value.isRef (pc + 1) i.val ls st)
  | .aload i => chk len 2 (ldV Value.isRef (pc + 2) i ls st)
  | .iload_n i => chk len 1 (ldV isI (pc + 1) i.val ls st)
  | .iload i => chk len 2 (ldV isI (pc + 2) i ls st)
  | .lload_n i => chk len 1 (ldV isL (pc + 1) i.val ls st)
  | .lload i => chk len 2 (ldV isL (pc + 2) i ls st)
  | .astore_n i => chk len 1 (stV Value.isRef (pc + 1) i.val ls st)
  | .astore i => chk len 2 (stV Value.isRef (pc + 2) i ls st)
  | .istore_n i => chk len 1 (stV isI (pc + 1) i.val ls st)
  | .istore i => chk len 2 (stV isI (pc + 2) i ls st)
  | .lstore_n i => chk len 1 (stV isL (pc + 1) i.val ls st)
  | .lstore i => chk len 2 (stV isL (pc + 2) i ls st)
  | .iconst i => chk len 1 (some (pc + 1, ls, .int (Int32.ofInt i) :: st))
  | .bipush i => chk len 2 (some (pc + 2, ls, .int (Int8.ofInt i).toInt32 :: st))
  | .sipush i => chk len 3 (some (pc + 3, ls, .int (Int16.ofInt i).toInt32 :: st))
  | .lconst i => chk len 1 (some (pc + 1, ls, .long (Int64.ofNat i) :: st))
  | .iadd => chk len 1 (b2 (fun x y => x + y) (pc + 1) ls st)
  | .isub => chk len 1 (b2 (fun x y => x - y) (pc + 1) ls st)
  | .imul => chk len 1 (b2 (fun x y => x * y) (pc + 1) ls st)
  | .iand => chk len 1 (b2 (fun x y => x &&& y) (pc + 1) ls st)
  | .ior => chk len 1 (b2 (fun x y => x ||| y) (pc + 1) ls st)
  | .ixor => chk len 1 (b2 (fun x y => x ^^^ y) (pc + 1) ls st)
  | .ishl => chk len 1 (b2 (fun x y => x <<< (y &&& 31)) (pc + 1) ls st)
  | .ishr => chk len 1 (b2 (fun x y => x >>> (y &&& 31)) (pc + 1) ls st)
  | .iushr => chk len 1 (b2 XT.ushr (pc + 1) ls st)
  | .idiv => chk len 1 (d2 (fun x y => x / y) (pc + 1) ls st)
  | .irem => chk len 1 (d2 (fun x y => x % y) (pc + 1) ls st)
  | .ineg => chk len 1 (u1 (fun x => -x) (pc + 1) ls st)
  | .i2b => chk len 1 (u1 (fun x => x.toInt8.toInt32) (pc + 1) ls st)
  | .i2c => chk len 1 (u1 (fun x => x.toUInt32.toUInt16.toUInt32.toInt32) (pc + 1) ls st)
  | .ladd => chk len 1 (l2 (fun x y => x + y) (pc + 1) ls st)
  | .lsub => chk len 1 (l2 (fun x y => x - y) (pc + 1) ls st)
  | .lmul => chk len 1 (l2 (fun x y => x * y) (pc + 1) ls st)
  | .land => chk len 1 (l2 (fun x y => x &&& y) (pc + 1) ls st)
  | .lor => chk len 1 (l2 (fun x y => x ||| y) (pc + 1) ls st)
  | .lxor => chk len 1 (l2 (fun x y => x ^^^ y) (pc + 1) ls st)
  | .lshl => chk len 1 (lsh (fun x y => x <<< (y.toInt64 &&& 63)) (pc + 1) ls st)
  | .lshr => chk len 1 (lsh (fun x y => x >>> (y.toInt64 &&& 63)) (pc + 1) ls st)
  | .lushr => chk len 1 (lsh XT.ushrL (pc + 1) ls st)
  | .lneg => chk len 1 (match st with | .long x :: r => some (pc + 1, ls, .long (-x) :: r) | _ => none)
  | .i2l => chk len 1 (match st with | .int x :: r => some (pc + 1, ls, .long x.toInt64 :: r) | _ => none)
  | .l2i => chk len 1 (match st with | .long x :: r => some (pc + 1, ls, .int x.toInt32 :: r) | _ => none)
  | .lcmp => chk len 1 (match st with | .long y :: .long x :: r => some (pc + 1, ls, .int (XT.cmpL x y) :: r) | _ => none)
  | .iinc i cst => chk len 3 (match ls[i]? with | some (.val (.int x)) => (stl ls i (.int (x + Int32.ofInt cst))).map fun l' => (pc + 3, l', st) | _ => none)
  | .dup => chk len 1 (match st with | x :: r => if x.category = 1 then some (pc + 1, ls, x :: x :: r) else none | _ => none)
  | .dup2 => chk len 1 (match st with
      | .long x :: r => some (pc + 1, ls, .long x :: .long x :: r)
      | x :: y :: r => if x.category = 1 ∧ y.category = 1 then some (pc + 1, ls, x :: y :: x :: y :: r) else none
      | _ => none)
  | .pop => chk len 1 (match st with | x :: r => if x.category = 1 then some (pc + 1, ls, r) else none | _ => none)
  | .goto o => chk len 3 ((jmp pc o).map fun q => (q, ls, st))
  | .ifCond cd o => chk len 3 (match st with | .int x :: r => br (ifCond.holds cd x) pc o ls r | _ => none)
  | .if_icmp cd o => chk len 3 (match st with | .int y :: .int x :: r => br (if_icmp.holds cd x y) pc o ls r | _ => none)
  | .tableswitch dflt low high offs => sw pc dflt low high offs ls st
  | _ => none
abbrev HR := Option (Nat × List Value × AHeap)
def putv : FieldType → Value → Option Value
  | .int, .int x => some (.int x)
  | .boolean, .int x => some (.int (nar .boolean x))
  | .byte, .int x => some (.int (nar .byte x))
  | .char, .int x => some (.int (nar .char x))
  | .short, .int x => some (.int (nar .short x))
  | .long, .long x => some (.long x)
  | .array _, .ref a => some (.ref a)
  | _, _ => none
def dflt (q : String × String) : Value := match parseFieldDescriptor q.2 with | some ty => defaultValue ty | none => .null
def hGet (ws : Ws) (own : String) (i pc : Nat) (H : AHeap) : List Value → HR
  | .ref a :: r =>
    match gfR ws own i, H[a]? with
    | some (C, j), some (.object C', vs) => if C = C' then (vs[j]?).map fun v => (pc + 3, v :: r, H) else none
    | _, _ => none
  | _ => none
def hPut (ws : Ws) (k : Nat) (own mn : String) (i pc : Nat) (H : AHeap) : List Value → HR
  | v :: .ref a :: r =>
    match pfR ws own mn i, H[a]? with
    | some (C, j, ty), some (.object C', vs) => if C = C' ∧ k ≤ a ∧ j < vs.length then (putv ty v).map fun v' => (pc + 3, r, H.set a (.object C', vs.set j v')) else none
    | _, _ => none
  | _ => none
def hNew (ws : Ws) (own : String) (i pc : Nat) (H : AHeap) (st : List Value) : HR :=
  match rCls ws own i with
  | some C => if (rInst ws C).isSome = true ∧ hasInit ws C = true then some (pc + 3, .ref H.length :: st, H ++ [(.object C, (olay ws C).map dflt)]) else none
  | none => none
def hNewA (ws : Ws) (aty : ArrayType) (pc : Nat) (H : AHeap) : List Value → HR
  | .int n :: r => if hasArr ws (newarray.typeOf aty) = true ∧ ¬ n < 0 ∧ n.toNatClampNeg * 8 ≤ 536870912 then
      some (pc + 2, .ref H.length :: r, H ++ [(.array (newarray.typeOf aty), List.replicate n.toNatClampNeg (defaultValue (newarray.typeOf aty)))]) else none
  | _ => none
def hLd (ok : FieldType → Bool) (pc : Nat) (H : AHeap) : List Value → HR
  | .int j :: .ref a :: r =>
    match H[a]? with
    | some (.array ty, vs) => if ok ty = true ∧ ¬ j < 0 then (vs[j.toNatClampNeg]?).map fun v => (pc + 1, v :: r, H) else none
    | _ => none
  | _ => none
def hSt (ok : FieldType → Bool) (k pc : Nat) (H : AHeap) : List Value → HR
  | v :: .int j :: .ref a :: r =>
    match H[a]? with
    | some (.array ty, vs) => if ok ty = true ∧ k ≤ a ∧ ¬ j < 0 ∧ j.toNatClampNeg < vs.length then (putv ty v).map fun v' => (pc + 1, r, H.set a (.array ty, vs.set j.toNatClampNeg v')) else none
    | _ => none
  | _ => none
def hLen (pc : Nat) (H : AHeap) : List Value → HR
  | .ref a :: r =>
    match H[a]? with
    | some (.array _, vs) => some (pc + 1, .int vs.length.toInt32 :: r, H)
    | _ => none
  | _ => none
def okT (t u : FieldType) : Bool := decide (u = t)
def okB (u : FieldType) : Bool := decide (u = .byte) || decide (u = .boolean)
def hstep (ws : Ws) (k : Nat) (y : MethodName) (ins : Instr) (len pc : Nat) (st : List Value) (H : AHeap) : HR :=
  match ins with
  | .getfield i => chk len 3 (hGet ws y.cls i pc H st)
  | .putfield i => chk len 3 (hPut ws k y.cls y.name i pc H st)
  | .new i => chk len 3 (hNew ws y.cls i pc H st)
  | .newarray aty => chk len 2 (hNewA ws aty pc H st)
  | .iaload => chk len 1 (hLd (okT .int) pc H st)
  | .caload => chk len 1 (hLd (okT .char) pc H st)
  | .laload => chk len 1 (hLd (okT .long) pc H st)
  | .baload => chk len 1 (hLd okB pc H st)
  | .iastore => chk len 1 (hSt (okT .int) k pc H st)
  | .castore => chk len 1 (hSt (okT .char) k pc H st)
  | .lastore => chk len 1 (hSt (okT .long) k pc H st)
  | .bastore => chk len 1 (hSt okB k pc H st)
  | .arraylength => chk len 1 (hLen pc H st)
  | .ldc i => chk len 2 ((rCon ws y.cls i).map fun v => (pc + 2, .int v :: st, H))
  | .ldc_w i => chk len 3 ((rCon ws y.cls i).map fun v => (pc + 3, .int v :: st, H))
  | .ldc2_w i => chk len 3 ((rConL ws y.cls i).map fun v => (pc + 3, .long v :: st, H))
  | _ => none
def ent : List Value → List Slot
  | [] => []
  | v :: r => if v.category = 2 then .val v :: .second :: ent r else .val v :: ent r
def entry (as : List Value) (mx : Nat) : List Slot := ent as ++ List.replicate (mx - (ent as).length) .unset
def wsum (st : List Value) : Nat := (st.map fun v => v.category).sum
abbrev Dn := List (MethodName × Nat × Nat)
def dnOf (dn : Dn) (y : MethodName) : Option (Nat × Nat) := dn.findSome? fun q => if q.1 = y then some q.2 else none
/-- what a methodref says: callee, its code, max_locals, return, number of parameters, slack for what lies under -/
def cR (ws : Ws) (dn : Dn) (y : MethodName) (i : Nat) : Option (MethodName × ByteArray × Nat × Option FieldType × Nat × Nat) :=
  match rMth ws y.cls i with
  | none => none
  | some y' =>
    match rCode ws y', dnOf dn y', dnOf dn y, parseMethodDescriptor y'.desc with
    | some (b, mx, r), some (f', l'), some (f, l), some sig =>
      if hasInit ws y'.cls = true ∧ Jvm.plainName y'.cls = true ∧ y'.cls ≠ "java/lang/invoke/MethodHandle" ∧ y'.cls ≠ "java/lang/invoke/VarHandle" ∧ f' + 1 ≤ f ∧ mx + 11 + l' ≤ l then
        some (y', b, mx, r, sig.parameters.length, l - (mx + 11 + l')) else none
    | _, _, _, _ => none
def sR (ws : Ws) (dn : Dn) (y : MethodName) (i : Nat) : Option (MethodName × ByteArray × Nat × Option FieldType × Nat × Nat) :=
  match cR ws dn y i with
  | some q => if hasStat ws q.1 = true then some q else none
  | none => none
def nR (ws : Ws) (dn : Dn) (y : MethodName) (i : Nat) : Option (MethodName × ByteArray × Nat × Option FieldType × Nat × Nat) :=
  match cR ws dn y i with
  | some q => if q.1.name = "<init>" ∧ hasIM ws q.1 = true ∧ q.2.2.2.1 = none then some q else none
  | none => none
/-- the first: is it private? -/
def vR (ws : Ws) (dn : Dn) (y : MethodName) (i : Nat) : Option (Bool × MethodName × ByteArray × Nat × Option FieldType × Nat × Nat) :=
  match cR ws dn y i with
  | some q => if hasIM ws q.1 = true then
      (if hasPriv ws q.1 = true ∧ (rInst ws q.1.cls).isSome = true then some (true, q) else if hasDecl ws q.1 = true ∧ hasSel ws q.1 = true then some (false, q) else none) else none
  | none => none
/-- Object.<init>: how many words may lie under it -/
def oR (ws : Ws) (dn : Dn) (y : MethodName) (i : Nat) : Option Nat :=
  match rMth ws y.cls i, rCode ws Lib.objectInit, dnOf dn y with
  | some y', some (b, mx, r), some (f, l) =>
    if y' = Lib.objectInit ∧ hasIM ws Lib.objectInit = true ∧ b.data = #[0xb1] ∧ mx = 1 ∧ r = none ∧ 1 ≤ f ∧ 12 ≤ l then some (l - 12) else none
  | _, _, _ => none
abbrev Call := MethodName × ByteArray × Option FieldType × List Slot × List Value
/-- returns and calls -/
def cstep (ws : Ws) (dn : Dn) (y : MethodName) (ret : Option FieldType) (ins : Instr) (len pc : Nat) (ls : List Slot) (st : List Value) (H : AHeap) : Option (Option Value ⊕ (Nat × List Slot × List Value × AHeap) ⊕ Call) :=
  match ins with
  | .ireturn => chk len 1 (match st, ret with
      | .int z :: _, some t => if t = .int ∨ t = .boolean ∨ t = .byte ∨ t = .char ∨ t = .short then some (.inl (some (.int (nar t z)))) else none
      | _, _ => none)
  | .lreturn => chk len 1 (match st, ret with
      | [.long z], some .long => some (.inl (some (.long z)))
      | _, _ => none)
  | .return_ => chk len 1 (match st, ret with
      | [], none => some (.inl none)
      | _, _ => none)
  | .invokestatic i => chk len 3 (match sR ws dn y i with
      | some (y', b, mx, r, na, sl) =>
        if na ≤ st.length ∧ wsum (st.drop na) ≤ sl ∧ (ent (st.take na).reverse).length ≤ mx then
          some (.inr (.inr (y', b, r, entry (st.take na).reverse mx, st.drop na)))
        else none
      | none => none)
  | .invokespecial i => chk len 3 (match oR ws dn y i with
      | some sl => (match st with
          | .ref _ :: r => if wsum r ≤ sl then some (.inr (.inl (pc + 3, ls, r, H))) else none
          | _ => none)
      | none => match nR ws dn y i with
        | some (y', b, mx, r, na, sl) =>
          (match st.drop na with
          | .ref a :: rest =>
            if wsum rest ≤ sl ∧ (ent (.ref a :: (st.take na).reverse)).length ≤ mx ∧ na ≤ st.length then
              some (.inr (.inr (y', b, r, entry (.ref a :: (st.take na).reverse) mx, rest)))
            else none
          | _ => none)
        | none => none)
  | .invokevirtual i => chk len 3 (match vR ws dn y i with
      | some (pv, y', b, mx, r, na, sl) =>
        (match st.drop na with
        | .ref a :: rest =>
          (match H[a]? with
          | some (.object C, _) =>
            if (pv = true ∨ C = y'.cls) ∧ wsum rest ≤ sl ∧ (ent (.ref a :: (st.take na).reverse)).length ≤ mx ∧ na ≤ st.length then
              some (.inr (.inr (y', b, r, entry (.ref a :: (st.take na).reverse) mx, rest)))
            else none
          | _ => none)
        | _ => none)
      | none => none)
  | _ => none
/-- what the machine does next: it returns, it steps, it calls -/
def act (ws : Ws) (dn : Dn) (k : Nat) (y : MethodName) (bytes : ByteArray) (ret : Option FieldType) (pc : Nat) (ls : List Slot) (st : List Value) (H : AHeap) : Option (Option Value ⊕ (Nat × List Slot × List Value × AHeap) ⊕ Call) :=
  match decode bytes pc with
  | .error _ => none
  | .ok (ins, len) =>
    match xstep ins len pc ls st with
    | some q => some (.inr (.inl (q.1, q.2.1, q.2.2, H)))
    | none => match hstep ws k y ins len pc st H with
      | some q => some (.inr (.inl (q.1, ls, q.2.1, q.2.2)))
      | none => cstep ws dn y ret ins len pc ls st H
def run (ws : Ws) (dn : Dn) (k : Nat) : Nat → MethodName → ByteArray → Option FieldType → Nat → List Slot → List Value → AHeap → Option (Option Value × AHeap)
  | 0, _, _, _, _, _, _, _ => none
  | n + 1, y, bytes, ret, pc, ls, st, H =>
    match act ws dn k y bytes ret pc ls st H with
    | none => none
    | some (.inl v) => some (v, H)
    | some (.inr (.inl (pc', ls', st', H'))) => run ws dn k n y bytes ret pc' ls' st' H'
    | some (.inr (.inr (y', b, r, en, rest))) =>
      match run ws dn k n y' b r 0 en [] H with
      | some (v, H1) => run ws dn k n y bytes ret (pc + 3) ls (v.toList ++ rest) H1
      | none => none
end Jvm.Own
namespace Jvm.Own
open Sem ClassFile Op Lib Jvm.Stand Jvm.Free Jvm.LawKit Jvm.RoadKit
/-! OWN 3: the abstract machine's plain steps are the machine's -/
def ren (f : Nat → Nat) : Value → Value
  | .ref a => .ref (f a)
  | v => v
def renS (f : Nat → Nat) : Slot → Slot
  | .val v => .val (ren f v)
  | s => s
abbrev fr (f : Nat → Nat) (m : MethodId) (pc : Nat) (ls : List Slot) (st : List Value) : JFrame := mkF m pc (ls.map (renS f)).toArray (st.map (ren f))
theorem ren_cat (f : Nat → Nat) (v : Value) : (ren f v).category = v.category := by cases v <;> rfl
theorem ren_isRef (f : Nat → Nat) (v : Value) : (ren f v).isRef = v.isRef := by cases v <;> rfl
theorem isI_int {v : Value} (h : isI v = true) : ∃ x, v = .int x := by cases v <;> first | exact ⟨_, rfl⟩ | cases h
theorem isL_long {v : Value} (h : isL v = true) : ∃ x, v = .long x := by cases v <;> first | exact ⟨_, rfl⟩ | cases h
theorem chk_some {α : Type} {a b : Nat} {x : Option α} {r : α} (h : chk a b x = some r) : a = b ∧ x = some r := by
  unfold chk at h
  split at h
  · exact ⟨by assumption, h⟩
  · cases h
theorem loc_get {f : Nat → Nat} {ls : List Slot} {i : Nat} {s : Slot} (h : ls[i]? = some s) : ((ls.map (renS f)).toArray)[i]? = some (renS f s) := by
  rw [List.getElem?_toArray, List.getElem?_map, h]; rfl
theorem setAt_ren (f : Nat → Nat) (l : Array Slot) (i : Nat) (x : Slot) : setAt (l.map (renS f)) i (renS f x) = (setAt l i x).map fun a => a.map (renS f) := by
  unfold setAt
  rw [Array.size_map]
  split
  · rw [Option.map_some, Array.map_setIfInBounds]
  · rfl
theorem storeSelf_ren (f : Nat → Nat) (l : Array Slot) (i : Nat) (v : Value) : storeSelf (l.map (renS f)) i (ren f v) = (storeSelf l i v).map fun a => a.map (renS f) := by
  have h0 : setAt (l.map (renS f)) i (.val (ren f v)) = _ := setAt_ren f l i (.val v)
  simp only [storeSelf, h0, ren_cat]
  cases setAt l i (.val v) with
  | none => rfl
  | some l1 =>
    simp only [Option.map_some, Option.bind_eq_bind, Option.bind_some, bind_pure_comp]
    split
    · rw [Array.getElem?_map]
      cases l1[i + 1]? with
      | none => rfl
      | some s =>
        simp only [Option.map_some, Option.bind_some]
        cases s with
        | unset => exact setAt_ren f l1 (i + 1) .second
        | second => exact setAt_ren f l1 (i + 1) .second
        | val w =>
          simp only [renS, ren_cat]
          split
          · have h1 : setAt (l1.map (renS f)) (i + 2) .unset = _ := setAt_ren f l1 (i + 2) .unset
            rw [h1]
            cases setAt l1 (i + 2) .unset with
            | none => rfl
            | some l2 => exact setAt_ren f l2 (i + 1) .second
          · exact setAt_ren f l1 (i + 1) .second
    · rfl
theorem storeLocals_ren (f : Nat → Nat) (l : Array Slot) (i : Nat) (v : Value) : storeLocals (l.map (renS f)) i (ren f v) = (storeLocals l i v).map fun a => a.map (renS f) := by
  simp only [storeLocals, Array.getElem?_map]
  cases l[i]? with
  | none => rfl
  | some s =>
    simp only [Option.map_some, Option.bind_eq_bind, Option.bind_some]
    cases s with
    | unset => exact storeSelf_ren f l i v
    | second =>
      have h1 : setAt (l.map (renS f)) (i - 1) .unset = _ := setAt_ren f l (i - 1) .unset
      simp only [renS, h1]
      cases setAt l (i - 1) .unset with
      | none => rfl
      | some l2 => exact storeSelf_ren f l2 i v
    | val w =>
      simp only [renS, ren_cat]
      split
      · have h1 : setAt (l.map (renS f)) (i + 1) .unset = _ := setAt_ren f l (i + 1) .unset
        rw [h1]
        cases setAt l (i + 1) .unset with
        | none => rfl
        | some l2 => exact storeSelf_ren f l2 i v
      · exact storeSelf_ren f l i v
theorem stl_ren {f : Nat → Nat} {ls l' : List Slot} {i : Nat} {v : Value} (h : stl ls i v = some l') : storeLocals (ls.map (renS f)).toArray i (ren f v) = some (l'.map (renS f)).toArray := by
  unfold stl at h
  obtain ⟨a, ha, rfl⟩ := Option.map_eq_some_iff.mp h
  have := storeLocals_ren f ls.toArray i v
  rw [ha] at this
  rw [← List.map_toArray, this]
  simp [← Array.toList_inj]
theorem setAt_size {l l' : Array Slot} {i : Nat} {x : Slot} (h : setAt l i x = some l') : l'.size = l.size := by
  unfold setAt at h
  split at h
  · cases h; simp
  · cases h
theorem storeSelf_size {l l' : Array Slot} {i : Nat} {v : Value} (h : storeSelf l i v = some l') : l'.size = l.size := by
  simp only [storeSelf, Option.bind_eq_bind, Option.bind_eq_some_iff] at h
  obtain ⟨l1, h1, h⟩ := h
  have e1 := setAt_size h1
  split at h
  · obtain ⟨s, -, h⟩ := Option.bind_eq_some_iff.mp h
    split at h
    · split at h
      · obtain ⟨l2, h2, h⟩ := Option.bind_eq_some_iff.mp h
        rw [setAt_size h, setAt_size h2, e1]
      · rw [setAt_size h, e1]
    · rw [setAt_size h, e1]
  · cases h; exact e1
theorem storeLocals_size {l l' : Array Slot} {i : Nat} {v : Value} (h : storeLocals l i v = some l') : l'.size = l.size := by
  simp only [storeLocals, Option.bind_eq_bind, Option.bind_eq_some_iff] at h
  obtain ⟨s, -, h⟩ := h
  split at h
  · obtain ⟨l2, h2, h⟩ := Option.bind_eq_some_iff.mp h
    rw [storeSelf_size h, setAt_size h2]
  · split at h
    · obtain ⟨l2, h2, h⟩ := Option.bind_eq_some_iff.mp h
      rw [storeSelf_size h, setAt_size h2]
    · exact storeSelf_size h
  · exact storeSelf_size h
theorem stl_size {ls l' : List Slot} {i : Nat} {v : Value} (h : stl ls i v = some l') : l'.length = ls.length := by
  unfold stl at h
  obtain ⟨a, ha, rfl⟩ := Option.map_eq_some_iff.mp h
  have := storeLocals_size ha
  simpa using this
theorem ldV_some {p : Value → Bool} {nx i : Nat} {ls : List Slot} {st : List Value} {q : Nat × List Slot × List Value} (h : ldV p nx i ls st = some q) : ∃ v, ls[i]? = some (.val v) ∧ p v = true ∧ q = (nx, ls, v :: st) := by
  unfold ldV at h
  split at h
  · rename_i v hv
    split at h
    · cases h; exact ⟨v, hv, by assumption, rfl⟩
    · cases h
  · cases h
theorem stV_some {p : Value → Bool} {nx i : Nat} {ls : List Slot} {st : List Value} {q : Nat × List Slot × List Value} (h : stV p nx i ls st = some q) : ∃ v r l', st = v :: r ∧ p v = true ∧ stl ls i v = some l' ∧ q = (nx, l', r) := by
  unfold stV at h
  split at h
  · split at h
    · obtain ⟨l', h1, h2⟩ := Option.map_eq_some_iff.mp h
      exact ⟨_, _, l', rfl, by assumption, h1, h2.symm⟩
    · cases h
  · cases h
theorem b2_some {f : Int32 → Int32 → Int32} {nx : Nat} {ls : List Slot} {st : List Value} {q : Nat × List Slot × List Value} (h : b2 f nx ls st = some q) : ∃ x y r, st = .int y :: .int x :: r ∧ q = (nx, ls, .int (f x y) :: r) := by
  unfold b2 at h
  split at h
  · cases h; exact ⟨_, _, _, rfl, rfl⟩
  · cases h
theorem d2_some {f : Int32 → Int32 → Int32} {nx : Nat} {ls : List Slot} {st : List Value} {q : Nat × List Slot × List Value} (h : d2 f nx ls st = some q) : ∃ x y r, st = .int y :: .int x :: r ∧ y ≠ 0 ∧ q = (nx, ls, .int (f x y) :: r) := by
  unfold d2 at h
  split at h
  · split at h
    · cases h
    · cases h; exact ⟨_, _, _, rfl, by assumption, rfl⟩
  · cases h
theorem u1_some {f : Int32 → Int32} {nx : Nat} {ls : List Slot} {st : List Value} {q : Nat × List Slot × List Value} (h : u1 f nx ls st = some q) : ∃ x r, st = .int x :: r ∧ q = (nx, ls, .int (f x) :: r) := by
  unfold u1 at h
  split at h
  · cases h; exact ⟨_, _, rfl, rfl⟩
  · cases h
theorem l2_some {f : Int64 → Int64 → Int64} {nx : Nat} {ls : List Slot} {st : List Value} {q : Nat × List Slot × List Value} (h : l2 f nx ls st = some q) : ∃ x y r, st = .long y :: .long x :: r ∧ q = (nx, ls, .long (f x y) :: r) := by
  unfold l2 at h
  split at h
  · cases h; exact ⟨_, _, _, rfl, rfl⟩
  · cases h
theorem lsh_some {f : Int64 → Int32 → Int64} {nx : Nat} {ls : List Slot} {st : List Value} {q : Nat × List Slot × List Value} (h : lsh f nx ls st = some q) : ∃ x y r, st = .int y :: .long x :: r ∧ q = (nx, ls, .long (f x y) :: r) := by
  unfold lsh at h
  split at h
  · cases h; exact ⟨_, _, _, rfl, rfl⟩
  · cases h
theorem jmp_some {pc q : Nat} {o : Int} (h : jmp pc o = some q) : 0 ≤ (pc : Int) + o ∧ ((pc : Int) + o).toNat = q := by
  unfold jmp at h
  split at h
  · cases h; exact ⟨by assumption, rfl⟩
  · cases h
theorem br_some {c : Bool} {pc : Nat} {o : Int} {ls : List Slot} {r : List Value} {q : Nat × List Slot × List Value} (h : br c pc o ls r = some q) : (c = true ∧ ∃ t, 0 ≤ (pc : Int) + o ∧ ((pc : Int) + o).toNat = t ∧ q = (t, ls, r)) ∨ (c = false ∧ q = (pc + 3, ls, r)) := by
  unfold br at h
  split at h
  · obtain ⟨t, h1, h2⟩ := Option.map_eq_some_iff.mp h
    obtain ⟨h3, h4⟩ := jmp_some h1
    exact Or.inl ⟨by assumption, t, h3, h4, h2.symm⟩
  · rename_i hc; cases h; exact Or.inr ⟨by simpa using hc, rfl⟩
section X
variable {tb : Tables} [Ours tb] {e : Env} {below : List Frame} {T target : State} {m : MethodId} {c : Code}
set_option maxHeartbeats 4000000 in
theorem xstep_sound (h : At T m c below) (hx : tb.exec = Jvm.exec) (f : Nat → Nat) {ins : Instr} {len pc : Nat} {ls : List Slot} {st : List Value} {q : Nat × List Slot × List Value}
    (hd : decode c.code pc = .ok (ins, len)) (hs : xstep ins len pc ls st = some q) (hr : Steps tb e below (T.setTop (fr f m q.1 q.2.1 q.2.2)) target) : Steps tb e below (T.setTop (fr f m pc ls st)) target := by
  unfold xstep at hs
  split at hs
  · obtain ⟨rfl, hs⟩ := chk_some hs; obtain ⟨v, h1, h2, rfl⟩ := ldV_some hs
    exact XS.aloadN h hx rfl hd (loc_get h1) (by rw [ren_isRef]; exact h2) hr
  · obtain ⟨rfl, hs⟩ := chk_some hs; obtain ⟨v, h1, h2, rfl⟩ := ldV_some hs
    exact XS.aload h hx rfl hd (loc_get h1) (by rw [ren_isRef]; exact h2) hr
  · obtain ⟨rfl, hs⟩ := chk_some hs; obtain ⟨v, h1, h2, rfl⟩ := ldV_some hs; obtain ⟨x, rfl⟩ := isI_int h2
    exact XS.iloadN h hx rfl hd (loc_get (f := f) h1) hr
  · obtain ⟨rfl, hs⟩ := chk_some hs; obtain ⟨v, h1, h2, rfl⟩ := ldV_some hs; obtain ⟨x, rfl⟩ := isI_int h2
    exact XS.iload h hx rfl hd (loc_get (f := f) h1) hr
  · obtain ⟨rfl, hs⟩ := chk_some hs; obtain ⟨v, h1, h2, rfl⟩ := ldV_some hs; obtain ⟨x, rfl⟩ := isL_long h2
    exact XT.lloadN h hx rfl hd (loc_get (f := f) h1) hr
  · obtain ⟨rfl, hs⟩ := chk_some hs; obtain ⟨v, h1, h2, rfl⟩ := ldV_some hs; obtain ⟨x, rfl⟩ := isL_long h2
    exact XT.lload h hx rfl hd (loc_get (f := f) h1) hr
  · obtain ⟨rfl, hs⟩ := chk_some hs; obtain ⟨v, r, l', rfl, h2, h3, rfl⟩ := stV_some hs
    exact XS.astoreN h hx rfl hd rfl (by rw [ren_isRef]; exact h2) (stl_ren h3) hr
  · obtain ⟨rfl, hs⟩ := chk_some hs; obtain ⟨v, r, l', rfl, h2, h3, rfl⟩ := stV_some hs
    exact XS.astore h hx rfl hd rfl (by rw [ren_isRef]; exact h2) (stl_ren h3) hr
  · obtain ⟨rfl, hs⟩ := chk_some hs; obtain ⟨v, r, l', rfl, h2, h3, rfl⟩ := stV_some hs; obtain ⟨x, rfl⟩ := isI_int h2
    exact XS.istoreN h hx rfl hd rfl (stl_ren (f := f) h3) hr
  · obtain ⟨rfl, hs⟩ := chk_some hs; obtain ⟨v, r, l', rfl, h2, h3, rfl⟩ := stV_some hs; obtain ⟨x, rfl⟩ := isI_int h2
    exact XS.istore h hx rfl hd rfl (stl_ren (f := f) h3) hr
  · obtain ⟨rfl, hs⟩ := chk_some hs; obtain ⟨v, r, l', rfl, h2, h3, rfl⟩ := stV_some hs; obtain ⟨x, rfl⟩ := isL_long h2
    exact XT.lstoreN h hx rfl hd rfl (stl_ren (f := f) h3) hr
  · obtain ⟨rfl, hs⟩ := chk_some hs; obtain ⟨v, r, l', rfl, h2, h3, rfl⟩ := stV_some hs; obtain ⟨x, rfl⟩ := isL_long h2
    exact XT.lstore h hx rfl hd rfl (stl_ren (f := f) h3) hr
  · obtain ⟨rfl, hs⟩ := chk_some hs; cases hs
    exact XS.iconst h hx rfl hd hr
  · obtain ⟨rfl, hs⟩ := chk_some hs; cases hs
    exact XS.bipush h hx rfl hd hr
  · obtain ⟨rfl, hs⟩ := chk_some hs; cases hs
    exact XS.sipush h hx rfl hd hr
  · obtain ⟨rfl, hs⟩ := chk_some hs; cases hs
    exact XT.lconst h hx rfl hd hr
  · obtain ⟨rfl, hs⟩ := chk_some hs; obtain ⟨x, y, r, rfl, rfl⟩ := b2_some hs
    exact XS.iadd h hx rfl hd rfl hr
  · obtain ⟨rfl, hs⟩ := chk_some hs; obtain ⟨x, y, r, rfl, rfl⟩ := b2_some hs
    exact XS.isub h hx rfl hd rfl hr
  · obtain ⟨rfl, hs⟩ := chk_some hs; obtain ⟨x, y, r, rfl, rfl⟩ := b2_some hs
    exact XS.imul h hx rfl hd rfl hr
  · obtain ⟨rfl, hs⟩ := chk_some hs; obtain ⟨x, y, r, rfl, rfl⟩ := b2_some hs
    exact XS.iand h hx rfl hd rfl hr
  · obtain ⟨rfl, hs⟩ := chk_some hs; obtain ⟨x, y, r, rfl, rfl⟩ := b2_some hs
    exact XT.ior h hx rfl hd rfl hr
  · obtain ⟨rfl, hs⟩ := chk_some hs; obtain ⟨x, y, r, rfl, rfl⟩ := b2_some hs
    exact XT.ixor h hx rfl hd rfl hr
  · obtain ⟨rfl, hs⟩ := chk_some hs; obtain ⟨x, y, r, rfl, rfl⟩ := b2_some hs
    exact XT.ishl h hx rfl hd rfl hr
  · obtain ⟨rfl, hs⟩ := chk_some hs; obtain ⟨x, y, r, rfl, rfl⟩ := b2_some hs
    exact XT.ishr h hx rfl hd rfl hr
  · obtain ⟨rfl, hs⟩ := chk_some hs; obtain ⟨x, y, r, rfl, rfl⟩ := b2_some hs
    exact XT.iushr h hx rfl hd rfl hr
  · obtain ⟨rfl, hs⟩ := chk_some hs; obtain ⟨x, y, r, rfl, h2, rfl⟩ := d2_some hs
    exact XS.idiv h hx rfl hd rfl h2 hr
  · obtain ⟨rfl, hs⟩ := chk_some hs; obtain ⟨x, y, r, rfl, h2, rfl⟩ := d2_some hs
    refine XS.irem h hx rfl hd rfl h2 ?_
    have q : x - x / y * y = x % y := irem_eq_mod x y
    rw [q]; exact hr
  · obtain ⟨rfl, hs⟩ := chk_some hs; obtain ⟨x, r, rfl, rfl⟩ := u1_some hs
    exact XS.ineg h hx rfl hd rfl hr
  · obtain ⟨rfl, hs⟩ := chk_some hs; obtain ⟨x, r, rfl, rfl⟩ := u1_some hs
    exact XT.i2b h hx rfl hd rfl hr
  · obtain ⟨rfl, hs⟩ := chk_some hs; obtain ⟨x, r, rfl, rfl⟩ := u1_some hs
    exact XT.i2c h hx rfl hd rfl hr
  · obtain ⟨rfl, hs⟩ := chk_some hs; obtain ⟨x, y, r, rfl, rfl⟩ := l2_some hs
    exact XT.ladd h hx rfl hd rfl hr
  · obtain ⟨rfl, hs⟩ := chk_some hs; obtain ⟨x, y, r, rfl, rfl⟩ := l2_some hs
    exact XT.lsub h hx rfl hd rfl hr
  · obtain ⟨rfl, hs⟩ := chk_some hs; obtain ⟨x, y, r, rfl, rfl⟩ := l2_some hs
    exact XT.lmul h hx rfl hd rfl hr
  · obtain ⟨rfl, hs⟩ := chk_some hs; obtain ⟨x, y, r, rfl, rfl⟩ := l2_some hs
    exact XT.land h hx rfl hd rfl hr
  · obtain ⟨rfl, hs⟩ := chk_some hs; obtain ⟨x, y, r, rfl, rfl⟩ := l2_some hs
    exact XT.lor h hx rfl hd rfl hr
  · obtain ⟨rfl, hs⟩ := chk_some hs; obtain ⟨x, y, r, rfl, rfl⟩ := l2_some hs
    exact XT.lxor h hx rfl hd rfl hr
  · obtain ⟨rfl, hs⟩ := chk_some hs; obtain ⟨x, y, r, rfl, rfl⟩ := lsh_some hs
    exact XT.lshl h hx rfl hd rfl hr
  · obtain ⟨rfl, hs⟩ := chk_some hs; obtain ⟨x, y, r, rfl, rfl⟩ := lsh_some hs
    exact XT.lshr h hx rfl hd rfl hr
  · obtain ⟨rfl, hs⟩ := chk_some hs; obtain ⟨x, y, r, rfl, rfl⟩ := lsh_some hs
    exact XT.lushr h hx rfl hd rfl hr
  · obtain ⟨rfl, hs⟩ := chk_some hs
    split at hs
    · cases hs; exact XT.lneg h hx rfl hd rfl hr
    · cases hs
  · obtain ⟨rfl, hs⟩ := chk_some hs
    split at hs
    · cases hs; exact XT.i2l h hx rfl hd rfl hr
    · cases hs
  · obtain ⟨rfl, hs⟩ := chk_some hs
    split at hs
    · cases hs; exact XT.l2i h hx rfl hd rfl hr
    · cases hs
  · obtain ⟨rfl, hs⟩ := chk_some hs
    split at hs
    · cases hs; exact XT.lcmp h hx rfl hd rfl hr
    · cases hs
  · obtain ⟨rfl, hs⟩ := chk_some hs
    split at hs
    · rename_i x h1
      obtain ⟨l', h2, rfl⟩ := Option.map_eq_some_iff.mp hs
      exact XS.iinc h hx rfl hd (loc_get (f := f) h1) (stl_ren (f := f) h2) hr
    · cases hs
  · obtain ⟨rfl, hs⟩ := chk_some hs
    split at hs
    · split at hs
      · rename_i hc; cases hs; exact XS.dup h hx rfl hd rfl (by rw [ren_cat]; exact hc) hr
      · cases hs
    · cases hs
  · obtain ⟨rfl, hs⟩ := chk_some hs
    split at hs
    · cases hs; exact XT.dup2L h hx rfl hd rfl hr
    · split at hs
      · rename_i hc; cases hs; exact XT.dup2 h hx rfl hd rfl (by rw [ren_cat]; exact hc.1) (by rw [ren_cat]; exact hc.2) hr
      · cases hs
    · cases hs
  · obtain ⟨rfl, hs⟩ := chk_some hs
    split at hs
    · split at hs
      · rename_i hc; cases hs; exact XT.pop h hx rfl hd rfl (by rw [ren_cat]; exact hc) hr
      · cases hs
    · cases hs
  · obtain ⟨rfl, hs⟩ := chk_some hs
    obtain ⟨t, h1, rfl⟩ := Option.map_eq_some_iff.mp hs
    obtain ⟨h2, h3⟩ := jmp_some h1
    exact XS.goto h hx rfl rfl hd h2 h3 hr
  · obtain ⟨rfl, hs⟩ := chk_some hs
    split at hs
    · rcases br_some hs with ⟨hc, t, h1, h2, rfl⟩ | ⟨hc, rfl⟩
      · exact XS.ifYes h hx rfl rfl hd rfl hc h1 h2 hr
      · exact XS.ifNo h hx rfl hd rfl hc hr
    · cases hs
  · obtain ⟨rfl, hs⟩ := chk_some hs
    split at hs
    · rcases br_some hs with ⟨hc, t, h1, h2, rfl⟩ | ⟨hc, rfl⟩
      · exact XS.icmpYes h hx rfl rfl hd rfl hc h1 h2 hr
      · exact XS.icmpNo h hx rfl hd rfl hc hr
    · cases hs
  · unfold sw at hs
    split at hs
    · split at hs
      · rename_i hc
        obtain ⟨t, h1, rfl⟩ := Option.map_eq_some_iff.mp hs
        obtain ⟨h2, h3⟩ := jmp_some h1
        exact XS.tswOut h hx rfl rfl hd rfl hc h2 h3 hr
      · rename_i hc
        split at hs
        · rename_i o ho
          obtain ⟨t, h1, rfl⟩ := Option.map_eq_some_iff.mp hs
          obtain ⟨h2, h3⟩ := jmp_some h1
          exact XS.tswIn h hx rfl rfl hd rfl hc ho h2 h3 hr
        · cases hs
    · cases hs
  · cases hs
end X
theorem xstep_size {ins : Instr} {len pc : Nat} {ls : List Slot} {st : List Value} {q : Nat × List Slot × List Value} (hs : xstep ins len pc ls st = some q) : q.2.1.length = ls.length := by
  unfold xstep at hs
  split at hs
  all_goals first
    | (obtain ⟨rfl, hs⟩ := chk_some hs; obtain ⟨v, h1, h2, rfl⟩ := ldV_some hs; rfl)
    | (obtain ⟨rfl, hs⟩ := chk_some hs; obtain ⟨v, r, l', rfl, h2, h3, rfl⟩ := stV_some hs; exact stl_size h3)
    | (obtain ⟨rfl, hs⟩ := chk_some hs; cases hs; rfl)
    | (obtain ⟨rfl, hs⟩ := chk_some hs; obtain ⟨x, y, r, rfl, rfl⟩ := b2_some hs; rfl)
    | (obtain ⟨rfl, hs⟩ := chk_some hs; obtain ⟨x, y, r, rfl, h2, rfl⟩ := d2_some hs; rfl)
    | (obtain ⟨rfl, hs⟩ := chk_some hs; obtain ⟨x, r, rfl, rfl⟩ := u1_some hs; rfl)
    | (obtain ⟨rfl, hs⟩ := chk_some hs; obtain ⟨x, y, r, rfl, rfl⟩ := l2_some hs; rfl)
    | (obtain ⟨rfl, hs⟩ := chk_some hs; obtain ⟨x, y, r, rfl, rfl⟩ := lsh_some hs; rfl)
    | (obtain ⟨rfl, hs⟩ := chk_some hs; split at hs <;> first | (cases hs; rfl) | (cases hs; done))
    | (obtain ⟨rfl, hs⟩ := chk_some hs; split at hs <;> first | (obtain ⟨l', h2, rfl⟩ := Option.map_eq_some_iff.mp hs; exact stl_size h2) | (cases hs; done))
    | (obtain ⟨rfl, hs⟩ := chk_some hs; split at hs <;> first | (split at hs <;> first | (cases hs; rfl) | (cases hs; done)) | (cases hs; rfl) | (cases hs; done))
    | (obtain ⟨rfl, hs⟩ := chk_some hs; obtain ⟨t, h1, rfl⟩ := Option.map_eq_some_iff.mp hs; rfl)
    | (obtain ⟨rfl, hs⟩ := chk_some hs; split at hs <;> first | (rcases br_some hs with ⟨hc, t, h1, h2, rfl⟩ | ⟨hc, rfl⟩ <;> rfl) | (cases hs; done))
    | (unfold sw at hs; split at hs <;> first | (cases hs; done) | (split at hs <;> first | (obtain ⟨t, h1, rfl⟩ := Option.map_eq_some_iff.mp hs; rfl) | (split at hs <;> first | (obtain ⟨t, h1, rfl⟩ := Option.map_eq_some_iff.mp hs; rfl) | (cases hs; done))))
    | (cases hs; done)
end Jvm.Own
namespace Jvm.Own
open Sem ClassFile Op Lib Jvm.Stand Jvm.Free Jvm.LawKit Jvm.RoadKit
/-! OWN 4: the heap's steps -/
def adr (k sa n0 i : Nat) : Nat := if i < k then sa else n0 + (i - k)
def SimO (Z : State) (ws : Ws) (f : Nat → Nat) (h : Heap) (a : Addr) : FieldType × List Value → Prop
  | (.object C, vs) => Exa Z h a C ∧ ∀ n t j, fidx ws C n t = some j → ∃ v, vs[j]? = some v ∧ Fld Z h a C n t (ren f v)
  | (.array ty, vs) => ∃ c : Cell, Arr Z h a c ty ∧ c.slots = (vs.map (ren f)).toArray
  | _ => False
def Sim (Z : State) (ws : Ws) (k sa n0 : Nat) (H : AHeap) (h : Heap) : Prop :=
  h.size = n0 + (H.length - k) ∧ k ≤ H.length ∧ k ≤ 1 ∧ (1 ≤ k → sa < n0) ∧ ∀ i o, H[i]? = some o → SimO Z ws (adr k sa n0) h (adr k sa n0 i) o
def cost (ws : Ws) : FieldType × List Value → Nat
  | (.object C, _) => (rInst ws C).getD 0
  | (_, vs) => vs.length
def tot (ws : Ws) (H : AHeap) : Nat := (H.map (cost ws)).sum
theorem adr_inj {k sa n0 i j : Nat} (hk : k ≤ 1) (hs : 1 ≤ k → sa < n0) (e : adr k sa n0 i = adr k sa n0 j) : i = j := by
  unfold adr at e; split at e <;> split at e <;> omega
theorem adr_ge {k sa n0 a : Nat} (h : k ≤ a) : n0 ≤ adr k sa n0 a := by
  unfold adr; rw [if_neg (by omega)]; omega
theorem tot_app (ws : Ws) (H : AHeap) (o : FieldType × List Value) : tot ws (H ++ [o]) = tot ws H + cost ws o := by simp [tot]
theorem tot_set {ws : Ws} : ∀ {H : AHeap} {a : Nat} {o o' : FieldType × List Value}, H[a]? = some o → cost ws o' = cost ws o → tot ws (H.set a o') = tot ws H
  | [], _, _, _, h, _ => by cases h
  | x :: r, 0, o, o', h, e => by
    simp only [List.getElem?_cons_zero, Option.some.injEq] at h; subst h
    simp [tot, e]
  | x :: r, a + 1, o, o', h, e => by
    have := tot_set (ws := ws) (H := r) (a := a) (o := o) (o' := o') (by simpa using h) e
    simp only [tot, List.set_cons_succ, List.map_cons, List.sum_cons] at this ⊢
    rw [this]
theorem ren_dflt (f : Nat → Nat) (ty : FieldType) : ren f (defaultValue ty) = defaultValue ty := by cases ty <;> rfl
section Facts
variable {Z : State} {ws : Ws} {f : Nat → Nat} {h h' : Heap} {a b : Addr} {o : FieldType × List Value} {sl : Nat} {v : Value}
theorem SimO.ext (E : Ext h h') (S : SimO Z ws f h a o) : SimO Z ws f h' a o := by
  unfold SimO at S ⊢
  split at S
  · exact ⟨S.1.ext E, fun n t j q => by obtain ⟨v, h1, h2⟩ := S.2 n t j q; exact ⟨v, h1, h2.ext E⟩⟩
  · obtain ⟨c, h1, h2⟩ := S; exact ⟨c, h1.ext E, h2⟩
  · exact S.elim
theorem SimO.other (W : Wr h h' b sl v) (ne : a ≠ b) (S : SimO Z ws f h a o) : SimO Z ws f h' a o := by
  unfold SimO at S ⊢
  split at S
  · exact ⟨S.1.wr W, fun n t j q => by obtain ⟨v, h1, h2⟩ := S.2 n t j q; exact ⟨v, h1, h2.other W (Or.inl ne)⟩⟩
  · obtain ⟨c, h1, h2⟩ := S; exact ⟨c, h1.other W ne, h2⟩
  · exact S.elim
theorem Sim.push {k sa n0 : Nat} {H : AHeap} (S : Sim Z ws k sa n0 H h) (E : Ext h h') (hz : h'.size = h.size + 1) (O : SimO Z ws (adr k sa n0) h' h.size o) : Sim Z ws k sa n0 (H ++ [o]) h' := by
  obtain ⟨h1, h2, h3, h4, h5⟩ := S
  refine ⟨by rw [hz, h1, List.length_append, List.length_singleton]; omega, by rw [List.length_append]; omega, h3, h4, fun i o' q => ?_⟩
  rcases Nat.lt_trichotomy i H.length with g | g | g
  · rw [List.getElem?_append_left g] at q; exact (h5 i o' q).ext E
  · subst g
    rw [List.getElem?_append_right (Nat.le_refl _), Nat.sub_self] at q
    cases q
    have e : adr k sa n0 H.length = h.size := by unfold adr; rw [if_neg (by omega), h1]
    rw [e]; exact O
  · rw [List.getElem?_eq_none (by simp; omega)] at q; cases q
theorem Sim.next {k sa n0 : Nat} {H : AHeap} (S : Sim Z ws k sa n0 H h) : h.size = adr k sa n0 H.length := by
  obtain ⟨h1, h2, -⟩ := S
  unfold adr; rw [if_neg (by omega), h1]
theorem Wr.upd {k sa n0 i : Nat} {H : AHeap} {o' : FieldType × List Value} (S : Sim Z ws k sa n0 H h) (W : Wr h h' (adr k sa n0 i) sl v) (O : SimO Z ws (adr k sa n0) h' (adr k sa n0 i) o') : Sim Z ws k sa n0 (H.set i o') h' := by
  obtain ⟨h1, h2, h3, h4, h5⟩ := S
  refine ⟨by rw [W.size, h1, List.length_set], by rw [List.length_set]; exact h2, h3, h4, fun j q hq => ?_⟩
  by_cases e : i = j
  · subst e
    rw [List.getElem?_set_self' ] at hq
    cases hi : H[i]? with
    | none => rw [hi] at hq; cases hq
    | some x => rw [hi] at hq; cases hq; exact O
  · rw [List.getElem?_set_ne e] at hq
    exact (h5 j q hq).other W fun g => e (adr_inj h3 h4 g).symm
end Facts
theorem putv_ok {ty : FieldType} {v v' : Value} (f : Nat → Nat) (h : putv ty v = some v') : narrow ty (ren f v) = ren f v' ∧ fits ty (ren f v') = true := by
  unfold putv at h
  split at h
  · cases h; exact ⟨rfl, rfl⟩
  · cases h; exact ⟨rfl, fits_nar_bool _⟩
  · cases h; exact ⟨rfl, fits_nar_byte _⟩
  · cases h; exact ⟨rfl, fits_nar_char _⟩
  · cases h; exact ⟨rfl, fits_nar_short _⟩
  · cases h; exact ⟨rfl, rfl⟩
  · cases h; exact ⟨rfl, rfl⟩
  · cases h
theorem size_set (c : Cell) (j : Nat) (v : Value) (f : Nat → Nat) {vs : List Value} {v' : Value} (e : c.slots = (vs.map (ren f)).toArray) (q : v = ren f v') : (c.setSlot j v).slots = ((vs.set j v').map (ren f)).toArray := by
  subst q
  show c.slots.setIfInBounds j (ren f v') = _
  rw [e, List.setIfInBounds_toArray, List.map_set]
section H
variable {p : Program} {l : Launch} {e : Env} {R : Room} {s : State} {m : MethodId} {args : Array Value} {below : List Frame} {meth : Method} {c : Code} {T : State} {locs : List Loc} {cells slots : Nat}
  {Z : State} {a0 : Array Value} {ws : Ws} {k sa n0 : Nat} {y : MethodName} {pc : Nat} {ls : List Slot} {st : List Value} {H : AHeap}
/-- the point behind one step -/
def Beh (p : Program) (l : Launch) (e : Env) (R : Room) (s : State) (m : MethodId) (args : Array Value) (below : List Frame) (meth : Method) (c : Code) (T : State) (Z : State) (ws : Ws) (k sa n0 cells slots : Nat) (H : AHeap) (g : JFrame) (pc' : Nat) (ls' : List Slot) (st' : List Value) (H' : AHeap) : Prop :=
  ∃ T' locs', Stand p l e R s m args below meth c T' locs' (cells + (H'.length - H.length)) (slots + (tot ws H' - tot ws H)) ∧ Sim Z ws k sa n0 H' T'.heap ∧ Fr n0 locs' ∧
    ∀ target, Steps p.tables e below (T'.setTop (fr (adr k sa n0) m pc' ls' st')) target → Steps p.tables e below (T.setTop g) target
theorem Beh.stay {g : JFrame} {pc' : Nat} {st' : List Value} {T' : State} (X : Stand p l e R s m args below meth c T' locs cells slots) (S : Sim Z ws k sa n0 H T'.heap) (N : Fr n0 locs)
    (h : ∀ target, Steps p.tables e below (T'.setTop (fr (adr k sa n0) m pc' ls st')) target → Steps p.tables e below (T.setTop g) target) : Beh p l e R s m args below meth c T Z ws k sa n0 cells slots H g pc' ls st' H :=
  ⟨T', locs, by rw [Nat.sub_self, Nat.sub_self]; exact X, S, N, h⟩
theorem hGet_sound (hw : ∀ d ∈ ws, d.before a0 Z = true) (X : Stand p l e R s m args below meth c T locs cells slots) (hx : p.tables.exec = Jvm.exec) (hZ : Z.Warmed39 s.vm) (hown : s.vm.findClass y.cls = some m.cls)
    {i : Nat} (hd : decode c.code pc = .ok (.getfield i, 3)) {q : Nat × List Value × AHeap} (hs : hGet ws y.cls i pc H st = some q) (S : Sim Z ws k sa n0 H T.heap) (N : Fr n0 locs) :
    Beh p l e R s m args below meth c T Z ws k sa n0 cells slots H (fr (adr k sa n0) m pc ls st) q.1 ls q.2.1 q.2.2 := by
  unfold hGet at hs
  split at hs
  · rename_i a r
    split at hs
    · rename_i C j C' vs q1 q2
      split at hs
      · rename_i hC; subst hC
        obtain ⟨v, hv, rfl⟩ := Option.map_eq_some_iff.mp hs
        obtain ⟨n, t, r1, r2⟩ := gfR_some q1
        obtain ⟨v', hv', F⟩ := (S.2.2.2.2 a _ q2).2 n t j r2
        cases hv.symm.trans hv'
        obtain ⟨T', X', e', st'⟩ := getF X hx hZ hown (host := "") (Or.inl (hw _ (rFld_mem r1))) Via.refl rfl F (g := fr (adr k sa n0) m pc ls (.ref a :: r)) rfl rfl hd
        exact Beh.stay X' (by rw [e']; exact S) N st'
      · cases hs
    · cases hs
  · cases hs
theorem hPut_sound (hw : ∀ d ∈ ws, d.before a0 Z = true) (X : Stand p l e R s m args below meth c T locs cells slots) (hx : p.tables.exec = Jvm.exec) (hZ : Z.Warmed39 s.vm) (hown : s.vm.findClass y.cls = some m.cls) (hnm : meth.name = y.name)
    {i : Nat} (hd : decode c.code pc = .ok (.putfield i, 3)) {q : Nat × List Value × AHeap} (hs : hPut ws k y.cls y.name i pc H st = some q) (S : Sim Z ws k sa n0 H T.heap) (N : Fr n0 locs) :
    Beh p l e R s m args below meth c T Z ws k sa n0 cells slots H (fr (adr k sa n0) m pc ls st) q.1 ls q.2.1 q.2.2 := by
  unfold hPut at hs
  split at hs
  · rename_i v a r
    split at hs
    · rename_i C j ty C' vs q1 q2
      split at hs
      · rename_i hC; obtain ⟨rfl, hk, hj⟩ := hC
        obtain ⟨v', hv, rfl⟩ := Option.map_eq_some_iff.mp hs
        obtain ⟨n, t, r1, r2, r3, r4, ⟨ki, r5⟩, r6⟩ := pfR_some q1
        have SO := S.2.2.2.2 a _ q2
        obtain ⟨w, hw', F⟩ := SO.2 n t j r2
        obtain ⟨g1, g2⟩ := putv_ok (adr k sa n0) hv
        obtain ⟨T', h', X', e', W, st'⟩ := putFN X hx hZ hown (hw _ (rFld_mem r1)) Via.refl rfl F SO.1 (r4.imp (fun q => hw _ q) fun q => ⟨hw _ q.1, q.2.1, hnm.trans q.2.2⟩) (hw _ r5) r3 g1 g2 (g := fr (adr k sa n0) m pc ls (v :: .ref a :: r)) rfl rfl hd
        have LL : ∀ {n' t' : String}, (n', t') ∈ olay ws C → Laid Z a0 C C n' t' := fun q => (lay_mem q).1.imp (fun q => hw _ q) (fun q => hw _ q)
        have O' : SimO Z ws (adr k sa n0) h' (adr k sa n0 a) (.object C, vs.set j v') := by
          refine ⟨SO.1.wr W, fun n' t' j' q' => ?_⟩
          obtain ⟨u, hu, F'⟩ := SO.2 n' t' j' q'
          by_cases ej : j = j'
          · subst ej
            obtain ⟨rfl, rfl⟩ := fidx_inj r2 q'
            exact ⟨v', by rw [List.getElem?_set_self hj], F.same W⟩
          · refine ⟨u, by rw [List.getElem?_set_ne ej]; exact hu, F'.other W (Or.inr ?_)⟩
            obtain ⟨-, ty', p'⟩ := lay_mem (fidx_mem q')
            refine slot_ne (LL (fidx_mem q')) (LL (fidx_mem r2)) (fun en => ?_) p' r3
            rcases r6 n' t' (fidx_mem q') with g | g
            · exact g en
            · subst en g; rw [r2] at q'; exact ej (Option.some.inj q')
        refine ⟨T', _, ?_, by rw [e']; exact Wr.upd S W O', Fr.snoc X' N (adr_ge hk), st'⟩
        show Stand p l e R s m args below meth c T' _ (cells + ((H.set a (.object C, vs.set j v')).length - H.length)) (slots + (tot ws (H.set a (.object C, vs.set j v')) - tot ws H))
        rw [List.length_set, tot_set (o := (.object C, vs)) (o' := (.object C, vs.set j v')) q2 rfl, Nat.sub_self, Nat.sub_self]
        exact X'
      · cases hs
    · cases hs
  · cases hs
theorem hNew_sound (hw : ∀ d ∈ ws, d.before a0 Z = true) (X : Stand p l e R s m args below meth c T locs cells slots) (hx : p.tables.exec = Jvm.exec) (hZ : Z.Warmed39 s.vm) (hown : s.vm.findClass y.cls = some m.cls)
    {i : Nat} (hd : decode c.code pc = .ok (.new i, 3)) {q : Nat × List Value × AHeap} (hs : hNew ws y.cls i pc H st = some q) (S : Sim Z ws k sa n0 H T.heap) (N : Fr n0 locs)
    (hc : cells + (q.2.2.length - H.length) ≤ R.cells) (hl : slots + (tot ws q.2.2 - tot ws H) ≤ R.slots) (hz0 : T.heap.size = s.heap.size + cells) :
    Beh p l e R s m args below meth c T Z ws k sa n0 cells slots H (fr (adr k sa n0) m pc ls st) q.1 ls q.2.1 q.2.2 := by
  unfold hNew at hs
  split at hs
  · rename_i C q1
    split at hs
    · rename_i g; cases hs
      obtain ⟨ki, hki⟩ := Option.isSome_iff_exists.mp g.1
      have ec : (H ++ [(FieldType.object C, (olay ws C).map dflt)]).length - H.length = 1 := by simp
      have es : tot ws (H ++ [(FieldType.object C, (olay ws C).map dflt)]) - tot ws H = ki := by
        rw [tot_app]; simp [cost, hki]
      dsimp only at hc hl ⊢
      rw [ec] at hc; rw [es] at hl
      have hz := S.next
      obtain ⟨T', h', X', e', E, A, D, -, st'⟩ := newO X hx hZ hown (hw _ (rCls_mem q1)) (hw _ (rInst_mem hki)) (hw _ (hasInit_mem g.2)) rfl (g := fr (adr k sa n0) m pc ls st) rfl hd hc hl
      have hz' : h'.size = T.heap.size + 1 := by
        have u1 := X'.heapSize
        have a1 : (T.heap.size : Nat) < h'.size := A.lt
        rw [e'] at u1
        omega
      refine ⟨T', locs, by rw [ec, es]; exact X', ?_, N, ?_⟩
      · rw [e']
        refine S.push E hz' ⟨A, fun n t j q => ?_⟩
        have hm := fidx_mem q
        obtain ⟨q2, ty, q3⟩ := lay_mem hm
        refine ⟨dflt (n, t), by rw [List.getElem?_map, idx_get q]; rfl, ?_⟩
        have F := D (O := C) (nm := n) (d := t) (q2.imp (fun q => hw _ q) (fun q => hw _ q)) q3
        have e3 : ren (adr k sa n0) (dflt (n, t)) = defaultValue ty := by simp only [dflt, q3, ren_dflt]
        rw [e3]; exact F
      · intro target ht
        rw [hz] at st'
        exact st' target ht
    · cases hs
  · cases hs
theorem hNewA_sound (hw : ∀ d ∈ ws, d.before a0 Z = true) (X : Stand p l e R s m args below meth c T locs cells slots) (hx : p.tables.exec = Jvm.exec) (hZ : Z.Warmed39 s.vm)
    {aty : ArrayType} (hd : decode c.code pc = .ok (.newarray aty, 2)) {q : Nat × List Value × AHeap} (hs : hNewA ws aty pc H st = some q) (S : Sim Z ws k sa n0 H T.heap) (N : Fr n0 locs)
    (hc : cells + (q.2.2.length - H.length) ≤ R.cells) (hl : slots + (tot ws q.2.2 - tot ws H) ≤ R.slots) (hz0 : T.heap.size = s.heap.size + cells) :
    Beh p l e R s m args below meth c T Z ws k sa n0 cells slots H (fr (adr k sa n0) m pc ls st) q.1 ls q.2.1 q.2.2 := by
  unfold hNewA at hs
  split at hs
  · rename_i n r
    split at hs
    · rename_i g; cases hs
      obtain ⟨g1, g2, g3⟩ := g
      have ec : (H ++ [(FieldType.array (newarray.typeOf aty), List.replicate n.toNatClampNeg (defaultValue (newarray.typeOf aty)))]).length - H.length = 1 := by simp
      have es : tot ws (H ++ [(FieldType.array (newarray.typeOf aty), List.replicate n.toNatClampNeg (defaultValue (newarray.typeOf aty)))]) - tot ws H = n.toNatClampNeg := by
        rw [tot_app]; simp [cost]
      dsimp only at hc hl ⊢
      rw [ec] at hc; rw [es] at hl
      have hz := S.next
      obtain ⟨T', h', cA, X', e', E, A, st'⟩ := newP X hx hZ (hw _ (hasArr_mem g1)) rfl (g := fr (adr k sa n0) m pc ls (.int n :: r)) rfl hd rfl g2 (cap := n.toNatClampNeg) (Nat.le_refl _) g3 hc hl
      have hz' : h'.size = T.heap.size + 1 := by
        have u1 := X'.heapSize
        have a1 : (T.heap.size : Nat) < h'.size := A.lt
        rw [e'] at u1
        omega
      refine ⟨T', locs, by rw [ec, es]; exact X', ?_, N, ?_⟩
      · rw [e']
        refine S.push E hz' ⟨_, A, ?_⟩
        simp [newA, ren_dflt]
      · intro target ht
        rw [hz] at st'
        exact st' target ht
    · cases hs
  · cases hs
theorem hLd_some {ok : FieldType → Bool} {q : Nat × List Value × AHeap} (hs : hLd ok pc H st = some q) : ∃ j a r ty vs v, st = .int j :: .ref a :: r ∧ H[a]? = some (.array ty, vs) ∧ ok ty = true ∧ ¬ j < 0 ∧ vs[j.toNatClampNeg]? = some v ∧ q = (pc + 1, v :: r, H) := by
  unfold hLd at hs
  split at hs
  · split at hs
    · split at hs
      · rename_i g
        obtain ⟨v, h1, h2⟩ := Option.map_eq_some_iff.mp hs
        exact ⟨_, _, _, _, _, v, rfl, by assumption, g.1, g.2, h1, h2.symm⟩
      · cases hs
    · cases hs
  · cases hs
theorem hSt_some {ok : FieldType → Bool} {q : Nat × List Value × AHeap} (hs : hSt ok k pc H st = some q) : ∃ v j a r ty vs v', st = v :: .int j :: .ref a :: r ∧ H[a]? = some (.array ty, vs) ∧ ok ty = true ∧ k ≤ a ∧ ¬ j < 0 ∧ j.toNatClampNeg < vs.length ∧ putv ty v = some v' ∧ q = (pc + 1, r, H.set a (.array ty, vs.set j.toNatClampNeg v')) := by
  unfold hSt at hs
  split at hs
  · split at hs
    · split at hs
      · rename_i g
        obtain ⟨v, h1, h2⟩ := Option.map_eq_some_iff.mp hs
        exact ⟨_, _, _, _, _, _, v, rfl, by assumption, g.1, g.2.1, g.2.2.1, g.2.2.2, h1, h2.symm⟩
      · cases hs
    · cases hs
  · cases hs
theorem hLen_some {q : Nat × List Value × AHeap} (hs : hLen pc H st = some q) : ∃ a r ty vs, st = .ref a :: r ∧ H[a]? = some (.array ty, vs) ∧ q = (pc + 1, .int vs.length.toInt32 :: r, H) := by
  unfold hLen at hs
  split at hs
  · split at hs
    · cases hs; exact ⟨_, _, _, _, rfl, by assumption, rfl⟩
    · cases hs
  · cases hs
/-- behind a store into an array -/
theorem st_beh {T' : State} {h' : Heap} {a j : Nat} {ty : FieldType} {vs : List Value} {v' : Value} {r : List Value} {g : JFrame} (X' : Stand p l e R s m args below meth c T' (locs ++ [⟨adr k sa n0 a, j⟩]) cells slots) (e' : T'.heap = h') (W : Wr T.heap h' (adr k sa n0 a) j (ren (adr k sa n0) v'))
    (S : Sim Z ws k sa n0 H T.heap) (N : Fr n0 locs) (q2 : H[a]? = some (.array ty, vs)) (hk : k ≤ a)
    (st' : ∀ target, Steps p.tables e below (T'.setTop (fr (adr k sa n0) m (pc + 1) ls r)) target → Steps p.tables e below (T.setTop g) target) :
    Beh p l e R s m args below meth c T Z ws k sa n0 cells slots H g (pc + 1) ls r (H.set a (.array ty, vs.set j v')) := by
  obtain ⟨cl, A, es⟩ := S.2.2.2.2 a _ q2
  refine ⟨T', _, ?_, by rw [e']; exact Wr.upd S W ⟨_, A.same W, size_set cl j _ _ es rfl⟩, Fr.snoc X' N (adr_ge hk), st'⟩
  rw [List.length_set, tot_set (o := (.array ty, vs)) (o' := (.array ty, vs.set j v')) q2 (by simp [cost]), Nat.sub_self, Nat.sub_self]
  exact X'
set_option maxHeartbeats 1000000 in
theorem hstep_sound (hw : ∀ d ∈ ws, d.before a0 Z = true) (X : Stand p l e R s m args below meth c T locs cells slots) (hx : p.tables.exec = Jvm.exec) (hZ : Z.Warmed39 s.vm) (hown : s.vm.findClass y.cls = some m.cls) (hnm : meth.name = y.name)
    {ins : Instr} {len : Nat} (hd : decode c.code pc = .ok (ins, len)) {q : Nat × List Value × AHeap} (hs : hstep ws k y ins len pc st H = some q) (S : Sim Z ws k sa n0 H T.heap) (N : Fr n0 locs)
    (hc : cells + (q.2.2.length - H.length) ≤ R.cells) (hl : slots + (tot ws q.2.2 - tot ws H) ≤ R.slots) (hz0 : T.heap.size = s.heap.size + cells) :
    Beh p l e R s m args below meth c T Z ws k sa n0 cells slots H (fr (adr k sa n0) m pc ls st) q.1 ls q.2.1 q.2.2 := by
  unfold hstep at hs
  split at hs
  · obtain ⟨rfl, hs⟩ := chk_some hs
    exact hGet_sound hw X hx hZ hown hd hs S N
  · obtain ⟨rfl, hs⟩ := chk_some hs
    exact hPut_sound hw X hx hZ hown hnm hd hs S N
  · obtain ⟨rfl, hs⟩ := chk_some hs
    exact hNew_sound hw X hx hZ hown hd hs S N hc hl hz0
  · obtain ⟨rfl, hs⟩ := chk_some hs
    exact hNewA_sound hw X hx hZ hd hs S N hc hl hz0
  · obtain ⟨rfl, hs⟩ := chk_some hs
    obtain ⟨j, a, r, ty, vs, v, rfl, q2, ho, hj, hv, rfl⟩ := hLd_some hs
    obtain rfl : ty = _ := of_decide_eq_true ho
    obtain ⟨cl, A, es⟩ := S.2.2.2.2 a _ q2
    have hlt := (List.getElem?_eq_some_iff.mp hv).1
    exact Beh.stay X S N fun target ht => X.iaload hx (j := j) (v := ren (adr k sa n0) v) A.1 (State.isArrayOf_alike hZ.alike A.2.1) A.2.2 (fun g => g.elim hj fun g => by rw [es] at g; simp at g; omega) (by rw [es, List.getElem?_toArray, List.getElem?_map, hv]; rfl) (g := fr (adr k sa n0) m pc ls (.int j :: .ref a :: r)) rfl rfl hd target ht
  · obtain ⟨rfl, hs⟩ := chk_some hs
    obtain ⟨j, a, r, ty, vs, v, rfl, q2, ho, hj, hv, rfl⟩ := hLd_some hs
    obtain rfl : ty = _ := of_decide_eq_true ho
    obtain ⟨cl, A, es⟩ := S.2.2.2.2 a _ q2
    have hlt := (List.getElem?_eq_some_iff.mp hv).1
    exact Beh.stay X S N fun target ht => X.caload hx (j := j) (v := ren (adr k sa n0) v) A.1 (State.isArrayOf_alike hZ.alike A.2.1) A.2.2 (fun g => g.elim hj fun g => by rw [es] at g; simp at g; omega) (by rw [es, List.getElem?_toArray, List.getElem?_map, hv]; rfl) (g := fr (adr k sa n0) m pc ls (.int j :: .ref a :: r)) rfl rfl hd target ht
  · obtain ⟨rfl, hs⟩ := chk_some hs
    obtain ⟨j, a, r, ty, vs, v, rfl, q2, ho, hj, hv, rfl⟩ := hLd_some hs
    obtain rfl : ty = _ := of_decide_eq_true ho
    obtain ⟨cl, A, es⟩ := S.2.2.2.2 a _ q2
    have hlt := (List.getElem?_eq_some_iff.mp hv).1
    exact Beh.stay X S N fun target ht => X.laload hx (j := j) (v := ren (adr k sa n0) v) A.1 (State.isArrayOf_alike hZ.alike A.2.1) A.2.2 (fun g => g.elim hj fun g => by rw [es] at g; simp at g; omega) (by rw [es, List.getElem?_toArray, List.getElem?_map, hv]; rfl) (g := fr (adr k sa n0) m pc ls (.int j :: .ref a :: r)) rfl rfl hd target ht
  · obtain ⟨rfl, hs⟩ := chk_some hs
    obtain ⟨j, a, r, ty, vs, v, rfl, q2, ho, hj, hv, rfl⟩ := hLd_some hs
    obtain ⟨cl, A, es⟩ := S.2.2.2.2 a _ q2
    have hlt := (List.getElem?_eq_some_iff.mp hv).1
    simp only [okB, Bool.or_eq_true, decide_eq_true_eq] at ho
    rcases ho with rfl | rfl
    · exact Beh.stay X S N fun target ht => X.baloadBytes hx (j := j) (v := ren (adr k sa n0) v) A.1 (State.isArrayOf_alike hZ.alike A.2.1) A.2.2 (fun g => g.elim hj fun g => by rw [es] at g; simp at g; omega) (by rw [es, List.getElem?_toArray, List.getElem?_map, hv]; rfl) (g := fr (adr k sa n0) m pc ls (.int j :: .ref a :: r)) rfl rfl hd target ht
    · exact Beh.stay X S N fun target ht => X.baloadBooleans hx (j := j) (v := ren (adr k sa n0) v) A.1 (State.isArrayOf_alike hZ.alike A.2.1) A.2.2 (fun g => g.elim hj fun g => by rw [es] at g; simp at g; omega) (by rw [es, List.getElem?_toArray, List.getElem?_map, hv]; rfl) (g := fr (adr k sa n0) m pc ls (.int j :: .ref a :: r)) rfl rfl hd target ht
  · obtain ⟨rfl, hs⟩ := chk_some hs
    obtain ⟨v, j, a, r, ty, vs, v', rfl, q2, ho, hk, hj, hlt, hv, rfl⟩ := hSt_some hs
    obtain rfl : ty = _ := of_decide_eq_true ho
    obtain ⟨cl, A, es⟩ := S.2.2.2.2 a _ q2
    cases v <;> simp only [putv, Option.some.injEq, reduceCtorEq] at hv
    subst hv
    obtain ⟨T', h', X', e', W, st'⟩ := stI X hx hZ rfl A (j := j) (fun g => g.elim hj fun g => by rw [es] at g; simp at g; omega) (g := fr (adr k sa n0) m pc ls (.int _ :: .int j :: .ref a :: r)) rfl rfl hd
    exact st_beh X' e' W S N q2 hk st'
  · obtain ⟨rfl, hs⟩ := chk_some hs
    obtain ⟨v, j, a, r, ty, vs, v', rfl, q2, ho, hk, hj, hlt, hv, rfl⟩ := hSt_some hs
    obtain rfl : ty = _ := of_decide_eq_true ho
    obtain ⟨cl, A, es⟩ := S.2.2.2.2 a _ q2
    cases v <;> simp only [putv, Option.some.injEq, reduceCtorEq] at hv
    subst hv
    obtain ⟨T', h', X', e', W, st'⟩ := stC X hx hZ rfl A (j := j) (fun g => g.elim hj fun g => by rw [es] at g; simp at g; omega) (g := fr (adr k sa n0) m pc ls (.int _ :: .int j :: .ref a :: r)) rfl rfl hd
    exact st_beh X' e' W S N q2 hk st'
  · obtain ⟨rfl, hs⟩ := chk_some hs
    obtain ⟨v, j, a, r, ty, vs, v', rfl, q2, ho, hk, hj, hlt, hv, rfl⟩ := hSt_some hs
    obtain rfl : ty = _ := of_decide_eq_true ho
    obtain ⟨cl, A, es⟩ := S.2.2.2.2 a _ q2
    cases v <;> simp only [putv, Option.some.injEq, reduceCtorEq] at hv
    subst hv
    obtain ⟨T', h', X', e', W, st'⟩ := stJ X hx hZ rfl A (j := j) (fun g => g.elim hj fun g => by rw [es] at g; simp at g; omega) (g := fr (adr k sa n0) m pc ls (.long _ :: .int j :: .ref a :: r)) rfl rfl hd
    exact st_beh X' e' W S N q2 hk st'
  · obtain ⟨rfl, hs⟩ := chk_some hs
    obtain ⟨v, j, a, r, ty, vs, v', rfl, q2, ho, hk, hj, hlt, hv, rfl⟩ := hSt_some hs
    obtain ⟨cl, A, es⟩ := S.2.2.2.2 a _ q2
    simp only [okB, Bool.or_eq_true, decide_eq_true_eq] at ho
    rcases ho with rfl | rfl
    · cases v <;> simp only [putv, Option.some.injEq, reduceCtorEq] at hv
      subst hv
      obtain ⟨T', h', X', e', W, st'⟩ := stB X hx hZ rfl A (j := j) (fun g => g.elim hj fun g => by rw [es] at g; simp at g; omega) (g := fr (adr k sa n0) m pc ls (.int _ :: .int j :: .ref a :: r)) rfl rfl hd
      exact st_beh X' e' W S N q2 hk st'
    · cases v <;> simp only [putv, Option.some.injEq, reduceCtorEq] at hv
      subst hv
      obtain ⟨T', h', X', e', W, st'⟩ := stZ X hx hZ rfl A (j := j) (fun g => g.elim hj fun g => by rw [es] at g; simp at g; omega) (g := fr (adr k sa n0) m pc ls (.int _ :: .int j :: .ref a :: r)) rfl rfl hd
      exact st_beh X' e' W S N q2 hk st'
  · obtain ⟨rfl, hs⟩ := chk_some hs
    obtain ⟨a, r, ty, vs, rfl, q2, rfl⟩ := hLen_some hs
    obtain ⟨cl, A, es⟩ := S.2.2.2.2 a _ q2
    have ez : cl.slots.size = vs.length := by rw [es]; simp
    refine Beh.stay X S N fun target ht => X.arraylength hx (cell := cl) A.1 (State.isArrayOf_alike hZ.alike A.2.1) (g := fr (adr k sa n0) m pc ls (.ref a :: r)) rfl rfl hd target ?_
    rw [ez]; exact ht
  · obtain ⟨rfl, hs⟩ := chk_some hs
    obtain ⟨v, hv, rfl⟩ := Option.map_eq_some_iff.mp hs
    exact Beh.stay X S N (X.ldcInt hx hown (mvT hZ (hw _ (rCon_mem hv))) (g := fr (adr k sa n0) m pc ls st) rfl hd)
  · obtain ⟨rfl, hs⟩ := chk_some hs
    obtain ⟨v, hv, rfl⟩ := Option.map_eq_some_iff.mp hs
    exact Beh.stay X S N (X.ldcwInt hx hown (mvT hZ (hw _ (rCon_mem hv))) (g := fr (adr k sa n0) m pc ls st) rfl hd)
  · obtain ⟨rfl, hs⟩ := chk_some hs
    obtain ⟨v, hv, rfl⟩ := Option.map_eq_some_iff.mp hs
    exact Beh.stay X S N (X.ldc2Long hx hown (mvT hZ (hw _ (rConL_mem hv))) (g := fr (adr k sa n0) m pc ls st) rfl hd)
  · cases hs
end H
theorem hstep_size {ws : Ws} {k : Nat} {y : MethodName} {ins : Instr} {len pc : Nat} {st : List Value} {H : AHeap} {q : Nat × List Value × AHeap} (hs : hstep ws k y ins len pc st H = some q) : H.length ≤ q.2.2.length ∧ tot ws H ≤ tot ws q.2.2 := by
  unfold hstep at hs
  split at hs
  · obtain ⟨rfl, hs⟩ := chk_some hs
    unfold hGet at hs
    split at hs
    · split at hs
      · split at hs
        · obtain ⟨v, -, rfl⟩ := Option.map_eq_some_iff.mp hs; exact ⟨Nat.le_refl _, Nat.le_refl _⟩
        · cases hs
      · cases hs
    · cases hs
  · obtain ⟨rfl, hs⟩ := chk_some hs
    unfold hPut at hs
    split at hs
    · split at hs
      · rename_i C j ty C' vs q1 q2
        split at hs
        · obtain ⟨v, -, rfl⟩ := Option.map_eq_some_iff.mp hs
          exact ⟨Nat.le_of_eq (by rw [List.length_set]), Nat.le_of_eq (tot_set (o := (.object C', vs)) (o' := (.object C', vs.set j v)) q2 rfl).symm⟩
        · cases hs
      · cases hs
    · cases hs
  · obtain ⟨rfl, hs⟩ := chk_some hs
    unfold hNew at hs
    split at hs
    · split at hs
      · cases hs; exact ⟨by simp, by rw [tot_app]; omega⟩
      · cases hs
    · cases hs
  · obtain ⟨rfl, hs⟩ := chk_some hs
    unfold hNewA at hs
    split at hs
    · split at hs
      · cases hs; exact ⟨by simp, by rw [tot_app]; omega⟩
      · cases hs
    · cases hs
  all_goals first
    | (obtain ⟨rfl, hs⟩ := chk_some hs; obtain ⟨j, a, r, ty, vs, v, rfl, q2, ho, hj, hv, rfl⟩ := hLd_some hs; exact ⟨Nat.le_refl _, Nat.le_refl _⟩)
    | (obtain ⟨rfl, hs⟩ := chk_some hs; obtain ⟨v, j, a, r, ty, vs, v', rfl, q2, ho, hk, hj, hlt, hv, rfl⟩ := hSt_some hs; exact ⟨Nat.le_of_eq (by rw [List.length_set]), Nat.le_of_eq (tot_set (o := (.array ty, vs)) (o' := (.array ty, vs.set _ v')) q2 (by simp [cost])).symm⟩)
    | (obtain ⟨rfl, hs⟩ := chk_some hs; obtain ⟨a, r, ty, vs, rfl, q2, rfl⟩ := hLen_some hs; exact ⟨Nat.le_refl _, Nat.le_refl _⟩)
    | (obtain ⟨rfl, hs⟩ := chk_some hs; obtain ⟨v, hv, rfl⟩ := Option.map_eq_some_iff.mp hs; exact ⟨Nat.le_refl _, Nat.le_refl _⟩)
    | (cases hs; done)
end Jvm.Own
namespace Jvm.Own
open Sem ClassFile Op Lib Jvm.Stand Jvm.Free Jvm.LawKit Jvm.RoadKit
/-! OWN 5: the run is the machine's -/
theorem ent_ren (f : Nat → Nat) : ∀ as : List Value, ent (as.map (ren f)) = (ent as).map (renS f)
  | [] => rfl
  | v :: r => by
    simp only [List.map_cons, ent, ren_cat, ent_ren f r]
    split <;> rfl
theorem fill_eq : ∀ (as : List Value) (acc : Array Slot), as.foldl (fun acc v => if v.category = 2 then (acc.push (.val v)).push .second else acc.push (.val v)) acc = acc ++ (ent as).toArray
  | [], acc => by simp [ent]
  | v :: r, acc => by
    simp only [List.foldl_cons, ent]
    split
    · rw [fill_eq r]; simp [← Array.toList_inj]
    · rw [fill_eq r]; simp [← Array.toList_inj]
theorem entry_eq (f : Nat → Nat) (m : MethodId) (as : List Value) (mx : Nat) : entryFrame m (as.map (ren f)).toArray mx = fr f m 0 (entry as mx) [] := by
  have h : argsToLocals (as.map (ren f)).toArray mx = ((entry as mx).map (renS f)).toArray := by
    unfold argsToLocals entry
    simp only [List.foldl_toArray']
    rw [fill_eq, ent_ren]
    simp [← Array.toList_inj, renS]
  unfold entryFrame
  rw [h]; rfl
theorem entry_len {as : List Value} {mx : Nat} (h : (ent as).length ≤ mx) : (entry as mx).length = mx := by simp [entry]; omega
theorem wsum_ren (f : Nat → Nat) (st : List Value) : ((st.map (ren f)).map fun v => v.category).sum = wsum st := by
  unfold wsum
  rw [List.map_map]
  congr 1
  apply List.map_congr_left
  intro v _
  exact ren_cat f v
section Inv
variable {ws : Ws} {dn : Dn} {k : Nat} {y : MethodName} {bytes : ByteArray} {ret : Option FieldType} {pc : Nat} {ls : List Slot} {st : List Value} {H : AHeap}
theorem cR_some {i : Nat} {y' : MethodName} {b : ByteArray} {mx na sl : Nat} {r : Option FieldType} (h : cR ws dn y i = some (y', b, mx, r, na, sl)) :
    Jvm.Cond.methodLink y.cls i y' ∈ ws ∧ Jvm.Cond.code y' b mx r ∈ ws ∧ Jvm.Cond.initialized y'.cls ∈ ws ∧ Jvm.plainName y'.cls = true ∧ (y'.cls ≠ "java/lang/invoke/MethodHandle" ∧ y'.cls ≠ "java/lang/invoke/VarHandle") ∧ rCode ws y' = some (b, mx, r) ∧
    ∃ f' l' f l sig, dnOf dn y' = some (f', l') ∧ dnOf dn y = some (f, l) ∧ parseMethodDescriptor y'.desc = some sig ∧ na = sig.parameters.length ∧ f' + 1 ≤ f ∧ sl + (mx + 11) + l' ≤ l := by
  unfold cR at h
  split at h
  · cases h
  · rename_i z q1
    split at h
    · rename_i b' mx' r' f' l' f l sig q2 q3 q4 q5
      split at h
      · rename_i g
        cases h
        obtain ⟨g1, g2, g3, g4, g5, g6⟩ := g
        exact ⟨rMth_mem q1, rCode_mem q2, hasInit_mem g1, g2, ⟨g3, g4⟩, q2, f', l', f, l, sig, q3, q4, q5, rfl, g5, by omega⟩
      · cases h
    · cases h
theorem act_ret {v : Option Value} (h : act ws dn k y bytes ret pc ls st H = some (.inl v)) : (∃ z r t, decode bytes pc = .ok (.ireturn, 1) ∧ st = .int z :: r ∧ ret = some t ∧ (t = .int ∨ t = .boolean ∨ t = .byte ∨ t = .char ∨ t = .short) ∧ v = some (.int (nar t z))) ∨
    (∃ z, decode bytes pc = .ok (.lreturn, 1) ∧ st = [.long z] ∧ ret = some .long ∧ v = some (.long z)) ∨ (decode bytes pc = .ok (.return_, 1) ∧ st = [] ∧ ret = none ∧ v = none) := by
  unfold act at h
  split at h
  · cases h
  rename_i ins len hd
  split at h
  · cases h
  split at h
  · cases h
  unfold cstep at h
  split at h
  · obtain ⟨rfl, h⟩ := chk_some h
    split at h
    · split at h
      · rename_i g; cases h; exact Or.inl ⟨_, _, _, hd, rfl, rfl, g, rfl⟩
      · cases h
    · cases h
  · obtain ⟨rfl, h⟩ := chk_some h
    split at h
    · cases h; exact Or.inr (Or.inl ⟨_, hd, rfl, rfl, rfl⟩)
    · cases h
  · obtain ⟨rfl, h⟩ := chk_some h
    split at h
    · cases h; exact Or.inr (Or.inr ⟨hd, rfl, rfl, rfl⟩)
    · cases h
  · obtain ⟨rfl, h⟩ := chk_some h
    split at h
    · split at h <;> cases h
    · cases h
  · obtain ⟨rfl, h⟩ := chk_some h
    split at h
    · split at h
      · split at h <;> cases h
      · cases h
    · split at h
      · split at h
        · split at h <;> cases h
        · cases h
      · cases h
  · obtain ⟨rfl, h⟩ := chk_some h
    split at h
    · split at h
      · split at h
        · split at h <;> cases h
        · cases h
      · cases h
    · cases h
  · cases h
theorem act_step {pc' : Nat} {ls' : List Slot} {st' : List Value} {H' : AHeap} (h : act ws dn k y bytes ret pc ls st H = some (.inr (.inl (pc', ls', st', H')))) : ∃ ins len, decode bytes pc = .ok (ins, len) ∧
    ((xstep ins len pc ls st = some (pc', ls', st') ∧ H' = H) ∨ (ls' = ls ∧ hstep ws k y ins len pc st H = some (pc', st', H')) ∨
     (∃ i sl a r, ins = .invokespecial i ∧ len = 3 ∧ oR ws dn y i = some sl ∧ st = .ref a :: r ∧ wsum r ≤ sl ∧ pc' = pc + 3 ∧ ls' = ls ∧ st' = r ∧ H' = H)) := by
  unfold act at h
  split at h
  · cases h
  rename_i ins len hd
  refine ⟨ins, len, hd, ?_⟩
  split at h
  · rename_i g; cases h; exact Or.inl ⟨g, rfl⟩
  split at h
  · rename_i g; cases h; exact Or.inr (Or.inl ⟨rfl, g⟩)
  unfold cstep at h
  split at h
  · obtain ⟨rfl, h⟩ := chk_some h
    split at h
    · split at h <;> cases h
    · cases h
  · obtain ⟨rfl, h⟩ := chk_some h
    split at h <;> cases h
  · obtain ⟨rfl, h⟩ := chk_some h
    split at h <;> cases h
  · obtain ⟨rfl, h⟩ := chk_some h
    split at h
    · split at h <;> cases h
    · cases h
  · obtain ⟨rfl, h⟩ := chk_some h
    split at h
    · rename_i sl ho
      split at h
      · split at h
        · rename_i g; cases h; exact Or.inr (Or.inr ⟨_, sl, _, _, rfl, rfl, ho, rfl, g, rfl, rfl, rfl, rfl⟩)
        · cases h
      · cases h
    · split at h
      · split at h
        · split at h <;> cases h
        · cases h
      · cases h
  · obtain ⟨rfl, h⟩ := chk_some h
    split at h
    · split at h
      · split at h
        · split at h <;> cases h
        · cases h
      · cases h
    · cases h
  · cases h
/-- the three kinds of call -/
theorem act_call {y' : MethodName} {b : ByteArray} {r : Option FieldType} {en : List Slot} {rest : List Value} (h : act ws dn k y bytes ret pc ls st H = some (.inr (.inr (y', b, r, en, rest)))) : ∃ i mx na sl as, cR ws dn y i = some (y', b, mx, r, na, sl) ∧ en = entry as mx ∧ (ent as).length ≤ mx ∧ wsum rest ≤ sl ∧
    ((decode bytes pc = .ok (.invokestatic i, 3) ∧ Jvm.Cond.static y' ∈ ws ∧ as.length = na ∧ st = as.reverse ++ rest) ∨
     (∃ a as', as = .ref a :: as' ∧ as'.length = na ∧ st = as'.reverse ++ .ref a :: rest ∧ Jvm.Cond.instanceMethod y' ∈ ws ∧
      ((decode bytes pc = .ok (.invokespecial i, 3) ∧ y'.name = "<init>" ∧ r = none) ∨
       (decode bytes pc = .ok (.invokevirtual i, 3) ∧ ∃ C vs, H[a]? = some (.object C, vs) ∧ ((Jvm.Cond.privateMethod y' ∈ ws ∧ ∃ ki, Jvm.Cond.instantiable y'.cls ki ∈ ws) ∨ (Jvm.Cond.declares y' ∈ ws ∧ Jvm.Cond.selects y'.cls y' y' ∈ ws ∧ C = y'.cls)))))) := by
  unfold act at h
  split at h
  · cases h
  rename_i ins len hd
  split at h
  · cases h
  split at h
  · cases h
  unfold cstep at h
  split at h
  · obtain ⟨rfl, h⟩ := chk_some h
    split at h
    · split at h <;> cases h
    · cases h
  · obtain ⟨rfl, h⟩ := chk_some h
    split at h <;> cases h
  · obtain ⟨rfl, h⟩ := chk_some h
    split at h <;> cases h
  · rename_i i _ _
    obtain ⟨rfl, h⟩ := chk_some h
    split at h
    · rename_i y1 b1 mx r1 na sl hq
      split at h
      · rename_i g
        cases h
        unfold sR at hq
        split at hq
        · rename_i q hc
          split at hq
          · rename_i hs
            cases hq
            refine ⟨i, mx, na, sl, _, hc, rfl, g.2.2, g.2.1, Or.inl ⟨hd, hasStat_mem hs, by simp; omega, by simp⟩⟩
          · cases hq
        · cases hq
      · cases h
    · cases h
  · rename_i i _ _
    obtain ⟨rfl, h⟩ := chk_some h
    split at h
    · split at h
      · split at h <;> cases h
      · cases h
    · split at h
      · rename_i y1 b1 mx r1 na sl hq
        split at h
        · rename_i a rest' hdrop
          split at h
          · rename_i g
            cases h
            unfold nR at hq
            split at hq
            · rename_i q hc
              split at hq
              · rename_i hs
                cases hq
                refine ⟨i, mx, na, sl, _, hc, rfl, g.2.1, g.1, Or.inr ⟨a, _, rfl, by simp; omega, ?_, hasIM_mem hs.2.1, Or.inl ⟨hd, hs.1, hs.2.2⟩⟩⟩
                rw [List.reverse_reverse, ← hdrop, List.take_append_drop]
              · cases hq
            · cases hq
          · cases h
        · cases h
      · cases h
  · rename_i i _ _
    obtain ⟨rfl, h⟩ := chk_some h
    split at h
    · rename_i pv y1 b1 mx r1 na sl hq
      split at h
      · rename_i a rest' hdrop
        split at h
        · rename_i C vs hH
          split at h
          · rename_i g
            cases h
            unfold vR at hq
            split at hq
            · rename_i q hc
              split at hq
              · rename_i hs
                split at hq
                · rename_i hp; cases hq
                  obtain ⟨ki, hki⟩ := Option.isSome_iff_exists.mp hp.2
                  exact ⟨i, mx, na, sl, _, hc, rfl, g.2.2.1, g.2.1, Or.inr ⟨a, _, rfl, by simp; omega, by rw [List.reverse_reverse, ← hdrop, List.take_append_drop], hasIM_mem hs, Or.inr ⟨hd, C, vs, hH, Or.inl ⟨hasPriv_mem hp.1, ki, rInst_mem hki⟩⟩⟩⟩
                · split at hq
                  · rename_i hp; cases hq
                    exact ⟨i, mx, na, sl, _, hc, rfl, g.2.2.1, g.2.1, Or.inr ⟨a, _, rfl, by simp; omega, by rw [List.reverse_reverse, ← hdrop, List.take_append_drop], hasIM_mem hs, Or.inr ⟨hd, C, vs, hH, Or.inr ⟨hasDecl_mem hp.1, hasSel_mem hp.2, g.1.resolve_left (by simp)⟩⟩⟩⟩
                  · cases hq
              · cases hq
            · cases hq
          · cases h
        · cases h
      · cases h
    · cases h
  · cases h
theorem act_size {pc' : Nat} {ls' : List Slot} {st' : List Value} {H' : AHeap} (h : act ws dn k y bytes ret pc ls st H = some (.inr (.inl (pc', ls', st', H')))) : H.length ≤ H'.length ∧ tot ws H ≤ tot ws H' ∧ ls'.length = ls.length := by
  obtain ⟨ins, len, hd, ⟨g, rfl⟩ | ⟨rfl, g⟩ | ⟨i, sl, a, r, -, -, -, -, -, -, rfl, -, rfl⟩⟩ := act_step h
  · exact ⟨Nat.le_refl _, Nat.le_refl _, xstep_size g⟩
  · have := hstep_size g; exact ⟨this.1, this.2, rfl⟩
  · exact ⟨Nat.le_refl _, Nat.le_refl _, rfl⟩
end Inv
theorem run_size {ws : Ws} {dn : Dn} {k : Nat} : ∀ {n : Nat} {y : MethodName} {bytes : ByteArray} {ret : Option FieldType} {pc : Nat} {ls : List Slot} {st : List Value} {H : AHeap} {v : Option Value} {H' : AHeap}, run ws dn k n y bytes ret pc ls st H = some (v, H') → H.length ≤ H'.length ∧ tot ws H ≤ tot ws H'
  | 0, _, _, _, _, _, _, _, _, _, h => by cases h
  | n + 1, y, bytes, ret, pc, ls, st, H, v, H', h => by
    rw [run] at h
    split at h
    · cases h
    · cases h; exact ⟨Nat.le_refl _, Nat.le_refl _⟩
    · rename_i g
      have h1 := run_size h
      have h2 := act_size g
      exact ⟨Nat.le_trans h2.1 h1.1, Nat.le_trans h2.2.1 h1.2⟩
    · split at h
      · rename_i g
        have h1 := run_size h
        have h2 := run_size g
        exact ⟨Nat.le_trans h2.1 h1.1, Nat.le_trans h2.2 h1.2⟩
      · cases h
section Snd
/-- from here on the machine comes to a return of v with the heap H' -/
def Goes (p : Program) (l : Launch) (e : Env) (R : Room) (s : State) (m : MethodId) (args : Array Value) (below : List Frame) (meth : Method) (c : Code) (T : State) (Z : State) (ws : Ws) (k sa n0 cells slots : Nat) (H : AHeap) (g : JFrame) (ret : Option FieldType) (v : Option Value) (H' : AHeap) : Prop :=
  ∃ T' locs', Stand p l e R s m args below meth c T' locs' (cells + (H'.length - H.length)) (slots + (tot ws H' - tot ws H)) ∧ Sim Z ws k sa n0 H' T'.heap ∧ Fr n0 locs' ∧ (ret = none → v = none) ∧
    ∀ fs, (∀ (fj : JFrame) (acts : List Action), fj.method = m → fj.locked = none → fj.entered = [] → (doReturn e (T'.setTop fj) acts (v.map (ren (adr k sa n0)))).1 = T'.setFrames fs) → Steps p.tables e below (T.setTop g) (T'.setFrames fs)
variable {p : Program} {l : Launch} {e : Env} {R : Room} {s : State} {m : MethodId} {args : Array Value} {below : List Frame} {meth : Method} {c : Code} {T : State} {locs : List Loc} {cells slots : Nat}
  {Z : State} {a0 : Array Value} {ws : Ws} {dn : Dn} {k sa n0 : Nat}
theorem Goes.of {T1 : State} {H H1 H' : AHeap} {g g1 : JFrame} {ret : Option FieldType} {v : Option Value} (hst : ∀ target, Steps p.tables e below (T1.setTop g1) target → Steps p.tables e below (T.setTop g) target)
    (G : Goes p l e R s m args below meth c T1 Z ws k sa n0 (cells + (H1.length - H.length)) (slots + (tot ws H1 - tot ws H)) H1 g1 ret v H') (m1 : H.length ≤ H1.length ∧ tot ws H ≤ tot ws H1) (m2 : H1.length ≤ H'.length ∧ tot ws H1 ≤ tot ws H') :
    Goes p l e R s m args below meth c T Z ws k sa n0 cells slots H g ret v H' := by
  obtain ⟨T', locs', X', S', N', hv, go⟩ := G
  have e1 : cells + (H1.length - H.length) + (H'.length - H1.length) = cells + (H'.length - H.length) := by omega
  have e2 : slots + (tot ws H1 - tot ws H) + (tot ws H' - tot ws H1) = slots + (tot ws H' - tot ws H) := by omega
  rw [e1, e2] at X'
  exact ⟨T', locs', X', S', N', hv, fun fs hf => hst _ (go fs hf)⟩
def Snd (Z : State) (ws : Ws) (dn : Dn) (k sa n0 n : Nat) : Prop :=
  ∀ (y : MethodName) (bytes : ByteArray) (ret : Option FieldType) (pc : Nat) (ls : List Slot) (st : List Value) (H : AHeap) (v : Option Value) (H' : AHeap), run ws dn k n y bytes ret pc ls st H = some (v, H') →
  ∀ (p : Program) (l : Launch) (e : Env) (R : Room) (s : State) (m : MethodId) (args : Array Value) (below : List Frame) (meth : Method) (c : Code) (T : State) (locs : List Loc) (cells slots : Nat),
    Stand p l e R s m args below meth c T locs cells slots → p.tables.exec = Jvm.exec → Z.Warmed39 s.vm → s.vm.findClass y.cls = some m.cls → meth.name = y.name → meth.sig.returnType = ret → c.code = bytes → ls.length = c.maxLocals →
    (∀ f lc, dnOf dn y = some (f, lc) → f ≤ R.frames ∧ lc ≤ R.locals) → Sim Z ws k sa n0 H T.heap → Fr n0 locs → cells + (H'.length - H.length) ≤ R.cells → slots + (tot ws H' - tot ws H) ≤ R.slots → T.heap.size = s.heap.size + cells →
    Goes p l e R s m args below meth c T Z ws k sa n0 cells slots H (fr (adr k sa n0) m pc ls st) ret v H'
theorem met_of {n : Nat} (ih : Snd Z ws dn k sa n0 n) (l : Launch) {y : MethodName} {b : ByteArray} {mx f lc : Nat} {r : Option FieldType} (wsx : List Jvm.Cond) (hp : Jvm.plainName y.cls = true) {as : List Value} (he : (ent as).length ≤ mx) {H H1 : AHeap} {v : Option Value}
    (hrun : run ws dn k n y b r 0 (entry as mx) [] H = some (v, H1)) (hdn : ∀ f' l', dnOf dn y = some (f', l') → f' ≤ f ∧ l' ≤ lc) {h : Heap} (S : Sim Z ws k sa n0 H h) {rc rs : Nat} (hc : H1.length - H.length ≤ rc) (hs : tot ws H1 - tot ws H ≤ rs) :
    MetFree l y (head1 (Jvm.Cond.code y b mx r :: wsx) ({ frames := f, cells := rc, slots := rs, locals := lc } : Room)) (fun a U => a = (as.map (ren (adr k sa n0))).toArray ∧ Z.Warmed39 U.vm ∧ U.heap = h) (fun _ _ _ _ _ => True)
      (fun _ U o U' => ∃ w L, o = .returned w ∧ (w = v.map (ren (adr k sa n0)) ∧ Sim Z ws k sa n0 H1 U'.heap ∧ Fr n0 L) ∧ FrameEnd U o U' L (H1.length - H.length) (tot ws H1 - tot ws H)) := by
  refine MetFree.of_bodySF (plainFor_of_name hp) hisR ?_
  intro p e s m args below meth c s₁ Bd hml0 hP hK
  obtain ⟨rfl, hZ, hh⟩ := hP
  have hown : s.vm.findClass y.cls = some m.cls := findClass_of_methodNamed Bd.named
  have hnm := (name_of_methodNamed Bd.named Bd.method).1
  have X0 : Stand p l e ({ frames := f, cells := rc, slots := rs, locals := lc } : Room) s m (as.map (ren (adr k sa n0))).toArray below meth c s₁ [] 0 0 := Stand.of_body Bd
  have e0 : s₁.heap = h := by rw [← hh, Bd.state]; rfl
  obtain ⟨T', locs', X', S', N', hv, go⟩ := ih y b r 0 (entry as mx) [] H v H1 hrun p l e _ s m _ below meth c s₁ [] 0 0 X0 Bd.exec hZ hown hnm Bd.returns Bd.bytes (by rw [entry_len he]; exact hml0.symm) hdn (by rw [e0]; exact S) (Fr.nil n0) (by rw [Nat.zero_add]; exact hc) (by rw [Nat.zero_add]; exact hs) (by rw [e0, ← hh, Nat.add_zero])
  obtain ⟨fs, hr, hrun', hended, hW, hsame⟩ := X'.leave (v := v.map (ren (adr k sa n0))) (fun hn => by rw [Bd.returns] at hn; rw [hv hn]; rfl)
  refine ⟨_, _, castTop (entry_eq _ m as mx) (go fs hr), hrun', hended, _, locs', rfl, ⟨rfl, S', N'⟩, ⟨_, rfl⟩, hW, hsame.mono (Nat.le_of_eq (Nat.zero_add _)) (Nat.le_of_eq (Nat.zero_add _))⟩
set_option maxHeartbeats 2000000 in
theorem snd (hw : ∀ d ∈ ws, d.before a0 Z = true) : ∀ n, Snd Z ws dn k sa n0 n
  | 0 => fun y bytes ret pc ls st H v H' h => by cases h
  | n + 1 => fun y bytes ret pc ls st H v H' h p l e R s m args below meth c T locs cells slots X hx hZ hown hnm hret hby hls hF S N hc hl hz0 => by
    have ih := snd hw n
    rw [run] at h
    split at h
    · cases h
    · rename_i v' ha
      cases h
      have stay : ∀ {v : Option Value}, (ret = none → v = none) → (∀ fs, (∀ (fj : JFrame) (acts : List Action), fj.method = m → fj.locked = none → fj.entered = [] → (doReturn e (T.setTop fj) acts (v.map (ren (adr k sa n0)))).1 = T.setFrames fs) → Steps p.tables e below (T.setTop (fr (adr k sa n0) m pc ls st)) (T.setFrames fs)) →
          Goes p l e R s m args below meth c T Z ws k sa n0 cells slots H (fr (adr k sa n0) m pc ls st) ret v H := fun hv hg => ⟨T, locs, by rw [Nat.sub_self, Nat.sub_self]; exact X, S, N, hv, hg⟩
      rcases act_ret ha with ⟨z, r, t, hd, rfl, rfl, ht, rfl⟩ | ⟨z, hd, rfl, rfl, rfl⟩ | ⟨hd, rfl, rfl, rfl⟩
      · refine stay (fun h => by cases h) fun fs hf => ?_
        rcases ht with rfl | ht
        · exact retOut X hx hret (w := .int z) (rest := r.map (ren (adr k sa n0))) rfl (Or.inl ⟨rfl, Or.inl rfl, z, rfl⟩) (hb hby hd) hf
        · exact retN X hx hret ht (hb hby hd) hf
      · exact stay (fun h => by cases h) fun fs hf => retOut X hx hret (w := .long z) (rest := []) rfl (Or.inr (Or.inl ⟨rfl, rfl, z, rfl⟩)) (hb hby hd) hf
      · exact stay (fun _ => rfl) fun fs hf => X.returnOut hx hret (hb hby hd) hf
    · rename_i pc' ls' st' H1 ha
      have m1 := act_size ha
      have m2 := run_size h
      obtain ⟨ins, len, hd, ⟨g, rfl⟩ | ⟨rfl, g⟩ | ⟨i, sl, a, r, rfl, rfl, ho, rfl, hW, rfl, rfl, rfl, rfl⟩⟩ := act_step ha
      · obtain ⟨T', locs', X', S', N', hv, go⟩ := ih y bytes ret pc' ls' st' H1 v H' h p l e R s m args below meth c T locs cells slots X hx hZ hown hnm hret hby (m1.2.2.trans hls) hF S N hc hl hz0
        exact ⟨T', locs', X', S', N', hv, fun fs hf => xstep_sound X.here hx (adr k sa n0) (hb hby hd) g (go fs hf)⟩
      · obtain ⟨T1, locs1, X1, S1, N1, st1⟩ := hstep_sound (ls := ls') hw X hx hZ hown hnm (hb hby hd) g S N (by dsimp only; omega) (by dsimp only; omega) hz0
        dsimp only at X1 S1 st1
        have z1 := S.1
        have z2 := S1.1
        have z3 := S.2.1
        have G := ih y bytes ret pc' ls' st' H1 v H' h p l e R s m args below meth c T1 locs1 _ _ X1 hx hZ hown hnm hret hby hls hF S1 N1 (by omega) (by omega) (by omega)
        exact Goes.of st1 G ⟨m1.1, m1.2.1⟩ m2
      · unfold oR at ho
        split at ho
        · rename_i y1 b1 mx1 r1 f1 l1 q1 q2 q3
          split at ho
          · rename_i g
            cases ho
            obtain ⟨rfl, g2, g3, rfl, rfl, g4, g5⟩ := g
            obtain ⟨u1, u2⟩ := hF _ _ q3
            have eb : b1 = ⟨#[0xb1]⟩ := by cases b1; cases g3; rfl
            subst eb
            obtain ⟨T1, X1, e1, st1⟩ := initO X hx hZ hown (hw _ (rMth_mem q1)) (hw _ (hasIM_mem g2)) (hw _ (rCode_mem q2)) rfl (g := fr (adr k sa n0) m pc ls' (.ref a :: st')) rfl (by simp [hls]) rfl (hb hby hd) (by omega) (W := l1 - 12) (by show 2 * 0 + _ ≤ _; rw [wsum_ren]; omega) (by omega)
            have G := ih y bytes ret (pc + 3) ls' st' H1 v H' h p l e R s m args below meth c T1 locs cells slots X1 hx hZ hown hnm hret hby hls hF (by rw [e1]; exact S) N hc hl (by rw [e1]; exact hz0)
            obtain ⟨T', locs', X', S', N', hv, go⟩ := G
            exact ⟨T', locs', X', S', N', hv, fun fs hf => st1 _ (go fs hf)⟩
          · cases ho
        · cases ho
    · rename_i y' b r en rest ha
      split at h
      · rename_i v1 H1 h1
        have m1 := run_size h1
        have m2 := run_size h
        obtain ⟨i, mx, na, sl, as, hq, rfl, hen, hW, hk⟩ := act_call ha
        obtain ⟨w1, w2, w3, w4, w5, -, f', l', f, lc, sig, d1, d2, d3, d4, d5, d6⟩ := cR_some hq
        obtain ⟨u1, u2⟩ := hF _ _ d2
        have hM := met_of ih l [] w4 hen h1 (f := f') (lc := l') (fun f2 l2 q => by rw [d1] at q; cases q; exact ⟨Nat.le_refl _, Nat.le_refl _⟩) S (Nat.le_refl _) (Nat.le_refl _)
        have hB := backOf (R := R) (p := p) (e := e) (below := below) (s := s) (args := args) (len := 3) (W := sl) (rm := ({ frames := f', cells := H1.length - H.length, slots := tot ws H1 - tot ws H, locals := l' } : Room)) (Q := fun w h L => w = v1.map (ren (adr k sa n0)) ∧ Sim Z ws k sa n0 H1 h ∧ Fr n0 L) hM hZ (hw _ w2) (hw _ w3) (by show f' + 1 ≤ _; omega) (by show sl + (mx + 11) + l' ≤ _; omega)
        have hsz : (fr (adr k sa n0) m pc ls st).locals.size = c.maxLocals := by simp [hls]
        have hWW : ∀ st' : List Value, wsum st' ≤ sl → 2 * (fr (adr k sa n0) m pc ls st).monitorRoom + ((st'.map (ren (adr k sa n0))).map fun v => v.category).sum ≤ sl := fun st' q => by show 2 * 0 + _ ≤ _; rw [wsum_ren]; omega
        have hback : ∀ (v' : Option Value) (vm₁ : Vm) (B : Pt), Stand p l e R s m args below meth c B.U B.locs B.cells B.slots →
            (∃ L, (v' = v1.map (ren (adr k sa n0)) ∧ Sim Z ws k sa n0 H1 B.U.heap ∧ Fr n0 L) ∧ B.locs = locs ++ L ∧ B.cells = cells + (H1.length - H.length) ∧ B.slots = slots + (tot ws H1 - tot ws H)) →
            (∀ target, Steps p.tables e below (B.U.setTop { fr (adr k sa n0) m pc ls st with pc := pc + 3, stack := v'.toList ++ rest.map (ren (adr k sa n0)) }) target → Steps p.tables e below (T.setTop (fr (adr k sa n0) m pc ls st)) target) →
            Goes p l e R s m args below meth c T Z ws k sa n0 cells slots H (fr (adr k sa n0) m pc ls st) ret v H' := by
          rintro v' vm₁ ⟨T1, L1, k1, n1⟩ X1 ⟨Lc, ⟨rfl, S1, N1⟩, l1, y1, z1⟩ st1
          dsimp only [Pt.U, Pt.locs, Pt.cells, Pt.slots] at X1 l1 y1 z1 st1 S1
          subst l1 y1 z1
          have z1 := S.1
          have z2 := S1.1
          have z3 := S.2.1
          have G := ih y bytes ret (pc + 3) ls (v1.toList ++ rest) H1 v H' h p l e R s m args below meth c T1 _ _ _ X1 hx hZ hown hnm hret hby hls hF S1 (Fr.app N N1) (by omega) (by omega) (by omega)
          refine Goes.of (fun target ht => st1 target ?_) G m1 m2
          have e1 : (v1.toList ++ rest).map (ren (adr k sa n0)) = (v1.map (ren (adr k sa n0))).toList ++ rest.map (ren (adr k sa n0)) := by cases v1 <;> simp
          rw [← e1]; exact ht
        rcases hk with ⟨hd, ws1, hna, rfl⟩ | ⟨a, as', rfl, hna, rfl, wi, ⟨hd, hn, rfl⟩ | ⟨hd, C, vs, hH, hpd⟩⟩
        · obtain ⟨v', vm₁, B, -, X1, P1, st1⟩ := Jvm.LawKit.callS X hx (y := y') hown (mvT hZ (hw _ w1)) (mvT hZ (hw _ ws1)) (mvT hZ (hw _ w3)) (mvT hZ (hw _ w2)) w5 hB (g := fr (adr k sa n0) m pc ls (as.reverse ++ rest)) rfl hsz (argsL := as.map (ren (adr k sa n0))) (rest := rest.map (ren (adr k sa n0)))
            (fun sg hsg => by rw [d3] at hsg; cases hsg; simp [hna, d4]) (by simp) (hWW rest hW) (hb hby hd) (fun _ _ => ⟨rfl, rfl, by show cells + (H1.length - H.length) ≤ _; omega, by show slots + (tot ws H1 - tot ws H) ≤ _; omega⟩)
          exact hback v' vm₁ B X1 P1 st1
        · obtain ⟨v', vm₁, B, -, X1, P1, st1⟩ := X.specialBack hx (y := y') hn hown (mvT hZ (hw _ w1)) (mvT hZ (hw _ wi)) (mvT hZ (hw _ w2)) w5 hB (g := fr (adr k sa n0) m pc ls (as'.reverse ++ .ref a :: rest)) rfl hsz (Steps.refl _) (a := adr k sa n0 a) (argsL := as'.map (ren (adr k sa n0))) (rest := rest.map (ren (adr k sa n0)))
            (fun sg hsg => by rw [d3] at hsg; cases hsg; simp [hna, d4]) (by simp [ren]) (hWW rest hW) (hb hby hd) (fun _ _ => ⟨rfl, rfl, by show cells + (H1.length - H.length) ≤ _; omega, by show slots + (tot ws H1 - tot ws H) ≤ _; omega⟩)
          exact hback v' vm₁ B X1 P1 fun target ht => st1.trans ht
        · have E := (S.2.2.2.2 a _ hH).1
          rcases hpd with ⟨wp, ki, wki⟩ | ⟨wd, wsel, rfl⟩
          · obtain ⟨cq, hq1, hq2⟩ := E.cell
            have hpa : s.PrivateAt y' := Cond.privateMethod_at (mvP hZ (hw _ wp) (args := #[]))
            have hsel : (Jvm.Cond.selects y'.cls y' y').before args s = true := by
              have wz : (Jvm.Cond.instantiable y'.cls ki).before args s = true := mvT hZ (hw _ wki)
              obtain ⟨c2, k2, i1, i2, -, i4, -⟩ := Cond.instantiable_spec wz
              exact selects_self_of_private i1 i2 (Bool.or_eq_false_iff.mp i4).1 hpa (mvT hZ (hw _ wi)) w5
            obtain ⟨v', vm₁, B, -, X1, P1, st1⟩ := X.privateBack hx (y := y') hown (mvT hZ (hw _ w1)) (mvT hZ (hw _ wi)) hsel hpa (mvT hZ (hw _ w2)) w5 hB (g := fr (adr k sa n0) m pc ls (as'.reverse ++ .ref a :: rest)) rfl hsz (Steps.refl _) (a := adr k sa n0 a) hq1 hq2 (argsL := as'.map (ren (adr k sa n0))) (rest := rest.map (ren (adr k sa n0)))
              (fun sg hsg => by rw [d3] at hsg; cases hsg; simp [hna, d4]) (by simp [ren]) (hWW rest hW) (hb hby hd) (fun _ _ => ⟨rfl, rfl, by show cells + (H1.length - H.length) ≤ _; omega, by show slots + (tot ws H1 - tot ws H) ≤ _; omega⟩)
            exact hback v' vm₁ B X1 P1 fun target ht => st1.trans ht
          · obtain ⟨cq, kq, qa, qb, qc⟩ := isOf hZ rfl E
            obtain ⟨v', vm₁, B, -, X1, P1, st1⟩ := X.virtualBack hx (y := y') (z := y') hown (mvT hZ (hw _ w1)) (mvT hZ (hw _ wd)) (notFace_of_selects (args := #[]) (mvT hZ (hw _ wsel))) (mvT hZ (hw _ wsel)) (mvT hZ (hw _ wi)) w5 hB qa qc (g := fr (adr k sa n0) m pc ls (as'.reverse ++ .ref a :: rest)) rfl hsz (Steps.refl _) (argsL := as'.map (ren (adr k sa n0))) (rest := rest.map (ren (adr k sa n0)))
              (fun sg hsg => by rw [d3] at hsg; cases hsg; simp [hna, d4]) (by simp [ren]) (hWW rest hW) (hb hby hd) (fun _ _ => ⟨rfl, rfl, by show cells + (H1.length - H.length) ≤ _; omega, by show slots + (tot ws H1 - tot ws H) ≤ _; omega⟩)
            exact hback v' vm₁ B X1 P1 fun target ht => st1.trans ht
      · cases h
end Snd
end Jvm.Own
namespace Jvm.Own
open Sem ClassFile Op Lib Jvm.Stand Jvm.Free Jvm.LawKit Jvm.RoadKit
/-! OWN 6: from here on no machine is in sight -/
theorem run_succ {ws : Ws} {dn : Dn} {k : Nat} : ∀ {n : Nat} {y : MethodName} {bytes : ByteArray} {ret : Option FieldType} {pc : Nat} {ls : List Slot} {st : List Value} {H : AHeap} {r : Option Value × AHeap}, run ws dn k n y bytes ret pc ls st H = some r → run ws dn k (n + 1) y bytes ret pc ls st H = some r
  | 0, _, _, _, _, _, _, _, _, h => by cases h
  | n + 1, y, bytes, ret, pc, ls, st, H, r, h => by
    rw [run] at h
    rw [run]
    split at h
    · cases h
    · exact h
    · exact run_succ h
    · split at h
      · rename_i v H1 g
        rw [run_succ g]
        exact run_succ h
      · cases h
theorem run_mono {ws : Ws} {dn : Dn} {k n n' : Nat} {y : MethodName} {bytes : ByteArray} {ret : Option FieldType} {pc : Nat} {ls : List Slot} {st : List Value} {H : AHeap} {r : Option Value × AHeap} (hn : n ≤ n') (h : run ws dn k n y bytes ret pc ls st H = some r) : run ws dn k n' y bytes ret pc ls st H = some r := by
  induction hn with
  | refl => exact h
  | step _ ih => exact run_succ ih
/-- from here on a run comes to a return at which Q holds -/
def W (ws : Ws) (dn : Dn) (k : Nat) (y : MethodName) (bytes : ByteArray) (ret : Option FieldType) (pc : Nat) (ls : List Slot) (st : List Value) (H : AHeap) (Q : Option Value → AHeap → Prop) : Prop :=
  ∃ n v H', run ws dn k n y bytes ret pc ls st H = some (v, H') ∧ Q v H'
section
variable {ws : Ws} {dn : Dn} {k : Nat} {y : MethodName} {bytes : ByteArray} {ret : Option FieldType} {pc : Nat} {ls : List Slot} {st : List Value} {H : AHeap} {Q : Option Value → AHeap → Prop}
theorem W_step {pc' : Nat} {ls' : List Slot} {st' : List Value} {H' : AHeap} (h : act ws dn k y bytes ret pc ls st H = some (.inr (.inl (pc', ls', st', H')))) : W ws dn k y bytes ret pc ls st H Q = W ws dn k y bytes ret pc' ls' st' H' Q := by
  refine propext ⟨fun ⟨n, v, H1, h1, h2⟩ => ?_, fun ⟨n, v, H1, h1, h2⟩ => ⟨n + 1, v, H1, by rw [run, h]; exact h1, h2⟩⟩
  cases n with
  | zero => cases h1
  | succ n => rw [run, h] at h1; exact ⟨n, v, H1, h1, h2⟩
theorem W_ret {v : Option Value} (h : act ws dn k y bytes ret pc ls st H = some (.inl v)) : W ws dn k y bytes ret pc ls st H Q = Q v H := by
  refine propext ⟨fun ⟨n, v, H1, h1, h2⟩ => ?_, fun h2 => ⟨1, v, H, by rw [run, h], h2⟩⟩
  cases n with
  | zero => cases h1
  | succ n => rw [run, h] at h1; cases h1; exact h2
theorem W_call {y' : MethodName} {b : ByteArray} {r : Option FieldType} {en : List Slot} {rest : List Value} (h : act ws dn k y bytes ret pc ls st H = some (.inr (.inr (y', b, r, en, rest)))) :
    W ws dn k y bytes ret pc ls st H Q = W ws dn k y' b r 0 en [] H (fun v H1 => W ws dn k y bytes ret (pc + 3) ls (v.toList ++ rest) H1 Q) := by
  refine propext ⟨fun ⟨n, v, H1, h1, h2⟩ => ?_, fun ⟨n, v, H1, h1, n', v', H', h2, h3⟩ => ⟨max n n' + 1, v', H', ?_, h3⟩⟩
  · cases n with
    | zero => cases h1
    | succ n =>
      rw [run, h] at h1
      dsimp only at h1
      split at h1
      · rename_i v' H' g; exact ⟨n, v', H', g, n, v, H1, h1, h2⟩
      · cases h1
  · rw [run, h]
    dsimp only
    rw [run_mono (Nat.le_max_left _ _) h1]
    exact run_mono (Nat.le_max_right _ _) h2
theorem W.mono {Q' : Option Value → AHeap → Prop} (h : W ws dn k y bytes ret pc ls st H Q) (hq : ∀ v H', Q v H' → Q' v H') : W ws dn k y bytes ret pc ls st H Q' := by
  obtain ⟨n, v, H', h1, h2⟩ := h; exact ⟨n, v, H', h1, hq _ _ h2⟩
theorem act_x {ins : Instr} {len pc' : Nat} {ls' : List Slot} {st' : List Value} (hd : decode bytes pc = .ok (ins, len)) (hx : xstep ins len pc ls st = some (pc', ls', st')) : act ws dn k y bytes ret pc ls st H = some (.inr (.inl (pc', ls', st', H))) := by
  unfold act; rw [hd]; dsimp only; rw [hx]
theorem act_h {ins : Instr} {len pc' : Nat} {st' : List Value} {H' : AHeap} (hd : decode bytes pc = .ok (ins, len)) (hx : xstep ins len pc ls st = none) (hh : hstep ws k y ins len pc st H = some (pc', st', H')) : act ws dn k y bytes ret pc ls st H = some (.inr (.inl (pc', ls, st', H'))) := by
  unfold act; rw [hd]; dsimp only; rw [hx]; dsimp only; rw [hh]
theorem act_c {ins : Instr} {len : Nat} (hd : decode bytes pc = .ok (ins, len)) (hx : xstep ins len pc ls st = none) (hh : hstep ws k y ins len pc st H = none) : act ws dn k y bytes ret pc ls st H = cstep ws dn y ret ins len pc ls st H := by
  unfold act; rw [hd]; dsimp only; rw [hx]; dsimp only; rw [hh]
/-- a plain step -/
theorem w_x {ins : Instr} {len pc' : Nat} {ls' : List Slot} {st' : List Value} (hd : decode bytes pc = .ok (ins, len)) (hx : xstep ins len pc ls st = some (pc', ls', st')) : W ws dn k y bytes ret pc ls st H Q = W ws dn k y bytes ret pc' ls' st' H Q := W_step (act_x hd hx)
/-- a conditional branch -/
theorem w_if {cd : ClassFile.Cond} {o : Int} {x : Int32} {t : Nat} {P : Prop} [Decidable P] (hd : decode bytes pc = .ok (.ifCond cd o, 3)) (hp : ifCond.holds cd x = decide P) (hj : jmp pc o = some t) :
    W ws dn k y bytes ret pc ls (.int x :: st) H Q = if P then W ws dn k y bytes ret t ls st H Q else W ws dn k y bytes ret (pc + 3) ls st H Q := by
  split
  · exact w_x hd (by simp only [xstep, chk, br, hp, hj, if_true]; simp [*])
  · exact w_x hd (by simp only [xstep, chk, br, hp, hj, if_true]; simp [*])
theorem w_icmp {cd : ClassFile.Cond} {o : Int} {x1 x2 : Int32} {t : Nat} {P : Prop} [Decidable P] (hd : decode bytes pc = .ok (.if_icmp cd o, 3)) (hp : if_icmp.holds cd x1 x2 = decide P) (hj : jmp pc o = some t) :
    W ws dn k y bytes ret pc ls (.int x2 :: .int x1 :: st) H Q = if P then W ws dn k y bytes ret t ls st H Q else W ws dn k y bytes ret (pc + 3) ls st H Q := by
  split
  · exact w_x hd (by simp only [xstep, chk, br, hp, hj, if_true]; simp [*])
  · exact w_x hd (by simp only [xstep, chk, br, hp, hj, if_true]; simp [*])
theorem w_get {i j : Nat} {a : Nat} {C : String} {vs : List Value} {v : Value} (hd : decode bytes pc = .ok (.getfield i, 3)) (hr : gfR ws y.cls i = some (C, j)) (ho : H[a]? = some (.object C, vs)) (hv : vs[j]? = some v) :
    W ws dn k y bytes ret pc ls (.ref a :: st) H Q = W ws dn k y bytes ret (pc + 3) ls (v :: st) H Q :=
  W_step (act_h hd rfl (by simp only [hstep, chk, hGet, hr, ho, hv, if_true, Option.map_some]))
theorem w_put {i j : Nat} {a : Nat} {C : String} {ty : FieldType} {vs : List Value} {v v' : Value} {H' : AHeap} (hd : decode bytes pc = .ok (.putfield i, 3)) (hr : pfR ws y.cls y.name i = some (C, j, ty)) (ho : H[a]? = some (.object C, vs)) (hk : k ≤ a) (hj : j < vs.length) (hv : putv ty v = some v') (hH : H.set a (.object C, vs.set j v') = H') :
    W ws dn k y bytes ret pc ls (v :: .ref a :: st) H Q = W ws dn k y bytes ret (pc + 3) ls st H' Q :=
  W_step (act_h hd rfl (by simp only [hstep, chk, hPut, hr, ho, hv, if_true, true_and, hk, hj, Option.map_some, hH, and_self]))
theorem w_new {i : Nat} {C : String} (hd : decode bytes pc = .ok (.new i, 3)) (hr : hNew ws y.cls i pc H st = some (pc + 3, .ref H.length :: st, H ++ [(.object C, (olay ws C).map dflt)])) :
    W ws dn k y bytes ret pc ls st H Q = W ws dn k y bytes ret (pc + 3) ls (.ref H.length :: st) (H ++ [(.object C, (olay ws C).map dflt)]) Q :=
  W_step (act_h hd rfl (by simp only [hstep, chk, if_true]; exact hr))
theorem w_newA {aty : ArrayType} {n : Int32} {ty : FieldType} (hd : decode bytes pc = .ok (.newarray aty, 2)) (ht : newarray.typeOf aty = ty) (hr : hasArr ws ty = true) (hn : ¬ n < 0) (hb : n.toNatClampNeg * 8 ≤ 536870912) :
    W ws dn k y bytes ret pc ls (.int n :: st) H Q = W ws dn k y bytes ret (pc + 2) ls (.ref H.length :: st) (H ++ [(.array ty, List.replicate n.toNatClampNeg (defaultValue ty))]) Q := by
  subst ht
  exact W_step (act_h hd rfl (by simp only [hstep, chk, hNewA, hr, hn, hb, if_true, not_false_eq_true, and_self]))
/-- may the instruction read an array of that kind? -/
def ldOk : Instr → FieldType → Bool
  | .iaload, .int | .caload, .char | .laload, .long | .baload, .byte | .baload, .boolean => true
  | _, _ => false
def stOk : Instr → FieldType → Bool
  | .iastore, .int | .castore, .char | .lastore, .long | .bastore, .byte | .bastore, .boolean => true
  | _, _ => false
theorem w_ald {ins : Instr} {a : Nat} {j : Int32} {ty : FieldType} {vs : List Value} {v : Value} (hd : decode bytes pc = .ok (ins, 1)) (hi : ldOk ins ty = true) (ho : H[a]? = some (.array ty, vs)) (hj : ¬ j < 0) (hv : vs[j.toNatClampNeg]? = some v) :
    W ws dn k y bytes ret pc ls (.int j :: .ref a :: st) H Q = W ws dn k y bytes ret (pc + 1) ls (v :: st) H Q := by
  unfold ldOk at hi
  split at hi
  all_goals first
    | exact W_step (act_h hd rfl (by simp only [hstep, chk, hLd, okT, okB, ho, hv, hj, if_true, Option.map_some, decide_true, not_false_eq_true, and_self, Bool.or_true, Bool.true_or]))
    | cases hi
theorem w_ast {ins : Instr} {a : Nat} {j : Int32} {ty : FieldType} {vs : List Value} {v v' : Value} {H' : AHeap} (hd : decode bytes pc = .ok (ins, 1)) (hi : stOk ins ty = true) (ho : H[a]? = some (.array ty, vs)) (hk : k ≤ a) (hj : ¬ j < 0) (hl : j.toNatClampNeg < vs.length) (hv : putv ty v = some v') (hH : H.set a (.array ty, vs.set j.toNatClampNeg v') = H') :
    W ws dn k y bytes ret pc ls (v :: .int j :: .ref a :: st) H Q = W ws dn k y bytes ret (pc + 1) ls st H' Q := by
  unfold stOk at hi
  split at hi
  all_goals first
    | exact W_step (act_h hd rfl (by simp only [hstep, chk, hSt, okT, okB, ho, hv, hj, hk, hl, hH, if_true, Option.map_some, decide_true, not_false_eq_true, and_self, Bool.or_true, Bool.true_or]))
    | cases hi
theorem w_len {a : Nat} {ty : FieldType} {vs : List Value} (hd : decode bytes pc = .ok (.arraylength, 1)) (ho : H[a]? = some (.array ty, vs)) :
    W ws dn k y bytes ret pc ls (.ref a :: st) H Q = W ws dn k y bytes ret (pc + 1) ls (.int vs.length.toInt32 :: st) H Q :=
  W_step (act_h hd rfl (by simp only [hstep, chk, hLen, ho, if_true]))
theorem w_ldc {i : Nat} {v : Int32} (hd : decode bytes pc = .ok (.ldc i, 2)) (hr : rCon ws y.cls i = some v) : W ws dn k y bytes ret pc ls st H Q = W ws dn k y bytes ret (pc + 2) ls (.int v :: st) H Q :=
  W_step (act_h hd rfl (by simp only [hstep, chk, hr, if_true, Option.map_some]))
theorem w_ldcw {i : Nat} {v : Int32} (hd : decode bytes pc = .ok (.ldc_w i, 3)) (hr : rCon ws y.cls i = some v) : W ws dn k y bytes ret pc ls st H Q = W ws dn k y bytes ret (pc + 3) ls (.int v :: st) H Q :=
  W_step (act_h hd rfl (by simp only [hstep, chk, hr, if_true, Option.map_some]))
theorem w_ldc2 {i : Nat} {v : Int64} (hd : decode bytes pc = .ok (.ldc2_w i, 3)) (hr : rConL ws y.cls i = some v) : W ws dn k y bytes ret pc ls st H Q = W ws dn k y bytes ret (pc + 3) ls (.long v :: st) H Q :=
  W_step (act_h hd rfl (by simp only [hstep, chk, hr, if_true, Option.map_some]))
theorem w_iret {z : Int32} (hd : decode bytes pc = .ok (.ireturn, 1)) (hr : ret = some .int) : W ws dn k y bytes ret pc ls (.int z :: st) H Q = Q (some (.int z)) H := by
  subst hr; exact W_ret (by rw [act_c hd rfl rfl]; rfl)
theorem w_iretN {z : Int32} {t : FieldType} (hd : decode bytes pc = .ok (.ireturn, 1)) (hr : ret = some t) (ht : t = .int ∨ t = .boolean ∨ t = .byte ∨ t = .char ∨ t = .short) : W ws dn k y bytes ret pc ls (.int z :: st) H Q = Q (some (.int (nar t z))) H := by
  subst hr; exact W_ret (by rw [act_c hd rfl rfl]; simp only [cstep, chk, if_true, ht])
theorem w_lret {z : Int64} (hd : decode bytes pc = .ok (.lreturn, 1)) (hr : ret = some .long) : W ws dn k y bytes ret pc ls [.long z] H Q = Q (some (.long z)) H := by
  subst hr; exact W_ret (by rw [act_c hd rfl rfl]; rfl)
theorem w_vret (hd : decode bytes pc = .ok (.return_, 1)) (hr : ret = none) : W ws dn k y bytes ret pc ls [] H Q = Q none H := by
  subst hr; exact W_ret (by rw [act_c hd rfl rfl]; rfl)
theorem w_obj {i sl : Nat} {a : Nat} (hd : decode bytes pc = .ok (.invokespecial i, 3)) (hr : oR ws dn y i = some sl) (hw : wsum st ≤ sl) : W ws dn k y bytes ret pc ls (.ref a :: st) H Q = W ws dn k y bytes ret (pc + 3) ls st H Q :=
  W_step (by rw [act_c hd rfl rfl]; simp only [cstep, chk, if_true, hr, hw])
theorem w_stat {i mx na sl : Nat} {y' : MethodName} {b : ByteArray} {r : Option FieldType} {as rest : List Value} {en : List Slot} (hd : decode bytes pc = .ok (.invokestatic i, 3)) (hr : sR ws dn y i = some (y', b, mx, r, na, sl)) (hn : as.length = na) (hw : wsum rest ≤ sl) (he : (ent as.reverse).length ≤ mx) (hen : entry as.reverse mx = en) :
    W ws dn k y bytes ret pc ls (as ++ rest) H Q = W ws dn k y' b r 0 en [] H (fun v H1 => W ws dn k y bytes ret (pc + 3) ls (v.toList ++ rest) H1 Q) := by
  subst hn hen
  have e1 : (as ++ rest).take as.length = as := by simp
  have e2 : (as ++ rest).drop as.length = rest := by simp
  exact W_call (by rw [act_c hd rfl rfl]; simp only [cstep, chk, if_true, hr, e1, e2, hw, he, List.length_append, Nat.le_add_right, and_self])
theorem w_spec {i mx na sl a : Nat} {y' : MethodName} {b : ByteArray} {r : Option FieldType} {as rest : List Value} {en : List Slot} (hd : decode bytes pc = .ok (.invokespecial i, 3)) (h0 : oR ws dn y i = none) (hr : nR ws dn y i = some (y', b, mx, r, na, sl)) (hn : as.length = na) (hw : wsum rest ≤ sl) (he : (ent (.ref a :: as.reverse)).length ≤ mx) (hen : entry (.ref a :: as.reverse) mx = en) :
    W ws dn k y bytes ret pc ls (as ++ .ref a :: rest) H Q = W ws dn k y' b r 0 en [] H (fun v H1 => W ws dn k y bytes ret (pc + 3) ls (v.toList ++ rest) H1 Q) := by
  subst hn hen
  have e1 : (as ++ .ref a :: rest).take as.length = as := by simp
  have e2 : (as ++ .ref a :: rest).drop as.length = .ref a :: rest := by simp
  exact W_call (by rw [act_c hd rfl rfl]; simp only [cstep, chk, if_true, h0, hr, e1, e2, hw, he, List.length_append, Nat.le_add_right, and_self])
theorem w_virt {i mx na sl a : Nat} {pv : Bool} {y' : MethodName} {b : ByteArray} {r : Option FieldType} {as rest : List Value} {en : List Slot} {C : String} {vs : List Value} (hd : decode bytes pc = .ok (.invokevirtual i, 3)) (hr : vR ws dn y i = some (pv, y', b, mx, r, na, sl)) (ho : H[a]? = some (.object C, vs)) (hC : C = y'.cls) (hn : as.length = na) (hw : wsum rest ≤ sl) (he : (ent (.ref a :: as.reverse)).length ≤ mx) (hen : entry (.ref a :: as.reverse) mx = en) :
    W ws dn k y bytes ret pc ls (as ++ .ref a :: rest) H Q = W ws dn k y' b r 0 en [] H (fun v H1 => W ws dn k y bytes ret (pc + 3) ls (v.toList ++ rest) H1 Q) := by
  subst hn hen hC
  have e1 : (as ++ .ref a :: rest).take as.length = as := by simp
  have e2 : (as ++ .ref a :: rest).drop as.length = .ref a :: rest := by simp
  exact W_call (by rw [act_c hd rfl rfl]; simp only [cstep, chk, if_true, hr, e1, e2, ho, hw, he, List.length_append, Nat.le_add_right, and_self, or_true])
end
theorem law_of {Z : State} {a0 : Array Value} {ws : Ws} {dn : Dn} {k sa n0 : Nat} (hw : ∀ d ∈ ws, d.before a0 Z = true) (l : Launch) {y : MethodName} {b : ByteArray} {mx f lc rc rs : Nat} {r : Option FieldType} (wsx : List Jvm.Cond) (hp : Jvm.plainName y.cls = true) {as : List Value} (he : (ent as).length ≤ mx) {H : AHeap}
    (hW : W ws dn k y b r 0 (entry as mx) [] H (fun v H1 => v = some (.int 1) ∧ H1.length - H.length ≤ rc ∧ tot ws H1 - tot ws H ≤ rs)) (hdn : ∀ f' l', dnOf dn y = some (f', l') → f' ≤ f ∧ l' ≤ lc) {h : Heap} (S : Sim Z ws k sa n0 H h) :
    MetFree l y (head1 (Jvm.Cond.code y b mx r :: wsx) ({ frames := f, cells := rc, slots := rs, locals := lc } : Room)) (fun a U => a = (as.map (ren (adr k sa n0))).toArray ∧ Z.Warmed39 U.vm ∧ U.heap = h) (fun _ _ _ _ _ => True)
      (fun _ U o U' => ∃ w L, o = .returned w ∧ (w = some (.int 1) ∧ Fr n0 L) ∧ FrameEnd U o U' L rc rs) := by
  obtain ⟨n, v, H1, h1, rfl, h3, h4⟩ := hW
  have M := met_of (snd hw n) l wsx hp he h1 hdn S h3 h4
  intro p e ha hc hk s m args below hf happ hP hK
  obtain ⟨n', o, g1, g2, g3, w, L, rfl, ⟨rfl, -, N⟩, F⟩ := M p e ha hc hk s m args below hf happ hP hK
  exact ⟨n', _, g1, g2, g3, _, L, rfl, ⟨rfl, N⟩, F.1, F.2.1, F.2.2.mono h3 h4⟩
/-- the start of a law whose arguments hold no reference -/
theorem Sim.empty (Z : State) (ws : Ws) (h : Heap) : Sim Z ws 0 0 h.size [] h :=
  ⟨by simp, Nat.le_refl _, Nat.zero_le _, (fun q => absurd q (by decide)), (fun i o q => by simp at q)⟩
/-- the start of a law over one array of ints -/
theorem Sim.script {Z : State} (ws : Ws) {h : Heap} {a : Addr} {c : Cell} {vs : List Int32} (A : Arr Z h a c .int) (e : c.slots = (vs.map Value.int).toArray) : Sim Z ws 1 a h.size [(.array .int, vs.map Value.int)] h := by
  refine ⟨by simp, Nat.le_refl _, Nat.le_refl _, fun _ => A.lt, fun i o q => ?_⟩
  cases i with
  | zero =>
    cases q
    refine ⟨c, A, e.trans ?_⟩
    rw [List.map_map]; rfl
  | succ i => cases q
end Jvm.Own
namespace Jvm.Own
open Sem ClassFile Op Lib Jvm.Stand Jvm.Free Jvm.LawKit Jvm.RoadKit
/-! OWN 7: states of an object as plain functions -/
def ou {α : Type} (s : Nat → α) (i : Nat) (v : α) : Nat → α := fun j => if j = i then v else s j
theorem ou_a {α : Type} (s : Nat → α) (i : Nat) (v : α) (j : Nat) : ou s i v j = if j = i then v else s j := rfl
def pad (b : Nat) (pre : AHeap) : AHeap := (pre ++ List.replicate b (FieldType.int, [])).take b
theorem pad_len (b : Nat) (pre : AHeap) : (pad b pre).length = b := by simp [pad]
theorem pad_eq {b : Nat} {pre : AHeap} (h : pre.length = b) : pad b pre = pre := by subst h; simp [pad]
theorem pad_0 (pre : AHeap) : pad 0 pre = [] := by simp [pad]
theorem tot_cons (ws : Ws) (o : FieldType × List Value) (r : AHeap) : tot ws (o :: r) = cost ws o + tot ws r := by simp [tot]
theorem tot_append (ws : Ws) (a r : AHeap) : tot ws (a ++ r) = tot ws a + tot ws r := by simp [tot]
theorem tot_nil (ws : Ws) : tot ws [] = 0 := rfl
theorem pad_get (b : Nat) (pre r : AHeap) (i : Nat) : (pad b pre ++ r)[b + i]? = r[i]? := by
  rw [List.getElem?_append_right (by rw [pad_len]; omega), pad_len]; congr 1; omega
theorem pad_get0 (b : Nat) (pre r : AHeap) : (pad b pre ++ r)[b]? = r[0]? := pad_get b pre r 0
theorem pad_set (b : Nat) (pre r : AHeap) (i : Nat) (o : FieldType × List Value) : (pad b pre ++ r).set (b + i) o = pad b pre ++ r.set i o := by
  rw [List.set_append_right _ _ (by rw [pad_len]; omega), pad_len]; congr 2; omega
theorem pad_set0 (b : Nat) (pre r : AHeap) (o : FieldType × List Value) : (pad b pre ++ r).set b o = pad b pre ++ r.set 0 o := pad_set b pre r 0 o
theorem rCode_of {ws : Ws} {y : MethodName} {b : ByteArray} {m i : Nat} {r : Option FieldType} (h : ws[i]? = some (.code y b m r)) (h2 : (ws.take i).all (fun d => match d with | .code z _ _ _ => !decide (z = y) | _ => true) = true) : rCode ws y = some (b, m, r) := by
  have e : ws = ws.take i ++ (.code y b m r :: ws.drop (i + 1)) := by
    obtain ⟨hi, hg⟩ := List.getElem?_eq_some_iff.mp h
    rw [← hg, ← List.drop_eq_getElem_cons hi, List.take_append_drop]
  unfold rCode
  rw [e, List.findSome?_append]
  have e1 : (ws.take i).findSome? (fun d => match d with | .code z b m r => if z = y then some (b, m, r) else none | _ => none) = none := by
    rw [List.findSome?_eq_none_iff]
    intro d hd
    have q := List.all_eq_true.mp h2 d hd
    split
    · rename_i z b' m' r'
      simp at q
      simp [q]
    · rfl
  rw [e1]
  simp
theorem cR_of {ws : Ws} {dn : Dn} {y y' : MethodName} {b : ByteArray} {mx i f' l' f l na sl : Nat} {r : Option FieldType} {sig : MethodDescriptor} (h1 : rMth ws y.cls i = some y') (h2 : rCode ws y' = some (b, mx, r)) (h3 : dnOf dn y' = some (f', l')) (h4 : dnOf dn y = some (f, l)) (h5 : parseMethodDescriptor y'.desc = some sig)
    (h6 : decide (hasInit ws y'.cls = true ∧ Jvm.plainName y'.cls = true ∧ y'.cls ≠ "java/lang/invoke/MethodHandle" ∧ y'.cls ≠ "java/lang/invoke/VarHandle" ∧ f' + 1 ≤ f ∧ mx + 11 + l' ≤ l) = true) (h7 : sig.parameters.length = na) (h8 : l - (mx + 11 + l') = sl) : cR ws dn y i = some (y', b, mx, r, na, sl) := by
  subst h7 h8
  unfold cR
  rw [h1]; dsimp only
  rw [h2, h3, h4, h5]; dsimp only
  rw [if_pos (of_decide_eq_true h6)]
theorem sR_of {ws : Ws} {dn : Dn} {y : MethodName} {i : Nat} {q : MethodName × ByteArray × Nat × Option FieldType × Nat × Nat} (h : cR ws dn y i = some q) (hs : hasStat ws q.1 = true) : sR ws dn y i = some q := by
  unfold sR; rw [h]; dsimp only; rw [if_pos hs]
theorem nR_of {ws : Ws} {dn : Dn} {y : MethodName} {i : Nat} {q : MethodName × ByteArray × Nat × Option FieldType × Nat × Nat} (h : cR ws dn y i = some q) (h1 : q.1.name = "<init>") (h2 : hasIM ws q.1 = true) (h3 : q.2.2.2.1 = none) : nR ws dn y i = some q := by
  unfold nR; rw [h]; dsimp only; rw [if_pos ⟨h1, h2, h3⟩]
theorem vR_of {ws : Ws} {dn : Dn} {y : MethodName} {i : Nat} {q : MethodName × ByteArray × Nat × Option FieldType × Nat × Nat} (h : cR ws dn y i = some q) (h1 : hasIM ws q.1 = true) (h2 : decide (hasPriv ws q.1 = true ∧ (rInst ws q.1.cls).isSome = true) = false) (h3 : decide (hasDecl ws q.1 = true ∧ hasSel ws q.1 = true) = true) : vR ws dn y i = some (false, q) := by
  unfold vR; rw [h]; dsimp only; rw [if_pos h1, if_neg (of_decide_eq_false h2), if_pos (of_decide_eq_true h3)]
theorem pR_of {ws : Ws} {dn : Dn} {y : MethodName} {i : Nat} {q : MethodName × ByteArray × Nat × Option FieldType × Nat × Nat} (h : cR ws dn y i = some q) (h1 : hasIM ws q.1 = true) (h2 : decide (hasPriv ws q.1 = true ∧ (rInst ws q.1.cls).isSome = true) = true) : vR ws dn y i = some (true, q) := by
  unfold vR; rw [h]; dsimp only; rw [if_pos h1, if_pos (of_decide_eq_true h2)]
def inB {α : Type} (j : Int32) (l : List α) : Prop := ¬ j < 0 ∧ j.toNatClampNeg < l.length
def getA (l : List Int32) (j : Int32) : Int32 := l.getD j.toNatClampNeg 0
def getL (l : List Int64) (j : Int32) : Int64 := l.getD j.toNatClampNeg 0
def setA {α : Type} (l : List α) (j : Int32) (v : α) : List α := l.set j.toNatClampNeg v
def c1 : Slot → Bool
  | .unset => true
  | .second => false
  | .val v => v.category == 1
theorem c1_u : c1 .unset = true := rfl
theorem c1_i (x : Int32) : c1 (.val (.int x)) = true := rfl
theorem c1_r (a : Nat) : c1 (.val (.ref a)) = true := rfl
theorem c1_n : c1 (.val .null) = true := rfl
theorem i_eq (x y : Int32) : if_icmp.holds .eq x y = decide (x = y) := by simp only [if_icmp.holds]; by_cases h : x = y <;> simp [h]
theorem i_ne (x y : Int32) : if_icmp.holds .ne x y = !decide (x = y) := by simp only [if_icmp.holds]; by_cases h : x = y <;> simp [h]
theorem i_lt (x y : Int32) : if_icmp.holds .lt x y = decide (x < y) := rfl
theorem i_gt (x y : Int32) : if_icmp.holds .gt x y = decide (y < x) := rfl
theorem i_ge (x y : Int32) : if_icmp.holds .ge x y = !decide (x < y) := by
  show decide (y ≤ x) = _
  have e1 : (y ≤ x) ↔ ¬ (x < y) := by rw [Int32.le_iff_toInt_le, Int32.lt_iff_toInt_lt]; omega
  by_cases h : x < y
  · have : ¬ y ≤ x := fun g => e1.mp g h
    simp [h, this]
  · have := e1.mpr h
    simp [h, this]
theorem i_le (x y : Int32) : if_icmp.holds .le x y = !decide (y < x) := i_ge y x
theorem z_eq (x : Int32) : ifCond.holds .eq x = decide (x = 0) := i_eq x 0
theorem z_ne (x : Int32) : ifCond.holds .ne x = !decide (x = 0) := i_ne x 0
theorem z_lt (x : Int32) : ifCond.holds .lt x = decide (x < 0) := rfl
theorem z_gt (x : Int32) : ifCond.holds .gt x = decide (0 < x) := rfl
theorem z_ge (x : Int32) : ifCond.holds .ge x = !decide (x < 0) := i_ge x 0
theorem z_le (x : Int32) : ifCond.holds .le x = !decide (0 < x) := i_le x 0
theorem nb0 : nar .boolean 0 = 0 := by decide
theorem nb1 : nar .boolean 1 = 1 := by decide
section
variable {ws : Ws} {dn : Dn} {k : Nat} {y : MethodName} {bytes : ByteArray} {ret : Option FieldType} {pc : Nat} {ls : List Slot} {st : List Value} {H : AHeap} {Q : Option Value → AHeap → Prop}
theorem W_stuck (h : act ws dn k y bytes ret pc ls st H = none) : W ws dn k y bytes ret pc ls st H Q = False := by
  refine propext ⟨fun ⟨n, v, H1, h1, h2⟩ => ?_, False.elim⟩
  cases n with
  | zero => cases h1
  | succ n => rw [run, h] at h1; cases h1
theorem stl_c1 {i : Nat} {o : Slot} {v : Value} (ho : ls[i]? = some o) (hc : c1 o = true) (hv : v.category = 1) : stl ls i v = some (ls.set i (.val v)) := by
  have h := XS.store1 (l := ls.toArray) (i := i) (v := v) (o := o) (by simpa using ho) (by
    cases o with
    | unset => exact Or.inl rfl
    | second => cases hc
    | val w => exact Or.inr ⟨w, rfl, by simpa [c1] using hc⟩) hv
  unfold stl
  rw [h]; simp
/-- a store of one word -/
theorem w_st {ins : Instr} {len i : Nat} {o : Slot} {v : Value} {p : Value → Bool} {nx : Nat} {ls' : List Slot} (hd : decode bytes pc = .ok (ins, len)) (hx : xstep ins len pc ls (v :: st) = stV p nx i ls (v :: st)) (hp : p v = true) (hv : v.category = 1) (ho : ls[i]? = some o) (hs : ls.set i (.val v) = ls') (hc : c1 o = true) :
    W ws dn k y bytes ret pc ls (v :: st) H Q = W ws dn k y bytes ret nx ls' st H Q := by
  subst hs
  exact w_x hd (by rw [hx]; simp only [stV, hp, if_true, stl_c1 ho hc hv, Option.map_some])
theorem w_iinc {i : Nat} {c : Int} {x z : Int32} {ls' : List Slot} (hd : decode bytes pc = .ok (.iinc i c, 3)) (ho : ls[i]? = some (.val (.int x))) (hz : Int32.ofInt c = z) (hs : ls.set i (.val (.int (x + z))) = ls') :
    W ws dn k y bytes ret pc ls st H Q = W ws dn k y bytes ret (pc + 3) ls' st H Q := by
  subst hs hz
  exact w_x hd (by simp only [xstep, chk, if_true, ho, stl_c1 (v := .int (x + Int32.ofInt c)) ho rfl rfl, Option.map_some])
theorem w_con {ins : Instr} {len nx : Nat} {v v' : Value} (hd : decode bytes pc = .ok (ins, len)) (hx : xstep ins len pc ls st = some (nx, ls, v :: st)) (hv : v = v') : W ws dn k y bytes ret pc ls st H Q = W ws dn k y bytes ret nx ls (v' :: st) H Q := by
  subst hv; exact w_x hd hx
theorem w_ifN {cd : ClassFile.Cond} {o : Int} {x : Int32} {t : Nat} {P : Prop} [Decidable P] (hd : decode bytes pc = .ok (.ifCond cd o, 3)) (hp : ifCond.holds cd x = !decide P) (hj : jmp pc o = some t) :
    W ws dn k y bytes ret pc ls (.int x :: st) H Q = if P then W ws dn k y bytes ret (pc + 3) ls st H Q else W ws dn k y bytes ret t ls st H Q := by
  split
  · exact w_x hd (by simp only [xstep, chk, br, hp, hj, if_true]; simp [*])
  · exact w_x hd (by simp only [xstep, chk, br, hp, hj, if_true]; simp [*])
theorem w_icmpN {cd : ClassFile.Cond} {o : Int} {x1 x2 : Int32} {t : Nat} {P : Prop} [Decidable P] (hd : decode bytes pc = .ok (.if_icmp cd o, 3)) (hp : if_icmp.holds cd x1 x2 = !decide P) (hj : jmp pc o = some t) :
    W ws dn k y bytes ret pc ls (.int x2 :: .int x1 :: st) H Q = if P then W ws dn k y bytes ret (pc + 3) ls st H Q else W ws dn k y bytes ret t ls st H Q := by
  split
  · exact w_x hd (by simp only [xstep, chk, br, hp, hj, if_true]; simp [*])
  · exact w_x hd (by simp only [xstep, chk, br, hp, hj, if_true]; simp [*])
theorem ld_stuck {ins : Instr} {a : Nat} {j : Int32} {ty : FieldType} {vs : List Value} (hd : decode bytes pc = .ok (ins, 1)) (hi : ldOk ins ty = true) (ho : H[a]? = some (.array ty, vs)) (hj : ¬ (¬ j < 0 ∧ j.toNatClampNeg < vs.length)) : act ws dn k y bytes ret pc ls (.int j :: .ref a :: st) H = none := by
  have hv : j < 0 ∨ vs[j.toNatClampNeg]? = none := by
    by_cases q : j < 0
    · exact Or.inl q
    · exact Or.inr (List.getElem?_eq_none (Nat.le_of_not_lt fun g => hj ⟨q, g⟩))
  unfold ldOk at hi
  split at hi
  all_goals first
    | (rw [act_c hd rfl (by rcases hv with q | q <;> simp [hstep, chk, hLd, okT, okB, ho, q])]; rfl)
    | cases hi
theorem st_stuck {ins : Instr} {a : Nat} {j : Int32} {ty : FieldType} {vs : List Value} {v : Value} (hd : decode bytes pc = .ok (ins, 1)) (hi : stOk ins ty = true) (ho : H[a]? = some (.array ty, vs)) (hj : ¬ (¬ j < 0 ∧ j.toNatClampNeg < vs.length)) : act ws dn k y bytes ret pc ls (v :: .int j :: .ref a :: st) H = none := by
  have hv : ¬ (¬ j < 0 ∧ j.toNatClampNeg < vs.length) := hj
  unfold stOk at hi
  split at hi
  all_goals first
    | (rw [act_c hd rfl (by simp only [hstep, chk, hSt, okT, okB, ho, if_true]; rw [if_neg (fun q => hv q.2.2)])]; rfl)
    | cases hi
theorem w_ild {ins : Instr} {a : Nat} {j : Int32} {ty : FieldType} {l : List Int32} (hd : decode bytes pc = .ok (ins, 1)) (hi : ldOk ins ty = true) (ho : H[a]? = some (.array ty, l.map Value.int)) :
    W ws dn k y bytes ret pc ls (.int j :: .ref a :: st) H Q = (inB j l ∧ W ws dn k y bytes ret (pc + 1) ls (.int (getA l j) :: st) H Q) := by
  by_cases h : inB j l
  · rw [w_ald hd hi ho h.1 (v := .int (getA l j)) (by simp [getA, h.2])]
    simp [h]
  · rw [W_stuck (ld_stuck hd hi ho (by simpa [inB] using h))]
    simp [h]
theorem w_lld {a : Nat} {j : Int32} {l : List Int64} (hd : decode bytes pc = .ok (.laload, 1)) (ho : H[a]? = some (.array .long, l.map Value.long)) :
    W ws dn k y bytes ret pc ls (.int j :: .ref a :: st) H Q = (inB j l ∧ W ws dn k y bytes ret (pc + 1) ls (.long (getL l j) :: st) H Q) := by
  by_cases h : inB j l
  · rw [w_ald hd rfl ho h.1 (v := .long (getL l j)) (by simp [getL, h.2])]
    simp [h]
  · rw [W_stuck (ld_stuck hd rfl ho (by simpa [inB] using h))]
    simp [h]
theorem w_ist {ins : Instr} {a : Nat} {j v v' : Int32} {ty : FieldType} {l : List Int32} {H' : AHeap} (hd : decode bytes pc = .ok (ins, 1)) (hi : stOk ins ty = true) (ho : H[a]? = some (.array ty, l.map Value.int)) (hk : k ≤ a) (hv : putv ty (.int v) = some (.int v')) (hH : H.set a (.array ty, (setA l j v').map Value.int) = H') :
    W ws dn k y bytes ret pc ls (.int v :: .int j :: .ref a :: st) H Q = (inB j l ∧ W ws dn k y bytes ret (pc + 1) ls st H' Q) := by
  by_cases h : inB j l
  · rw [w_ast (H' := H') hd hi ho hk h.1 (by simpa using h.2) hv (by rw [← hH, setA, List.map_set])]
    simp [h]
  · rw [W_stuck (st_stuck hd hi ho (by simpa [inB] using h))]
    simp [h]
theorem w_lst {a : Nat} {j : Int32} {v : Int64} {l : List Int64} {H' : AHeap} (hd : decode bytes pc = .ok (.lastore, 1)) (ho : H[a]? = some (.array .long, l.map Value.long)) (hk : k ≤ a) (hH : H.set a (.array .long, (setA l j v).map Value.long) = H') :
    W ws dn k y bytes ret pc ls (.long v :: .int j :: .ref a :: st) H Q = (inB j l ∧ W ws dn k y bytes ret (pc + 1) ls st H' Q) := by
  by_cases h : inB j l
  · rw [w_ast (H' := H') hd rfl ho hk h.1 (by simpa using h.2) rfl (by rw [← hH, setA, List.map_set])]
    simp [h]
  · rw [W_stuck (st_stuck hd rfl ho (by simpa [inB] using h))]
    simp [h]
theorem w_div {ins : Instr} {f : Int32 → Int32 → Int32} {x z : Int32} (hd : decode bytes pc = .ok (ins, 1)) (hx : ∀ st, xstep ins 1 pc ls st = d2 f (pc + 1) ls st) (hh : hstep ws k y ins 1 pc (.int z :: .int x :: st) H = none) (hc : cstep ws dn y ret ins 1 pc ls (.int z :: .int x :: st) H = none) :
    W ws dn k y bytes ret pc ls (.int z :: .int x :: st) H Q = (z ≠ 0 ∧ W ws dn k y bytes ret (pc + 1) ls (.int (f x z) :: st) H Q) := by
  by_cases h : z = 0
  · rw [W_stuck (by rw [act_c hd (by rw [hx]; simp [d2, h]) hh, hc])]; simp [h]
  · rw [w_x (pc' := pc + 1) (ls' := ls) (st' := .int (f x z) :: st) hd (by rw [hx]; simp only [d2, h, if_false])]; simp [h]
/-- a field's array made in a constructor -/
theorem w_iarr {i j p1 p2 p3 : Nat} {C : String} {vs : List Value} {r : AHeap} {n : Int32} {v : Value} {aty : ArrayType} {ty at' : FieldType} {l0 : Slot} {lr : List Slot} {ins : Instr} {len : Nat} {b : Nat} (hl : l0 = .val (.ref b)) (hH : H.length = b) (hk : k ≤ b)
    (d0 : decode bytes pc = .ok (.aload_n 0, 1)) (e0 : pc + 1 = p1) (dn1 : decode bytes p1 = .ok (ins, len)) (hx : ∀ st, xstep ins len p1 (l0 :: lr) st = some (p2, l0 :: lr, v :: st)) (hv : v = .int n) (d2' : decode bytes p2 = .ok (.newarray aty, 2)) (ht : newarray.typeOf aty = ty) (hr : hasArr ws ty = true) (hn : ¬ n < 0) (hb : n.toNatClampNeg * 8 ≤ 536870912) (e3 : p2 + 2 = p3)
    (d3 : decode bytes p3 = .ok (.putfield i, 3)) (hp : pfR ws y.cls y.name i = some (C, j, .array at')) (hj : j < vs.length) :
    W ws dn k y bytes ret pc (l0 :: lr) [] (H ++ (.object C, vs) :: r) Q = W ws dn k y bytes ret (p3 + 3) (l0 :: lr) [] (H ++ (.object C, vs.set j (.ref (b + (r.length + 1)))) :: (r ++ [(.array ty, List.replicate n.toNatClampNeg (defaultValue ty))])) Q := by
  subst hl e0 e3 hv hH
  rw [w_x d0 (ls' := .val (.ref H.length) :: lr) (st' := [.ref H.length]) (pc' := pc + 1) rfl, w_x dn1 (hx _), w_newA d2' ht hr hn hb]
  have e1 : (H ++ (FieldType.object C, vs) :: r).length = H.length + (r.length + 1) := by simp
  rw [e1, w_put d3 hp (vs := vs) (H' := H ++ (.object C, vs.set j (.ref (H.length + (r.length + 1)))) :: (r ++ [(.array ty, List.replicate n.toNatClampNeg (defaultValue ty))])) (by simp) hk hj rfl (by simp)]
/-- a field's plain value put at a constructor's head -/
theorem w_iint {i j p1 p2 : Nat} {C : String} {vs : List Value} {r : AHeap} {v v0 v' : Value} {ty : FieldType} {l0 : Slot} {lr : List Slot} {ins : Instr} {len : Nat} {b : Nat} (hl : l0 = .val (.ref b)) (hH : H.length = b) (hk : k ≤ b)
    (d0 : decode bytes pc = .ok (.aload_n 0, 1)) (e0 : pc + 1 = p1) (dn1 : decode bytes p1 = .ok (ins, len)) (hx : ∀ st, xstep ins len p1 (l0 :: lr) st = some (p2, l0 :: lr, v0 :: st)) (hv : v0 = v)
    (d3 : decode bytes p2 = .ok (.putfield i, 3)) (hp : pfR ws y.cls y.name i = some (C, j, ty)) (hv' : putv ty v = some v') (hj : j < vs.length) :
    W ws dn k y bytes ret pc (l0 :: lr) [] (H ++ (.object C, vs) :: r) Q = W ws dn k y bytes ret (p2 + 3) (l0 :: lr) [] (H ++ (.object C, vs.set j v') :: r) Q := by
  subst hl e0 hv hH
  rw [w_x d0 (ls' := .val (.ref H.length) :: lr) (st' := [.ref H.length]) (pc' := pc + 1) rfl, w_x dn1 (hx _)]
  rw [w_put d3 hp (vs := vs) (H' := H ++ (.object C, vs.set j v') :: r) (by simp) hk hj hv' (by simp)]
end
end Jvm.Own
namespace Jvm.Own
open Sem ClassFile Op Lib Jvm.Stand Jvm.Free Jvm.LawKit Jvm.RoadKit
theorem getA_rep (n : Nat) (j : Int32) : getA (List.replicate n 0) j = 0 := by
  simp only [getA, List.getD_eq_getElem?_getD, List.getElem?_replicate]
  split <;> rfl
/-- the array's words as plain ints -/
theorem script_of {s : State} {a : Addr} {c : Cell} (hf : Fit s) (A : Arr s s.heap a c .int) (hl : c.slots.size < 2 ^ 31) : ∃ vs : List Int32, c.slots = (vs.map Value.int).toArray := by
  have h : ∀ v ∈ c.slots.toList, ∃ x : Int32, v = .int x := fun v hv => by
    obtain ⟨i, hi, e⟩ := List.getElem_of_mem hv
    have hi' : i < c.slots.size := by simpa using hi
    have e1 : (Nat.toInt32 i).toNatClampNeg = i := by simp only [Int32.toNatClampNeg, len_toInt (Nat.lt_trans hi' hl)]; rfl
    obtain ⟨w, h1, h2⟩ := elem_fit hf A (idx_in hi' hl)
    rw [e1] at h1
    have : w = v := by rw [Array.getElem?_eq_getElem hi'] at h1; rw [← e]; simpa using (Option.some.inj h1).symm
    subst this
    exact fit_I h2 (by simp)
  have g : ∀ l : List Value, (∀ v ∈ l, ∃ x : Int32, v = .int x) → ∃ vs : List Int32, l = vs.map Value.int := fun l => by
    induction l with
    | nil => exact fun _ => ⟨[], rfl⟩
    | cons v r ih =>
      intro q
      obtain ⟨x, rfl⟩ := q _ (List.mem_cons_self ..)
      obtain ⟨vs, e⟩ := ih fun w hw => q w (List.mem_cons_of_mem _ hw)
      exact ⟨x :: vs, by rw [e]; rfl⟩
  obtain ⟨vs, e⟩ := g _ h
  exact ⟨vs, by rw [← e]⟩
end Jvm.Own
namespace Jvm.Own
open Sem ClassFile Op Lib Jvm.Stand Jvm.Free Jvm.LawKit Jvm.RoadKit
/-! OWN 8: small facts on arrays and ints -/
theorem toNat_eq (j : Int32) : j.toNatClampNeg = j.toInt.toNat := rfl
theorem lt_i {x y : Int32} : x < y ↔ x.toInt < y.toInt := Int32.lt_iff_toInt_lt
theorem inB_iff {α : Type} {j : Int32} {l : List α} : inB j l ↔ 0 ≤ j.toInt ∧ j.toInt < (l.length : Int) := by
  have e0 : (0 : Int32).toInt = 0 := rfl
  unfold inB
  rw [lt_i, toNat_eq, e0]
  omega
theorem inB_lt {α : Type} {j n : Int32} {l : List α} (hl : (l.length : Int) = n.toInt) (h0 : ¬ j < 0) (h1 : j < n) : inB j l := by
  have e0 : (0 : Int32).toInt = 0 := rfl
  rw [inB_iff]
  rw [lt_i] at h0 h1
  rw [e0] at h0
  omega
theorem setA_len {α : Type} (l : List α) (j : Int32) (v : α) : (setA l j v).length = l.length := List.length_set
theorem getA_set {l : List Int32} {i j v : Int32} (h : inB i l) : getA (setA l i v) j = if j.toNatClampNeg = i.toNatClampNeg then v else getA l j := by
  simp only [getA, setA, List.getD_eq_getElem?_getD, List.getElem?_set]
  by_cases e : j.toNatClampNeg = i.toNatClampNeg
  · rw [e]; simp [h.2]
  · simp [e, Ne.symm e]
theorem getA_set2 (l : List Int32) (i j v : Int32) : getA (setA l i v) j = if j.toNatClampNeg = i.toNatClampNeg ∧ i.toNatClampNeg < l.length then v else getA l j := by
  simp only [getA, setA, List.getD_eq_getElem?_getD, List.getElem?_set]
  by_cases e : j.toNatClampNeg = i.toNatClampNeg
  · rw [e]
    by_cases q : i.toNatClampNeg < l.length <;> simp [q]
  · simp [e, Ne.symm e]
theorem len_ou {B A : Nat → List Int32} {j : Nat} {l : List Int32} (h : ∀ i, (A i).length = (B i).length) (hl : l.length = (B j).length) : ∀ i, (ou A j l i).length = (B i).length := fun i => by
  rw [ou_a]
  split
  · rename_i e; rw [e]; exact hl
  · exact h i
end Jvm.Own
namespace Jvm.Own
open Sem ClassFile Op Lib Jvm.Stand Jvm.Free Jvm.LawKit Jvm.RoadKit
/-! OWN 9: a normal form of states; masks and ranges -/
theorem ou_same {α : Type} (s : Nat → α) (i : Nat) (v w : α) : ou (ou s i v) i w = ou s i w := by
  funext j
  simp only [ou_a]
  by_cases h : j = i <;> simp [h]
theorem ou_comm {α : Type} {s : Nat → α} {i j : Nat} {v w : α} (h : j < i) : ou (ou s i v) j w = ou (ou s j w) (i + 0) v := by
  show ou (ou s i v) j w = ou (ou s j w) i v
  funext k
  simp only [ou_a]
  by_cases h1 : k = j
  · have h2 : ¬ k = i := by omega
    simp [h1]
    intro h3; omega
  · simp [h1]
theorem setA_same {α : Type} (l : List α) (i : Int32) (v w : α) : setA (setA l i v) i w = setA l i w := by
  simp only [setA, List.set_set]
theorem clamp_ne {i j : Int32} (h0 : ¬ j < 0) (h : j < i) : j.toNatClampNeg ≠ i.toNatClampNeg := by
  have e0 : (0 : Int32).toInt = 0 := rfl
  rw [lt_i] at *
  rw [toNat_eq, toNat_eq]
  omega
theorem setA_comm {α : Type} {l : List α} {i j : Int32} {v w : α} (h0 : ¬ j < 0) (h : j < i) : setA (setA l i v) j w = setA (setA l j w) (i + 0) v := by
  rw [Int32.add_zero]
  simp only [setA]
  exact List.set_comm _ _ (Ne.symm (clamp_ne h0 h))
theorem lt_irr (x : Int32) : (x < x) = False := by
  apply propext
  rw [lt_i]
  constructor
  · intro h; omega
  · exact False.elim
theorem bit1 (x : Int32) : x &&& 1 = 0 ∨ x &&& 1 = 1 := by
  have h : (x &&& 1).toBitVec.toNat = x.toBitVec.toNat % 2 := by
    rw [Int32.toBitVec_and, BitVec.toNat_and]
    exact Nat.and_one_is_mod _
  rcases Nat.mod_two_eq_zero_or_one x.toBitVec.toNat with e | e
  · exact Or.inl (Int32.toBitVec_inj.mp (BitVec.eq_of_toNat_eq (by rw [h, e]; rfl)))
  · exact Or.inr (Int32.toBitVec_inj.mp (BitVec.eq_of_toNat_eq (by rw [h, e]; rfl)))
theorem and_bd (x m : Int32) (hm : m.toBitVec.toNat < 2147483648) : 0 ≤ (x &&& m).toInt ∧ (x &&& m).toInt ≤ (m.toBitVec.toNat : Int) := by
  have h : (x &&& m).toBitVec.toNat ≤ m.toBitVec.toNat := by
    rw [Int32.toBitVec_and, BitVec.toNat_and]
    exact Nat.and_le_right
  have e : (x &&& m).toInt = ((x &&& m).toBitVec.toNat : Int) := BitVec.toInt_eq_toNat_of_lt (by omega)
  rw [e]
  omega
theorem rng {x : Int32} {n : Nat} (h0 : 0 ≤ x.toInt) (h1 : x.toInt < n) : ∃ k, k < n ∧ x = Int32.ofNat k := by
  have e : (x.toInt.toNat : Int) = x.toInt := Int.toNat_of_nonneg h0
  refine ⟨x.toInt.toNat, by omega, ?_⟩
  have e2 : Int32.ofNat x.toInt.toNat = Int32.ofInt (x.toInt.toNat : Int) := rfl
  rw [e2, e, Int32.ofInt_toInt]
theorem getL_rep (n : Nat) (j : Int32) : getL (List.replicate n 0) j = 0 := by
  simp only [getL, List.getD_eq_getElem?_getD, List.getElem?_replicate]
  split <;> rfl
theorem getL_set2 (l : List Int64) (i j : Int32) (v : Int64) : getL (setA l i v) j = if j.toNatClampNeg = i.toNatClampNeg ∧ i.toNatClampNeg < l.length then v else getL l j := by
  simp only [getL, setA, List.getD_eq_getElem?_getD, List.getElem?_set]
  by_cases e : j.toNatClampNeg = i.toNatClampNeg
  · rw [e]
    by_cases q : i.toNatClampNeg < l.length <;> simp [q]
  · simp [e, Ne.symm e]
theorem add_i {a b : Int32} (h : -2147483648 ≤ a.toInt + b.toInt) (h' : a.toInt + b.toInt < 2147483648) : (a + b).toInt = a.toInt + b.toInt := by
  rw [Int32.toInt_add]
  have e : ((2 ^ 32 : Nat) : Int) = 4294967296 := rfl
  exact Int.bmod_eq_of_le (by rw [e]; omega) (by rw [e]; omega)
theorem sub_i {a b : Int32} (h : -2147483648 ≤ a.toInt - b.toInt) (h' : a.toInt - b.toInt < 2147483648) : (a - b).toInt = a.toInt - b.toInt := by
  rw [Int32.toInt_sub]
  have e : ((2 ^ 32 : Nat) : Int) = 4294967296 := rfl
  exact Int.bmod_eq_of_le (by rw [e]; omega) (by rw [e]; omega)
theorem mul_i {a b : Int32} (h : -2147483648 ≤ a.toInt * b.toInt) (h' : a.toInt * b.toInt < 2147483648) : (a * b).toInt = a.toInt * b.toInt := by
  rw [Int32.toInt_mul]
  have e : ((2 ^ 32 : Nat) : Int) = 4294967296 := rfl
  exact Int.bmod_eq_of_le (by rw [e]; omega) (by rw [e]; omega)
theorem i_0 : (0 : Int32).toInt = 0 := rfl
theorem i_1 : (1 : Int32).toInt = 1 := rfl
theorem add1_i {a : Int32} (h : a.toInt < 2147483647) : (a + 1).toInt = a.toInt + 1 := by
  have := Int32.le_toInt a
  exact add_i (by rw [i_1]; omega) (by rw [i_1]; omega)
theorem nn_i {a : Int32} : ¬ a < 0 ↔ 0 ≤ a.toInt := by rw [lt_i, i_0]; omega
theorem succ_nn {a : Int32} (h0 : ¬ a < 0) (h : a.toInt < 2147483647) : ¬ a + 1 < 0 := by
  rw [nn_i] at *
  rw [add1_i h]
  omega
theorem inB_set {α : Type} {l : List α} {i j : Int32} {v : α} : inB j (setA l i v) = inB j l := by
  simp only [inB, setA_len]
theorem pad_1 (c : FieldType × List Value) : pad 1 [c] = [c] := rfl
def okS (l : Slot) : Prop := l = .unset ∨ ∃ z : Int32, l = .val (.int z)
theorem okS_u : okS .unset := Or.inl rfl
theorem okS_i (z : Int32) : okS (.val (.int z)) := Or.inr ⟨z, rfl⟩
end Jvm.Own
namespace Jvm.Pilot.@@N@@
open Jvm Jvm.ClassFile Sem Op Lib Jvm.Free Jvm.Stand Jvm.LawKit Jvm.RoadKit Bundle Jvm.Own Jvm.Pilot.@@N@@.Jvm.D
/-- frames and words that each method asks -/
def dn : Dn := [(⟨"MultiplierGen", "<init>", "(IIII)V"⟩, 1, 16), (⟨"MultiplierGen", "clamp", "(III)I"⟩, 0, 0), (⟨"MultiplierGen", "setA", "(I)I"⟩, 0, 0), (⟨"MultiplierGen", "getOperand", "(I)I"⟩, 1, 14), (⟨"MultiplierGen", "build", "()I"⟩, 7, 117), (⟨"MultiplierGen", "buildNetlist", "()V"⟩, 6, 103), (⟨"MultiplierGen", "newGate", "(III)I"⟩, 0, 0), (⟨"MultiplierGen", "buildSimple", "()V"⟩, 2, 30), (⟨"MultiplierGen", "bExt", "(I)I"⟩, 0, 0), (⟨"MultiplierGen", "aExt", "(I)I"⟩, 0, 0), (⟨"MultiplierGen", "mkAnd", "(II)I"⟩, 1, 16), (⟨"MultiplierGen", "pushCur", "(II)V"⟩, 0, 0), (⟨"MultiplierGen", "reduceAll", "()V"⟩, 5, 88), (⟨"MultiplierGen", "daddaTarget", "(I)I"⟩, 0, 0), (⟨"MultiplierGen", "reduceStage", "(I)V"⟩, 4, 72), (⟨"MultiplierGen", "reduceColumn", "(II)V"⟩, 3, 53), (⟨"MultiplierGen", "pushNxt", "(II)V"⟩, 0, 0), (⟨"MultiplierGen", "halfAdder", "(II)V"⟩, 2, 30), (⟨"MultiplierGen", "mkXor", "(II)I"⟩, 1, 16), (⟨"MultiplierGen", "fullAdder", "(II)V"⟩, 2, 30), (⟨"MultiplierGen", "mkOr", "(II)I"⟩, 1, 16), (⟨"MultiplierGen", "finalAdder", "()V"⟩, 5, 76), (⟨"MultiplierGen", "sparseCarries", "()V"⟩, 4, 61), (⟨"MultiplierGen", "combineGP", "(II)V"⟩, 3, 47), (⟨"MultiplierGen", "combineG", "(II)V"⟩, 2, 32), (⟨"MultiplierGen", "setB", "(I)I"⟩, 0, 0), (⟨"MultiplierGen", "readPattern", "(II)I"⟩, 0, 0), (⟨"MultiplierGenL2", "read", "(III)I"⟩, 0, 0), (⟨"MultiplierGenL2", "law", "(IIII)Z"⟩, 8, 129)]
/- scalars: 0=pWidth 1=pMode 2=pBooth 3=pAdder 4=bWidth 5=bMode 6=bBooth 7=bAdder 8=built 9=regA 10=regB 11=lastOut 12=evalCount 13=gCount 14=nOut; arrays: 0=gOp@1 1=gIn1@2 2=gIn2@3 3=gVal@4 4=colCur@5 5=colNxt@6 6=cntCur@7 7=cntNxt@8 8=gen@9 9=prop@10 10=pOrig@11 11=outNode@12 12=aNode@13 13=bNode@14; longs: ['acc']; long arrays: [] -/
def objv (b : Nat) (s : Nat → Int32) (L : Nat → Int64) : List Value := [.ref (b + 1), .ref (b + 2), .ref (b + 3), .ref (b + 4), .ref (b + 5), .ref (b + 6), .ref (b + 7), .ref (b + 8), .ref (b + 9), .ref (b + 10), .ref (b + 11), .ref (b + 12), .ref (b + 13), .ref (b + 14), .int (s 0), .int (s 1), .int (s 2), .int (s 3), .int (s 8), .int (s 9), .int (s 10), .int (s 11), .int (s 12), .long (L 0), .int (s 4), .int (s 5), .int (s 6), .int (s 7), .int (s 13), .int (s 14)]
def put (b : Nat) (pre : AHeap) (s : Nat → Int32) (A : Nat → List Int32) (L : Nat → Int64) (B : Nat → List Int64) (post : AHeap) : AHeap := pad b pre ++ ((.object "MultiplierGen", objv b s L) :: (.array .byte, (A 0).map Value.int) :: (.array .int, (A 1).map Value.int) :: (.array .int, (A 2).map Value.int) :: (.array .byte, (A 3).map Value.int) :: (.array .int, (A 4).map Value.int) :: (.array .int, (A 5).map Value.int) :: (.array .int, (A 6).map Value.int) :: (.array .int, (A 7).map Value.int) :: (.array .int, (A 8).map Value.int) :: (.array .int, (A 9).map Value.int) :: (.array .int, (A 10).map Value.int) :: (.array .int, (A 11).map Value.int) :: (.array .int, (A 12).map Value.int) :: (.array .int, (A 13).map Value.int) :: post)
theorem put_o {b : Nat} {pre : AHeap} {s : Nat → Int32} {A : Nat → List Int32} {L : Nat → Int64} {B : Nat → List Int64} {post : AHeap} : (put b pre s A L B post)[b]? = some (.object "MultiplierGen", objv b s L) := pad_get0 _ _ _
theorem put_a0 {b : Nat} {pre : AHeap} {s : Nat → Int32} {A : Nat → List Int32} {L : Nat → Int64} {B : Nat → List Int64} {post : AHeap} : (put b pre s A L B post)[b + 1]? = some (.array .byte, (A 0).map Value.int) := pad_get _ _ _ 1
theorem put_w0 {b : Nat} {pre : AHeap} {s : Nat → Int32} {A : Nat → List Int32} {L : Nat → Int64} {B : Nat → List Int64} {post : AHeap} {l : List Int32} : (put b pre s A L B post).set (b + 1) (.array .byte, l.map Value.int) = put b pre s (ou A 0 l) L B post := pad_set _ _ _ 1 _
theorem put_a1 {b : Nat} {pre : AHeap} {s : Nat → Int32} {A : Nat → List Int32} {L : Nat → Int64} {B : Nat → List Int64} {post : AHeap} : (put b pre s A L B post)[b + 2]? = some (.array .int, (A 1).map Value.int) := pad_get _ _ _ 2
theorem put_w1 {b : Nat} {pre : AHeap} {s : Nat → Int32} {A : Nat → List Int32} {L : Nat → Int64} {B : Nat → List Int64} {post : AHeap} {l : List Int32} : (put b pre s A L B post).set (b + 2) (.array .int, l.map Value.int) = put b pre s (ou A 1 l) L B post := pad_set _ _ _ 2 _
theorem put_a2 {b : Nat} {pre : AHeap} {s : Nat → Int32} {A : Nat → List Int32} {L : Nat → Int64} {B : Nat → List Int64} {post : AHeap} : (put b pre s A L B post)[b + 3]? = some (.array .int, (A 2).map Value.int) := pad_get _ _ _ 3
theorem put_w2 {b : Nat} {pre : AHeap} {s : Nat → Int32} {A : Nat → List Int32} {L : Nat → Int64} {B : Nat → List Int64} {post : AHeap} {l : List Int32} : (put b pre s A L B post).set (b + 3) (.array .int, l.map Value.int) = put b pre s (ou A 2 l) L B post := pad_set _ _ _ 3 _
theorem put_a3 {b : Nat} {pre : AHeap} {s : Nat → Int32} {A : Nat → List Int32} {L : Nat → Int64} {B : Nat → List Int64} {post : AHeap} : (put b pre s A L B post)[b + 4]? = some (.array .byte, (A 3).map Value.int) := pad_get _ _ _ 4
theorem put_w3 {b : Nat} {pre : AHeap} {s : Nat → Int32} {A : Nat → List Int32} {L : Nat → Int64} {B : Nat → List Int64} {post : AHeap} {l : List Int32} : (put b pre s A L B post).set (b + 4) (.array .byte, l.map Value.int) = put b pre s (ou A 3 l) L B post := pad_set _ _ _ 4 _
theorem put_a4 {b : Nat} {pre : AHeap} {s : Nat → Int32} {A : Nat → List Int32} {L : Nat → Int64} {B : Nat → List Int64} {post : AHeap} : (put b pre s A L B post)[b + 5]? = some (.array .int, (A 4).map Value.int) := pad_get _ _ _ 5
theorem put_w4 {b : Nat} {pre : AHeap} {s : Nat → Int32} {A : Nat → List Int32} {L : Nat → Int64} {B : Nat → List Int64} {post : AHeap} {l : List Int32} : (put b pre s A L B post).set (b + 5) (.array .int, l.map Value.int) = put b pre s (ou A 4 l) L B post := pad_set _ _ _ 5 _
theorem put_a5 {b : Nat} {pre : AHeap} {s : Nat → Int32} {A : Nat → List Int32} {L : Nat → Int64} {B : Nat → List Int64} {post : AHeap} : (put b pre s A L B post)[b + 6]? = some (.array .int, (A 5).map Value.int) := pad_get _ _ _ 6
theorem put_w5 {b : Nat} {pre : AHeap} {s : Nat → Int32} {A : Nat → List Int32} {L : Nat → Int64} {B : Nat → List Int64} {post : AHeap} {l : List Int32} : (put b pre s A L B post).set (b + 6) (.array .int, l.map Value.int) = put b pre s (ou A 5 l) L B post := pad_set _ _ _ 6 _
theorem put_a6 {b : Nat} {pre : AHeap} {s : Nat → Int32} {A : Nat → List Int32} {L : Nat → Int64} {B : Nat → List Int64} {post : AHeap} : (put b pre s A L B post)[b + 7]? = some (.array .int, (A 6).map Value.int) := pad_get _ _ _ 7
theorem put_w6 {b : Nat} {pre : AHeap} {s : Nat → Int32} {A : Nat → List Int32} {L : Nat → Int64} {B : Nat → List Int64} {post : AHeap} {l : List Int32} : (put b pre s A L B post).set (b + 7) (.array .int, l.map Value.int) = put b pre s (ou A 6 l) L B post := pad_set _ _ _ 7 _
theorem put_a7 {b : Nat} {pre : AHeap} {s : Nat → Int32} {A : Nat → List Int32} {L : Nat → Int64} {B : Nat → List Int64} {post : AHeap} : (put b pre s A L B post)[b + 8]? = some (.array .int, (A 7).map Value.int) := pad_get _ _ _ 8
theorem put_w7 {b : Nat} {pre : AHeap} {s : Nat → Int32} {A : Nat → List Int32} {L : Nat → Int64} {B : Nat → List Int64} {post : AHeap} {l : List Int32} : (put b pre s A L B post).set (b + 8) (.array .int, l.map Value.int) = put b pre s (ou A 7 l) L B post := pad_set _ _ _ 8 _
theorem put_a8 {b : Nat} {pre : AHeap} {s : Nat → Int32} {A : Nat → List Int32} {L : Nat → Int64} {B : Nat → List Int64} {post : AHeap} : (put b pre s A L B post)[b + 9]? = some (.array .int, (A 8).map Value.int) := pad_get _ _ _ 9
theorem put_w8 {b : Nat} {pre : AHeap} {s : Nat → Int32} {A : Nat → List Int32} {L : Nat → Int64} {B : Nat → List Int64} {post : AHeap} {l : List Int32} : (put b pre s A L B post).set (b + 9) (.array .int, l.map Value.int) = put b pre s (ou A 8 l) L B post := pad_set _ _ _ 9 _
theorem put_a9 {b : Nat} {pre : AHeap} {s : Nat → Int32} {A : Nat → List Int32} {L : Nat → Int64} {B : Nat → List Int64} {post : AHeap} : (put b pre s A L B post)[b + 10]? = some (.array .int, (A 9).map Value.int) := pad_get _ _ _ 10
theorem put_w9 {b : Nat} {pre : AHeap} {s : Nat → Int32} {A : Nat → List Int32} {L : Nat → Int64} {B : Nat → List Int64} {post : AHeap} {l : List Int32} : (put b pre s A L B post).set (b + 10) (.array .int, l.map Value.int) = put b pre s (ou A 9 l) L B post := pad_set _ _ _ 10 _
theorem put_a10 {b : Nat} {pre : AHeap} {s : Nat → Int32} {A : Nat → List Int32} {L : Nat → Int64} {B : Nat → List Int64} {post : AHeap} : (put b pre s A L B post)[b + 11]? = some (.array .int, (A 10).map Value.int) := pad_get _ _ _ 11
theorem put_w10 {b : Nat} {pre : AHeap} {s : Nat → Int32} {A : Nat → List Int32} {L : Nat → Int64} {B : Nat → List Int64} {post : AHeap} {l : List Int32} : (put b pre s A L B post).set (b + 11) (.array .int, l.map Value.int) = put b pre s (ou A 10 l) L B post := pad_set _ _ _ 11 _
theorem put_a11 {b : Nat} {pre : AHeap} {s : Nat → Int32} {A : Nat → List Int32} {L : Nat → Int64} {B : Nat → List Int64} {post : AHeap} : (put b pre s A L B post)[b + 12]? = some (.array .int, (A 11).map Value.int) := pad_get _ _ _ 12
theorem put_w11 {b : Nat} {pre : AHeap} {s : Nat → Int32} {A : Nat → List Int32} {L : Nat → Int64} {B : Nat → List Int64} {post : AHeap} {l : List Int32} : (put b pre s A L B post).set (b + 12) (.array .int, l.map Value.int) = put b pre s (ou A 11 l) L B post := pad_set _ _ _ 12 _
theorem put_a12 {b : Nat} {pre : AHeap} {s : Nat → Int32} {A : Nat → List Int32} {L : Nat → Int64} {B : Nat → List Int64} {post : AHeap} : (put b pre s A L B post)[b + 13]? = some (.array .int, (A 12).map Value.int) := pad_get _ _ _ 13
theorem put_w12 {b : Nat} {pre : AHeap} {s : Nat → Int32} {A : Nat → List Int32} {L : Nat → Int64} {B : Nat → List Int64} {post : AHeap} {l : List Int32} : (put b pre s A L B post).set (b + 13) (.array .int, l.map Value.int) = put b pre s (ou A 12 l) L B post := pad_set _ _ _ 13 _
theorem put_a13 {b : Nat} {pre : AHeap} {s : Nat → Int32} {A : Nat → List Int32} {L : Nat → Int64} {B : Nat → List Int64} {post : AHeap} : (put b pre s A L B post)[b + 14]? = some (.array .int, (A 13).map Value.int) := pad_get _ _ _ 14
theorem put_w13 {b : Nat} {pre : AHeap} {s : Nat → Int32} {A : Nat → List Int32} {L : Nat → Int64} {B : Nat → List Int64} {post : AHeap} {l : List Int32} : (put b pre s A L B post).set (b + 14) (.array .int, l.map Value.int) = put b pre s (ou A 13 l) L B post := pad_set _ _ _ 14 _
theorem put_s0 {b : Nat} {pre : AHeap} {s : Nat → Int32} {A : Nat → List Int32} {L : Nat → Int64} {B : Nat → List Int64} {post : AHeap} {v : Int32} : (put b pre s A L B post).set b (.object "MultiplierGen", (objv b s L).set 14 (.int v)) = put b pre (ou s 0 v) A L B post := pad_set0 _ _ _ _
theorem put_s1 {b : Nat} {pre : AHeap} {s : Nat → Int32} {A : Nat → List Int32} {L : Nat → Int64} {B : Nat → List Int64} {post : AHeap} {v : Int32} : (put b pre s A L B post).set b (.object "MultiplierGen", (objv b s L).set 15 (.int v)) = put b pre (ou s 1 v) A L B post := pad_set0 _ _ _ _
theorem put_s2 {b : Nat} {pre : AHeap} {s : Nat → Int32} {A : Nat → List Int32} {L : Nat → Int64} {B : Nat → List Int64} {post : AHeap} {v : Int32} : (put b pre s A L B post).set b (.object "MultiplierGen", (objv b s L).set 16 (.int v)) = put b pre (ou s 2 v) A L B post := pad_set0 _ _ _ _
theorem put_s3 {b : Nat} {pre : AHeap} {s : Nat → Int32} {A : Nat → List Int32} {L : Nat → Int64} {B : Nat → List Int64} {post : AHeap} {v : Int32} : (put b pre s A L B post).set b (.object "MultiplierGen", (objv b s L).set 17 (.int v)) = put b pre (ou s 3 v) A L B post := pad_set0 _ _ _ _
theorem put_s8 {b : Nat} {pre : AHeap} {s : Nat → Int32} {A : Nat → List Int32} {L : Nat → Int64} {B : Nat → List Int64} {post : AHeap} {v : Int32} : (put b pre s A L B post).set b (.object "MultiplierGen", (objv b s L).set 18 (.int v)) = put b pre (ou s 8 v) A L B post := pad_set0 _ _ _ _
theorem put_s9 {b : Nat} {pre : AHeap} {s : Nat → Int32} {A : Nat → List Int32} {L : Nat → Int64} {B : Nat → List Int64} {post : AHeap} {v : Int32} : (put b pre s A L B post).set b (.object "MultiplierGen", (objv b s L).set 19 (.int v)) = put b pre (ou s 9 v) A L B post := pad_set0 _ _ _ _
theorem put_s10 {b : Nat} {pre : AHeap} {s : Nat → Int32} {A : Nat → List Int32} {L : Nat → Int64} {B : Nat → List Int64} {post : AHeap} {v : Int32} : (put b pre s A L B post).set b (.object "MultiplierGen", (objv b s L).set 20 (.int v)) = put b pre (ou s 10 v) A L B post := pad_set0 _ _ _ _
theorem put_s11 {b : Nat} {pre : AHeap} {s : Nat → Int32} {A : Nat → List Int32} {L : Nat → Int64} {B : Nat → List Int64} {post : AHeap} {v : Int32} : (put b pre s A L B post).set b (.object "MultiplierGen", (objv b s L).set 21 (.int v)) = put b pre (ou s 11 v) A L B post := pad_set0 _ _ _ _
theorem put_s12 {b : Nat} {pre : AHeap} {s : Nat → Int32} {A : Nat → List Int32} {L : Nat → Int64} {B : Nat → List Int64} {post : AHeap} {v : Int32} : (put b pre s A L B post).set b (.object "MultiplierGen", (objv b s L).set 22 (.int v)) = put b pre (ou s 12 v) A L B post := pad_set0 _ _ _ _
theorem put_j0 {b : Nat} {pre : AHeap} {s : Nat → Int32} {A : Nat → List Int32} {L : Nat → Int64} {B : Nat → List Int64} {post : AHeap} {v : Int64} : (put b pre s A L B post).set b (.object "MultiplierGen", (objv b s L).set 23 (.long v)) = put b pre s A (ou L 0 v) B post := pad_set0 _ _ _ _
theorem put_s4 {b : Nat} {pre : AHeap} {s : Nat → Int32} {A : Nat → List Int32} {L : Nat → Int64} {B : Nat → List Int64} {post : AHeap} {v : Int32} : (put b pre s A L B post).set b (.object "MultiplierGen", (objv b s L).set 24 (.int v)) = put b pre (ou s 4 v) A L B post := pad_set0 _ _ _ _
theorem put_s5 {b : Nat} {pre : AHeap} {s : Nat → Int32} {A : Nat → List Int32} {L : Nat → Int64} {B : Nat → List Int64} {post : AHeap} {v : Int32} : (put b pre s A L B post).set b (.object "MultiplierGen", (objv b s L).set 25 (.int v)) = put b pre (ou s 5 v) A L B post := pad_set0 _ _ _ _
theorem put_s6 {b : Nat} {pre : AHeap} {s : Nat → Int32} {A : Nat → List Int32} {L : Nat → Int64} {B : Nat → List Int64} {post : AHeap} {v : Int32} : (put b pre s A L B post).set b (.object "MultiplierGen", (objv b s L).set 26 (.int v)) = put b pre (ou s 6 v) A L B post := pad_set0 _ _ _ _
theorem put_s7 {b : Nat} {pre : AHeap} {s : Nat → Int32} {A : Nat → List Int32} {L : Nat → Int64} {B : Nat → List Int64} {post : AHeap} {v : Int32} : (put b pre s A L B post).set b (.object "MultiplierGen", (objv b s L).set 27 (.int v)) = put b pre (ou s 7 v) A L B post := pad_set0 _ _ _ _
theorem put_s13 {b : Nat} {pre : AHeap} {s : Nat → Int32} {A : Nat → List Int32} {L : Nat → Int64} {B : Nat → List Int64} {post : AHeap} {v : Int32} : (put b pre s A L B post).set b (.object "MultiplierGen", (objv b s L).set 28 (.int v)) = put b pre (ou s 13 v) A L B post := pad_set0 _ _ _ _
theorem put_s14 {b : Nat} {pre : AHeap} {s : Nat → Int32} {A : Nat → List Int32} {L : Nat → Int64} {B : Nat → List Int64} {post : AHeap} {v : Int32} : (put b pre s A L B post).set b (.object "MultiplierGen", (objv b s L).set 29 (.int v)) = put b pre (ou s 14 v) A L B post := pad_set0 _ _ _ _
theorem put_len {b : Nat} {pre : AHeap} {s : Nat → Int32} {A : Nat → List Int32} {L : Nat → Int64} {B : Nat → List Int64} {post : AHeap} : (put b pre s A L B post).length = b + 15 + post.length := by rw [put, List.length_append, pad_len]; simp only [List.length_cons]; omega
theorem inst0 : rInst tables_1 "MultiplierGen" = some 30 := by decide +kernel
theorem put_tot {b : Nat} {pre : AHeap} {s : Nat → Int32} {A : Nat → List Int32} {L : Nat → Int64} {B : Nat → List Int64} {post : AHeap} : tot tables_1 (put b pre s A L B post) = tot tables_1 (pad b pre) + (30 + ((A 0).length + ((A 1).length + ((A 2).length + ((A 3).length + ((A 4).length + ((A 5).length + ((A 6).length + ((A 7).length + ((A 8).length + ((A 9).length + ((A 10).length + ((A 11).length + ((A 12).length + ((A 13).length + tot tables_1 post))))))))))))))) := by rw [put, tot_append]; simp only [tot_cons, cost, List.length_map, inst0, Option.getD_some]
def D0 : List Value := [.null, .null, .null, .null, .null, .null, .null, .null, .null, .null, .null, .null, .null, .null, .int 0, .int 0, .int 0, .int 0, .int 0, .int 0, .int 0, .int 0, .int 0, .long 0, .int 0, .int 0, .int 0, .int 0, .int 0, .int 0]
theorem lay0 : (olay tables_1 "MultiplierGen").map dflt = D0 := by decide +kernel
abbrev y0 : MethodName := ⟨"MultiplierGen", "<init>", "(IIII)V"⟩
abbrev kb0 : ByteArray := prog_1_method_1_code
def M0 (pc : Nat) (ls : List Slot) (st : List Value) (H : AHeap) (Q : Option Value → AHeap → Prop) : Prop := W tables_1 dn 0 y0 prog_1_method_1_code none pc ls st H Q
abbrev y1 : MethodName := ⟨"MultiplierGen", "clamp", "(III)I"⟩
abbrev kb1 : ByteArray := prog_1_method_18_code
def M1 (pc : Nat) (ls : List Slot) (st : List Value) (H : AHeap) (Q : Option Value → AHeap → Prop) : Prop := W tables_1 dn 0 y1 prog_1_method_18_code (some .int) pc ls st H Q
abbrev y2 : MethodName := ⟨"MultiplierGen", "setA", "(I)I"⟩
abbrev kb2 : ByteArray := prog_1_method_7_code
def M2 (pc : Nat) (ls : List Slot) (st : List Value) (H : AHeap) (Q : Option Value → AHeap → Prop) : Prop := W tables_1 dn 0 y2 prog_1_method_7_code (some .int) pc ls st H Q
abbrev y3 : MethodName := ⟨"MultiplierGen", "getOperand", "(I)I"⟩
abbrev kb3 : ByteArray := prog_1_method_9_code
def M3 (pc : Nat) (ls : List Slot) (st : List Value) (H : AHeap) (Q : Option Value → AHeap → Prop) : Prop := W tables_1 dn 0 y3 prog_1_method_9_code (some .int) pc ls st H Q
abbrev y4 : MethodName := ⟨"MultiplierGen", "build", "()I"⟩
abbrev kb4 : ByteArray := prog_1_method_6_code
def M4 (pc : Nat) (ls : List Slot) (st : List Value) (H : AHeap) (Q : Option Value → AHeap → Prop) : Prop := W tables_1 dn 0 y4 prog_1_method_6_code (some .int) pc ls st H Q
abbrev y5 : MethodName := ⟨"MultiplierGen", "buildNetlist", "()V"⟩
abbrev kb5 : ByteArray := prog_1_method_29_code
def M5 (pc : Nat) (ls : List Slot) (st : List Value) (H : AHeap) (Q : Option Value → AHeap → Prop) : Prop := W tables_1 dn 0 y5 prog_1_method_29_code none pc ls st H Q
abbrev y6 : MethodName := ⟨"MultiplierGen", "newGate", "(III)I"⟩
abbrev kb6 : ByteArray := prog_1_method_20_code
def M6 (pc : Nat) (ls : List Slot) (st : List Value) (H : AHeap) (Q : Option Value → AHeap → Prop) : Prop := W tables_1 dn 0 y6 prog_1_method_20_code (some .int) pc ls st H Q
abbrev y7 : MethodName := ⟨"MultiplierGen", "buildSimple", "()V"⟩
abbrev kb7 : ByteArray := prog_1_method_30_code
def M7 (pc : Nat) (ls : List Slot) (st : List Value) (H : AHeap) (Q : Option Value → AHeap → Prop) : Prop := W tables_1 dn 0 y7 prog_1_method_30_code none pc ls st H Q
abbrev y8 : MethodName := ⟨"MultiplierGen", "bExt", "(I)I"⟩
abbrev kb8 : ByteArray := prog_1_method_26_code
def M8 (pc : Nat) (ls : List Slot) (st : List Value) (H : AHeap) (Q : Option Value → AHeap → Prop) : Prop := W tables_1 dn 0 y8 prog_1_method_26_code (some .int) pc ls st H Q
abbrev y9 : MethodName := ⟨"MultiplierGen", "aExt", "(I)I"⟩
abbrev kb9 : ByteArray := prog_1_method_25_code
def M9 (pc : Nat) (ls : List Slot) (st : List Value) (H : AHeap) (Q : Option Value → AHeap → Prop) : Prop := W tables_1 dn 0 y9 prog_1_method_25_code (some .int) pc ls st H Q
abbrev y10 : MethodName := ⟨"MultiplierGen", "mkAnd", "(II)I"⟩
abbrev kb10 : ByteArray := prog_1_method_22_code
def M10 (pc : Nat) (ls : List Slot) (st : List Value) (H : AHeap) (Q : Option Value → AHeap → Prop) : Prop := W tables_1 dn 0 y10 prog_1_method_22_code (some .int) pc ls st H Q
abbrev y11 : MethodName := ⟨"MultiplierGen", "pushCur", "(II)V"⟩
abbrev kb11 : ByteArray := prog_1_method_27_code
def M11 (pc : Nat) (ls : List Slot) (st : List Value) (H : AHeap) (Q : Option Value → AHeap → Prop) : Prop := W tables_1 dn 0 y11 prog_1_method_27_code none pc ls st H Q
abbrev y12 : MethodName := ⟨"MultiplierGen", "reduceAll", "()V"⟩
abbrev kb12 : ByteArray := prog_1_method_32_code
def M12 (pc : Nat) (ls : List Slot) (st : List Value) (H : AHeap) (Q : Option Value → AHeap → Prop) : Prop := W tables_1 dn 0 y12 prog_1_method_32_code none pc ls st H Q
abbrev y13 : MethodName := ⟨"MultiplierGen", "daddaTarget", "(I)I"⟩
abbrev kb13 : ByteArray := prog_1_method_33_code
def M13 (pc : Nat) (ls : List Slot) (st : List Value) (H : AHeap) (Q : Option Value → AHeap → Prop) : Prop := W tables_1 dn 0 y13 prog_1_method_33_code (some .int) pc ls st H Q
abbrev y14 : MethodName := ⟨"MultiplierGen", "reduceStage", "(I)V"⟩
abbrev kb14 : ByteArray := prog_1_method_34_code
def M14 (pc : Nat) (ls : List Slot) (st : List Value) (H : AHeap) (Q : Option Value → AHeap → Prop) : Prop := W tables_1 dn 0 y14 prog_1_method_34_code none pc ls st H Q
abbrev y15 : MethodName := ⟨"MultiplierGen", "reduceColumn", "(II)V"⟩
abbrev kb15 : ByteArray := prog_1_method_35_code
def M15 (pc : Nat) (ls : List Slot) (st : List Value) (H : AHeap) (Q : Option Value → AHeap → Prop) : Prop := W tables_1 dn 0 y15 prog_1_method_35_code none pc ls st H Q
abbrev y16 : MethodName := ⟨"MultiplierGen", "pushNxt", "(II)V"⟩
abbrev kb16 : ByteArray := prog_1_method_28_code
def M16 (pc : Nat) (ls : List Slot) (st : List Value) (H : AHeap) (Q : Option Value → AHeap → Prop) : Prop := W tables_1 dn 0 y16 prog_1_method_28_code none pc ls st H Q
abbrev y17 : MethodName := ⟨"MultiplierGen", "halfAdder", "(II)V"⟩
abbrev kb17 : ByteArray := prog_1_method_37_code
def M17 (pc : Nat) (ls : List Slot) (st : List Value) (H : AHeap) (Q : Option Value → AHeap → Prop) : Prop := W tables_1 dn 0 y17 prog_1_method_37_code none pc ls st H Q
abbrev y18 : MethodName := ⟨"MultiplierGen", "mkXor", "(II)I"⟩
abbrev kb18 : ByteArray := prog_1_method_24_code
def M18 (pc : Nat) (ls : List Slot) (st : List Value) (H : AHeap) (Q : Option Value → AHeap → Prop) : Prop := W tables_1 dn 0 y18 prog_1_method_24_code (some .int) pc ls st H Q
abbrev y19 : MethodName := ⟨"MultiplierGen", "fullAdder", "(II)V"⟩
abbrev kb19 : ByteArray := prog_1_method_36_code
def M19 (pc : Nat) (ls : List Slot) (st : List Value) (H : AHeap) (Q : Option Value → AHeap → Prop) : Prop := W tables_1 dn 0 y19 prog_1_method_36_code none pc ls st H Q
abbrev y20 : MethodName := ⟨"MultiplierGen", "mkOr", "(II)I"⟩
abbrev kb20 : ByteArray := prog_1_method_23_code
def M20 (pc : Nat) (ls : List Slot) (st : List Value) (H : AHeap) (Q : Option Value → AHeap → Prop) : Prop := W tables_1 dn 0 y20 prog_1_method_23_code (some .int) pc ls st H Q
abbrev y21 : MethodName := ⟨"MultiplierGen", "finalAdder", "()V"⟩
abbrev kb21 : ByteArray := prog_1_method_38_code
def M21 (pc : Nat) (ls : List Slot) (st : List Value) (H : AHeap) (Q : Option Value → AHeap → Prop) : Prop := W tables_1 dn 0 y21 prog_1_method_38_code none pc ls st H Q
abbrev y22 : MethodName := ⟨"MultiplierGen", "sparseCarries", "()V"⟩
abbrev kb22 : ByteArray := prog_1_method_43_code
def M22 (pc : Nat) (ls : List Slot) (st : List Value) (H : AHeap) (Q : Option Value → AHeap → Prop) : Prop := W tables_1 dn 0 y22 prog_1_method_43_code none pc ls st H Q
abbrev y23 : MethodName := ⟨"MultiplierGen", "combineGP", "(II)V"⟩
abbrev kb23 : ByteArray := prog_1_method_40_code
def M23 (pc : Nat) (ls : List Slot) (st : List Value) (H : AHeap) (Q : Option Value → AHeap → Prop) : Prop := W tables_1 dn 0 y23 prog_1_method_40_code none pc ls st H Q
abbrev y24 : MethodName := ⟨"MultiplierGen", "combineG", "(II)V"⟩
abbrev kb24 : ByteArray := prog_1_method_39_code
def M24 (pc : Nat) (ls : List Slot) (st : List Value) (H : AHeap) (Q : Option Value → AHeap → Prop) : Prop := W tables_1 dn 0 y24 prog_1_method_39_code none pc ls st H Q
abbrev y25 : MethodName := ⟨"MultiplierGen", "setB", "(I)I"⟩
abbrev kb25 : ByteArray := prog_1_method_8_code
def M25 (pc : Nat) (ls : List Slot) (st : List Value) (H : AHeap) (Q : Option Value → AHeap → Prop) : Prop := W tables_1 dn 0 y25 prog_1_method_8_code (some .int) pc ls st H Q
abbrev y26 : MethodName := ⟨"MultiplierGen", "readPattern", "(II)I"⟩
abbrev kb26 : ByteArray := prog_1_method_19_code
def M26 (pc : Nat) (ls : List Slot) (st : List Value) (H : AHeap) (Q : Option Value → AHeap → Prop) : Prop := W tables_1 dn 0 y26 prog_1_method_19_code (some .int) pc ls st H Q
abbrev y27 : MethodName := ⟨"MultiplierGenL2", "read", "(III)I"⟩
abbrev kb27 : ByteArray := method_2_code
def M27 (pc : Nat) (ls : List Slot) (st : List Value) (H : AHeap) (Q : Option Value → AHeap → Prop) : Prop := W tables_1 dn 0 y27 method_2_code (some .int) pc ls st H Q
abbrev y28 : MethodName := ⟨"MultiplierGenL2", "law", "(IIII)Z"⟩
abbrev kb28 : ByteArray := code
def M28 (pc : Nat) (ls : List Slot) (st : List Value) (H : AHeap) (Q : Option Value → AHeap → Prop) : Prop := W tables_1 dn 0 y28 code (some .boolean) pc ls st H Q
theorem dn_0 : dnOf dn y0 = some (1, 16) := by decide +kernel
theorem rc_0 : rCode tables_1 y0 = some (prog_1_method_1_code, 5, none) := rCode_of (i := 5) rfl (by decide +kernel)
theorem dn_1 : dnOf dn y1 = some (0, 0) := by decide +kernel
theorem rc_1 : rCode tables_1 y1 = some (prog_1_method_18_code, 4, some .int) := rCode_of (i := 42) rfl (by decide +kernel)
theorem dn_2 : dnOf dn y2 = some (0, 0) := by decide +kernel
theorem rc_2 : rCode tables_1 y2 = some (prog_1_method_7_code, 2, some .int) := rCode_of (i := 67) rfl (by decide +kernel)
theorem dn_3 : dnOf dn y3 = some (1, 14) := by decide +kernel
theorem rc_3 : rCode tables_1 y3 = some (prog_1_method_9_code, 2, some .int) := rCode_of (i := 72) rfl (by decide +kernel)
theorem dn_4 : dnOf dn y4 = some (7, 117) := by decide +kernel
theorem rc_4 : rCode tables_1 y4 = some (prog_1_method_6_code, 1, some .int) := rCode_of (i := 77) rfl (by decide +kernel)
theorem dn_5 : dnOf dn y5 = some (6, 103) := by decide +kernel
theorem rc_5 : rCode tables_1 y5 = some (prog_1_method_29_code, 3, none) := rCode_of (i := 89) rfl (by decide +kernel)
theorem dn_6 : dnOf dn y6 = some (0, 0) := by decide +kernel
theorem rc_6 : rCode tables_1 y6 = some (prog_1_method_20_code, 5, some .int) := rCode_of (i := 95) rfl (by decide +kernel)
theorem dn_7 : dnOf dn y7 = some (2, 30) := by decide +kernel
theorem rc_7 : rCode tables_1 y7 = some (prog_1_method_30_code, 6, none) := rCode_of (i := 101) rfl (by decide +kernel)
theorem dn_8 : dnOf dn y8 = some (0, 0) := by decide +kernel
theorem rc_8 : rCode tables_1 y8 = some (prog_1_method_26_code, 2, some .int) := rCode_of (i := 105) rfl (by decide +kernel)
theorem dn_9 : dnOf dn y9 = some (0, 0) := by decide +kernel
theorem rc_9 : rCode tables_1 y9 = some (prog_1_method_25_code, 2, some .int) := rCode_of (i := 109) rfl (by decide +kernel)
theorem dn_10 : dnOf dn y10 = some (1, 16) := by decide +kernel
theorem rc_10 : rCode tables_1 y10 = some (prog_1_method_22_code, 3, some .int) := rCode_of (i := 113) rfl (by decide +kernel)
theorem dn_11 : dnOf dn y11 = some (0, 0) := by decide +kernel
theorem rc_11 : rCode tables_1 y11 = some (prog_1_method_27_code, 4, none) := rCode_of (i := 117) rfl (by decide +kernel)
theorem dn_12 : dnOf dn y12 = some (5, 88) := by decide +kernel
theorem rc_12 : rCode tables_1 y12 = some (prog_1_method_32_code, 4, none) := rCode_of (i := 121) rfl (by decide +kernel)
theorem dn_13 : dnOf dn y13 = some (0, 0) := by decide +kernel
theorem rc_13 : rCode tables_1 y13 = some (prog_1_method_33_code, 5, some .int) := rCode_of (i := 125) rfl (by decide +kernel)
theorem dn_14 : dnOf dn y14 = some (4, 72) := by decide +kernel
theorem rc_14 : rCode tables_1 y14 = some (prog_1_method_34_code, 5, none) := rCode_of (i := 129) rfl (by decide +kernel)
theorem dn_15 : dnOf dn y15 = some (3, 53) := by decide +kernel
theorem rc_15 : rCode tables_1 y15 = some (prog_1_method_35_code, 8, none) := rCode_of (i := 133) rfl (by decide +kernel)
theorem dn_16 : dnOf dn y16 = some (0, 0) := by decide +kernel
theorem rc_16 : rCode tables_1 y16 = some (prog_1_method_28_code, 4, none) := rCode_of (i := 137) rfl (by decide +kernel)
theorem dn_17 : dnOf dn y17 = some (2, 30) := by decide +kernel
theorem rc_17 : rCode tables_1 y17 = some (prog_1_method_37_code, 8, none) := rCode_of (i := 141) rfl (by decide +kernel)
theorem dn_18 : dnOf dn y18 = some (1, 16) := by decide +kernel
theorem rc_18 : rCode tables_1 y18 = some (prog_1_method_24_code, 3, some .int) := rCode_of (i := 145) rfl (by decide +kernel)
theorem dn_19 : dnOf dn y19 = some (2, 30) := by decide +kernel
theorem rc_19 : rCode tables_1 y19 = some (prog_1_method_36_code, 12, none) := rCode_of (i := 149) rfl (by decide +kernel)
theorem dn_20 : dnOf dn y20 = some (1, 16) := by decide +kernel
theorem rc_20 : rCode tables_1 y20 = some (prog_1_method_23_code, 3, some .int) := rCode_of (i := 153) rfl (by decide +kernel)
theorem dn_21 : dnOf dn y21 = some (5, 76) := by decide +kernel
theorem rc_21 : rCode tables_1 y21 = some (prog_1_method_38_code, 5, none) := rCode_of (i := 157) rfl (by decide +kernel)
theorem dn_22 : dnOf dn y22 = some (4, 61) := by decide +kernel
theorem rc_22 : rCode tables_1 y22 = some (prog_1_method_43_code, 4, none) := rCode_of (i := 161) rfl (by decide +kernel)
theorem dn_23 : dnOf dn y23 = some (3, 47) := by decide +kernel
theorem rc_23 : rCode tables_1 y23 = some (prog_1_method_40_code, 3, none) := rCode_of (i := 165) rfl (by decide +kernel)
theorem dn_24 : dnOf dn y24 = some (2, 32) := by decide +kernel
theorem rc_24 : rCode tables_1 y24 = some (prog_1_method_39_code, 4, none) := rCode_of (i := 169) rfl (by decide +kernel)
theorem dn_25 : dnOf dn y25 = some (0, 0) := by decide +kernel
theorem rc_25 : rCode tables_1 y25 = some (prog_1_method_8_code, 2, some .int) := rCode_of (i := 174) rfl (by decide +kernel)
theorem dn_26 : dnOf dn y26 = some (0, 0) := by decide +kernel
theorem rc_26 : rCode tables_1 y26 = some (prog_1_method_19_code, 3, some .int) := rCode_of (i := 178) rfl (by decide +kernel)
theorem dn_27 : dnOf dn y27 = some (0, 0) := by decide +kernel
theorem rc_27 : rCode tables_1 y27 = some (method_2_code, 4, some .int) := rCode_of (i := 182) rfl (by decide +kernel)
theorem dn_28 : dnOf dn y28 = some (8, 129) := by decide +kernel
theorem gf_7 : gfR tables_1 "MultiplierGen" 7 = some ("MultiplierGen", 0) := by decide +kernel
theorem gf_13 : gfR tables_1 "MultiplierGen" 13 = some ("MultiplierGen", 1) := by decide +kernel
theorem gf_17 : gfR tables_1 "MultiplierGen" 17 = some ("MultiplierGen", 2) := by decide +kernel
theorem gf_20 : gfR tables_1 "MultiplierGen" 20 = some ("MultiplierGen", 3) := by decide +kernel
theorem gf_23 : gfR tables_1 "MultiplierGen" 23 = some ("MultiplierGen", 4) := by decide +kernel
theorem gf_26 : gfR tables_1 "MultiplierGen" 26 = some ("MultiplierGen", 5) := by decide +kernel
theorem gf_29 : gfR tables_1 "MultiplierGen" 29 = some ("MultiplierGen", 6) := by decide +kernel
theorem gf_32 : gfR tables_1 "MultiplierGen" 32 = some ("MultiplierGen", 7) := by decide +kernel
theorem gf_35 : gfR tables_1 "MultiplierGen" 35 = some ("MultiplierGen", 8) := by decide +kernel
theorem gf_38 : gfR tables_1 "MultiplierGen" 38 = some ("MultiplierGen", 9) := by decide +kernel
theorem gf_41 : gfR tables_1 "MultiplierGen" 41 = some ("MultiplierGen", 10) := by decide +kernel
theorem gf_44 : gfR tables_1 "MultiplierGen" 44 = some ("MultiplierGen", 11) := by decide +kernel
theorem gf_47 : gfR tables_1 "MultiplierGen" 47 = some ("MultiplierGen", 12) := by decide +kernel
theorem gf_50 : gfR tables_1 "MultiplierGen" 50 = some ("MultiplierGen", 13) := by decide +kernel
theorem gf_57 : gfR tables_1 "MultiplierGen" 57 = some ("MultiplierGen", 14) := by decide +kernel
theorem gf_61 : gfR tables_1 "MultiplierGen" 61 = some ("MultiplierGen", 15) := by decide +kernel
theorem gf_64 : gfR tables_1 "MultiplierGen" 64 = some ("MultiplierGen", 16) := by decide +kernel
theorem gf_67 : gfR tables_1 "MultiplierGen" 67 = some ("MultiplierGen", 17) := by decide +kernel
theorem gf_70 : gfR tables_1 "MultiplierGen" 70 = some ("MultiplierGen", 18) := by decide +kernel
theorem gf_74 : gfR tables_1 "MultiplierGen" 74 = some ("MultiplierGen", 19) := by decide +kernel
theorem gf_77 : gfR tables_1 "MultiplierGen" 77 = some ("MultiplierGen", 20) := by decide +kernel
theorem gf_80 : gfR tables_1 "MultiplierGen" 80 = some ("MultiplierGen", 21) := by decide +kernel
theorem gf_83 : gfR tables_1 "MultiplierGen" 83 = some ("MultiplierGen", 22) := by decide +kernel
theorem gf_86 : gfR tables_1 "MultiplierGen" 86 = some ("MultiplierGen", 23) := by decide +kernel
theorem gf_90 : gfR tables_1 "MultiplierGen" 90 = some ("MultiplierGen", 24) := by decide +kernel
theorem gf_93 : gfR tables_1 "MultiplierGen" 93 = some ("MultiplierGen", 25) := by decide +kernel
theorem gf_96 : gfR tables_1 "MultiplierGen" 96 = some ("MultiplierGen", 26) := by decide +kernel
theorem gf_99 : gfR tables_1 "MultiplierGen" 99 = some ("MultiplierGen", 27) := by decide +kernel
theorem gf_116 : gfR tables_1 "MultiplierGen" 116 = some ("MultiplierGen", 28) := by decide +kernel
theorem gf_126 : gfR tables_1 "MultiplierGen" 126 = some ("MultiplierGen", 29) := by decide +kernel
section Rules
variable {b r q : Nat} {pre : AHeap} {s : Nat → Int32} {A : Nat → List Int32} {L : Nat → Int64} {B : Nat → List Int64} {post : AHeap} {ls : List Slot} {st : List Value} {H R : AHeap} {Q : Option Value → AHeap → Prop} {x y v z j : Int32} {J1 J2 : Int64} {sc : List Int32} {l0 l1 l2 l3 l4 l5 l6 l7 l8 l9 l10 l11 : Slot}
theorem m0_0 : M0 0 [.val (.ref r), l1, l2, l3, l4] st H Q = M0 1 [.val (.ref r), l1, l2, l3, l4] (.ref r :: st) H Q := w_x (show decode kb0 0 = .ok (.aload_n 0, 1) from by decide +kernel) rfl
theorem m0_1 : M0 1 ls [.ref r] H Q = M0 4 ls [] H Q := w_obj (show decode kb0 1 = .ok (.invokespecial 1, 3) from by decide +kernel) (sl := 4) (by decide +kernel) (by decide)
theorem m0_4 : M0 4 [.val (.ref r), l1, l2, l3, l4] st H Q = M0 5 [.val (.ref r), l1, l2, l3, l4] (.ref r :: st) H Q := w_x (show decode kb0 4 = .ok (.aload_n 0, 1) from by decide +kernel) rfl
theorem m0_5 : M0 5 ls st H Q = M0 8 ls (.int 4096 :: st) H Q := w_con (show decode kb0 5 = .ok (.sipush 4096, 3) from by decide +kernel) rfl (by decide)
theorem m0_13 : M0 13 [.val (.ref r), l1, l2, l3, l4] st H Q = M0 14 [.val (.ref r), l1, l2, l3, l4] (.ref r :: st) H Q := w_x (show decode kb0 13 = .ok (.aload_n 0, 1) from by decide +kernel) rfl
theorem m0_14 : M0 14 ls st H Q = M0 17 ls (.int 4096 :: st) H Q := w_con (show decode kb0 14 = .ok (.sipush 4096, 3) from by decide +kernel) rfl (by decide)
theorem m0_22 : M0 22 [.val (.ref r), l1, l2, l3, l4] st H Q = M0 23 [.val (.ref r), l1, l2, l3, l4] (.ref r :: st) H Q := w_x (show decode kb0 22 = .ok (.aload_n 0, 1) from by decide +kernel) rfl
theorem m0_23 : M0 23 ls st H Q = M0 26 ls (.int 4096 :: st) H Q := w_con (show decode kb0 23 = .ok (.sipush 4096, 3) from by decide +kernel) rfl (by decide)
theorem m0_31 : M0 31 [.val (.ref r), l1, l2, l3, l4] st H Q = M0 32 [.val (.ref r), l1, l2, l3, l4] (.ref r :: st) H Q := w_x (show decode kb0 31 = .ok (.aload_n 0, 1) from by decide +kernel) rfl
theorem m0_32 : M0 32 ls st H Q = M0 35 ls (.int 4096 :: st) H Q := w_con (show decode kb0 32 = .ok (.sipush 4096, 3) from by decide +kernel) rfl (by decide)
theorem m0_40 : M0 40 [.val (.ref r), l1, l2, l3, l4] st H Q = M0 41 [.val (.ref r), l1, l2, l3, l4] (.ref r :: st) H Q := w_x (show decode kb0 40 = .ok (.aload_n 0, 1) from by decide +kernel) rfl
theorem m0_41 : M0 41 ls st H Q = M0 44 ls (.int 512 :: st) H Q := w_con (show decode kb0 41 = .ok (.sipush 512, 3) from by decide +kernel) rfl (by decide)
theorem m0_49 : M0 49 [.val (.ref r), l1, l2, l3, l4] st H Q = M0 50 [.val (.ref r), l1, l2, l3, l4] (.ref r :: st) H Q := w_x (show decode kb0 49 = .ok (.aload_n 0, 1) from by decide +kernel) rfl
theorem m0_50 : M0 50 ls st H Q = M0 53 ls (.int 512 :: st) H Q := w_con (show decode kb0 50 = .ok (.sipush 512, 3) from by decide +kernel) rfl (by decide)
theorem m0_58 : M0 58 [.val (.ref r), l1, l2, l3, l4] st H Q = M0 59 [.val (.ref r), l1, l2, l3, l4] (.ref r :: st) H Q := w_x (show decode kb0 58 = .ok (.aload_n 0, 1) from by decide +kernel) rfl
theorem m0_59 : M0 59 ls st H Q = M0 61 ls (.int 16 :: st) H Q := w_con (show decode kb0 59 = .ok (.bipush 16, 2) from by decide +kernel) rfl (by decide)
theorem m0_66 : M0 66 [.val (.ref r), l1, l2, l3, l4] st H Q = M0 67 [.val (.ref r), l1, l2, l3, l4] (.ref r :: st) H Q := w_x (show decode kb0 66 = .ok (.aload_n 0, 1) from by decide +kernel) rfl
theorem m0_67 : M0 67 ls st H Q = M0 69 ls (.int 16 :: st) H Q := w_con (show decode kb0 67 = .ok (.bipush 16, 2) from by decide +kernel) rfl (by decide)
theorem m0_74 : M0 74 [.val (.ref r), l1, l2, l3, l4] st H Q = M0 75 [.val (.ref r), l1, l2, l3, l4] (.ref r :: st) H Q := w_x (show decode kb0 74 = .ok (.aload_n 0, 1) from by decide +kernel) rfl
theorem m0_75 : M0 75 ls st H Q = M0 77 ls (.int 16 :: st) H Q := w_con (show decode kb0 75 = .ok (.bipush 16, 2) from by decide +kernel) rfl (by decide)
theorem m0_82 : M0 82 [.val (.ref r), l1, l2, l3, l4] st H Q = M0 83 [.val (.ref r), l1, l2, l3, l4] (.ref r :: st) H Q := w_x (show decode kb0 82 = .ok (.aload_n 0, 1) from by decide +kernel) rfl
theorem m0_83 : M0 83 ls st H Q = M0 85 ls (.int 16 :: st) H Q := w_con (show decode kb0 83 = .ok (.bipush 16, 2) from by decide +kernel) rfl (by decide)
theorem m0_90 : M0 90 [.val (.ref r), l1, l2, l3, l4] st H Q = M0 91 [.val (.ref r), l1, l2, l3, l4] (.ref r :: st) H Q := w_x (show decode kb0 90 = .ok (.aload_n 0, 1) from by decide +kernel) rfl
theorem m0_91 : M0 91 ls st H Q = M0 93 ls (.int 16 :: st) H Q := w_con (show decode kb0 91 = .ok (.bipush 16, 2) from by decide +kernel) rfl (by decide)
theorem m0_98 : M0 98 [.val (.ref r), l1, l2, l3, l4] st H Q = M0 99 [.val (.ref r), l1, l2, l3, l4] (.ref r :: st) H Q := w_x (show decode kb0 98 = .ok (.aload_n 0, 1) from by decide +kernel) rfl
theorem m0_99 : M0 99 ls st H Q = M0 101 ls (.int 16 :: st) H Q := w_con (show decode kb0 99 = .ok (.bipush 16, 2) from by decide +kernel) rfl (by decide)
theorem m0_106 : M0 106 [.val (.ref r), l1, l2, l3, l4] st H Q = M0 107 [.val (.ref r), l1, l2, l3, l4] (.ref r :: st) H Q := w_x (show decode kb0 106 = .ok (.aload_n 0, 1) from by decide +kernel) rfl
theorem m0_107 : M0 107 ls st H Q = M0 109 ls (.int 8 :: st) H Q := w_con (show decode kb0 107 = .ok (.bipush 8, 2) from by decide +kernel) rfl (by decide)
theorem m0_114 : M0 114 [.val (.ref r), l1, l2, l3, l4] st H Q = M0 115 [.val (.ref r), l1, l2, l3, l4] (.ref r :: st) H Q := w_x (show decode kb0 114 = .ok (.aload_n 0, 1) from by decide +kernel) rfl
theorem m0_115 : M0 115 ls st H Q = M0 117 ls (.int 8 :: st) H Q := w_con (show decode kb0 115 = .ok (.bipush 8, 2) from by decide +kernel) rfl (by decide)
theorem m0_122 : M0 122 [.val (.ref r), l1, l2, l3, l4] st H Q = M0 123 [.val (.ref r), l1, l2, l3, l4] (.ref r :: st) H Q := w_x (show decode kb0 122 = .ok (.aload_n 0, 1) from by decide +kernel) rfl
theorem m0_123 : M0 123 [.val (.ref r), l1, l2, l3, l4] st H Q = M0 124 [.val (.ref r), l1, l2, l3, l4] (.ref r :: st) H Q := w_x (show decode kb0 123 = .ok (.aload_n 0, 1) from by decide +kernel) rfl
theorem m0_124 : M0 124 [l0, .val (.int v), l2, l3, l4] st H Q = M0 125 [l0, .val (.int v), l2, l3, l4] (.int v :: st) H Q := w_x (show decode kb0 124 = .ok (.iload_n 1, 1) from by decide +kernel) rfl
theorem m0_125 : M0 125 ls st H Q = M0 126 ls (.int 2 :: st) H Q := w_con (show decode kb0 125 = .ok (.iconst 2, 1) from by decide +kernel) rfl (by decide)
theorem m0_126 : M0 126 ls st H Q = M0 128 ls (.int 8 :: st) H Q := w_con (show decode kb0 126 = .ok (.bipush 8, 2) from by decide +kernel) rfl (by decide)
theorem cr0_53 : vR tables_1 dn y0 53 = some (true, y1, prog_1_method_18_code, 4, (some .int), 3, 1) := pR_of (cR_of (by decide +kernel) rc_1 dn_1 dn_0 (sig := ⟨[.int, .int, .int], some .int⟩) (by decide +kernel) (by decide +kernel) rfl rfl) (by decide +kernel) (by decide +kernel)
theorem m0_128 (a0 : Int32) (a1 : Int32) (a2 : Int32) (u0 : Nat) : M0 128 ls [.int a2, .int a1, .int a0, .ref b, .ref u0] (put b pre s A L B post) Q = M1 0 [.val (.ref b), .val (.int a0), .val (.int a1), .val (.int a2)] [] (put b pre s A L B post) (fun v H1 => M0 131 ls (v.toList ++ [.ref u0]) H1 Q) := w_virt (as := [.int a2, .int a1, .int a0]) (rest := [.ref u0]) (a := b) (show decode kb0 128 = .ok (.invokevirtual 53, 3) from by decide +kernel) cr0_53 put_o rfl rfl (Nat.le_of_ble_eq_true rfl) (by show 4 ≤ 4; omega) rfl
theorem pf0_57 : pfR tables_1 y0.cls y0.name 57 = some ("MultiplierGen", 14, .int) := by decide +kernel
theorem m0_131 : M0 131 ls (.int v :: .ref b :: st) (put b pre s A L B post) Q = M0 134 ls st (put b pre (ou s 0 v) A L B post) Q := w_put (show decode kb0 131 = .ok (.putfield 57, 3) from by decide +kernel) pf0_57 put_o (Nat.zero_le _) (by show 14 < 30; omega) rfl put_s0
theorem m0_134 : M0 134 [.val (.ref r), l1, l2, l3, l4] st H Q = M0 135 [.val (.ref r), l1, l2, l3, l4] (.ref r :: st) H Q := w_x (show decode kb0 134 = .ok (.aload_n 0, 1) from by decide +kernel) rfl
theorem m0_135 : M0 135 [.val (.ref r), l1, l2, l3, l4] st H Q = M0 136 [.val (.ref r), l1, l2, l3, l4] (.ref r :: st) H Q := w_x (show decode kb0 135 = .ok (.aload_n 0, 1) from by decide +kernel) rfl
theorem m0_136 : M0 136 [l0, l1, .val (.int v), l3, l4] st H Q = M0 137 [l0, l1, .val (.int v), l3, l4] (.int v :: st) H Q := w_x (show decode kb0 136 = .ok (.iload_n 2, 1) from by decide +kernel) rfl
theorem m0_137 : M0 137 ls st H Q = M0 138 ls (.int 0 :: st) H Q := w_con (show decode kb0 137 = .ok (.iconst 0, 1) from by decide +kernel) rfl (by decide)
theorem m0_138 : M0 138 ls st H Q = M0 139 ls (.int 1 :: st) H Q := w_con (show decode kb0 138 = .ok (.iconst 1, 1) from by decide +kernel) rfl (by decide)
theorem m0_139 (a0 : Int32) (a1 : Int32) (a2 : Int32) (u0 : Nat) : M0 139 ls [.int a2, .int a1, .int a0, .ref b, .ref u0] (put b pre s A L B post) Q = M1 0 [.val (.ref b), .val (.int a0), .val (.int a1), .val (.int a2)] [] (put b pre s A L B post) (fun v H1 => M0 142 ls (v.toList ++ [.ref u0]) H1 Q) := w_virt (as := [.int a2, .int a1, .int a0]) (rest := [.ref u0]) (a := b) (show decode kb0 139 = .ok (.invokevirtual 53, 3) from by decide +kernel) cr0_53 put_o rfl rfl (Nat.le_of_ble_eq_true rfl) (by show 4 ≤ 4; omega) rfl
theorem pf0_61 : pfR tables_1 y0.cls y0.name 61 = some ("MultiplierGen", 15, .int) := by decide +kernel
theorem m0_142 : M0 142 ls (.int v :: .ref b :: st) (put b pre s A L B post) Q = M0 145 ls st (put b pre (ou s 1 v) A L B post) Q := w_put (show decode kb0 142 = .ok (.putfield 61, 3) from by decide +kernel) pf0_61 put_o (Nat.zero_le _) (by show 15 < 30; omega) rfl put_s1
theorem m0_145 : M0 145 [.val (.ref r), l1, l2, l3, l4] st H Q = M0 146 [.val (.ref r), l1, l2, l3, l4] (.ref r :: st) H Q := w_x (show decode kb0 145 = .ok (.aload_n 0, 1) from by decide +kernel) rfl
theorem m0_146 : M0 146 [.val (.ref r), l1, l2, l3, l4] st H Q = M0 147 [.val (.ref r), l1, l2, l3, l4] (.ref r :: st) H Q := w_x (show decode kb0 146 = .ok (.aload_n 0, 1) from by decide +kernel) rfl
theorem m0_147 : M0 147 [l0, l1, l2, .val (.int v), l4] st H Q = M0 148 [l0, l1, l2, .val (.int v), l4] (.int v :: st) H Q := w_x (show decode kb0 147 = .ok (.iload_n 3, 1) from by decide +kernel) rfl
theorem m0_148 : M0 148 ls st H Q = M0 149 ls (.int 0 :: st) H Q := w_con (show decode kb0 148 = .ok (.iconst 0, 1) from by decide +kernel) rfl (by decide)
theorem m0_149 : M0 149 ls st H Q = M0 150 ls (.int 1 :: st) H Q := w_con (show decode kb0 149 = .ok (.iconst 1, 1) from by decide +kernel) rfl (by decide)
theorem m0_150 (a0 : Int32) (a1 : Int32) (a2 : Int32) (u0 : Nat) : M0 150 ls [.int a2, .int a1, .int a0, .ref b, .ref u0] (put b pre s A L B post) Q = M1 0 [.val (.ref b), .val (.int a0), .val (.int a1), .val (.int a2)] [] (put b pre s A L B post) (fun v H1 => M0 153 ls (v.toList ++ [.ref u0]) H1 Q) := w_virt (as := [.int a2, .int a1, .int a0]) (rest := [.ref u0]) (a := b) (show decode kb0 150 = .ok (.invokevirtual 53, 3) from by decide +kernel) cr0_53 put_o rfl rfl (Nat.le_of_ble_eq_true rfl) (by show 4 ≤ 4; omega) rfl
theorem pf0_64 : pfR tables_1 y0.cls y0.name 64 = some ("MultiplierGen", 16, .int) := by decide +kernel
theorem m0_153 : M0 153 ls (.int v :: .ref b :: st) (put b pre s A L B post) Q = M0 156 ls st (put b pre (ou s 2 v) A L B post) Q := w_put (show decode kb0 153 = .ok (.putfield 64, 3) from by decide +kernel) pf0_64 put_o (Nat.zero_le _) (by show 16 < 30; omega) rfl put_s2
theorem m0_156 : M0 156 [.val (.ref r), l1, l2, l3, l4] st H Q = M0 157 [.val (.ref r), l1, l2, l3, l4] (.ref r :: st) H Q := w_x (show decode kb0 156 = .ok (.aload_n 0, 1) from by decide +kernel) rfl
theorem m0_157 : M0 157 [.val (.ref r), l1, l2, l3, l4] st H Q = M0 158 [.val (.ref r), l1, l2, l3, l4] (.ref r :: st) H Q := w_x (show decode kb0 157 = .ok (.aload_n 0, 1) from by decide +kernel) rfl
theorem m0_158 : M0 158 [l0, l1, l2, l3, .val (.int v)] st H Q = M0 160 [l0, l1, l2, l3, .val (.int v)] (.int v :: st) H Q := w_x (show decode kb0 158 = .ok (.iload 4, 2) from by decide +kernel) rfl
theorem m0_160 : M0 160 ls st H Q = M0 161 ls (.int 0 :: st) H Q := w_con (show decode kb0 160 = .ok (.iconst 0, 1) from by decide +kernel) rfl (by decide)
theorem m0_161 : M0 161 ls st H Q = M0 162 ls (.int 2 :: st) H Q := w_con (show decode kb0 161 = .ok (.iconst 2, 1) from by decide +kernel) rfl (by decide)
theorem m0_162 (a0 : Int32) (a1 : Int32) (a2 : Int32) (u0 : Nat) : M0 162 ls [.int a2, .int a1, .int a0, .ref b, .ref u0] (put b pre s A L B post) Q = M1 0 [.val (.ref b), .val (.int a0), .val (.int a1), .val (.int a2)] [] (put b pre s A L B post) (fun v H1 => M0 165 ls (v.toList ++ [.ref u0]) H1 Q) := w_virt (as := [.int a2, .int a1, .int a0]) (rest := [.ref u0]) (a := b) (show decode kb0 162 = .ok (.invokevirtual 53, 3) from by decide +kernel) cr0_53 put_o rfl rfl (Nat.le_of_ble_eq_true rfl) (by show 4 ≤ 4; omega) rfl
theorem pf0_67 : pfR tables_1 y0.cls y0.name 67 = some ("MultiplierGen", 17, .int) := by decide +kernel
theorem m0_165 : M0 165 ls (.int v :: .ref b :: st) (put b pre s A L B post) Q = M0 168 ls st (put b pre (ou s 3 v) A L B post) Q := w_put (show decode kb0 165 = .ok (.putfield 67, 3) from by decide +kernel) pf0_67 put_o (Nat.zero_le _) (by show 17 < 30; omega) rfl put_s3
theorem m0_168 : M0 168 [.val (.ref r), l1, l2, l3, l4] st H Q = M0 169 [.val (.ref r), l1, l2, l3, l4] (.ref r :: st) H Q := w_x (show decode kb0 168 = .ok (.aload_n 0, 1) from by decide +kernel) rfl
theorem m0_169 : M0 169 ls st H Q = M0 170 ls (.int 0 :: st) H Q := w_con (show decode kb0 169 = .ok (.iconst 0, 1) from by decide +kernel) rfl (by decide)
theorem pf0_70 : pfR tables_1 y0.cls y0.name 70 = some ("MultiplierGen", 18, .boolean) := by decide +kernel
theorem m0_170 : M0 170 ls (.int v :: .ref b :: st) (put b pre s A L B post) Q = M0 173 ls st (put b pre (ou s 8 (nar .boolean v)) A L B post) Q := w_put (show decode kb0 170 = .ok (.putfield 70, 3) from by decide +kernel) pf0_70 put_o (Nat.zero_le _) (by show 18 < 30; omega) rfl put_s8
theorem m0_173 : M0 173 [.val (.ref r), l1, l2, l3, l4] st H Q = M0 174 [.val (.ref r), l1, l2, l3, l4] (.ref r :: st) H Q := w_x (show decode kb0 173 = .ok (.aload_n 0, 1) from by decide +kernel) rfl
theorem m0_174 : M0 174 ls st H Q = M0 175 ls (.int 0 :: st) H Q := w_con (show decode kb0 174 = .ok (.iconst 0, 1) from by decide +kernel) rfl (by decide)
theorem pf0_74 : pfR tables_1 y0.cls y0.name 74 = some ("MultiplierGen", 19, .int) := by decide +kernel
theorem m0_175 : M0 175 ls (.int v :: .ref b :: st) (put b pre s A L B post) Q = M0 178 ls st (put b pre (ou s 9 v) A L B post) Q := w_put (show decode kb0 175 = .ok (.putfield 74, 3) from by decide +kernel) pf0_74 put_o (Nat.zero_le _) (by show 19 < 30; omega) rfl put_s9
theorem m0_178 : M0 178 [.val (.ref r), l1, l2, l3, l4] st H Q = M0 179 [.val (.ref r), l1, l2, l3, l4] (.ref r :: st) H Q := w_x (show decode kb0 178 = .ok (.aload_n 0, 1) from by decide +kernel) rfl
theorem m0_179 : M0 179 ls st H Q = M0 180 ls (.int 0 :: st) H Q := w_con (show decode kb0 179 = .ok (.iconst 0, 1) from by decide +kernel) rfl (by decide)
theorem pf0_77 : pfR tables_1 y0.cls y0.name 77 = some ("MultiplierGen", 20, .int) := by decide +kernel
theorem m0_180 : M0 180 ls (.int v :: .ref b :: st) (put b pre s A L B post) Q = M0 183 ls st (put b pre (ou s 10 v) A L B post) Q := w_put (show decode kb0 180 = .ok (.putfield 77, 3) from by decide +kernel) pf0_77 put_o (Nat.zero_le _) (by show 20 < 30; omega) rfl put_s10
theorem m0_183 : M0 183 [.val (.ref r), l1, l2, l3, l4] st H Q = M0 184 [.val (.ref r), l1, l2, l3, l4] (.ref r :: st) H Q := w_x (show decode kb0 183 = .ok (.aload_n 0, 1) from by decide +kernel) rfl
theorem m0_184 : M0 184 ls st H Q = M0 185 ls (.int 0 :: st) H Q := w_con (show decode kb0 184 = .ok (.iconst 0, 1) from by decide +kernel) rfl (by decide)
theorem pf0_80 : pfR tables_1 y0.cls y0.name 80 = some ("MultiplierGen", 21, .int) := by decide +kernel
theorem m0_185 : M0 185 ls (.int v :: .ref b :: st) (put b pre s A L B post) Q = M0 188 ls st (put b pre (ou s 11 v) A L B post) Q := w_put (show decode kb0 185 = .ok (.putfield 80, 3) from by decide +kernel) pf0_80 put_o (Nat.zero_le _) (by show 21 < 30; omega) rfl put_s11
theorem m0_188 : M0 188 [.val (.ref r), l1, l2, l3, l4] st H Q = M0 189 [.val (.ref r), l1, l2, l3, l4] (.ref r :: st) H Q := w_x (show decode kb0 188 = .ok (.aload_n 0, 1) from by decide +kernel) rfl
theorem m0_189 : M0 189 ls st H Q = M0 190 ls (.int 0 :: st) H Q := w_con (show decode kb0 189 = .ok (.iconst 0, 1) from by decide +kernel) rfl (by decide)
theorem pf0_83 : pfR tables_1 y0.cls y0.name 83 = some ("MultiplierGen", 22, .int) := by decide +kernel
theorem m0_190 : M0 190 ls (.int v :: .ref b :: st) (put b pre s A L B post) Q = M0 193 ls st (put b pre (ou s 12 v) A L B post) Q := w_put (show decode kb0 190 = .ok (.putfield 83, 3) from by decide +kernel) pf0_83 put_o (Nat.zero_le _) (by show 22 < 30; omega) rfl put_s12
theorem m0_193 : M0 193 [.val (.ref r), l1, l2, l3, l4] st H Q = M0 194 [.val (.ref r), l1, l2, l3, l4] (.ref r :: st) H Q := w_x (show decode kb0 193 = .ok (.aload_n 0, 1) from by decide +kernel) rfl
theorem m0_194 : M0 194 ls st H Q = M0 195 ls (.long 0 :: st) H Q := w_con (show decode kb0 194 = .ok (.lconst 0, 1) from by decide +kernel) rfl (by decide)
theorem pf0_86 : pfR tables_1 y0.cls y0.name 86 = some ("MultiplierGen", 23, .long) := by decide +kernel
theorem m0_195 : M0 195 ls (.long J1 :: .ref b :: st) (put b pre s A L B post) Q = M0 198 ls st (put b pre s A (ou L 0 J1) B post) Q := w_put (show decode kb0 195 = .ok (.putfield 86, 3) from by decide +kernel) pf0_86 put_o (Nat.zero_le _) (by show 23 < 30; omega) rfl put_j0
theorem m0_198 : M0 198 ls [] H Q = Q none H := w_vret (show decode kb0 198 = .ok (.return_, 1) from by decide +kernel) rfl
theorem m1_0 : M1 0 [l0, .val (.int v), l2, l3] st H Q = M1 1 [l0, .val (.int v), l2, l3] (.int v :: st) H Q := w_x (show decode kb1 0 = .ok (.iload_n 1, 1) from by decide +kernel) rfl
theorem m1_1 : M1 1 [l0, l1, .val (.int v), l3] st H Q = M1 2 [l0, l1, .val (.int v), l3] (.int v :: st) H Q := w_x (show decode kb1 1 = .ok (.iload_n 2, 1) from by decide +kernel) rfl
theorem m1_2 : M1 2 ls (.int y :: .int x :: st) H Q = if x < y then M1 5 ls st H Q else M1 7 ls st H Q := w_icmpN (show decode kb1 2 = .ok (.if_icmp .ge 5, 3) from by decide +kernel) (i_ge x y) rfl
theorem m1_5 : M1 5 [l0, l1, .val (.int v), l3] st H Q = M1 6 [l0, l1, .val (.int v), l3] (.int v :: st) H Q := w_x (show decode kb1 5 = .ok (.iload_n 2, 1) from by decide +kernel) rfl
theorem m1_6 : M1 6 ls (.int z :: st) H Q = Q (some (.int z)) H := w_iret (show decode kb1 6 = .ok (.ireturn, 1) from by decide +kernel) rfl
theorem m1_7 : M1 7 [l0, .val (.int v), l2, l3] st H Q = M1 8 [l0, .val (.int v), l2, l3] (.int v :: st) H Q := w_x (show decode kb1 7 = .ok (.iload_n 1, 1) from by decide +kernel) rfl
theorem m1_8 : M1 8 [l0, l1, l2, .val (.int v)] st H Q = M1 9 [l0, l1, l2, .val (.int v)] (.int v :: st) H Q := w_x (show decode kb1 8 = .ok (.iload_n 3, 1) from by decide +kernel) rfl
theorem m1_9 : M1 9 ls (.int y :: .int x :: st) H Q = if y < x then M1 12 ls st H Q else M1 14 ls st H Q := w_icmpN (show decode kb1 9 = .ok (.if_icmp .le 5, 3) from by decide +kernel) (i_le x y) rfl
theorem m1_12 : M1 12 [l0, l1, l2, .val (.int v)] st H Q = M1 13 [l0, l1, l2, .val (.int v)] (.int v :: st) H Q := w_x (show decode kb1 12 = .ok (.iload_n 3, 1) from by decide +kernel) rfl
theorem m1_13 : M1 13 ls (.int z :: st) H Q = Q (some (.int z)) H := w_iret (show decode kb1 13 = .ok (.ireturn, 1) from by decide +kernel) rfl
theorem m1_14 : M1 14 [l0, .val (.int v), l2, l3] st H Q = M1 15 [l0, .val (.int v), l2, l3] (.int v :: st) H Q := w_x (show decode kb1 14 = .ok (.iload_n 1, 1) from by decide +kernel) rfl
theorem m1_15 : M1 15 ls (.int z :: st) H Q = Q (some (.int z)) H := w_iret (show decode kb1 15 = .ok (.ireturn, 1) from by decide +kernel) rfl
theorem m2_0 : M2 0 [.val (.ref r), l1] st H Q = M2 1 [.val (.ref r), l1] (.ref r :: st) H Q := w_x (show decode kb2 0 = .ok (.aload_n 0, 1) from by decide +kernel) rfl
theorem m2_1 : M2 1 ls (.ref b :: st) (put b pre s A L B post) Q = M2 4 ls (.int (s 8) :: st) (put b pre s A L B post) Q := w_get (show decode kb2 1 = .ok (.getfield 70, 3) from by decide +kernel) gf_70 put_o rfl
theorem m2_4 : M2 4 ls (.int x :: st) H Q = if x = 0 then M2 7 ls st H Q else M2 9 ls st H Q := w_ifN (show decode kb2 4 = .ok (.ifCond .ne 5, 3) from by decide +kernel) (z_ne x) rfl
theorem m2_7 : M2 7 ls st H Q = M2 8 ls (.int (-1) :: st) H Q := w_con (show decode kb2 7 = .ok (.iconst (-1), 1) from by decide +kernel) rfl (by decide)
theorem m2_8 : M2 8 ls (.int z :: st) H Q = Q (some (.int z)) H := w_iret (show decode kb2 8 = .ok (.ireturn, 1) from by decide +kernel) rfl
theorem m2_9 : M2 9 [.val (.ref r), l1] st H Q = M2 10 [.val (.ref r), l1] (.ref r :: st) H Q := w_x (show decode kb2 9 = .ok (.aload_n 0, 1) from by decide +kernel) rfl
theorem m2_10 : M2 10 [l0, .val (.int v)] st H Q = M2 11 [l0, .val (.int v)] (.int v :: st) H Q := w_x (show decode kb2 10 = .ok (.iload_n 1, 1) from by decide +kernel) rfl
theorem m2_11 : M2 11 ls st H Q = M2 12 ls (.int 1 :: st) H Q := w_con (show decode kb2 11 = .ok (.iconst 1, 1) from by decide +kernel) rfl (by decide)
theorem m2_12 : M2 12 [.val (.ref r), l1] st H Q = M2 13 [.val (.ref r), l1] (.ref r :: st) H Q := w_x (show decode kb2 12 = .ok (.aload_n 0, 1) from by decide +kernel) rfl
theorem m2_13 : M2 13 ls (.ref b :: st) (put b pre s A L B post) Q = M2 16 ls (.int (s 4) :: st) (put b pre s A L B post) Q := w_get (show decode kb2 13 = .ok (.getfield 90, 3) from by decide +kernel) gf_90 put_o rfl
theorem m2_16 : M2 16 ls (.int y :: .int x :: st) H Q = M2 17 ls (.int (x <<< (y &&& 31)) :: st) H Q := w_x (show decode kb2 16 = .ok (.ishl, 1) from by decide +kernel) rfl
theorem m2_17 : M2 17 ls st H Q = M2 18 ls (.int 1 :: st) H Q := w_con (show decode kb2 17 = .ok (.iconst 1, 1) from by decide +kernel) rfl (by decide)
theorem m2_18 : M2 18 ls (.int y :: .int x :: st) H Q = M2 19 ls (.int (x - y) :: st) H Q := w_x (show decode kb2 18 = .ok (.isub, 1) from by decide +kernel) rfl
theorem m2_19 : M2 19 ls (.int y :: .int x :: st) H Q = M2 20 ls (.int (x &&& y) :: st) H Q := w_x (show decode kb2 19 = .ok (.iand, 1) from by decide +kernel) rfl
theorem pf2_74 : pfR tables_1 y2.cls y2.name 74 = some ("MultiplierGen", 19, .int) := by decide +kernel
theorem m2_20 : M2 20 ls (.int v :: .ref b :: st) (put b pre s A L B post) Q = M2 23 ls st (put b pre (ou s 9 v) A L B post) Q := w_put (show decode kb2 20 = .ok (.putfield 74, 3) from by decide +kernel) pf2_74 put_o (Nat.zero_le _) (by show 19 < 30; omega) rfl put_s9
theorem m2_23 : M2 23 ls st H Q = M2 24 ls (.int 0 :: st) H Q := w_con (show decode kb2 23 = .ok (.iconst 0, 1) from by decide +kernel) rfl (by decide)
theorem m2_24 : M2 24 ls (.int z :: st) H Q = Q (some (.int z)) H := w_iret (show decode kb2 24 = .ok (.ireturn, 1) from by decide +kernel) rfl
theorem m3_0 : M3 0 [.val (.ref r), l1] st H Q = M3 1 [.val (.ref r), l1] (.ref r :: st) H Q := w_x (show decode kb3 0 = .ok (.aload_n 0, 1) from by decide +kernel) rfl
theorem m3_1 : M3 1 ls (.ref b :: st) (put b pre s A L B post) Q = M3 4 ls (.int (s 8) :: st) (put b pre s A L B post) Q := w_get (show decode kb3 1 = .ok (.getfield 70, 3) from by decide +kernel) gf_70 put_o rfl
theorem m3_4 : M3 4 ls (.int x :: st) H Q = if x = 0 then M3 7 ls st H Q else M3 9 ls st H Q := w_ifN (show decode kb3 4 = .ok (.ifCond .ne 5, 3) from by decide +kernel) (z_ne x) rfl
theorem m3_7 : M3 7 ls st H Q = M3 8 ls (.int 0 :: st) H Q := w_con (show decode kb3 7 = .ok (.iconst 0, 1) from by decide +kernel) rfl (by decide)
theorem m3_8 : M3 8 ls (.int z :: st) H Q = Q (some (.int z)) H := w_iret (show decode kb3 8 = .ok (.ireturn, 1) from by decide +kernel) rfl
theorem m3_9 : M3 9 [l0, .val (.int v)] st H Q = M3 10 [l0, .val (.int v)] (.int v :: st) H Q := w_x (show decode kb3 9 = .ok (.iload_n 1, 1) from by decide +kernel) rfl
theorem m3_10 : M3 10 ls (.int x :: st) H Q = if x = 0 then M3 13 ls st H Q else M3 26 ls st H Q := w_ifN (show decode kb3 10 = .ok (.ifCond .ne 16, 3) from by decide +kernel) (z_ne x) rfl
theorem m3_13 : M3 13 [.val (.ref r), l1] st H Q = M3 14 [.val (.ref r), l1] (.ref r :: st) H Q := w_x (show decode kb3 13 = .ok (.aload_n 0, 1) from by decide +kernel) rfl
theorem m3_14 : M3 14 [.val (.ref r), l1] st H Q = M3 15 [.val (.ref r), l1] (.ref r :: st) H Q := w_x (show decode kb3 14 = .ok (.aload_n 0, 1) from by decide +kernel) rfl
theorem m3_15 : M3 15 ls (.ref b :: st) (put b pre s A L B post) Q = M3 18 ls (.int (s 9) :: st) (put b pre s A L B post) Q := w_get (show decode kb3 15 = .ok (.getfield 74, 3) from by decide +kernel) gf_74 put_o rfl
theorem m3_18 : M3 18 [.val (.ref r), l1] st H Q = M3 19 [.val (.ref r), l1] (.ref r :: st) H Q := w_x (show decode kb3 18 = .ok (.aload_n 0, 1) from by decide +kernel) rfl
theorem m3_19 : M3 19 ls (.ref b :: st) (put b pre s A L B post) Q = M3 22 ls (.int (s 4) :: st) (put b pre s A L B post) Q := w_get (show decode kb3 19 = .ok (.getfield 90, 3) from by decide +kernel) gf_90 put_o rfl
theorem cr3_105 : vR tables_1 dn y3 105 = some (true, y26, prog_1_method_19_code, 3, (some .int), 2, 0) := pR_of (cR_of (by decide +kernel) rc_26 dn_26 dn_3 (sig := ⟨[.int, .int], some .int⟩) (by decide +kernel) (by decide +kernel) rfl rfl) (by decide +kernel) (by decide +kernel)
theorem m3_22 (a0 : Int32) (a1 : Int32) : M3 22 ls [.int a1, .int a0, .ref b] (put b pre s A L B post) Q = M26 0 [.val (.ref b), .val (.int a0), .val (.int a1)] [] (put b pre s A L B post) (fun v H1 => M3 25 ls (v.toList ++ []) H1 Q) := w_virt (as := [.int a1, .int a0]) (rest := []) (a := b) (show decode kb3 22 = .ok (.invokevirtual 105, 3) from by decide +kernel) cr3_105 put_o rfl rfl (Nat.le_of_ble_eq_true rfl) (by show 3 ≤ 3; omega) rfl
theorem m3_25 : M3 25 ls (.int z :: st) H Q = Q (some (.int z)) H := w_iret (show decode kb3 25 = .ok (.ireturn, 1) from by decide +kernel) rfl
theorem m3_26 : M3 26 [l0, .val (.int v)] st H Q = M3 27 [l0, .val (.int v)] (.int v :: st) H Q := w_x (show decode kb3 26 = .ok (.iload_n 1, 1) from by decide +kernel) rfl
theorem m3_27 : M3 27 ls st H Q = M3 28 ls (.int 1 :: st) H Q := w_con (show decode kb3 27 = .ok (.iconst 1, 1) from by decide +kernel) rfl (by decide)
theorem m3_28 : M3 28 ls (.int y :: .int x :: st) H Q = if x = y then M3 31 ls st H Q else M3 44 ls st H Q := w_icmpN (show decode kb3 28 = .ok (.if_icmp .ne 16, 3) from by decide +kernel) (i_ne x y) rfl
theorem m3_31 : M3 31 [.val (.ref r), l1] st H Q = M3 32 [.val (.ref r), l1] (.ref r :: st) H Q := w_x (show decode kb3 31 = .ok (.aload_n 0, 1) from by decide +kernel) rfl
theorem m3_32 : M3 32 [.val (.ref r), l1] st H Q = M3 33 [.val (.ref r), l1] (.ref r :: st) H Q := w_x (show decode kb3 32 = .ok (.aload_n 0, 1) from by decide +kernel) rfl
theorem m3_33 : M3 33 ls (.ref b :: st) (put b pre s A L B post) Q = M3 36 ls (.int (s 10) :: st) (put b pre s A L B post) Q := w_get (show decode kb3 33 = .ok (.getfield 77, 3) from by decide +kernel) gf_77 put_o rfl
theorem m3_36 : M3 36 [.val (.ref r), l1] st H Q = M3 37 [.val (.ref r), l1] (.ref r :: st) H Q := w_x (show decode kb3 36 = .ok (.aload_n 0, 1) from by decide +kernel) rfl
theorem m3_37 : M3 37 ls (.ref b :: st) (put b pre s A L B post) Q = M3 40 ls (.int (s 4) :: st) (put b pre s A L B post) Q := w_get (show decode kb3 37 = .ok (.getfield 90, 3) from by decide +kernel) gf_90 put_o rfl
theorem m3_40 (a0 : Int32) (a1 : Int32) : M3 40 ls [.int a1, .int a0, .ref b] (put b pre s A L B post) Q = M26 0 [.val (.ref b), .val (.int a0), .val (.int a1)] [] (put b pre s A L B post) (fun v H1 => M3 43 ls (v.toList ++ []) H1 Q) := w_virt (as := [.int a1, .int a0]) (rest := []) (a := b) (show decode kb3 40 = .ok (.invokevirtual 105, 3) from by decide +kernel) cr3_105 put_o rfl rfl (Nat.le_of_ble_eq_true rfl) (by show 3 ≤ 3; omega) rfl
theorem m3_43 : M3 43 ls (.int z :: st) H Q = Q (some (.int z)) H := w_iret (show decode kb3 43 = .ok (.ireturn, 1) from by decide +kernel) rfl
theorem m3_44 : M3 44 ls st H Q = M3 45 ls (.int 0 :: st) H Q := w_con (show decode kb3 44 = .ok (.iconst 0, 1) from by decide +kernel) rfl (by decide)
theorem m3_45 : M3 45 ls (.int z :: st) H Q = Q (some (.int z)) H := w_iret (show decode kb3 45 = .ok (.ireturn, 1) from by decide +kernel) rfl
theorem m4_0 : M4 0 [.val (.ref r)] st H Q = M4 1 [.val (.ref r)] (.ref r :: st) H Q := w_x (show decode kb4 0 = .ok (.aload_n 0, 1) from by decide +kernel) rfl
theorem m4_1 : M4 1 [.val (.ref r)] st H Q = M4 2 [.val (.ref r)] (.ref r :: st) H Q := w_x (show decode kb4 1 = .ok (.aload_n 0, 1) from by decide +kernel) rfl
theorem m4_2 : M4 2 ls (.ref b :: st) (put b pre s A L B post) Q = M4 5 ls (.int (s 0) :: st) (put b pre s A L B post) Q := w_get (show decode kb4 2 = .ok (.getfield 57, 3) from by decide +kernel) gf_57 put_o rfl
theorem pf4_90 : pfR tables_1 y4.cls y4.name 90 = some ("MultiplierGen", 24, .int) := by decide +kernel
theorem m4_5 : M4 5 ls (.int v :: .ref b :: st) (put b pre s A L B post) Q = M4 8 ls st (put b pre (ou s 4 v) A L B post) Q := w_put (show decode kb4 5 = .ok (.putfield 90, 3) from by decide +kernel) pf4_90 put_o (Nat.zero_le _) (by show 24 < 30; omega) rfl put_s4
theorem m4_8 : M4 8 [.val (.ref r)] st H Q = M4 9 [.val (.ref r)] (.ref r :: st) H Q := w_x (show decode kb4 8 = .ok (.aload_n 0, 1) from by decide +kernel) rfl
theorem m4_9 : M4 9 [.val (.ref r)] st H Q = M4 10 [.val (.ref r)] (.ref r :: st) H Q := w_x (show decode kb4 9 = .ok (.aload_n 0, 1) from by decide +kernel) rfl
theorem m4_10 : M4 10 ls (.ref b :: st) (put b pre s A L B post) Q = M4 13 ls (.int (s 1) :: st) (put b pre s A L B post) Q := w_get (show decode kb4 10 = .ok (.getfield 61, 3) from by decide +kernel) gf_61 put_o rfl
theorem pf4_93 : pfR tables_1 y4.cls y4.name 93 = some ("MultiplierGen", 25, .int) := by decide +kernel
theorem m4_13 : M4 13 ls (.int v :: .ref b :: st) (put b pre s A L B post) Q = M4 16 ls st (put b pre (ou s 5 v) A L B post) Q := w_put (show decode kb4 13 = .ok (.putfield 93, 3) from by decide +kernel) pf4_93 put_o (Nat.zero_le _) (by show 25 < 30; omega) rfl put_s5
theorem m4_16 : M4 16 [.val (.ref r)] st H Q = M4 17 [.val (.ref r)] (.ref r :: st) H Q := w_x (show decode kb4 16 = .ok (.aload_n 0, 1) from by decide +kernel) rfl
theorem m4_17 : M4 17 [.val (.ref r)] st H Q = M4 18 [.val (.ref r)] (.ref r :: st) H Q := w_x (show decode kb4 17 = .ok (.aload_n 0, 1) from by decide +kernel) rfl
theorem m4_18 : M4 18 ls (.ref b :: st) (put b pre s A L B post) Q = M4 21 ls (.int (s 2) :: st) (put b pre s A L B post) Q := w_get (show decode kb4 18 = .ok (.getfield 64, 3) from by decide +kernel) gf_64 put_o rfl
theorem pf4_96 : pfR tables_1 y4.cls y4.name 96 = some ("MultiplierGen", 26, .int) := by decide +kernel
theorem m4_21 : M4 21 ls (.int v :: .ref b :: st) (put b pre s A L B post) Q = M4 24 ls st (put b pre (ou s 6 v) A L B post) Q := w_put (show decode kb4 21 = .ok (.putfield 96, 3) from by decide +kernel) pf4_96 put_o (Nat.zero_le _) (by show 26 < 30; omega) rfl put_s6
theorem m4_24 : M4 24 [.val (.ref r)] st H Q = M4 25 [.val (.ref r)] (.ref r :: st) H Q := w_x (show decode kb4 24 = .ok (.aload_n 0, 1) from by decide +kernel) rfl
theorem m4_25 : M4 25 [.val (.ref r)] st H Q = M4 26 [.val (.ref r)] (.ref r :: st) H Q := w_x (show decode kb4 25 = .ok (.aload_n 0, 1) from by decide +kernel) rfl
theorem m4_26 : M4 26 ls (.ref b :: st) (put b pre s A L B post) Q = M4 29 ls (.int (s 3) :: st) (put b pre s A L B post) Q := w_get (show decode kb4 26 = .ok (.getfield 67, 3) from by decide +kernel) gf_67 put_o rfl
theorem pf4_99 : pfR tables_1 y4.cls y4.name 99 = some ("MultiplierGen", 27, .int) := by decide +kernel
theorem m4_29 : M4 29 ls (.int v :: .ref b :: st) (put b pre s A L B post) Q = M4 32 ls st (put b pre (ou s 7 v) A L B post) Q := w_put (show decode kb4 29 = .ok (.putfield 99, 3) from by decide +kernel) pf4_99 put_o (Nat.zero_le _) (by show 27 < 30; omega) rfl put_s7
theorem m4_32 : M4 32 [.val (.ref r)] st H Q = M4 33 [.val (.ref r)] (.ref r :: st) H Q := w_x (show decode kb4 32 = .ok (.aload_n 0, 1) from by decide +kernel) rfl
theorem cr4_102 : vR tables_1 dn y4 102 = some (true, y5, prog_1_method_29_code, 3, none, 0, 0) := pR_of (cR_of (by decide +kernel) rc_5 dn_5 dn_4 (sig := ⟨[], none⟩) (by decide +kernel) (by decide +kernel) rfl rfl) (by decide +kernel) (by decide +kernel)
theorem m4_33 : M4 33 ls [.ref b] (put b pre s A L B post) Q = M5 0 [.val (.ref b), .unset, .unset] [] (put b pre s A L B post) (fun v H1 => M4 36 ls (v.toList ++ []) H1 Q) := w_virt (as := []) (rest := []) (a := b) (show decode kb4 33 = .ok (.invokevirtual 102, 3) from by decide +kernel) cr4_102 put_o rfl rfl (Nat.le_of_ble_eq_true rfl) (by show 1 ≤ 3; omega) rfl
theorem m4_36 : M4 36 [.val (.ref r)] st H Q = M4 37 [.val (.ref r)] (.ref r :: st) H Q := w_x (show decode kb4 36 = .ok (.aload_n 0, 1) from by decide +kernel) rfl
theorem m4_37 : M4 37 ls st H Q = M4 38 ls (.int 1 :: st) H Q := w_con (show decode kb4 37 = .ok (.iconst 1, 1) from by decide +kernel) rfl (by decide)
theorem pf4_70 : pfR tables_1 y4.cls y4.name 70 = some ("MultiplierGen", 18, .boolean) := by decide +kernel
theorem m4_38 : M4 38 ls (.int v :: .ref b :: st) (put b pre s A L B post) Q = M4 41 ls st (put b pre (ou s 8 (nar .boolean v)) A L B post) Q := w_put (show decode kb4 38 = .ok (.putfield 70, 3) from by decide +kernel) pf4_70 put_o (Nat.zero_le _) (by show 18 < 30; omega) rfl put_s8
theorem m4_41 : M4 41 [.val (.ref r)] st H Q = M4 42 [.val (.ref r)] (.ref r :: st) H Q := w_x (show decode kb4 41 = .ok (.aload_n 0, 1) from by decide +kernel) rfl
theorem m4_42 : M4 42 ls st H Q = M4 43 ls (.int 0 :: st) H Q := w_con (show decode kb4 42 = .ok (.iconst 0, 1) from by decide +kernel) rfl (by decide)
theorem pf4_74 : pfR tables_1 y4.cls y4.name 74 = some ("MultiplierGen", 19, .int) := by decide +kernel
theorem m4_43 : M4 43 ls (.int v :: .ref b :: st) (put b pre s A L B post) Q = M4 46 ls st (put b pre (ou s 9 v) A L B post) Q := w_put (show decode kb4 43 = .ok (.putfield 74, 3) from by decide +kernel) pf4_74 put_o (Nat.zero_le _) (by show 19 < 30; omega) rfl put_s9
theorem m4_46 : M4 46 [.val (.ref r)] st H Q = M4 47 [.val (.ref r)] (.ref r :: st) H Q := w_x (show decode kb4 46 = .ok (.aload_n 0, 1) from by decide +kernel) rfl
theorem m4_47 : M4 47 ls st H Q = M4 48 ls (.int 0 :: st) H Q := w_con (show decode kb4 47 = .ok (.iconst 0, 1) from by decide +kernel) rfl (by decide)
theorem pf4_77 : pfR tables_1 y4.cls y4.name 77 = some ("MultiplierGen", 20, .int) := by decide +kernel
theorem m4_48 : M4 48 ls (.int v :: .ref b :: st) (put b pre s A L B post) Q = M4 51 ls st (put b pre (ou s 10 v) A L B post) Q := w_put (show decode kb4 48 = .ok (.putfield 77, 3) from by decide +kernel) pf4_77 put_o (Nat.zero_le _) (by show 20 < 30; omega) rfl put_s10
theorem m4_51 : M4 51 [.val (.ref r)] st H Q = M4 52 [.val (.ref r)] (.ref r :: st) H Q := w_x (show decode kb4 51 = .ok (.aload_n 0, 1) from by decide +kernel) rfl
theorem m4_52 : M4 52 ls st H Q = M4 53 ls (.int 0 :: st) H Q := w_con (show decode kb4 52 = .ok (.iconst 0, 1) from by decide +kernel) rfl (by decide)
theorem pf4_80 : pfR tables_1 y4.cls y4.name 80 = some ("MultiplierGen", 21, .int) := by decide +kernel
theorem m4_53 : M4 53 ls (.int v :: .ref b :: st) (put b pre s A L B post) Q = M4 56 ls st (put b pre (ou s 11 v) A L B post) Q := w_put (show decode kb4 53 = .ok (.putfield 80, 3) from by decide +kernel) pf4_80 put_o (Nat.zero_le _) (by show 21 < 30; omega) rfl put_s11
theorem m4_56 : M4 56 [.val (.ref r)] st H Q = M4 57 [.val (.ref r)] (.ref r :: st) H Q := w_x (show decode kb4 56 = .ok (.aload_n 0, 1) from by decide +kernel) rfl
theorem m4_57 : M4 57 ls st H Q = M4 58 ls (.int 0 :: st) H Q := w_con (show decode kb4 57 = .ok (.iconst 0, 1) from by decide +kernel) rfl (by decide)
theorem pf4_83 : pfR tables_1 y4.cls y4.name 83 = some ("MultiplierGen", 22, .int) := by decide +kernel
theorem m4_58 : M4 58 ls (.int v :: .ref b :: st) (put b pre s A L B post) Q = M4 61 ls st (put b pre (ou s 12 v) A L B post) Q := w_put (show decode kb4 58 = .ok (.putfield 83, 3) from by decide +kernel) pf4_83 put_o (Nat.zero_le _) (by show 22 < 30; omega) rfl put_s12
theorem m4_61 : M4 61 ls st H Q = M4 62 ls (.int 0 :: st) H Q := w_con (show decode kb4 61 = .ok (.iconst 0, 1) from by decide +kernel) rfl (by decide)
theorem m4_62 : M4 62 ls (.int z :: st) H Q = Q (some (.int z)) H := w_iret (show decode kb4 62 = .ok (.ireturn, 1) from by decide +kernel) rfl
theorem m5_0 : M5 0 [.val (.ref r), l1, l2] st H Q = M5 1 [.val (.ref r), l1, l2] (.ref r :: st) H Q := w_x (show decode kb5 0 = .ok (.aload_n 0, 1) from by decide +kernel) rfl
theorem m5_1 : M5 1 ls st H Q = M5 2 ls (.int 0 :: st) H Q := w_con (show decode kb5 1 = .ok (.iconst 0, 1) from by decide +kernel) rfl (by decide)
theorem pf5_116 : pfR tables_1 y5.cls y5.name 116 = some ("MultiplierGen", 28, .int) := by decide +kernel
theorem m5_2 : M5 2 ls (.int v :: .ref b :: st) (put b pre s A L B post) Q = M5 5 ls st (put b pre (ou s 13 v) A L B post) Q := w_put (show decode kb5 2 = .ok (.putfield 116, 3) from by decide +kernel) pf5_116 put_o (Nat.zero_le _) (by show 28 < 30; omega) rfl put_s13
theorem m5_5 : M5 5 [.val (.ref r), l1, l2] st H Q = M5 6 [.val (.ref r), l1, l2] (.ref r :: st) H Q := w_x (show decode kb5 5 = .ok (.aload_n 0, 1) from by decide +kernel) rfl
theorem m5_6 : M5 6 ls st H Q = M5 7 ls (.int 0 :: st) H Q := w_con (show decode kb5 6 = .ok (.iconst 0, 1) from by decide +kernel) rfl (by decide)
theorem m5_7 : M5 7 ls st H Q = M5 8 ls (.int 0 :: st) H Q := w_con (show decode kb5 7 = .ok (.iconst 0, 1) from by decide +kernel) rfl (by decide)
theorem m5_8 : M5 8 ls st H Q = M5 9 ls (.int 0 :: st) H Q := w_con (show decode kb5 8 = .ok (.iconst 0, 1) from by decide +kernel) rfl (by decide)
theorem cr5_119 : vR tables_1 dn y5 119 = some (true, y6, prog_1_method_20_code, 5, (some .int), 3, 87) := pR_of (cR_of (by decide +kernel) rc_6 dn_6 dn_5 (sig := ⟨[.int, .int, .int], some .int⟩) (by decide +kernel) (by decide +kernel) rfl rfl) (by decide +kernel) (by decide +kernel)
theorem m5_9 (a0 : Int32) (a1 : Int32) (a2 : Int32) : M5 9 ls [.int a2, .int a1, .int a0, .ref b] (put b pre s A L B post) Q = M6 0 [.val (.ref b), .val (.int a0), .val (.int a1), .val (.int a2), .unset] [] (put b pre s A L B post) (fun v H1 => M5 12 ls (v.toList ++ []) H1 Q) := w_virt (as := [.int a2, .int a1, .int a0]) (rest := []) (a := b) (show decode kb5 9 = .ok (.invokevirtual 119, 3) from by decide +kernel) cr5_119 put_o rfl rfl (Nat.le_of_ble_eq_true rfl) (by show 4 ≤ 5; omega) rfl
theorem m5_12 : M5 12 ls ((.int v) :: st) H Q = M5 13 ls st H Q := w_x (show decode kb5 12 = .ok (.pop, 1) from by decide +kernel) rfl
theorem m5_13 : M5 13 [.val (.ref r), l1, l2] st H Q = M5 14 [.val (.ref r), l1, l2] (.ref r :: st) H Q := w_x (show decode kb5 13 = .ok (.aload_n 0, 1) from by decide +kernel) rfl
theorem m5_14 : M5 14 ls st H Q = M5 15 ls (.int 1 :: st) H Q := w_con (show decode kb5 14 = .ok (.iconst 1, 1) from by decide +kernel) rfl (by decide)
theorem m5_15 : M5 15 ls st H Q = M5 16 ls (.int 0 :: st) H Q := w_con (show decode kb5 15 = .ok (.iconst 0, 1) from by decide +kernel) rfl (by decide)
theorem m5_16 : M5 16 ls st H Q = M5 17 ls (.int 0 :: st) H Q := w_con (show decode kb5 16 = .ok (.iconst 0, 1) from by decide +kernel) rfl (by decide)
theorem m5_17 (a0 : Int32) (a1 : Int32) (a2 : Int32) : M5 17 ls [.int a2, .int a1, .int a0, .ref b] (put b pre s A L B post) Q = M6 0 [.val (.ref b), .val (.int a0), .val (.int a1), .val (.int a2), .unset] [] (put b pre s A L B post) (fun v H1 => M5 20 ls (v.toList ++ []) H1 Q) := w_virt (as := [.int a2, .int a1, .int a0]) (rest := []) (a := b) (show decode kb5 17 = .ok (.invokevirtual 119, 3) from by decide +kernel) cr5_119 put_o rfl rfl (Nat.le_of_ble_eq_true rfl) (by show 4 ≤ 5; omega) rfl
theorem m5_20 : M5 20 ls ((.int v) :: st) H Q = M5 21 ls st H Q := w_x (show decode kb5 20 = .ok (.pop, 1) from by decide +kernel) rfl
theorem m5_21 : M5 21 ls st H Q = M5 22 ls (.int 0 :: st) H Q := w_con (show decode kb5 21 = .ok (.iconst 0, 1) from by decide +kernel) rfl (by decide)
theorem m5_22u : M5 22 [l0, .unset, l2] ((.int v) :: st) H Q = M5 23 [l0, .val (.int v), l2] st H Q := w_st (i := 1) (p := isI) (show decode kb5 22 = .ok (.istore_n 1, 1) from by decide +kernel) rfl rfl rfl rfl rfl rfl
theorem m5_23 : M5 23 [l0, .val (.int v), l2] st H Q = M5 24 [l0, .val (.int v), l2] (.int v :: st) H Q := w_x (show decode kb5 23 = .ok (.iload_n 1, 1) from by decide +kernel) rfl
theorem m5_24 : M5 24 [.val (.ref r), l1, l2] st H Q = M5 25 [.val (.ref r), l1, l2] (.ref r :: st) H Q := w_x (show decode kb5 24 = .ok (.aload_n 0, 1) from by decide +kernel) rfl
theorem m5_25 : M5 25 ls (.ref b :: st) (put b pre s A L B post) Q = M5 28 ls (.int (s 4) :: st) (put b pre s A L B post) Q := w_get (show decode kb5 25 = .ok (.getfield 90, 3) from by decide +kernel) gf_90 put_o rfl
theorem m5_28 : M5 28 ls (.int y :: .int x :: st) H Q = if x < y then M5 31 ls st H Q else M5 63 ls st H Q := w_icmpN (show decode kb5 28 = .ok (.if_icmp .ge 35, 3) from by decide +kernel) (i_ge x y) rfl
theorem m5_31 : M5 31 [.val (.ref r), l1, l2] st H Q = M5 32 [.val (.ref r), l1, l2] (.ref r :: st) H Q := w_x (show decode kb5 31 = .ok (.aload_n 0, 1) from by decide +kernel) rfl
theorem m5_32 : M5 32 ls (.ref b :: st) (put b pre s A L B post) Q = M5 35 ls (.ref (b + 13) :: st) (put b pre s A L B post) Q := w_get (show decode kb5 32 = .ok (.getfield 47, 3) from by decide +kernel) gf_47 put_o rfl
theorem m5_35 : M5 35 [l0, .val (.int v), l2] st H Q = M5 36 [l0, .val (.int v), l2] (.int v :: st) H Q := w_x (show decode kb5 35 = .ok (.iload_n 1, 1) from by decide +kernel) rfl
theorem m5_36 : M5 36 [.val (.ref r), l1, l2] st H Q = M5 37 [.val (.ref r), l1, l2] (.ref r :: st) H Q := w_x (show decode kb5 36 = .ok (.aload_n 0, 1) from by decide +kernel) rfl
theorem m5_37 : M5 37 ls st H Q = M5 38 ls (.int 2 :: st) H Q := w_con (show decode kb5 37 = .ok (.iconst 2, 1) from by decide +kernel) rfl (by decide)
theorem m5_38 : M5 38 [l0, .val (.int v), l2] st H Q = M5 39 [l0, .val (.int v), l2] (.int v :: st) H Q := w_x (show decode kb5 38 = .ok (.iload_n 1, 1) from by decide +kernel) rfl
theorem m5_39 : M5 39 ls st H Q = M5 40 ls (.int 0 :: st) H Q := w_con (show decode kb5 39 = .ok (.iconst 0, 1) from by decide +kernel) rfl (by decide)
theorem m5_40 (a0 : Int32) (a1 : Int32) (a2 : Int32) (u0 : Int32) (u1 : Nat) : M5 40 ls [.int a2, .int a1, .int a0, .ref b, .int u0, .ref u1] (put b pre s A L B post) Q = M6 0 [.val (.ref b), .val (.int a0), .val (.int a1), .val (.int a2), .unset] [] (put b pre s A L B post) (fun v H1 => M5 43 ls (v.toList ++ [.int u0, .ref u1]) H1 Q) := w_virt (as := [.int a2, .int a1, .int a0]) (rest := [.int u0, .ref u1]) (a := b) (show decode kb5 40 = .ok (.invokevirtual 119, 3) from by decide +kernel) cr5_119 put_o rfl rfl (Nat.le_of_ble_eq_true rfl) (by show 4 ≤ 5; omega) rfl
theorem m5_43  : M5 43 ls (.int v :: .int j :: .ref (b + 13) :: st) (put b pre s A L B post) Q = (inB j (A 12) ∧ M5 44 ls st (put b pre s (ou A 12 (setA (A 12) j v)) L B post) Q) := w_ist (show decode kb5 43 = .ok (.iastore, 1) from by decide +kernel) rfl put_a12 (Nat.zero_le _) rfl put_w12
theorem m5_44 : M5 44 [.val (.ref r), l1, l2] st H Q = M5 45 [.val (.ref r), l1, l2] (.ref r :: st) H Q := w_x (show decode kb5 44 = .ok (.aload_n 0, 1) from by decide +kernel) rfl
theorem m5_45 : M5 45 ls (.ref b :: st) (put b pre s A L B post) Q = M5 48 ls (.ref (b + 14) :: st) (put b pre s A L B post) Q := w_get (show decode kb5 45 = .ok (.getfield 50, 3) from by decide +kernel) gf_50 put_o rfl
theorem m5_48 : M5 48 [l0, .val (.int v), l2] st H Q = M5 49 [l0, .val (.int v), l2] (.int v :: st) H Q := w_x (show decode kb5 48 = .ok (.iload_n 1, 1) from by decide +kernel) rfl
theorem m5_49 : M5 49 [.val (.ref r), l1, l2] st H Q = M5 50 [.val (.ref r), l1, l2] (.ref r :: st) H Q := w_x (show decode kb5 49 = .ok (.aload_n 0, 1) from by decide +kernel) rfl
theorem m5_50 : M5 50 ls st H Q = M5 51 ls (.int 3 :: st) H Q := w_con (show decode kb5 50 = .ok (.iconst 3, 1) from by decide +kernel) rfl (by decide)
theorem m5_51 : M5 51 [l0, .val (.int v), l2] st H Q = M5 52 [l0, .val (.int v), l2] (.int v :: st) H Q := w_x (show decode kb5 51 = .ok (.iload_n 1, 1) from by decide +kernel) rfl
theorem m5_52 : M5 52 ls st H Q = M5 53 ls (.int 0 :: st) H Q := w_con (show decode kb5 52 = .ok (.iconst 0, 1) from by decide +kernel) rfl (by decide)
theorem m5_53 (a0 : Int32) (a1 : Int32) (a2 : Int32) (u0 : Int32) (u1 : Nat) : M5 53 ls [.int a2, .int a1, .int a0, .ref b, .int u0, .ref u1] (put b pre s A L B post) Q = M6 0 [.val (.ref b), .val (.int a0), .val (.int a1), .val (.int a2), .unset] [] (put b pre s A L B post) (fun v H1 => M5 56 ls (v.toList ++ [.int u0, .ref u1]) H1 Q) := w_virt (as := [.int a2, .int a1, .int a0]) (rest := [.int u0, .ref u1]) (a := b) (show decode kb5 53 = .ok (.invokevirtual 119, 3) from by decide +kernel) cr5_119 put_o rfl rfl (Nat.le_of_ble_eq_true rfl) (by show 4 ≤ 5; omega) rfl
theorem m5_56  : M5 56 ls (.int v :: .int j :: .ref (b + 14) :: st) (put b pre s A L B post) Q = (inB j (A 13) ∧ M5 57 ls st (put b pre s (ou A 13 (setA (A 13) j v)) L B post) Q) := w_ist (show decode kb5 56 = .ok (.iastore, 1) from by decide +kernel) rfl put_a13 (Nat.zero_le _) rfl put_w13
theorem m5_57 : M5 57 [l0, .val (.int v), l2] st H Q = M5 60 [l0, .val (.int (v + 1)), l2] st H Q := w_iinc (show decode kb5 57 = .ok (.iinc 1 1, 3) from by decide +kernel) rfl (by decide) rfl
theorem m5_60 : M5 60 ls st H Q = M5 23 ls st H Q := w_x (show decode kb5 60 = .ok (.goto (-37), 3) from by decide +kernel) rfl
theorem m5_63 : M5 63 [.val (.ref r), l1, l2] st H Q = M5 64 [.val (.ref r), l1, l2] (.ref r :: st) H Q := w_x (show decode kb5 63 = .ok (.aload_n 0, 1) from by decide +kernel) rfl
theorem m5_64 : M5 64 ls st H Q = M5 65 ls (.int 2 :: st) H Q := w_con (show decode kb5 64 = .ok (.iconst 2, 1) from by decide +kernel) rfl (by decide)
theorem m5_65 : M5 65 [.val (.ref r), l1, l2] st H Q = M5 66 [.val (.ref r), l1, l2] (.ref r :: st) H Q := w_x (show decode kb5 65 = .ok (.aload_n 0, 1) from by decide +kernel) rfl
theorem m5_66 : M5 66 ls (.ref b :: st) (put b pre s A L B post) Q = M5 69 ls (.int (s 4) :: st) (put b pre s A L B post) Q := w_get (show decode kb5 66 = .ok (.getfield 90, 3) from by decide +kernel) gf_90 put_o rfl
theorem m5_69 : M5 69 ls (.int y :: .int x :: st) H Q = M5 70 ls (.int (x * y) :: st) H Q := w_x (show decode kb5 69 = .ok (.imul, 1) from by decide +kernel) rfl
theorem pf5_126 : pfR tables_1 y5.cls y5.name 126 = some ("MultiplierGen", 29, .int) := by decide +kernel
theorem m5_70 : M5 70 ls (.int v :: .ref b :: st) (put b pre s A L B post) Q = M5 73 ls st (put b pre (ou s 14 v) A L B post) Q := w_put (show decode kb5 70 = .ok (.putfield 126, 3) from by decide +kernel) pf5_126 put_o (Nat.zero_le _) (by show 29 < 30; omega) rfl put_s14
theorem m5_73 : M5 73 ls st H Q = M5 74 ls (.int 0 :: st) H Q := w_con (show decode kb5 73 = .ok (.iconst 0, 1) from by decide +kernel) rfl (by decide)
theorem m5_74i : M5 74 [l0, .val (.int z), l2] ((.int v) :: st) H Q = M5 75 [l0, .val (.int v), l2] st H Q := w_st (i := 1) (p := isI) (show decode kb5 74 = .ok (.istore_n 1, 1) from by decide +kernel) rfl rfl rfl rfl rfl rfl
theorem m5_75 : M5 75 [l0, .val (.int v), l2] st H Q = M5 76 [l0, .val (.int v), l2] (.int v :: st) H Q := w_x (show decode kb5 75 = .ok (.iload_n 1, 1) from by decide +kernel) rfl
theorem m5_76 : M5 76 ls st H Q = M5 78 ls (.int 16 :: st) H Q := w_con (show decode kb5 76 = .ok (.bipush 16, 2) from by decide +kernel) rfl (by decide)
theorem m5_78 : M5 78 ls (.int y :: .int x :: st) H Q = if x < y then M5 81 ls st H Q else M5 101 ls st H Q := w_icmpN (show decode kb5 78 = .ok (.if_icmp .ge 23, 3) from by decide +kernel) (i_ge x y) rfl
theorem m5_81 : M5 81 [.val (.ref r), l1, l2] st H Q = M5 82 [.val (.ref r), l1, l2] (.ref r :: st) H Q := w_x (show decode kb5 81 = .ok (.aload_n 0, 1) from by decide +kernel) rfl
theorem m5_82 : M5 82 ls (.ref b :: st) (put b pre s A L B post) Q = M5 85 ls (.ref (b + 7) :: st) (put b pre s A L B post) Q := w_get (show decode kb5 82 = .ok (.getfield 29, 3) from by decide +kernel) gf_29 put_o rfl
theorem m5_85 : M5 85 [l0, .val (.int v), l2] st H Q = M5 86 [l0, .val (.int v), l2] (.int v :: st) H Q := w_x (show decode kb5 85 = .ok (.iload_n 1, 1) from by decide +kernel) rfl
theorem m5_86 : M5 86 ls st H Q = M5 87 ls (.int 0 :: st) H Q := w_con (show decode kb5 86 = .ok (.iconst 0, 1) from by decide +kernel) rfl (by decide)
theorem m5_87  : M5 87 ls (.int v :: .int j :: .ref (b + 7) :: st) (put b pre s A L B post) Q = (inB j (A 6) ∧ M5 88 ls st (put b pre s (ou A 6 (setA (A 6) j v)) L B post) Q) := w_ist (show decode kb5 87 = .ok (.iastore, 1) from by decide +kernel) rfl put_a6 (Nat.zero_le _) rfl put_w6
theorem m5_88 : M5 88 [.val (.ref r), l1, l2] st H Q = M5 89 [.val (.ref r), l1, l2] (.ref r :: st) H Q := w_x (show decode kb5 88 = .ok (.aload_n 0, 1) from by decide +kernel) rfl
theorem m5_89 : M5 89 ls (.ref b :: st) (put b pre s A L B post) Q = M5 92 ls (.ref (b + 8) :: st) (put b pre s A L B post) Q := w_get (show decode kb5 89 = .ok (.getfield 32, 3) from by decide +kernel) gf_32 put_o rfl
theorem m5_92 : M5 92 [l0, .val (.int v), l2] st H Q = M5 93 [l0, .val (.int v), l2] (.int v :: st) H Q := w_x (show decode kb5 92 = .ok (.iload_n 1, 1) from by decide +kernel) rfl
theorem m5_93 : M5 93 ls st H Q = M5 94 ls (.int 0 :: st) H Q := w_con (show decode kb5 93 = .ok (.iconst 0, 1) from by decide +kernel) rfl (by decide)
theorem m5_94  : M5 94 ls (.int v :: .int j :: .ref (b + 8) :: st) (put b pre s A L B post) Q = (inB j (A 7) ∧ M5 95 ls st (put b pre s (ou A 7 (setA (A 7) j v)) L B post) Q) := w_ist (show decode kb5 94 = .ok (.iastore, 1) from by decide +kernel) rfl put_a7 (Nat.zero_le _) rfl put_w7
theorem m5_95 : M5 95 [l0, .val (.int v), l2] st H Q = M5 98 [l0, .val (.int (v + 1)), l2] st H Q := w_iinc (show decode kb5 95 = .ok (.iinc 1 1, 3) from by decide +kernel) rfl (by decide) rfl
theorem m5_98 : M5 98 ls st H Q = M5 75 ls st H Q := w_x (show decode kb5 98 = .ok (.goto (-23), 3) from by decide +kernel) rfl
theorem m5_101 : M5 101 [.val (.ref r), l1, l2] st H Q = M5 102 [.val (.ref r), l1, l2] (.ref r :: st) H Q := w_x (show decode kb5 101 = .ok (.aload_n 0, 1) from by decide +kernel) rfl
theorem m5_102 : M5 102 ls (.ref b :: st) (put b pre s A L B post) Q = M5 105 ls (.int (s 6) :: st) (put b pre s A L B post) Q := w_get (show decode kb5 102 = .ok (.getfield 96, 3) from by decide +kernel) gf_96 put_o rfl
theorem m5_105 : M5 105 ls st H Q = M5 106 ls (.int 1 :: st) H Q := w_con (show decode kb5 105 = .ok (.iconst 1, 1) from by decide +kernel) rfl (by decide)
theorem m5_106 : M5 106 ls (.int y :: .int x :: st) H Q = if x = y then M5 109 ls st H Q else M5 139 ls st H Q := w_icmpN (show decode kb5 106 = .ok (.if_icmp .ne 33, 3) from by decide +kernel) (i_ne x y) rfl
theorem m5_109 : M5 109 [.val (.ref r), l1, l2] st H Q = M5 110 [.val (.ref r), l1, l2] (.ref r :: st) H Q := w_x (show decode kb5 109 = .ok (.aload_n 0, 1) from by decide +kernel) rfl
theorem m5_110 : M5 110 ls (.ref b :: st) (put b pre s A L B post) Q = M5 113 ls (.int (s 4) :: st) (put b pre s A L B post) Q := w_get (show decode kb5 110 = .ok (.getfield 90, 3) from by decide +kernel) gf_90 put_o rfl
theorem m5_113 : M5 113 ls st H Q = M5 114 ls (.int 2 :: st) H Q := w_con (show decode kb5 113 = .ok (.iconst 2, 1) from by decide +kernel) rfl (by decide)
theorem m5_114 : M5 114 ls (.int y :: .int x :: st) H Q = M5 115 ls (.int (x + y) :: st) H Q := w_x (show decode kb5 114 = .ok (.iadd, 1) from by decide +kernel) rfl
theorem m5_115 : M5 115 ls st H Q = M5 116 ls (.int 2 :: st) H Q := w_con (show decode kb5 115 = .ok (.iconst 2, 1) from by decide +kernel) rfl (by decide)
theorem m5_116 : M5 116 ls (.int y :: .int x :: st) H Q = (y ≠ 0 ∧ M5 117 ls (.int (x / y) :: st) H Q) := w_div (f := fun x y => x / y) (show decode kb5 116 = .ok (.idiv, 1) from by decide +kernel) (fun _ => rfl) rfl rfl
theorem m5_117i : M5 117 [l0, .val (.int z), l2] ((.int v) :: st) H Q = M5 118 [l0, .val (.int v), l2] st H Q := w_st (i := 1) (p := isI) (show decode kb5 117 = .ok (.istore_n 1, 1) from by decide +kernel) rfl rfl rfl rfl rfl rfl
theorem m5_118 : M5 118 ls st H Q = M5 119 ls (.int 0 :: st) H Q := w_con (show decode kb5 118 = .ok (.iconst 0, 1) from by decide +kernel) rfl (by decide)
theorem m5_119u : M5 119 [l0, l1, .unset] ((.int v) :: st) H Q = M5 120 [l0, l1, .val (.int v)] st H Q := w_st (i := 2) (p := isI) (show decode kb5 119 = .ok (.istore_n 2, 1) from by decide +kernel) rfl rfl rfl rfl rfl rfl
theorem m5_120 : M5 120 [l0, l1, .val (.int v)] st H Q = M5 121 [l0, l1, .val (.int v)] (.int v :: st) H Q := w_x (show decode kb5 120 = .ok (.iload_n 2, 1) from by decide +kernel) rfl
theorem m5_121 : M5 121 [l0, .val (.int v), l2] st H Q = M5 122 [l0, .val (.int v), l2] (.int v :: st) H Q := w_x (show decode kb5 121 = .ok (.iload_n 1, 1) from by decide +kernel) rfl
theorem m5_122 : M5 122 ls (.int y :: .int x :: st) H Q = if x < y then M5 125 ls st H Q else M5 136 ls st H Q := w_icmpN (show decode kb5 122 = .ok (.if_icmp .ge 14, 3) from by decide +kernel) (i_ge x y) rfl
theorem m5_125 : M5 125 [.val (.ref r), l1, l2] st H Q = M5 126 [.val (.ref r), l1, l2] (.ref r :: st) H Q := w_x (show decode kb5 125 = .ok (.aload_n 0, 1) from by decide +kernel) rfl
theorem m5_126 : M5 126 [l0, l1, .val (.int v)] st H Q = M5 127 [l0, l1, .val (.int v)] (.int v :: st) H Q := w_x (show decode kb5 126 = .ok (.iload_n 2, 1) from by decide +kernel) rfl
theorem m5_136 : M5 136 ls st H Q = M5 143 ls st H Q := w_x (show decode kb5 136 = .ok (.goto 7, 3) from by decide +kernel) rfl
theorem m5_139 : M5 139 [.val (.ref r), l1, l2] st H Q = M5 140 [.val (.ref r), l1, l2] (.ref r :: st) H Q := w_x (show decode kb5 139 = .ok (.aload_n 0, 1) from by decide +kernel) rfl
theorem cr5_133 : vR tables_1 dn y5 133 = some (true, y7, prog_1_method_30_code, 6, none, 0, 56) := pR_of (cR_of (by decide +kernel) rc_7 dn_7 dn_5 (sig := ⟨[], none⟩) (by decide +kernel) (by decide +kernel) rfl rfl) (by decide +kernel) (by decide +kernel)
theorem m5_140 : M5 140 ls [.ref b] (put b pre s A L B post) Q = M7 0 [.val (.ref b), .unset, .unset, .unset, .unset, .unset] [] (put b pre s A L B post) (fun v H1 => M5 143 ls (v.toList ++ []) H1 Q) := w_virt (as := []) (rest := []) (a := b) (show decode kb5 140 = .ok (.invokevirtual 133, 3) from by decide +kernel) cr5_133 put_o rfl rfl (Nat.le_of_ble_eq_true rfl) (by show 1 ≤ 6; omega) rfl
theorem m5_143 : M5 143 [.val (.ref r), l1, l2] st H Q = M5 144 [.val (.ref r), l1, l2] (.ref r :: st) H Q := w_x (show decode kb5 143 = .ok (.aload_n 0, 1) from by decide +kernel) rfl
theorem cr5_136 : vR tables_1 dn y5 136 = some (true, y12, prog_1_method_32_code, 4, none, 0, 0) := pR_of (cR_of (by decide +kernel) rc_12 dn_12 dn_5 (sig := ⟨[], none⟩) (by decide +kernel) (by decide +kernel) rfl rfl) (by decide +kernel) (by decide +kernel)
theorem m5_144 : M5 144 ls [.ref b] (put b pre s A L B post) Q = M12 0 [.val (.ref b), .unset, .unset, .unset] [] (put b pre s A L B post) (fun v H1 => M5 147 ls (v.toList ++ []) H1 Q) := w_virt (as := []) (rest := []) (a := b) (show decode kb5 144 = .ok (.invokevirtual 136, 3) from by decide +kernel) cr5_136 put_o rfl rfl (Nat.le_of_ble_eq_true rfl) (by show 1 ≤ 4; omega) rfl
theorem m5_147 : M5 147 [.val (.ref r), l1, l2] st H Q = M5 148 [.val (.ref r), l1, l2] (.ref r :: st) H Q := w_x (show decode kb5 147 = .ok (.aload_n 0, 1) from by decide +kernel) rfl
theorem cr5_139 : vR tables_1 dn y5 139 = some (true, y21, prog_1_method_38_code, 5, none, 0, 11) := pR_of (cR_of (by decide +kernel) rc_21 dn_21 dn_5 (sig := ⟨[], none⟩) (by decide +kernel) (by decide +kernel) rfl rfl) (by decide +kernel) (by decide +kernel)
theorem m5_148 : M5 148 ls [.ref b] (put b pre s A L B post) Q = M21 0 [.val (.ref b), .unset, .unset, .unset, .unset] [] (put b pre s A L B post) (fun v H1 => M5 151 ls (v.toList ++ []) H1 Q) := w_virt (as := []) (rest := []) (a := b) (show decode kb5 148 = .ok (.invokevirtual 139, 3) from by decide +kernel) cr5_139 put_o rfl rfl (Nat.le_of_ble_eq_true rfl) (by show 1 ≤ 5; omega) rfl
theorem m5_151 : M5 151 ls [] H Q = Q none H := w_vret (show decode kb5 151 = .ok (.return_, 1) from by decide +kernel) rfl
theorem m6_0 : M6 0 [.val (.ref r), l1, l2, l3, l4] st H Q = M6 1 [.val (.ref r), l1, l2, l3, l4] (.ref r :: st) H Q := w_x (show decode kb6 0 = .ok (.aload_n 0, 1) from by decide +kernel) rfl
theorem m6_1 : M6 1 ls (.ref b :: st) (put b pre s A L B post) Q = M6 4 ls (.int (s 13) :: st) (put b pre s A L B post) Q := w_get (show decode kb6 1 = .ok (.getfield 116, 3) from by decide +kernel) gf_116 put_o rfl
theorem m6_4 : M6 4 ls (.int x :: st) H Q = if x < 0 then M6 17 ls st H Q else M6 7 ls st H Q := w_if (show decode kb6 4 = .ok (.ifCond .lt 13, 3) from by decide +kernel) (z_lt x) rfl
theorem m6_7 : M6 7 [.val (.ref r), l1, l2, l3, l4] st H Q = M6 8 [.val (.ref r), l1, l2, l3, l4] (.ref r :: st) H Q := w_x (show decode kb6 7 = .ok (.aload_n 0, 1) from by decide +kernel) rfl
theorem m6_8 : M6 8 ls (.ref b :: st) (put b pre s A L B post) Q = M6 11 ls (.int (s 13) :: st) (put b pre s A L B post) Q := w_get (show decode kb6 8 = .ok (.getfield 116, 3) from by decide +kernel) gf_116 put_o rfl
theorem m6_11 : M6 11 ls st H Q = M6 14 ls (.int 4096 :: st) H Q := w_con (show decode kb6 11 = .ok (.sipush 4096, 3) from by decide +kernel) rfl (by decide)
theorem m6_14 : M6 14 ls (.int y :: .int x :: st) H Q = if x < y then M6 19 ls st H Q else M6 17 ls st H Q := w_icmp (show decode kb6 14 = .ok (.if_icmp .lt 5, 3) from by decide +kernel) (i_lt x y) rfl
theorem m6_17 : M6 17 ls st H Q = M6 18 ls (.int 0 :: st) H Q := w_con (show decode kb6 17 = .ok (.iconst 0, 1) from by decide +kernel) rfl (by decide)
theorem m6_18 : M6 18 ls (.int z :: st) H Q = Q (some (.int z)) H := w_iret (show decode kb6 18 = .ok (.ireturn, 1) from by decide +kernel) rfl
theorem m6_19 : M6 19 [.val (.ref r), l1, l2, l3, l4] st H Q = M6 20 [.val (.ref r), l1, l2, l3, l4] (.ref r :: st) H Q := w_x (show decode kb6 19 = .ok (.aload_n 0, 1) from by decide +kernel) rfl
theorem m6_20 : M6 20 ls (.ref b :: st) (put b pre s A L B post) Q = M6 23 ls (.int (s 13) :: st) (put b pre s A L B post) Q := w_get (show decode kb6 20 = .ok (.getfield 116, 3) from by decide +kernel) gf_116 put_o rfl
theorem m6_23u : M6 23 [l0, l1, l2, l3, .unset] ((.int v) :: st) H Q = M6 25 [l0, l1, l2, l3, .val (.int v)] st H Q := w_st (i := 4) (p := isI) (show decode kb6 23 = .ok (.istore 4, 2) from by decide +kernel) rfl rfl rfl rfl rfl rfl
theorem m6_25 : M6 25 [.val (.ref r), l1, l2, l3, l4] st H Q = M6 26 [.val (.ref r), l1, l2, l3, l4] (.ref r :: st) H Q := w_x (show decode kb6 25 = .ok (.aload_n 0, 1) from by decide +kernel) rfl
theorem m6_26 : M6 26 ls (.ref b :: st) (put b pre s A L B post) Q = M6 29 ls (.ref (b + 1) :: st) (put b pre s A L B post) Q := w_get (show decode kb6 26 = .ok (.getfield 7, 3) from by decide +kernel) gf_7 put_o rfl
theorem m6_29 : M6 29 [l0, l1, l2, l3, .val (.int v)] st H Q = M6 31 [l0, l1, l2, l3, .val (.int v)] (.int v :: st) H Q := w_x (show decode kb6 29 = .ok (.iload 4, 2) from by decide +kernel) rfl
theorem m6_31 : M6 31 [l0, .val (.int v), l2, l3, l4] st H Q = M6 32 [l0, .val (.int v), l2, l3, l4] (.int v :: st) H Q := w_x (show decode kb6 31 = .ok (.iload_n 1, 1) from by decide +kernel) rfl
theorem m6_32 : M6 32 ls (.int x :: st) H Q = M6 33 ls (.int (x.toInt8.toInt32) :: st) H Q := w_x (show decode kb6 32 = .ok (.i2b, 1) from by decide +kernel) rfl
theorem m6_33  : M6 33 ls (.int v :: .int j :: .ref (b + 1) :: st) (put b pre s A L B post) Q = (inB j (A 0) ∧ M6 34 ls st (put b pre s (ou A 0 (setA (A 0) j (nar .byte v))) L B post) Q) := w_ist (show decode kb6 33 = .ok (.bastore, 1) from by decide +kernel) rfl put_a0 (Nat.zero_le _) rfl put_w0
theorem m6_34 : M6 34 [.val (.ref r), l1, l2, l3, l4] st H Q = M6 35 [.val (.ref r), l1, l2, l3, l4] (.ref r :: st) H Q := w_x (show decode kb6 34 = .ok (.aload_n 0, 1) from by decide +kernel) rfl
theorem m6_35 : M6 35 ls (.ref b :: st) (put b pre s A L B post) Q = M6 38 ls (.ref (b + 2) :: st) (put b pre s A L B post) Q := w_get (show decode kb6 35 = .ok (.getfield 13, 3) from by decide +kernel) gf_13 put_o rfl
theorem m6_38 : M6 38 [l0, l1, l2, l3, .val (.int v)] st H Q = M6 40 [l0, l1, l2, l3, .val (.int v)] (.int v :: st) H Q := w_x (show decode kb6 38 = .ok (.iload 4, 2) from by decide +kernel) rfl
theorem m6_40 : M6 40 [l0, l1, .val (.int v), l3, l4] st H Q = M6 41 [l0, l1, .val (.int v), l3, l4] (.int v :: st) H Q := w_x (show decode kb6 40 = .ok (.iload_n 2, 1) from by decide +kernel) rfl
theorem m6_41  : M6 41 ls (.int v :: .int j :: .ref (b + 2) :: st) (put b pre s A L B post) Q = (inB j (A 1) ∧ M6 42 ls st (put b pre s (ou A 1 (setA (A 1) j v)) L B post) Q) := w_ist (show decode kb6 41 = .ok (.iastore, 1) from by decide +kernel) rfl put_a1 (Nat.zero_le _) rfl put_w1
theorem m6_42 : M6 42 [.val (.ref r), l1, l2, l3, l4] st H Q = M6 43 [.val (.ref r), l1, l2, l3, l4] (.ref r :: st) H Q := w_x (show decode kb6 42 = .ok (.aload_n 0, 1) from by decide +kernel) rfl
theorem m6_43 : M6 43 ls (.ref b :: st) (put b pre s A L B post) Q = M6 46 ls (.ref (b + 3) :: st) (put b pre s A L B post) Q := w_get (show decode kb6 43 = .ok (.getfield 17, 3) from by decide +kernel) gf_17 put_o rfl
theorem m6_46 : M6 46 [l0, l1, l2, l3, .val (.int v)] st H Q = M6 48 [l0, l1, l2, l3, .val (.int v)] (.int v :: st) H Q := w_x (show decode kb6 46 = .ok (.iload 4, 2) from by decide +kernel) rfl
theorem m6_48 : M6 48 [l0, l1, l2, .val (.int v), l4] st H Q = M6 49 [l0, l1, l2, .val (.int v), l4] (.int v :: st) H Q := w_x (show decode kb6 48 = .ok (.iload_n 3, 1) from by decide +kernel) rfl
theorem m6_49  : M6 49 ls (.int v :: .int j :: .ref (b + 3) :: st) (put b pre s A L B post) Q = (inB j (A 2) ∧ M6 50 ls st (put b pre s (ou A 2 (setA (A 2) j v)) L B post) Q) := w_ist (show decode kb6 49 = .ok (.iastore, 1) from by decide +kernel) rfl put_a2 (Nat.zero_le _) rfl put_w2
theorem m6_50 : M6 50 [.val (.ref r), l1, l2, l3, l4] st H Q = M6 51 [.val (.ref r), l1, l2, l3, l4] (.ref r :: st) H Q := w_x (show decode kb6 50 = .ok (.aload_n 0, 1) from by decide +kernel) rfl
theorem m6_51 : M6 51 ls (.ref b :: st) (put b pre s A L B post) Q = M6 54 ls (.ref (b + 4) :: st) (put b pre s A L B post) Q := w_get (show decode kb6 51 = .ok (.getfield 20, 3) from by decide +kernel) gf_20 put_o rfl
theorem m6_54 : M6 54 [l0, l1, l2, l3, .val (.int v)] st H Q = M6 56 [l0, l1, l2, l3, .val (.int v)] (.int v :: st) H Q := w_x (show decode kb6 54 = .ok (.iload 4, 2) from by decide +kernel) rfl
theorem m6_56 : M6 56 ls st H Q = M6 57 ls (.int 0 :: st) H Q := w_con (show decode kb6 56 = .ok (.iconst 0, 1) from by decide +kernel) rfl (by decide)
theorem m6_57  : M6 57 ls (.int v :: .int j :: .ref (b + 4) :: st) (put b pre s A L B post) Q = (inB j (A 3) ∧ M6 58 ls st (put b pre s (ou A 3 (setA (A 3) j (nar .byte v))) L B post) Q) := w_ist (show decode kb6 57 = .ok (.bastore, 1) from by decide +kernel) rfl put_a3 (Nat.zero_le _) rfl put_w3
theorem m6_58 : M6 58 [.val (.ref r), l1, l2, l3, l4] st H Q = M6 59 [.val (.ref r), l1, l2, l3, l4] (.ref r :: st) H Q := w_x (show decode kb6 58 = .ok (.aload_n 0, 1) from by decide +kernel) rfl
theorem m6_59 : M6 59 [l0, l1, l2, l3, .val (.int v)] st H Q = M6 61 [l0, l1, l2, l3, .val (.int v)] (.int v :: st) H Q := w_x (show decode kb6 59 = .ok (.iload 4, 2) from by decide +kernel) rfl
theorem m6_61 : M6 61 ls st H Q = M6 62 ls (.int 1 :: st) H Q := w_con (show decode kb6 61 = .ok (.iconst 1, 1) from by decide +kernel) rfl (by decide)
theorem m6_62 : M6 62 ls (.int y :: .int x :: st) H Q = M6 63 ls (.int (x + y) :: st) H Q := w_x (show decode kb6 62 = .ok (.iadd, 1) from by decide +kernel) rfl
theorem pf6_116 : pfR tables_1 y6.cls y6.name 116 = some ("MultiplierGen", 28, .int) := by decide +kernel
theorem m6_63 : M6 63 ls (.int v :: .ref b :: st) (put b pre s A L B post) Q = M6 66 ls st (put b pre (ou s 13 v) A L B post) Q := w_put (show decode kb6 63 = .ok (.putfield 116, 3) from by decide +kernel) pf6_116 put_o (Nat.zero_le _) (by show 28 < 30; omega) rfl put_s13
theorem m6_66 : M6 66 [l0, l1, l2, l3, .val (.int v)] st H Q = M6 68 [l0, l1, l2, l3, .val (.int v)] (.int v :: st) H Q := w_x (show decode kb6 66 = .ok (.iload 4, 2) from by decide +kernel) rfl
theorem m6_68 : M6 68 ls (.int z :: st) H Q = Q (some (.int z)) H := w_iret (show decode kb6 68 = .ok (.ireturn, 1) from by decide +kernel) rfl
theorem m7_0 : M7 0 ls st H Q = M7 1 ls (.int 0 :: st) H Q := w_con (show decode kb7 0 = .ok (.iconst 0, 1) from by decide +kernel) rfl (by decide)
theorem m7_1u : M7 1 [l0, .unset, l2, l3, l4, l5] ((.int v) :: st) H Q = M7 2 [l0, .val (.int v), l2, l3, l4, l5] st H Q := w_st (i := 1) (p := isI) (show decode kb7 1 = .ok (.istore_n 1, 1) from by decide +kernel) rfl rfl rfl rfl rfl rfl
theorem m7_2 : M7 2 [l0, .val (.int v), l2, l3, l4, l5] st H Q = M7 3 [l0, .val (.int v), l2, l3, l4, l5] (.int v :: st) H Q := w_x (show decode kb7 2 = .ok (.iload_n 1, 1) from by decide +kernel) rfl
theorem m7_3 : M7 3 [.val (.ref r), l1, l2, l3, l4, l5] st H Q = M7 4 [.val (.ref r), l1, l2, l3, l4, l5] (.ref r :: st) H Q := w_x (show decode kb7 3 = .ok (.aload_n 0, 1) from by decide +kernel) rfl
theorem m7_4 : M7 4 ls (.ref b :: st) (put b pre s A L B post) Q = M7 7 ls (.int (s 14) :: st) (put b pre s A L B post) Q := w_get (show decode kb7 4 = .ok (.getfield 126, 3) from by decide +kernel) gf_126 put_o rfl
theorem m7_7 : M7 7 ls (.int y :: .int x :: st) H Q = if x < y then M7 10 ls st H Q else M7 72 ls st H Q := w_icmpN (show decode kb7 7 = .ok (.if_icmp .ge 65, 3) from by decide +kernel) (i_ge x y) rfl
theorem m7_10 : M7 10 [.val (.ref r), l1, l2, l3, l4, l5] st H Q = M7 11 [.val (.ref r), l1, l2, l3, l4, l5] (.ref r :: st) H Q := w_x (show decode kb7 10 = .ok (.aload_n 0, 1) from by decide +kernel) rfl
theorem m7_11 : M7 11 [l0, .val (.int v), l2, l3, l4, l5] st H Q = M7 12 [l0, .val (.int v), l2, l3, l4, l5] (.int v :: st) H Q := w_x (show decode kb7 11 = .ok (.iload_n 1, 1) from by decide +kernel) rfl
theorem cr7_142 : vR tables_1 dn y7 142 = some (true, y8, prog_1_method_26_code, 2, (some .int), 1, 17) := pR_of (cR_of (by decide +kernel) rc_8 dn_8 dn_7 (sig := ⟨[.int], some .int⟩) (by decide +kernel) (by decide +kernel) rfl rfl) (by decide +kernel) (by decide +kernel)
theorem m7_12 (a0 : Int32) : M7 12 ls [.int a0, .ref b] (put b pre s A L B post) Q = M8 0 [.val (.ref b), .val (.int a0)] [] (put b pre s A L B post) (fun v H1 => M7 15 ls (v.toList ++ []) H1 Q) := w_virt (as := [.int a0]) (rest := []) (a := b) (show decode kb7 12 = .ok (.invokevirtual 142, 3) from by decide +kernel) cr7_142 put_o rfl rfl (Nat.le_of_ble_eq_true rfl) (by show 2 ≤ 2; omega) rfl
theorem m7_15u : M7 15 [l0, l1, .unset, l3, l4, l5] ((.int v) :: st) H Q = M7 16 [l0, l1, .val (.int v), l3, l4, l5] st H Q := w_st (i := 2) (p := isI) (show decode kb7 15 = .ok (.istore_n 2, 1) from by decide +kernel) rfl rfl rfl rfl rfl rfl
theorem m7_15i : M7 15 [l0, l1, .val (.int z), l3, l4, l5] ((.int v) :: st) H Q = M7 16 [l0, l1, .val (.int v), l3, l4, l5] st H Q := w_st (i := 2) (p := isI) (show decode kb7 15 = .ok (.istore_n 2, 1) from by decide +kernel) rfl rfl rfl rfl rfl rfl
theorem m7_15r : M7 15 [l0, l1, .val (.ref q), l3, l4, l5] ((.int v) :: st) H Q = M7 16 [l0, l1, .val (.int v), l3, l4, l5] st H Q := w_st (i := 2) (p := isI) (show decode kb7 15 = .ok (.istore_n 2, 1) from by decide +kernel) rfl rfl rfl rfl rfl rfl
theorem m7_15g (h : okS l2) : M7 15 [l0, l1, l2, l3, l4, l5] ((.int v) :: st) H Q = M7 16 [l0, l1, .val (.int v), l3, l4, l5] st H Q := by rcases h with rfl | ⟨z, rfl⟩ <;> first | exact m7_15u | exact m7_15i
theorem m7_16 : M7 16 [l0, l1, .val (.int v), l3, l4, l5] st H Q = M7 17 [l0, l1, .val (.int v), l3, l4, l5] (.int v :: st) H Q := w_x (show decode kb7 16 = .ok (.iload_n 2, 1) from by decide +kernel) rfl
theorem m7_17 : M7 17 ls (.int x :: st) H Q = if x = 0 then M7 20 ls st H Q else M7 23 ls st H Q := w_ifN (show decode kb7 17 = .ok (.ifCond .ne 6, 3) from by decide +kernel) (z_ne x) rfl
theorem m7_20 : M7 20 ls st H Q = M7 66 ls st H Q := w_x (show decode kb7 20 = .ok (.goto 46, 3) from by decide +kernel) rfl
theorem m7_23 : M7 23 ls st H Q = M7 24 ls (.int 0 :: st) H Q := w_con (show decode kb7 23 = .ok (.iconst 0, 1) from by decide +kernel) rfl (by decide)
theorem m7_24u : M7 24 [l0, l1, l2, .unset, l4, l5] ((.int v) :: st) H Q = M7 25 [l0, l1, l2, .val (.int v), l4, l5] st H Q := w_st (i := 3) (p := isI) (show decode kb7 24 = .ok (.istore_n 3, 1) from by decide +kernel) rfl rfl rfl rfl rfl rfl
theorem m7_24i : M7 24 [l0, l1, l2, .val (.int z), l4, l5] ((.int v) :: st) H Q = M7 25 [l0, l1, l2, .val (.int v), l4, l5] st H Q := w_st (i := 3) (p := isI) (show decode kb7 24 = .ok (.istore_n 3, 1) from by decide +kernel) rfl rfl rfl rfl rfl rfl
theorem m7_24r : M7 24 [l0, l1, l2, .val (.ref q), l4, l5] ((.int v) :: st) H Q = M7 25 [l0, l1, l2, .val (.int v), l4, l5] st H Q := w_st (i := 3) (p := isI) (show decode kb7 24 = .ok (.istore_n 3, 1) from by decide +kernel) rfl rfl rfl rfl rfl rfl
theorem m7_24g (h : okS l3) : M7 24 [l0, l1, l2, l3, l4, l5] ((.int v) :: st) H Q = M7 25 [l0, l1, l2, .val (.int v), l4, l5] st H Q := by rcases h with rfl | ⟨z, rfl⟩ <;> first | exact m7_24u | exact m7_24i
theorem m7_25 : M7 25 [l0, l1, l2, .val (.int v), l4, l5] st H Q = M7 26 [l0, l1, l2, .val (.int v), l4, l5] (.int v :: st) H Q := w_x (show decode kb7 25 = .ok (.iload_n 3, 1) from by decide +kernel) rfl
theorem m7_26 : M7 26 [.val (.ref r), l1, l2, l3, l4, l5] st H Q = M7 27 [.val (.ref r), l1, l2, l3, l4, l5] (.ref r :: st) H Q := w_x (show decode kb7 26 = .ok (.aload_n 0, 1) from by decide +kernel) rfl
theorem m7_27 : M7 27 ls (.ref b :: st) (put b pre s A L B post) Q = M7 30 ls (.int (s 14) :: st) (put b pre s A L B post) Q := w_get (show decode kb7 27 = .ok (.getfield 126, 3) from by decide +kernel) gf_126 put_o rfl
theorem m7_30 : M7 30 [l0, .val (.int v), l2, l3, l4, l5] st H Q = M7 31 [l0, .val (.int v), l2, l3, l4, l5] (.int v :: st) H Q := w_x (show decode kb7 30 = .ok (.iload_n 1, 1) from by decide +kernel) rfl
theorem m7_31 : M7 31 ls (.int y :: .int x :: st) H Q = M7 32 ls (.int (x - y) :: st) H Q := w_x (show decode kb7 31 = .ok (.isub, 1) from by decide +kernel) rfl
theorem m7_32 : M7 32 ls (.int y :: .int x :: st) H Q = if x < y then M7 35 ls st H Q else M7 66 ls st H Q := w_icmpN (show decode kb7 32 = .ok (.if_icmp .ge 34, 3) from by decide +kernel) (i_ge x y) rfl
theorem m7_35 : M7 35 [.val (.ref r), l1, l2, l3, l4, l5] st H Q = M7 36 [.val (.ref r), l1, l2, l3, l4, l5] (.ref r :: st) H Q := w_x (show decode kb7 35 = .ok (.aload_n 0, 1) from by decide +kernel) rfl
theorem m7_36 : M7 36 [l0, l1, l2, .val (.int v), l4, l5] st H Q = M7 37 [l0, l1, l2, .val (.int v), l4, l5] (.int v :: st) H Q := w_x (show decode kb7 36 = .ok (.iload_n 3, 1) from by decide +kernel) rfl
theorem cr7_145 : vR tables_1 dn y7 145 = some (true, y9, prog_1_method_25_code, 2, (some .int), 1, 17) := pR_of (cR_of (by decide +kernel) rc_9 dn_9 dn_7 (sig := ⟨[.int], some .int⟩) (by decide +kernel) (by decide +kernel) rfl rfl) (by decide +kernel) (by decide +kernel)
theorem m7_37 (a0 : Int32) : M7 37 ls [.int a0, .ref b] (put b pre s A L B post) Q = M9 0 [.val (.ref b), .val (.int a0)] [] (put b pre s A L B post) (fun v H1 => M7 40 ls (v.toList ++ []) H1 Q) := w_virt (as := [.int a0]) (rest := []) (a := b) (show decode kb7 37 = .ok (.invokevirtual 145, 3) from by decide +kernel) cr7_145 put_o rfl rfl (Nat.le_of_ble_eq_true rfl) (by show 2 ≤ 2; omega) rfl
theorem m7_40u : M7 40 [l0, l1, l2, l3, .unset, l5] ((.int v) :: st) H Q = M7 42 [l0, l1, l2, l3, .val (.int v), l5] st H Q := w_st (i := 4) (p := isI) (show decode kb7 40 = .ok (.istore 4, 2) from by decide +kernel) rfl rfl rfl rfl rfl rfl
theorem m7_40i : M7 40 [l0, l1, l2, l3, .val (.int z), l5] ((.int v) :: st) H Q = M7 42 [l0, l1, l2, l3, .val (.int v), l5] st H Q := w_st (i := 4) (p := isI) (show decode kb7 40 = .ok (.istore 4, 2) from by decide +kernel) rfl rfl rfl rfl rfl rfl
theorem m7_40r : M7 40 [l0, l1, l2, l3, .val (.ref q), l5] ((.int v) :: st) H Q = M7 42 [l0, l1, l2, l3, .val (.int v), l5] st H Q := w_st (i := 4) (p := isI) (show decode kb7 40 = .ok (.istore 4, 2) from by decide +kernel) rfl rfl rfl rfl rfl rfl
theorem m7_40g (h : okS l4) : M7 40 [l0, l1, l2, l3, l4, l5] ((.int v) :: st) H Q = M7 42 [l0, l1, l2, l3, .val (.int v), l5] st H Q := by rcases h with rfl | ⟨z, rfl⟩ <;> first | exact m7_40u | exact m7_40i
theorem m7_42 : M7 42 [.val (.ref r), l1, l2, l3, l4, l5] st H Q = M7 43 [.val (.ref r), l1, l2, l3, l4, l5] (.ref r :: st) H Q := w_x (show decode kb7 42 = .ok (.aload_n 0, 1) from by decide +kernel) rfl
theorem m7_43 : M7 43 [l0, l1, l2, l3, .val (.int v), l5] st H Q = M7 45 [l0, l1, l2, l3, .val (.int v), l5] (.int v :: st) H Q := w_x (show decode kb7 43 = .ok (.iload 4, 2) from by decide +kernel) rfl
theorem m7_45 : M7 45 [l0, l1, .val (.int v), l3, l4, l5] st H Q = M7 46 [l0, l1, .val (.int v), l3, l4, l5] (.int v :: st) H Q := w_x (show decode kb7 45 = .ok (.iload_n 2, 1) from by decide +kernel) rfl
theorem cr7_148 : vR tables_1 dn y7 148 = some (true, y10, prog_1_method_22_code, 3, (some .int), 2, 0) := pR_of (cR_of (by decide +kernel) rc_10 dn_10 dn_7 (sig := ⟨[.int, .int], some .int⟩) (by decide +kernel) (by decide +kernel) rfl rfl) (by decide +kernel) (by decide +kernel)
theorem m7_46 (a0 : Int32) (a1 : Int32) : M7 46 ls [.int a1, .int a0, .ref b] (put b pre s A L B post) Q = M10 0 [.val (.ref b), .val (.int a0), .val (.int a1)] [] (put b pre s A L B post) (fun v H1 => M7 49 ls (v.toList ++ []) H1 Q) := w_virt (as := [.int a1, .int a0]) (rest := []) (a := b) (show decode kb7 46 = .ok (.invokevirtual 148, 3) from by decide +kernel) cr7_148 put_o rfl rfl (Nat.le_of_ble_eq_true rfl) (by show 3 ≤ 3; omega) rfl
theorem m7_49u : M7 49 [l0, l1, l2, l3, l4, .unset] ((.int v) :: st) H Q = M7 51 [l0, l1, l2, l3, l4, .val (.int v)] st H Q := w_st (i := 5) (p := isI) (show decode kb7 49 = .ok (.istore 5, 2) from by decide +kernel) rfl rfl rfl rfl rfl rfl
theorem m7_49i : M7 49 [l0, l1, l2, l3, l4, .val (.int z)] ((.int v) :: st) H Q = M7 51 [l0, l1, l2, l3, l4, .val (.int v)] st H Q := w_st (i := 5) (p := isI) (show decode kb7 49 = .ok (.istore 5, 2) from by decide +kernel) rfl rfl rfl rfl rfl rfl
theorem m7_49r : M7 49 [l0, l1, l2, l3, l4, .val (.ref q)] ((.int v) :: st) H Q = M7 51 [l0, l1, l2, l3, l4, .val (.int v)] st H Q := w_st (i := 5) (p := isI) (show decode kb7 49 = .ok (.istore 5, 2) from by decide +kernel) rfl rfl rfl rfl rfl rfl
theorem m7_49g (h : okS l5) : M7 49 [l0, l1, l2, l3, l4, l5] ((.int v) :: st) H Q = M7 51 [l0, l1, l2, l3, l4, .val (.int v)] st H Q := by rcases h with rfl | ⟨z, rfl⟩ <;> first | exact m7_49u | exact m7_49i
theorem m7_51 : M7 51 [.val (.ref r), l1, l2, l3, l4, l5] st H Q = M7 52 [.val (.ref r), l1, l2, l3, l4, l5] (.ref r :: st) H Q := w_x (show decode kb7 51 = .ok (.aload_n 0, 1) from by decide +kernel) rfl
theorem m7_52 : M7 52 [l0, .val (.int v), l2, l3, l4, l5] st H Q = M7 53 [l0, .val (.int v), l2, l3, l4, l5] (.int v :: st) H Q := w_x (show decode kb7 52 = .ok (.iload_n 1, 1) from by decide +kernel) rfl
theorem m7_53 : M7 53 [l0, l1, l2, .val (.int v), l4, l5] st H Q = M7 54 [l0, l1, l2, .val (.int v), l4, l5] (.int v :: st) H Q := w_x (show decode kb7 53 = .ok (.iload_n 3, 1) from by decide +kernel) rfl
theorem m7_54 : M7 54 ls (.int y :: .int x :: st) H Q = M7 55 ls (.int (x + y) :: st) H Q := w_x (show decode kb7 54 = .ok (.iadd, 1) from by decide +kernel) rfl
theorem m7_55 : M7 55 [l0, l1, l2, l3, l4, .val (.int v)] st H Q = M7 57 [l0, l1, l2, l3, l4, .val (.int v)] (.int v :: st) H Q := w_x (show decode kb7 55 = .ok (.iload 5, 2) from by decide +kernel) rfl
theorem cr7_151 : vR tables_1 dn y7 151 = some (true, y11, prog_1_method_27_code, 4, none, 2, 15) := pR_of (cR_of (by decide +kernel) rc_11 dn_11 dn_7 (sig := ⟨[.int, .int], none⟩) (by decide +kernel) (by decide +kernel) rfl rfl) (by decide +kernel) (by decide +kernel)
theorem m7_57 (a0 : Int32) (a1 : Int32) : M7 57 ls [.int a1, .int a0, .ref b] (put b pre s A L B post) Q = M11 0 [.val (.ref b), .val (.int a0), .val (.int a1), .unset] [] (put b pre s A L B post) (fun v H1 => M7 60 ls (v.toList ++ []) H1 Q) := w_virt (as := [.int a1, .int a0]) (rest := []) (a := b) (show decode kb7 57 = .ok (.invokevirtual 151, 3) from by decide +kernel) cr7_151 put_o rfl rfl (Nat.le_of_ble_eq_true rfl) (by show 3 ≤ 4; omega) rfl
theorem m7_60 : M7 60 [l0, l1, l2, .val (.int v), l4, l5] st H Q = M7 63 [l0, l1, l2, .val (.int (v + 1)), l4, l5] st H Q := w_iinc (show decode kb7 60 = .ok (.iinc 3 1, 3) from by decide +kernel) rfl (by decide) rfl
theorem m7_63 : M7 63 ls st H Q = M7 25 ls st H Q := w_x (show decode kb7 63 = .ok (.goto (-38), 3) from by decide +kernel) rfl
theorem m7_66 : M7 66 [l0, .val (.int v), l2, l3, l4, l5] st H Q = M7 69 [l0, .val (.int (v + 1)), l2, l3, l4, l5] st H Q := w_iinc (show decode kb7 66 = .ok (.iinc 1 1, 3) from by decide +kernel) rfl (by decide) rfl
theorem m7_69 : M7 69 ls st H Q = M7 2 ls st H Q := w_x (show decode kb7 69 = .ok (.goto (-67), 3) from by decide +kernel) rfl
theorem m7_72 : M7 72 ls [] H Q = Q none H := w_vret (show decode kb7 72 = .ok (.return_, 1) from by decide +kernel) rfl
theorem m8_0 : M8 0 [l0, .val (.int v)] st H Q = M8 1 [l0, .val (.int v)] (.int v :: st) H Q := w_x (show decode kb8 0 = .ok (.iload_n 1, 1) from by decide +kernel) rfl
theorem m8_1 : M8 1 ls (.int x :: st) H Q = if x < 0 then M8 4 ls st H Q else M8 6 ls st H Q := w_ifN (show decode kb8 1 = .ok (.ifCond .ge 5, 3) from by decide +kernel) (z_ge x) rfl
theorem m8_4 : M8 4 ls st H Q = M8 5 ls (.int 0 :: st) H Q := w_con (show decode kb8 4 = .ok (.iconst 0, 1) from by decide +kernel) rfl (by decide)
theorem m8_5 : M8 5 ls (.int z :: st) H Q = Q (some (.int z)) H := w_iret (show decode kb8 5 = .ok (.ireturn, 1) from by decide +kernel) rfl
theorem m8_6 : M8 6 [l0, .val (.int v)] st H Q = M8 7 [l0, .val (.int v)] (.int v :: st) H Q := w_x (show decode kb8 6 = .ok (.iload_n 1, 1) from by decide +kernel) rfl
theorem m8_7 : M8 7 [.val (.ref r), l1] st H Q = M8 8 [.val (.ref r), l1] (.ref r :: st) H Q := w_x (show decode kb8 7 = .ok (.aload_n 0, 1) from by decide +kernel) rfl
theorem m8_8 : M8 8 ls (.ref b :: st) (put b pre s A L B post) Q = M8 11 ls (.int (s 4) :: st) (put b pre s A L B post) Q := w_get (show decode kb8 8 = .ok (.getfield 90, 3) from by decide +kernel) gf_90 put_o rfl
theorem m8_11 : M8 11 ls (.int y :: .int x :: st) H Q = if x < y then M8 14 ls st H Q else M8 21 ls st H Q := w_icmpN (show decode kb8 11 = .ok (.if_icmp .ge 10, 3) from by decide +kernel) (i_ge x y) rfl
theorem m8_14 : M8 14 [.val (.ref r), l1] st H Q = M8 15 [.val (.ref r), l1] (.ref r :: st) H Q := w_x (show decode kb8 14 = .ok (.aload_n 0, 1) from by decide +kernel) rfl
theorem m8_15 : M8 15 ls (.ref b :: st) (put b pre s A L B post) Q = M8 18 ls (.ref (b + 14) :: st) (put b pre s A L B post) Q := w_get (show decode kb8 15 = .ok (.getfield 50, 3) from by decide +kernel) gf_50 put_o rfl
theorem m8_18 : M8 18 [l0, .val (.int v)] st H Q = M8 19 [l0, .val (.int v)] (.int v :: st) H Q := w_x (show decode kb8 18 = .ok (.iload_n 1, 1) from by decide +kernel) rfl
theorem m8_19  : M8 19 ls (.int j :: .ref (b + 14) :: st) (put b pre s A L B post) Q = (inB j (A 13) ∧ M8 20 ls (.int (getA (A 13) j) :: st) (put b pre s A L B post) Q) := w_ild (show decode kb8 19 = .ok (.iaload, 1) from by decide +kernel) rfl put_a13
theorem m8_20 : M8 20 ls (.int z :: st) H Q = Q (some (.int z)) H := w_iret (show decode kb8 20 = .ok (.ireturn, 1) from by decide +kernel) rfl
theorem m8_21 : M8 21 [.val (.ref r), l1] st H Q = M8 22 [.val (.ref r), l1] (.ref r :: st) H Q := w_x (show decode kb8 21 = .ok (.aload_n 0, 1) from by decide +kernel) rfl
theorem m8_22 : M8 22 ls (.ref b :: st) (put b pre s A L B post) Q = M8 25 ls (.int (s 5) :: st) (put b pre s A L B post) Q := w_get (show decode kb8 22 = .ok (.getfield 93, 3) from by decide +kernel) gf_93 put_o rfl
theorem m8_25 : M8 25 ls st H Q = M8 26 ls (.int 1 :: st) H Q := w_con (show decode kb8 25 = .ok (.iconst 1, 1) from by decide +kernel) rfl (by decide)
theorem m8_26 : M8 26 ls (.int y :: .int x :: st) H Q = if x = y then M8 29 ls st H Q else M8 41 ls st H Q := w_icmpN (show decode kb8 26 = .ok (.if_icmp .ne 15, 3) from by decide +kernel) (i_ne x y) rfl
theorem m8_29 : M8 29 [.val (.ref r), l1] st H Q = M8 30 [.val (.ref r), l1] (.ref r :: st) H Q := w_x (show decode kb8 29 = .ok (.aload_n 0, 1) from by decide +kernel) rfl
theorem m8_30 : M8 30 ls (.ref b :: st) (put b pre s A L B post) Q = M8 33 ls (.ref (b + 14) :: st) (put b pre s A L B post) Q := w_get (show decode kb8 30 = .ok (.getfield 50, 3) from by decide +kernel) gf_50 put_o rfl
theorem m8_33 : M8 33 [.val (.ref r), l1] st H Q = M8 34 [.val (.ref r), l1] (.ref r :: st) H Q := w_x (show decode kb8 33 = .ok (.aload_n 0, 1) from by decide +kernel) rfl
theorem m8_34 : M8 34 ls (.ref b :: st) (put b pre s A L B post) Q = M8 37 ls (.int (s 4) :: st) (put b pre s A L B post) Q := w_get (show decode kb8 34 = .ok (.getfield 90, 3) from by decide +kernel) gf_90 put_o rfl
theorem m8_37 : M8 37 ls st H Q = M8 38 ls (.int 1 :: st) H Q := w_con (show decode kb8 37 = .ok (.iconst 1, 1) from by decide +kernel) rfl (by decide)
theorem m8_38 : M8 38 ls (.int y :: .int x :: st) H Q = M8 39 ls (.int (x - y) :: st) H Q := w_x (show decode kb8 38 = .ok (.isub, 1) from by decide +kernel) rfl
theorem m8_39  : M8 39 ls (.int j :: .ref (b + 14) :: st) (put b pre s A L B post) Q = (inB j (A 13) ∧ M8 40 ls (.int (getA (A 13) j) :: st) (put b pre s A L B post) Q) := w_ild (show decode kb8 39 = .ok (.iaload, 1) from by decide +kernel) rfl put_a13
theorem m8_40 : M8 40 ls (.int z :: st) H Q = Q (some (.int z)) H := w_iret (show decode kb8 40 = .ok (.ireturn, 1) from by decide +kernel) rfl
theorem m8_41 : M8 41 ls st H Q = M8 42 ls (.int 0 :: st) H Q := w_con (show decode kb8 41 = .ok (.iconst 0, 1) from by decide +kernel) rfl (by decide)
theorem m8_42 : M8 42 ls (.int z :: st) H Q = Q (some (.int z)) H := w_iret (show decode kb8 42 = .ok (.ireturn, 1) from by decide +kernel) rfl
theorem m9_0 : M9 0 [l0, .val (.int v)] st H Q = M9 1 [l0, .val (.int v)] (.int v :: st) H Q := w_x (show decode kb9 0 = .ok (.iload_n 1, 1) from by decide +kernel) rfl
theorem m9_1 : M9 1 ls (.int x :: st) H Q = if x < 0 then M9 4 ls st H Q else M9 6 ls st H Q := w_ifN (show decode kb9 1 = .ok (.ifCond .ge 5, 3) from by decide +kernel) (z_ge x) rfl
theorem m9_4 : M9 4 ls st H Q = M9 5 ls (.int 0 :: st) H Q := w_con (show decode kb9 4 = .ok (.iconst 0, 1) from by decide +kernel) rfl (by decide)
theorem m9_5 : M9 5 ls (.int z :: st) H Q = Q (some (.int z)) H := w_iret (show decode kb9 5 = .ok (.ireturn, 1) from by decide +kernel) rfl
theorem m9_6 : M9 6 [l0, .val (.int v)] st H Q = M9 7 [l0, .val (.int v)] (.int v :: st) H Q := w_x (show decode kb9 6 = .ok (.iload_n 1, 1) from by decide +kernel) rfl
theorem m9_7 : M9 7 [.val (.ref r), l1] st H Q = M9 8 [.val (.ref r), l1] (.ref r :: st) H Q := w_x (show decode kb9 7 = .ok (.aload_n 0, 1) from by decide +kernel) rfl
theorem m9_8 : M9 8 ls (.ref b :: st) (put b pre s A L B post) Q = M9 11 ls (.int (s 4) :: st) (put b pre s A L B post) Q := w_get (show decode kb9 8 = .ok (.getfield 90, 3) from by decide +kernel) gf_90 put_o rfl
theorem m9_11 : M9 11 ls (.int y :: .int x :: st) H Q = if x < y then M9 14 ls st H Q else M9 21 ls st H Q := w_icmpN (show decode kb9 11 = .ok (.if_icmp .ge 10, 3) from by decide +kernel) (i_ge x y) rfl
theorem m9_14 : M9 14 [.val (.ref r), l1] st H Q = M9 15 [.val (.ref r), l1] (.ref r :: st) H Q := w_x (show decode kb9 14 = .ok (.aload_n 0, 1) from by decide +kernel) rfl
theorem m9_15 : M9 15 ls (.ref b :: st) (put b pre s A L B post) Q = M9 18 ls (.ref (b + 13) :: st) (put b pre s A L B post) Q := w_get (show decode kb9 15 = .ok (.getfield 47, 3) from by decide +kernel) gf_47 put_o rfl
theorem m9_18 : M9 18 [l0, .val (.int v)] st H Q = M9 19 [l0, .val (.int v)] (.int v :: st) H Q := w_x (show decode kb9 18 = .ok (.iload_n 1, 1) from by decide +kernel) rfl
theorem m9_19  : M9 19 ls (.int j :: .ref (b + 13) :: st) (put b pre s A L B post) Q = (inB j (A 12) ∧ M9 20 ls (.int (getA (A 12) j) :: st) (put b pre s A L B post) Q) := w_ild (show decode kb9 19 = .ok (.iaload, 1) from by decide +kernel) rfl put_a12
theorem m9_20 : M9 20 ls (.int z :: st) H Q = Q (some (.int z)) H := w_iret (show decode kb9 20 = .ok (.ireturn, 1) from by decide +kernel) rfl
theorem m9_21 : M9 21 [.val (.ref r), l1] st H Q = M9 22 [.val (.ref r), l1] (.ref r :: st) H Q := w_x (show decode kb9 21 = .ok (.aload_n 0, 1) from by decide +kernel) rfl
theorem m9_22 : M9 22 ls (.ref b :: st) (put b pre s A L B post) Q = M9 25 ls (.int (s 5) :: st) (put b pre s A L B post) Q := w_get (show decode kb9 22 = .ok (.getfield 93, 3) from by decide +kernel) gf_93 put_o rfl
theorem m9_25 : M9 25 ls st H Q = M9 26 ls (.int 1 :: st) H Q := w_con (show decode kb9 25 = .ok (.iconst 1, 1) from by decide +kernel) rfl (by decide)
theorem m9_26 : M9 26 ls (.int y :: .int x :: st) H Q = if x = y then M9 29 ls st H Q else M9 41 ls st H Q := w_icmpN (show decode kb9 26 = .ok (.if_icmp .ne 15, 3) from by decide +kernel) (i_ne x y) rfl
theorem m9_29 : M9 29 [.val (.ref r), l1] st H Q = M9 30 [.val (.ref r), l1] (.ref r :: st) H Q := w_x (show decode kb9 29 = .ok (.aload_n 0, 1) from by decide +kernel) rfl
theorem m9_30 : M9 30 ls (.ref b :: st) (put b pre s A L B post) Q = M9 33 ls (.ref (b + 13) :: st) (put b pre s A L B post) Q := w_get (show decode kb9 30 = .ok (.getfield 47, 3) from by decide +kernel) gf_47 put_o rfl
theorem m9_33 : M9 33 [.val (.ref r), l1] st H Q = M9 34 [.val (.ref r), l1] (.ref r :: st) H Q := w_x (show decode kb9 33 = .ok (.aload_n 0, 1) from by decide +kernel) rfl
theorem m9_34 : M9 34 ls (.ref b :: st) (put b pre s A L B post) Q = M9 37 ls (.int (s 4) :: st) (put b pre s A L B post) Q := w_get (show decode kb9 34 = .ok (.getfield 90, 3) from by decide +kernel) gf_90 put_o rfl
theorem m9_37 : M9 37 ls st H Q = M9 38 ls (.int 1 :: st) H Q := w_con (show decode kb9 37 = .ok (.iconst 1, 1) from by decide +kernel) rfl (by decide)
theorem m9_38 : M9 38 ls (.int y :: .int x :: st) H Q = M9 39 ls (.int (x - y) :: st) H Q := w_x (show decode kb9 38 = .ok (.isub, 1) from by decide +kernel) rfl
theorem m9_39  : M9 39 ls (.int j :: .ref (b + 13) :: st) (put b pre s A L B post) Q = (inB j (A 12) ∧ M9 40 ls (.int (getA (A 12) j) :: st) (put b pre s A L B post) Q) := w_ild (show decode kb9 39 = .ok (.iaload, 1) from by decide +kernel) rfl put_a12
theorem m9_40 : M9 40 ls (.int z :: st) H Q = Q (some (.int z)) H := w_iret (show decode kb9 40 = .ok (.ireturn, 1) from by decide +kernel) rfl
theorem m9_41 : M9 41 ls st H Q = M9 42 ls (.int 0 :: st) H Q := w_con (show decode kb9 41 = .ok (.iconst 0, 1) from by decide +kernel) rfl (by decide)
theorem m9_42 : M9 42 ls (.int z :: st) H Q = Q (some (.int z)) H := w_iret (show decode kb9 42 = .ok (.ireturn, 1) from by decide +kernel) rfl
theorem m10_0 : M10 0 [l0, .val (.int v), l2] st H Q = M10 1 [l0, .val (.int v), l2] (.int v :: st) H Q := w_x (show decode kb10 0 = .ok (.iload_n 1, 1) from by decide +kernel) rfl
theorem m10_1 : M10 1 ls (.int x :: st) H Q = if x = 0 then M10 8 ls st H Q else M10 4 ls st H Q := w_if (show decode kb10 1 = .ok (.ifCond .eq 7, 3) from by decide +kernel) (z_eq x) rfl
theorem m10_4 : M10 4 [l0, l1, .val (.int v)] st H Q = M10 5 [l0, l1, .val (.int v)] (.int v :: st) H Q := w_x (show decode kb10 4 = .ok (.iload_n 2, 1) from by decide +kernel) rfl
theorem m10_5 : M10 5 ls (.int x :: st) H Q = if x = 0 then M10 8 ls st H Q else M10 10 ls st H Q := w_ifN (show decode kb10 5 = .ok (.ifCond .ne 5, 3) from by decide +kernel) (z_ne x) rfl
theorem m10_8 : M10 8 ls st H Q = M10 9 ls (.int 0 :: st) H Q := w_con (show decode kb10 8 = .ok (.iconst 0, 1) from by decide +kernel) rfl (by decide)
theorem m10_9 : M10 9 ls (.int z :: st) H Q = Q (some (.int z)) H := w_iret (show decode kb10 9 = .ok (.ireturn, 1) from by decide +kernel) rfl
theorem m10_10 : M10 10 [l0, .val (.int v), l2] st H Q = M10 11 [l0, .val (.int v), l2] (.int v :: st) H Q := w_x (show decode kb10 10 = .ok (.iload_n 1, 1) from by decide +kernel) rfl
theorem m10_11 : M10 11 ls st H Q = M10 12 ls (.int 1 :: st) H Q := w_con (show decode kb10 11 = .ok (.iconst 1, 1) from by decide +kernel) rfl (by decide)
theorem m10_12 : M10 12 ls (.int y :: .int x :: st) H Q = if x = y then M10 15 ls st H Q else M10 17 ls st H Q := w_icmpN (show decode kb10 12 = .ok (.if_icmp .ne 5, 3) from by decide +kernel) (i_ne x y) rfl
theorem m10_15 : M10 15 [l0, l1, .val (.int v)] st H Q = M10 16 [l0, l1, .val (.int v)] (.int v :: st) H Q := w_x (show decode kb10 15 = .ok (.iload_n 2, 1) from by decide +kernel) rfl
theorem m10_16 : M10 16 ls (.int z :: st) H Q = Q (some (.int z)) H := w_iret (show decode kb10 16 = .ok (.ireturn, 1) from by decide +kernel) rfl
theorem m10_17 : M10 17 [l0, l1, .val (.int v)] st H Q = M10 18 [l0, l1, .val (.int v)] (.int v :: st) H Q := w_x (show decode kb10 17 = .ok (.iload_n 2, 1) from by decide +kernel) rfl
theorem m10_18 : M10 18 ls st H Q = M10 19 ls (.int 1 :: st) H Q := w_con (show decode kb10 18 = .ok (.iconst 1, 1) from by decide +kernel) rfl (by decide)
theorem m10_19 : M10 19 ls (.int y :: .int x :: st) H Q = if x = y then M10 27 ls st H Q else M10 22 ls st H Q := w_icmp (show decode kb10 19 = .ok (.if_icmp .eq 8, 3) from by decide +kernel) (i_eq x y) rfl
theorem m10_22 : M10 22 [l0, .val (.int v), l2] st H Q = M10 23 [l0, .val (.int v), l2] (.int v :: st) H Q := w_x (show decode kb10 22 = .ok (.iload_n 1, 1) from by decide +kernel) rfl
theorem m10_23 : M10 23 [l0, l1, .val (.int v)] st H Q = M10 24 [l0, l1, .val (.int v)] (.int v :: st) H Q := w_x (show decode kb10 23 = .ok (.iload_n 2, 1) from by decide +kernel) rfl
theorem m10_24 : M10 24 ls (.int y :: .int x :: st) H Q = if x = y then M10 27 ls st H Q else M10 29 ls st H Q := w_icmpN (show decode kb10 24 = .ok (.if_icmp .ne 5, 3) from by decide +kernel) (i_ne x y) rfl
theorem m10_27 : M10 27 [l0, .val (.int v), l2] st H Q = M10 28 [l0, .val (.int v), l2] (.int v :: st) H Q := w_x (show decode kb10 27 = .ok (.iload_n 1, 1) from by decide +kernel) rfl
theorem m10_28 : M10 28 ls (.int z :: st) H Q = Q (some (.int z)) H := w_iret (show decode kb10 28 = .ok (.ireturn, 1) from by decide +kernel) rfl
theorem m10_29 : M10 29 [.val (.ref r), l1, l2] st H Q = M10 30 [.val (.ref r), l1, l2] (.ref r :: st) H Q := w_x (show decode kb10 29 = .ok (.aload_n 0, 1) from by decide +kernel) rfl
theorem m10_30 : M10 30 ls st H Q = M10 31 ls (.int 4 :: st) H Q := w_con (show decode kb10 30 = .ok (.iconst 4, 1) from by decide +kernel) rfl (by decide)
theorem m10_31 : M10 31 [l0, .val (.int v), l2] st H Q = M10 32 [l0, .val (.int v), l2] (.int v :: st) H Q := w_x (show decode kb10 31 = .ok (.iload_n 1, 1) from by decide +kernel) rfl
theorem m10_32 : M10 32 [l0, l1, .val (.int v)] st H Q = M10 33 [l0, l1, .val (.int v)] (.int v :: st) H Q := w_x (show decode kb10 32 = .ok (.iload_n 2, 1) from by decide +kernel) rfl
theorem cr10_119 : vR tables_1 dn y10 119 = some (true, y6, prog_1_method_20_code, 5, (some .int), 3, 0) := pR_of (cR_of (by decide +kernel) rc_6 dn_6 dn_10 (sig := ⟨[.int, .int, .int], some .int⟩) (by decide +kernel) (by decide +kernel) rfl rfl) (by decide +kernel) (by decide +kernel)
theorem m10_33 (a0 : Int32) (a1 : Int32) (a2 : Int32) : M10 33 ls [.int a2, .int a1, .int a0, .ref b] (put b pre s A L B post) Q = M6 0 [.val (.ref b), .val (.int a0), .val (.int a1), .val (.int a2), .unset] [] (put b pre s A L B post) (fun v H1 => M10 36 ls (v.toList ++ []) H1 Q) := w_virt (as := [.int a2, .int a1, .int a0]) (rest := []) (a := b) (show decode kb10 33 = .ok (.invokevirtual 119, 3) from by decide +kernel) cr10_119 put_o rfl rfl (Nat.le_of_ble_eq_true rfl) (by show 4 ≤ 5; omega) rfl
theorem m10_36 : M10 36 ls (.int z :: st) H Q = Q (some (.int z)) H := w_iret (show decode kb10 36 = .ok (.ireturn, 1) from by decide +kernel) rfl
theorem m11_0 : M11 0 [l0, l1, .val (.int v), l3] st H Q = M11 1 [l0, l1, .val (.int v), l3] (.int v :: st) H Q := w_x (show decode kb11 0 = .ok (.iload_n 2, 1) from by decide +kernel) rfl
theorem m11_1 : M11 1 ls (.int x :: st) H Q = if x = 0 then M11 14 ls st H Q else M11 4 ls st H Q := w_if (show decode kb11 1 = .ok (.ifCond .eq 13, 3) from by decide +kernel) (z_eq x) rfl
theorem m11_4 : M11 4 [l0, .val (.int v), l2, l3] st H Q = M11 5 [l0, .val (.int v), l2, l3] (.int v :: st) H Q := w_x (show decode kb11 4 = .ok (.iload_n 1, 1) from by decide +kernel) rfl
theorem m11_5 : M11 5 ls (.int x :: st) H Q = if x < 0 then M11 14 ls st H Q else M11 8 ls st H Q := w_if (show decode kb11 5 = .ok (.ifCond .lt 9, 3) from by decide +kernel) (z_lt x) rfl
theorem m11_8 : M11 8 [l0, .val (.int v), l2, l3] st H Q = M11 9 [l0, .val (.int v), l2, l3] (.int v :: st) H Q := w_x (show decode kb11 8 = .ok (.iload_n 1, 1) from by decide +kernel) rfl
theorem m11_9 : M11 9 ls st H Q = M11 11 ls (.int 16 :: st) H Q := w_con (show decode kb11 9 = .ok (.bipush 16, 2) from by decide +kernel) rfl (by decide)
theorem m11_11 : M11 11 ls (.int y :: .int x :: st) H Q = if x < y then M11 15 ls st H Q else M11 14 ls st H Q := w_icmp (show decode kb11 11 = .ok (.if_icmp .lt 4, 3) from by decide +kernel) (i_lt x y) rfl
theorem m11_14 : M11 14 ls [] H Q = Q none H := w_vret (show decode kb11 14 = .ok (.return_, 1) from by decide +kernel) rfl
theorem m11_15 : M11 15 [.val (.ref r), l1, l2, l3] st H Q = M11 16 [.val (.ref r), l1, l2, l3] (.ref r :: st) H Q := w_x (show decode kb11 15 = .ok (.aload_n 0, 1) from by decide +kernel) rfl
theorem m11_16 : M11 16 ls (.ref b :: st) (put b pre s A L B post) Q = M11 19 ls (.ref (b + 7) :: st) (put b pre s A L B post) Q := w_get (show decode kb11 16 = .ok (.getfield 29, 3) from by decide +kernel) gf_29 put_o rfl
theorem m11_19 : M11 19 [l0, .val (.int v), l2, l3] st H Q = M11 20 [l0, .val (.int v), l2, l3] (.int v :: st) H Q := w_x (show decode kb11 19 = .ok (.iload_n 1, 1) from by decide +kernel) rfl
theorem m11_20  : M11 20 ls (.int j :: .ref (b + 7) :: st) (put b pre s A L B post) Q = (inB j (A 6) ∧ M11 21 ls (.int (getA (A 6) j) :: st) (put b pre s A L B post) Q) := w_ild (show decode kb11 20 = .ok (.iaload, 1) from by decide +kernel) rfl put_a6
theorem m11_21u : M11 21 [l0, l1, l2, .unset] ((.int v) :: st) H Q = M11 22 [l0, l1, l2, .val (.int v)] st H Q := w_st (i := 3) (p := isI) (show decode kb11 21 = .ok (.istore_n 3, 1) from by decide +kernel) rfl rfl rfl rfl rfl rfl
theorem m11_22 : M11 22 [l0, l1, l2, .val (.int v)] st H Q = M11 23 [l0, l1, l2, .val (.int v)] (.int v :: st) H Q := w_x (show decode kb11 22 = .ok (.iload_n 3, 1) from by decide +kernel) rfl
theorem m11_23 : M11 23 ls (.int x :: st) H Q = if x < 0 then M11 32 ls st H Q else M11 26 ls st H Q := w_if (show decode kb11 23 = .ok (.ifCond .lt 9, 3) from by decide +kernel) (z_lt x) rfl
theorem m11_26 : M11 26 [l0, l1, l2, .val (.int v)] st H Q = M11 27 [l0, l1, l2, .val (.int v)] (.int v :: st) H Q := w_x (show decode kb11 26 = .ok (.iload_n 3, 1) from by decide +kernel) rfl
theorem m11_27 : M11 27 ls st H Q = M11 29 ls (.int 32 :: st) H Q := w_con (show decode kb11 27 = .ok (.bipush 32, 2) from by decide +kernel) rfl (by decide)
theorem m11_29 : M11 29 ls (.int y :: .int x :: st) H Q = if x < y then M11 33 ls st H Q else M11 32 ls st H Q := w_icmp (show decode kb11 29 = .ok (.if_icmp .lt 4, 3) from by decide +kernel) (i_lt x y) rfl
theorem m11_32 : M11 32 ls [] H Q = Q none H := w_vret (show decode kb11 32 = .ok (.return_, 1) from by decide +kernel) rfl
theorem m11_33 : M11 33 [.val (.ref r), l1, l2, l3] st H Q = M11 34 [.val (.ref r), l1, l2, l3] (.ref r :: st) H Q := w_x (show decode kb11 33 = .ok (.aload_n 0, 1) from by decide +kernel) rfl
theorem m11_34 : M11 34 ls (.ref b :: st) (put b pre s A L B post) Q = M11 37 ls (.ref (b + 5) :: st) (put b pre s A L B post) Q := w_get (show decode kb11 34 = .ok (.getfield 23, 3) from by decide +kernel) gf_23 put_o rfl
theorem m11_37 : M11 37 [l0, .val (.int v), l2, l3] st H Q = M11 38 [l0, .val (.int v), l2, l3] (.int v :: st) H Q := w_x (show decode kb11 37 = .ok (.iload_n 1, 1) from by decide +kernel) rfl
theorem m11_38 : M11 38 ls st H Q = M11 40 ls (.int 32 :: st) H Q := w_con (show decode kb11 38 = .ok (.bipush 32, 2) from by decide +kernel) rfl (by decide)
theorem m11_40 : M11 40 ls (.int y :: .int x :: st) H Q = M11 41 ls (.int (x * y) :: st) H Q := w_x (show decode kb11 40 = .ok (.imul, 1) from by decide +kernel) rfl
theorem m11_41 : M11 41 [l0, l1, l2, .val (.int v)] st H Q = M11 42 [l0, l1, l2, .val (.int v)] (.int v :: st) H Q := w_x (show decode kb11 41 = .ok (.iload_n 3, 1) from by decide +kernel) rfl
theorem m11_42 : M11 42 ls (.int y :: .int x :: st) H Q = M11 43 ls (.int (x + y) :: st) H Q := w_x (show decode kb11 42 = .ok (.iadd, 1) from by decide +kernel) rfl
theorem m11_43 : M11 43 [l0, l1, .val (.int v), l3] st H Q = M11 44 [l0, l1, .val (.int v), l3] (.int v :: st) H Q := w_x (show decode kb11 43 = .ok (.iload_n 2, 1) from by decide +kernel) rfl
theorem m11_44  : M11 44 ls (.int v :: .int j :: .ref (b + 5) :: st) (put b pre s A L B post) Q = (inB j (A 4) ∧ M11 45 ls st (put b pre s (ou A 4 (setA (A 4) j v)) L B post) Q) := w_ist (show decode kb11 44 = .ok (.iastore, 1) from by decide +kernel) rfl put_a4 (Nat.zero_le _) rfl put_w4
theorem m11_45 : M11 45 [.val (.ref r), l1, l2, l3] st H Q = M11 46 [.val (.ref r), l1, l2, l3] (.ref r :: st) H Q := w_x (show decode kb11 45 = .ok (.aload_n 0, 1) from by decide +kernel) rfl
theorem m11_46 : M11 46 ls (.ref b :: st) (put b pre s A L B post) Q = M11 49 ls (.ref (b + 7) :: st) (put b pre s A L B post) Q := w_get (show decode kb11 46 = .ok (.getfield 29, 3) from by decide +kernel) gf_29 put_o rfl
theorem m11_49 : M11 49 [l0, .val (.int v), l2, l3] st H Q = M11 50 [l0, .val (.int v), l2, l3] (.int v :: st) H Q := w_x (show decode kb11 49 = .ok (.iload_n 1, 1) from by decide +kernel) rfl
theorem m11_50 : M11 50 [l0, l1, l2, .val (.int v)] st H Q = M11 51 [l0, l1, l2, .val (.int v)] (.int v :: st) H Q := w_x (show decode kb11 50 = .ok (.iload_n 3, 1) from by decide +kernel) rfl
theorem m11_51 : M11 51 ls st H Q = M11 52 ls (.int 1 :: st) H Q := w_con (show decode kb11 51 = .ok (.iconst 1, 1) from by decide +kernel) rfl (by decide)
theorem m11_52 : M11 52 ls (.int y :: .int x :: st) H Q = M11 53 ls (.int (x + y) :: st) H Q := w_x (show decode kb11 52 = .ok (.iadd, 1) from by decide +kernel) rfl
theorem m11_53  : M11 53 ls (.int v :: .int j :: .ref (b + 7) :: st) (put b pre s A L B post) Q = (inB j (A 6) ∧ M11 54 ls st (put b pre s (ou A 6 (setA (A 6) j v)) L B post) Q) := w_ist (show decode kb11 53 = .ok (.iastore, 1) from by decide +kernel) rfl put_a6 (Nat.zero_le _) rfl put_w6
theorem m11_54 : M11 54 ls [] H Q = Q none H := w_vret (show decode kb11 54 = .ok (.return_, 1) from by decide +kernel) rfl
theorem m12_0 : M12 0 ls st H Q = M12 1 ls (.int 0 :: st) H Q := w_con (show decode kb12 0 = .ok (.iconst 0, 1) from by decide +kernel) rfl (by decide)
theorem m12_1u : M12 1 [l0, .unset, l2, l3] ((.int v) :: st) H Q = M12 2 [l0, .val (.int v), l2, l3] st H Q := w_st (i := 1) (p := isI) (show decode kb12 1 = .ok (.istore_n 1, 1) from by decide +kernel) rfl rfl rfl rfl rfl rfl
theorem m12_2 : M12 2 [l0, .val (.int v), l2, l3] st H Q = M12 3 [l0, .val (.int v), l2, l3] (.int v :: st) H Q := w_x (show decode kb12 2 = .ok (.iload_n 1, 1) from by decide +kernel) rfl
theorem m12_3 : M12 3 ls st H Q = M12 5 ls (.int 16 :: st) H Q := w_con (show decode kb12 3 = .ok (.bipush 16, 2) from by decide +kernel) rfl (by decide)
theorem m12_5 : M12 5 ls (.int y :: .int x :: st) H Q = if x < y then M12 8 ls st H Q else M12 66 ls st H Q := w_icmpN (show decode kb12 5 = .ok (.if_icmp .ge 61, 3) from by decide +kernel) (i_ge x y) rfl
theorem m12_8 : M12 8 ls st H Q = M12 9 ls (.int 0 :: st) H Q := w_con (show decode kb12 8 = .ok (.iconst 0, 1) from by decide +kernel) rfl (by decide)
theorem m12_9u : M12 9 [l0, l1, .unset, l3] ((.int v) :: st) H Q = M12 10 [l0, l1, .val (.int v), l3] st H Q := w_st (i := 2) (p := isI) (show decode kb12 9 = .ok (.istore_n 2, 1) from by decide +kernel) rfl rfl rfl rfl rfl rfl
theorem m12_9i : M12 9 [l0, l1, .val (.int z), l3] ((.int v) :: st) H Q = M12 10 [l0, l1, .val (.int v), l3] st H Q := w_st (i := 2) (p := isI) (show decode kb12 9 = .ok (.istore_n 2, 1) from by decide +kernel) rfl rfl rfl rfl rfl rfl
theorem m12_9r : M12 9 [l0, l1, .val (.ref q), l3] ((.int v) :: st) H Q = M12 10 [l0, l1, .val (.int v), l3] st H Q := w_st (i := 2) (p := isI) (show decode kb12 9 = .ok (.istore_n 2, 1) from by decide +kernel) rfl rfl rfl rfl rfl rfl
theorem m12_9g (h : okS l2) : M12 9 [l0, l1, l2, l3] ((.int v) :: st) H Q = M12 10 [l0, l1, .val (.int v), l3] st H Q := by rcases h with rfl | ⟨z, rfl⟩ <;> first | exact m12_9u | exact m12_9i
theorem m12_10 : M12 10 ls st H Q = M12 11 ls (.int 0 :: st) H Q := w_con (show decode kb12 10 = .ok (.iconst 0, 1) from by decide +kernel) rfl (by decide)
theorem m12_11u : M12 11 [l0, l1, l2, .unset] ((.int v) :: st) H Q = M12 12 [l0, l1, l2, .val (.int v)] st H Q := w_st (i := 3) (p := isI) (show decode kb12 11 = .ok (.istore_n 3, 1) from by decide +kernel) rfl rfl rfl rfl rfl rfl
theorem m12_11i : M12 11 [l0, l1, l2, .val (.int z)] ((.int v) :: st) H Q = M12 12 [l0, l1, l2, .val (.int v)] st H Q := w_st (i := 3) (p := isI) (show decode kb12 11 = .ok (.istore_n 3, 1) from by decide +kernel) rfl rfl rfl rfl rfl rfl
theorem m12_11r : M12 11 [l0, l1, l2, .val (.ref q)] ((.int v) :: st) H Q = M12 12 [l0, l1, l2, .val (.int v)] st H Q := w_st (i := 3) (p := isI) (show decode kb12 11 = .ok (.istore_n 3, 1) from by decide +kernel) rfl rfl rfl rfl rfl rfl
theorem m12_11g (h : okS l3) : M12 11 [l0, l1, l2, l3] ((.int v) :: st) H Q = M12 12 [l0, l1, l2, .val (.int v)] st H Q := by rcases h with rfl | ⟨z, rfl⟩ <;> first | exact m12_11u | exact m12_11i
theorem m12_12 : M12 12 [l0, l1, l2, .val (.int v)] st H Q = M12 13 [l0, l1, l2, .val (.int v)] (.int v :: st) H Q := w_x (show decode kb12 12 = .ok (.iload_n 3, 1) from by decide +kernel) rfl
theorem m12_13 : M12 13 [.val (.ref r), l1, l2, l3] st H Q = M12 14 [.val (.ref r), l1, l2, l3] (.ref r :: st) H Q := w_x (show decode kb12 13 = .ok (.aload_n 0, 1) from by decide +kernel) rfl
theorem m12_14 : M12 14 ls (.ref b :: st) (put b pre s A L B post) Q = M12 17 ls (.int (s 14) :: st) (put b pre s A L B post) Q := w_get (show decode kb12 14 = .ok (.getfield 126, 3) from by decide +kernel) gf_126 put_o rfl
theorem m12_17 : M12 17 ls (.int y :: .int x :: st) H Q = if x < y then M12 20 ls st H Q else M12 43 ls st H Q := w_icmpN (show decode kb12 17 = .ok (.if_icmp .ge 26, 3) from by decide +kernel) (i_ge x y) rfl
theorem m12_20 : M12 20 [.val (.ref r), l1, l2, l3] st H Q = M12 21 [.val (.ref r), l1, l2, l3] (.ref r :: st) H Q := w_x (show decode kb12 20 = .ok (.aload_n 0, 1) from by decide +kernel) rfl
theorem m12_21 : M12 21 ls (.ref b :: st) (put b pre s A L B post) Q = M12 24 ls (.ref (b + 7) :: st) (put b pre s A L B post) Q := w_get (show decode kb12 21 = .ok (.getfield 29, 3) from by decide +kernel) gf_29 put_o rfl
theorem m12_24 : M12 24 [l0, l1, l2, .val (.int v)] st H Q = M12 25 [l0, l1, l2, .val (.int v)] (.int v :: st) H Q := w_x (show decode kb12 24 = .ok (.iload_n 3, 1) from by decide +kernel) rfl
theorem m12_25  : M12 25 ls (.int j :: .ref (b + 7) :: st) (put b pre s A L B post) Q = (inB j (A 6) ∧ M12 26 ls (.int (getA (A 6) j) :: st) (put b pre s A L B post) Q) := w_ild (show decode kb12 25 = .ok (.iaload, 1) from by decide +kernel) rfl put_a6
theorem m12_26 : M12 26 [l0, l1, .val (.int v), l3] st H Q = M12 27 [l0, l1, .val (.int v), l3] (.int v :: st) H Q := w_x (show decode kb12 26 = .ok (.iload_n 2, 1) from by decide +kernel) rfl
theorem m12_27 : M12 27 ls (.int y :: .int x :: st) H Q = if y < x then M12 30 ls st H Q else M12 37 ls st H Q := w_icmpN (show decode kb12 27 = .ok (.if_icmp .le 10, 3) from by decide +kernel) (i_le x y) rfl
theorem m12_30 : M12 30 [.val (.ref r), l1, l2, l3] st H Q = M12 31 [.val (.ref r), l1, l2, l3] (.ref r :: st) H Q := w_x (show decode kb12 30 = .ok (.aload_n 0, 1) from by decide +kernel) rfl
theorem m12_31 : M12 31 ls (.ref b :: st) (put b pre s A L B post) Q = M12 34 ls (.ref (b + 7) :: st) (put b pre s A L B post) Q := w_get (show decode kb12 31 = .ok (.getfield 29, 3) from by decide +kernel) gf_29 put_o rfl
theorem m12_34 : M12 34 [l0, l1, l2, .val (.int v)] st H Q = M12 35 [l0, l1, l2, .val (.int v)] (.int v :: st) H Q := w_x (show decode kb12 34 = .ok (.iload_n 3, 1) from by decide +kernel) rfl
theorem m12_35  : M12 35 ls (.int j :: .ref (b + 7) :: st) (put b pre s A L B post) Q = (inB j (A 6) ∧ M12 36 ls (.int (getA (A 6) j) :: st) (put b pre s A L B post) Q) := w_ild (show decode kb12 35 = .ok (.iaload, 1) from by decide +kernel) rfl put_a6
theorem m12_36i : M12 36 [l0, l1, .val (.int z), l3] ((.int v) :: st) H Q = M12 37 [l0, l1, .val (.int v), l3] st H Q := w_st (i := 2) (p := isI) (show decode kb12 36 = .ok (.istore_n 2, 1) from by decide +kernel) rfl rfl rfl rfl rfl rfl
theorem m12_37 : M12 37 [l0, l1, l2, .val (.int v)] st H Q = M12 40 [l0, l1, l2, .val (.int (v + 1))] st H Q := w_iinc (show decode kb12 37 = .ok (.iinc 3 1, 3) from by decide +kernel) rfl (by decide) rfl
theorem m12_40 : M12 40 ls st H Q = M12 12 ls st H Q := w_x (show decode kb12 40 = .ok (.goto (-28), 3) from by decide +kernel) rfl
theorem m12_43 : M12 43 [l0, l1, .val (.int v), l3] st H Q = M12 44 [l0, l1, .val (.int v), l3] (.int v :: st) H Q := w_x (show decode kb12 43 = .ok (.iload_n 2, 1) from by decide +kernel) rfl
theorem m12_44 : M12 44 ls st H Q = M12 45 ls (.int 2 :: st) H Q := w_con (show decode kb12 44 = .ok (.iconst 2, 1) from by decide +kernel) rfl (by decide)
theorem m12_45 : M12 45 ls (.int y :: .int x :: st) H Q = if y < x then M12 49 ls st H Q else M12 48 ls st H Q := w_icmp (show decode kb12 45 = .ok (.if_icmp .gt 4, 3) from by decide +kernel) (i_gt x y) rfl
theorem m12_48 : M12 48 ls [] H Q = Q none H := w_vret (show decode kb12 48 = .ok (.return_, 1) from by decide +kernel) rfl
theorem m12_49 : M12 49 [.val (.ref r), l1, l2, l3] st H Q = M12 50 [.val (.ref r), l1, l2, l3] (.ref r :: st) H Q := w_x (show decode kb12 49 = .ok (.aload_n 0, 1) from by decide +kernel) rfl
theorem m12_50 : M12 50 [l0, l1, .val (.int v), l3] st H Q = M12 51 [l0, l1, .val (.int v), l3] (.int v :: st) H Q := w_x (show decode kb12 50 = .ok (.iload_n 2, 1) from by decide +kernel) rfl
theorem cr12_161 : vR tables_1 dn y12 161 = some (true, y13, prog_1_method_33_code, 5, (some .int), 1, 72) := pR_of (cR_of (by decide +kernel) rc_13 dn_13 dn_12 (sig := ⟨[.int], some .int⟩) (by decide +kernel) (by decide +kernel) rfl rfl) (by decide +kernel) (by decide +kernel)
theorem m12_51 (a0 : Int32) : M12 51 ls [.int a0, .ref b] (put b pre s A L B post) Q = M13 0 [.val (.ref b), .val (.int a0), .unset, .unset, .unset] [] (put b pre s A L B post) (fun v H1 => M12 54 ls (v.toList ++ []) H1 Q) := w_virt (as := [.int a0]) (rest := []) (a := b) (show decode kb12 51 = .ok (.invokevirtual 161, 3) from by decide +kernel) cr12_161 put_o rfl rfl (Nat.le_of_ble_eq_true rfl) (by show 2 ≤ 5; omega) rfl
theorem m12_54i : M12 54 [l0, l1, l2, .val (.int z)] ((.int v) :: st) H Q = M12 55 [l0, l1, l2, .val (.int v)] st H Q := w_st (i := 3) (p := isI) (show decode kb12 54 = .ok (.istore_n 3, 1) from by decide +kernel) rfl rfl rfl rfl rfl rfl
theorem m12_55 : M12 55 [.val (.ref r), l1, l2, l3] st H Q = M12 56 [.val (.ref r), l1, l2, l3] (.ref r :: st) H Q := w_x (show decode kb12 55 = .ok (.aload_n 0, 1) from by decide +kernel) rfl
theorem m12_56 : M12 56 [l0, l1, l2, .val (.int v)] st H Q = M12 57 [l0, l1, l2, .val (.int v)] (.int v :: st) H Q := w_x (show decode kb12 56 = .ok (.iload_n 3, 1) from by decide +kernel) rfl
theorem cr12_164 : vR tables_1 dn y12 164 = some (true, y14, prog_1_method_34_code, 5, none, 1, 0) := pR_of (cR_of (by decide +kernel) rc_14 dn_14 dn_12 (sig := ⟨[.int], none⟩) (by decide +kernel) (by decide +kernel) rfl rfl) (by decide +kernel) (by decide +kernel)
theorem m12_57 (a0 : Int32) : M12 57 ls [.int a0, .ref b] (put b pre s A L B post) Q = M14 0 [.val (.ref b), .val (.int a0), .unset, .unset, .unset] [] (put b pre s A L B post) (fun v H1 => M12 60 ls (v.toList ++ []) H1 Q) := w_virt (as := [.int a0]) (rest := []) (a := b) (show decode kb12 57 = .ok (.invokevirtual 164, 3) from by decide +kernel) cr12_164 put_o rfl rfl (Nat.le_of_ble_eq_true rfl) (by show 2 ≤ 5; omega) rfl
theorem m12_60 : M12 60 [l0, .val (.int v), l2, l3] st H Q = M12 63 [l0, .val (.int (v + 1)), l2, l3] st H Q := w_iinc (show decode kb12 60 = .ok (.iinc 1 1, 3) from by decide +kernel) rfl (by decide) rfl
theorem m12_63 : M12 63 ls st H Q = M12 2 ls st H Q := w_x (show decode kb12 63 = .ok (.goto (-61), 3) from by decide +kernel) rfl
theorem m12_66 : M12 66 ls [] H Q = Q none H := w_vret (show decode kb12 66 = .ok (.return_, 1) from by decide +kernel) rfl
theorem m13_0 : M13 0 ls st H Q = M13 1 ls (.int 2 :: st) H Q := w_con (show decode kb13 0 = .ok (.iconst 2, 1) from by decide +kernel) rfl (by decide)
theorem m13_1u : M13 1 [l0, l1, .unset, l3, l4] ((.int v) :: st) H Q = M13 2 [l0, l1, .val (.int v), l3, l4] st H Q := w_st (i := 2) (p := isI) (show decode kb13 1 = .ok (.istore_n 2, 1) from by decide +kernel) rfl rfl rfl rfl rfl rfl
theorem m13_2 : M13 2 ls st H Q = M13 3 ls (.int 0 :: st) H Q := w_con (show decode kb13 2 = .ok (.iconst 0, 1) from by decide +kernel) rfl (by decide)
theorem m13_3u : M13 3 [l0, l1, l2, .unset, l4] ((.int v) :: st) H Q = M13 4 [l0, l1, l2, .val (.int v), l4] st H Q := w_st (i := 3) (p := isI) (show decode kb13 3 = .ok (.istore_n 3, 1) from by decide +kernel) rfl rfl rfl rfl rfl rfl
theorem m13_4 : M13 4 [l0, l1, l2, .val (.int v), l4] st H Q = M13 5 [l0, l1, l2, .val (.int v), l4] (.int v :: st) H Q := w_x (show decode kb13 4 = .ok (.iload_n 3, 1) from by decide +kernel) rfl
theorem m13_5 : M13 5 ls st H Q = M13 7 ls (.int 16 :: st) H Q := w_con (show decode kb13 5 = .ok (.bipush 16, 2) from by decide +kernel) rfl (by decide)
theorem m13_7 : M13 7 ls (.int y :: .int x :: st) H Q = if x < y then M13 10 ls st H Q else M13 35 ls st H Q := w_icmpN (show decode kb13 7 = .ok (.if_icmp .ge 28, 3) from by decide +kernel) (i_ge x y) rfl
theorem m13_10 : M13 10 [l0, l1, .val (.int v), l3, l4] st H Q = M13 11 [l0, l1, .val (.int v), l3, l4] (.int v :: st) H Q := w_x (show decode kb13 10 = .ok (.iload_n 2, 1) from by decide +kernel) rfl
theorem m13_11 : M13 11 [l0, l1, .val (.int v), l3, l4] st H Q = M13 12 [l0, l1, .val (.int v), l3, l4] (.int v :: st) H Q := w_x (show decode kb13 11 = .ok (.iload_n 2, 1) from by decide +kernel) rfl
theorem m13_12 : M13 12 ls st H Q = M13 13 ls (.int 2 :: st) H Q := w_con (show decode kb13 12 = .ok (.iconst 2, 1) from by decide +kernel) rfl (by decide)
theorem m13_13 : M13 13 ls (.int y :: .int x :: st) H Q = (y ≠ 0 ∧ M13 14 ls (.int (x / y) :: st) H Q) := w_div (f := fun x y => x / y) (show decode kb13 13 = .ok (.idiv, 1) from by decide +kernel) (fun _ => rfl) rfl rfl
theorem m13_14 : M13 14 ls (.int y :: .int x :: st) H Q = M13 15 ls (.int (x + y) :: st) H Q := w_x (show decode kb13 14 = .ok (.iadd, 1) from by decide +kernel) rfl
theorem m13_15u : M13 15 [l0, l1, l2, l3, .unset] ((.int v) :: st) H Q = M13 17 [l0, l1, l2, l3, .val (.int v)] st H Q := w_st (i := 4) (p := isI) (show decode kb13 15 = .ok (.istore 4, 2) from by decide +kernel) rfl rfl rfl rfl rfl rfl
theorem m13_15i : M13 15 [l0, l1, l2, l3, .val (.int z)] ((.int v) :: st) H Q = M13 17 [l0, l1, l2, l3, .val (.int v)] st H Q := w_st (i := 4) (p := isI) (show decode kb13 15 = .ok (.istore 4, 2) from by decide +kernel) rfl rfl rfl rfl rfl rfl
theorem m13_15r : M13 15 [l0, l1, l2, l3, .val (.ref q)] ((.int v) :: st) H Q = M13 17 [l0, l1, l2, l3, .val (.int v)] st H Q := w_st (i := 4) (p := isI) (show decode kb13 15 = .ok (.istore 4, 2) from by decide +kernel) rfl rfl rfl rfl rfl rfl
theorem m13_15g (h : okS l4) : M13 15 [l0, l1, l2, l3, l4] ((.int v) :: st) H Q = M13 17 [l0, l1, l2, l3, .val (.int v)] st H Q := by rcases h with rfl | ⟨z, rfl⟩ <;> first | exact m13_15u | exact m13_15i
theorem m13_17 : M13 17 [l0, l1, l2, l3, .val (.int v)] st H Q = M13 19 [l0, l1, l2, l3, .val (.int v)] (.int v :: st) H Q := w_x (show decode kb13 17 = .ok (.iload 4, 2) from by decide +kernel) rfl
theorem m13_19 : M13 19 [l0, .val (.int v), l2, l3, l4] st H Q = M13 20 [l0, .val (.int v), l2, l3, l4] (.int v :: st) H Q := w_x (show decode kb13 19 = .ok (.iload_n 1, 1) from by decide +kernel) rfl
theorem m13_20 : M13 20 ls (.int y :: .int x :: st) H Q = if x < y then M13 26 ls st H Q else M13 23 ls st H Q := w_icmp (show decode kb13 20 = .ok (.if_icmp .lt 6, 3) from by decide +kernel) (i_lt x y) rfl
theorem m13_23 : M13 23 ls st H Q = M13 35 ls st H Q := w_x (show decode kb13 23 = .ok (.goto 12, 3) from by decide +kernel) rfl
theorem m13_26 : M13 26 [l0, l1, l2, l3, .val (.int v)] st H Q = M13 28 [l0, l1, l2, l3, .val (.int v)] (.int v :: st) H Q := w_x (show decode kb13 26 = .ok (.iload 4, 2) from by decide +kernel) rfl
theorem m13_28i : M13 28 [l0, l1, .val (.int z), l3, l4] ((.int v) :: st) H Q = M13 29 [l0, l1, .val (.int v), l3, l4] st H Q := w_st (i := 2) (p := isI) (show decode kb13 28 = .ok (.istore_n 2, 1) from by decide +kernel) rfl rfl rfl rfl rfl rfl
theorem m13_29 : M13 29 [l0, l1, l2, .val (.int v), l4] st H Q = M13 32 [l0, l1, l2, .val (.int (v + 1)), l4] st H Q := w_iinc (show decode kb13 29 = .ok (.iinc 3 1, 3) from by decide +kernel) rfl (by decide) rfl
theorem m13_32 : M13 32 ls st H Q = M13 4 ls st H Q := w_x (show decode kb13 32 = .ok (.goto (-28), 3) from by decide +kernel) rfl
theorem m13_35 : M13 35 [l0, l1, .val (.int v), l3, l4] st H Q = M13 36 [l0, l1, .val (.int v), l3, l4] (.int v :: st) H Q := w_x (show decode kb13 35 = .ok (.iload_n 2, 1) from by decide +kernel) rfl
theorem m13_36 : M13 36 ls (.int z :: st) H Q = Q (some (.int z)) H := w_iret (show decode kb13 36 = .ok (.ireturn, 1) from by decide +kernel) rfl
theorem m14_0 : M14 0 ls st H Q = M14 1 ls (.int 0 :: st) H Q := w_con (show decode kb14 0 = .ok (.iconst 0, 1) from by decide +kernel) rfl (by decide)
theorem m14_1u : M14 1 [l0, l1, .unset, l3, l4] ((.int v) :: st) H Q = M14 2 [l0, l1, .val (.int v), l3, l4] st H Q := w_st (i := 2) (p := isI) (show decode kb14 1 = .ok (.istore_n 2, 1) from by decide +kernel) rfl rfl rfl rfl rfl rfl
theorem m14_2 : M14 2 [l0, l1, .val (.int v), l3, l4] st H Q = M14 3 [l0, l1, .val (.int v), l3, l4] (.int v :: st) H Q := w_x (show decode kb14 2 = .ok (.iload_n 2, 1) from by decide +kernel) rfl
theorem m14_3 : M14 3 ls st H Q = M14 5 ls (.int 16 :: st) H Q := w_con (show decode kb14 3 = .ok (.bipush 16, 2) from by decide +kernel) rfl (by decide)
theorem m14_5 : M14 5 ls (.int y :: .int x :: st) H Q = if x < y then M14 8 ls st H Q else M14 21 ls st H Q := w_icmpN (show decode kb14 5 = .ok (.if_icmp .ge 16, 3) from by decide +kernel) (i_ge x y) rfl
theorem m14_8 : M14 8 [.val (.ref r), l1, l2, l3, l4] st H Q = M14 9 [.val (.ref r), l1, l2, l3, l4] (.ref r :: st) H Q := w_x (show decode kb14 8 = .ok (.aload_n 0, 1) from by decide +kernel) rfl
theorem m14_9 : M14 9 ls (.ref b :: st) (put b pre s A L B post) Q = M14 12 ls (.ref (b + 8) :: st) (put b pre s A L B post) Q := w_get (show decode kb14 9 = .ok (.getfield 32, 3) from by decide +kernel) gf_32 put_o rfl
theorem m14_12 : M14 12 [l0, l1, .val (.int v), l3, l4] st H Q = M14 13 [l0, l1, .val (.int v), l3, l4] (.int v :: st) H Q := w_x (show decode kb14 12 = .ok (.iload_n 2, 1) from by decide +kernel) rfl
theorem m14_13 : M14 13 ls st H Q = M14 14 ls (.int 0 :: st) H Q := w_con (show decode kb14 13 = .ok (.iconst 0, 1) from by decide +kernel) rfl (by decide)
theorem m14_14  : M14 14 ls (.int v :: .int j :: .ref (b + 8) :: st) (put b pre s A L B post) Q = (inB j (A 7) ∧ M14 15 ls st (put b pre s (ou A 7 (setA (A 7) j v)) L B post) Q) := w_ist (show decode kb14 14 = .ok (.iastore, 1) from by decide +kernel) rfl put_a7 (Nat.zero_le _) rfl put_w7
theorem m14_15 : M14 15 [l0, l1, .val (.int v), l3, l4] st H Q = M14 18 [l0, l1, .val (.int (v + 1)), l3, l4] st H Q := w_iinc (show decode kb14 15 = .ok (.iinc 2 1, 3) from by decide +kernel) rfl (by decide) rfl
theorem m14_18 : M14 18 ls st H Q = M14 2 ls st H Q := w_x (show decode kb14 18 = .ok (.goto (-16), 3) from by decide +kernel) rfl
theorem m14_21 : M14 21 ls st H Q = M14 22 ls (.int 0 :: st) H Q := w_con (show decode kb14 21 = .ok (.iconst 0, 1) from by decide +kernel) rfl (by decide)
theorem m14_22i : M14 22 [l0, l1, .val (.int z), l3, l4] ((.int v) :: st) H Q = M14 23 [l0, l1, .val (.int v), l3, l4] st H Q := w_st (i := 2) (p := isI) (show decode kb14 22 = .ok (.istore_n 2, 1) from by decide +kernel) rfl rfl rfl rfl rfl rfl
theorem m14_23 : M14 23 [l0, l1, .val (.int v), l3, l4] st H Q = M14 24 [l0, l1, .val (.int v), l3, l4] (.int v :: st) H Q := w_x (show decode kb14 23 = .ok (.iload_n 2, 1) from by decide +kernel) rfl
theorem m14_24 : M14 24 [.val (.ref r), l1, l2, l3, l4] st H Q = M14 25 [.val (.ref r), l1, l2, l3, l4] (.ref r :: st) H Q := w_x (show decode kb14 24 = .ok (.aload_n 0, 1) from by decide +kernel) rfl
theorem m14_25 : M14 25 ls (.ref b :: st) (put b pre s A L B post) Q = M14 28 ls (.int (s 14) :: st) (put b pre s A L B post) Q := w_get (show decode kb14 25 = .ok (.getfield 126, 3) from by decide +kernel) gf_126 put_o rfl
theorem m14_28 : M14 28 ls (.int y :: .int x :: st) H Q = if x < y then M14 31 ls st H Q else M14 43 ls st H Q := w_icmpN (show decode kb14 28 = .ok (.if_icmp .ge 15, 3) from by decide +kernel) (i_ge x y) rfl
theorem m14_31 : M14 31 [.val (.ref r), l1, l2, l3, l4] st H Q = M14 32 [.val (.ref r), l1, l2, l3, l4] (.ref r :: st) H Q := w_x (show decode kb14 31 = .ok (.aload_n 0, 1) from by decide +kernel) rfl
theorem m14_32 : M14 32 [l0, l1, .val (.int v), l3, l4] st H Q = M14 33 [l0, l1, .val (.int v), l3, l4] (.int v :: st) H Q := w_x (show decode kb14 32 = .ok (.iload_n 2, 1) from by decide +kernel) rfl
theorem m14_33 : M14 33 [l0, .val (.int v), l2, l3, l4] st H Q = M14 34 [l0, .val (.int v), l2, l3, l4] (.int v :: st) H Q := w_x (show decode kb14 33 = .ok (.iload_n 1, 1) from by decide +kernel) rfl
theorem cr14_167 : vR tables_1 dn y14 167 = some (true, y15, prog_1_method_35_code, 8, none, 2, 0) := pR_of (cR_of (by decide +kernel) rc_15 dn_15 dn_14 (sig := ⟨[.int, .int], none⟩) (by decide +kernel) (by decide +kernel) rfl rfl) (by decide +kernel) (by decide +kernel)
theorem m14_34 (a0 : Int32) (a1 : Int32) : M14 34 ls [.int a1, .int a0, .ref b] (put b pre s A L B post) Q = M15 0 [.val (.ref b), .val (.int a0), .val (.int a1), .unset, .unset, .unset, .unset, .unset] [] (put b pre s A L B post) (fun v H1 => M14 37 ls (v.toList ++ []) H1 Q) := w_virt (as := [.int a1, .int a0]) (rest := []) (a := b) (show decode kb14 34 = .ok (.invokevirtual 167, 3) from by decide +kernel) cr14_167 put_o rfl rfl (Nat.le_of_ble_eq_true rfl) (by show 3 ≤ 8; omega) rfl
theorem m14_37 : M14 37 [l0, l1, .val (.int v), l3, l4] st H Q = M14 40 [l0, l1, .val (.int (v + 1)), l3, l4] st H Q := w_iinc (show decode kb14 37 = .ok (.iinc 2 1, 3) from by decide +kernel) rfl (by decide) rfl
theorem m14_40 : M14 40 ls st H Q = M14 23 ls st H Q := w_x (show decode kb14 40 = .ok (.goto (-17), 3) from by decide +kernel) rfl
theorem m14_43 : M14 43 ls st H Q = M14 44 ls (.int 0 :: st) H Q := w_con (show decode kb14 43 = .ok (.iconst 0, 1) from by decide +kernel) rfl (by decide)
theorem m14_44i : M14 44 [l0, l1, .val (.int z), l3, l4] ((.int v) :: st) H Q = M14 45 [l0, l1, .val (.int v), l3, l4] st H Q := w_st (i := 2) (p := isI) (show decode kb14 44 = .ok (.istore_n 2, 1) from by decide +kernel) rfl rfl rfl rfl rfl rfl
theorem m14_45 : M14 45 [l0, l1, .val (.int v), l3, l4] st H Q = M14 46 [l0, l1, .val (.int v), l3, l4] (.int v :: st) H Q := w_x (show decode kb14 45 = .ok (.iload_n 2, 1) from by decide +kernel) rfl
theorem m14_46 : M14 46 ls st H Q = M14 48 ls (.int 16 :: st) H Q := w_con (show decode kb14 46 = .ok (.bipush 16, 2) from by decide +kernel) rfl (by decide)
theorem m14_48 : M14 48 ls (.int y :: .int x :: st) H Q = if x < y then M14 51 ls st H Q else M14 117 ls st H Q := w_icmpN (show decode kb14 48 = .ok (.if_icmp .ge 69, 3) from by decide +kernel) (i_ge x y) rfl
theorem m14_51 : M14 51 [.val (.ref r), l1, l2, l3, l4] st H Q = M14 52 [.val (.ref r), l1, l2, l3, l4] (.ref r :: st) H Q := w_x (show decode kb14 51 = .ok (.aload_n 0, 1) from by decide +kernel) rfl
theorem m14_52 : M14 52 ls (.ref b :: st) (put b pre s A L B post) Q = M14 55 ls (.ref (b + 8) :: st) (put b pre s A L B post) Q := w_get (show decode kb14 52 = .ok (.getfield 32, 3) from by decide +kernel) gf_32 put_o rfl
theorem m14_55 : M14 55 [l0, l1, .val (.int v), l3, l4] st H Q = M14 56 [l0, l1, .val (.int v), l3, l4] (.int v :: st) H Q := w_x (show decode kb14 55 = .ok (.iload_n 2, 1) from by decide +kernel) rfl
theorem m14_56  : M14 56 ls (.int j :: .ref (b + 8) :: st) (put b pre s A L B post) Q = (inB j (A 7) ∧ M14 57 ls (.int (getA (A 7) j) :: st) (put b pre s A L B post) Q) := w_ild (show decode kb14 56 = .ok (.iaload, 1) from by decide +kernel) rfl put_a7
theorem m14_57u : M14 57 [l0, l1, l2, .unset, l4] ((.int v) :: st) H Q = M14 58 [l0, l1, l2, .val (.int v), l4] st H Q := w_st (i := 3) (p := isI) (show decode kb14 57 = .ok (.istore_n 3, 1) from by decide +kernel) rfl rfl rfl rfl rfl rfl
theorem m14_57i : M14 57 [l0, l1, l2, .val (.int z), l4] ((.int v) :: st) H Q = M14 58 [l0, l1, l2, .val (.int v), l4] st H Q := w_st (i := 3) (p := isI) (show decode kb14 57 = .ok (.istore_n 3, 1) from by decide +kernel) rfl rfl rfl rfl rfl rfl
theorem m14_57r : M14 57 [l0, l1, l2, .val (.ref q), l4] ((.int v) :: st) H Q = M14 58 [l0, l1, l2, .val (.int v), l4] st H Q := w_st (i := 3) (p := isI) (show decode kb14 57 = .ok (.istore_n 3, 1) from by decide +kernel) rfl rfl rfl rfl rfl rfl
theorem m14_57g (h : okS l3) : M14 57 [l0, l1, l2, l3, l4] ((.int v) :: st) H Q = M14 58 [l0, l1, l2, .val (.int v), l4] st H Q := by rcases h with rfl | ⟨z, rfl⟩ <;> first | exact m14_57u | exact m14_57i
theorem m14_58 : M14 58 [.val (.ref r), l1, l2, l3, l4] st H Q = M14 59 [.val (.ref r), l1, l2, l3, l4] (.ref r :: st) H Q := w_x (show decode kb14 58 = .ok (.aload_n 0, 1) from by decide +kernel) rfl
theorem m14_59 : M14 59 ls (.ref b :: st) (put b pre s A L B post) Q = M14 62 ls (.ref (b + 7) :: st) (put b pre s A L B post) Q := w_get (show decode kb14 59 = .ok (.getfield 29, 3) from by decide +kernel) gf_29 put_o rfl
theorem m14_62 : M14 62 [l0, l1, .val (.int v), l3, l4] st H Q = M14 63 [l0, l1, .val (.int v), l3, l4] (.int v :: st) H Q := w_x (show decode kb14 62 = .ok (.iload_n 2, 1) from by decide +kernel) rfl
theorem m14_63 : M14 63 [l0, l1, l2, .val (.int v), l4] st H Q = M14 64 [l0, l1, l2, .val (.int v), l4] (.int v :: st) H Q := w_x (show decode kb14 63 = .ok (.iload_n 3, 1) from by decide +kernel) rfl
theorem m14_64  : M14 64 ls (.int v :: .int j :: .ref (b + 7) :: st) (put b pre s A L B post) Q = (inB j (A 6) ∧ M14 65 ls st (put b pre s (ou A 6 (setA (A 6) j v)) L B post) Q) := w_ist (show decode kb14 64 = .ok (.iastore, 1) from by decide +kernel) rfl put_a6 (Nat.zero_le _) rfl put_w6
theorem m14_65 : M14 65 ls st H Q = M14 66 ls (.int 0 :: st) H Q := w_con (show decode kb14 65 = .ok (.iconst 0, 1) from by decide +kernel) rfl (by decide)
theorem m14_66u : M14 66 [l0, l1, l2, l3, .unset] ((.int v) :: st) H Q = M14 68 [l0, l1, l2, l3, .val (.int v)] st H Q := w_st (i := 4) (p := isI) (show decode kb14 66 = .ok (.istore 4, 2) from by decide +kernel) rfl rfl rfl rfl rfl rfl
theorem m14_66i : M14 66 [l0, l1, l2, l3, .val (.int z)] ((.int v) :: st) H Q = M14 68 [l0, l1, l2, l3, .val (.int v)] st H Q := w_st (i := 4) (p := isI) (show decode kb14 66 = .ok (.istore 4, 2) from by decide +kernel) rfl rfl rfl rfl rfl rfl
theorem m14_66r : M14 66 [l0, l1, l2, l3, .val (.ref q)] ((.int v) :: st) H Q = M14 68 [l0, l1, l2, l3, .val (.int v)] st H Q := w_st (i := 4) (p := isI) (show decode kb14 66 = .ok (.istore 4, 2) from by decide +kernel) rfl rfl rfl rfl rfl rfl
theorem m14_66g (h : okS l4) : M14 66 [l0, l1, l2, l3, l4] ((.int v) :: st) H Q = M14 68 [l0, l1, l2, l3, .val (.int v)] st H Q := by rcases h with rfl | ⟨z, rfl⟩ <;> first | exact m14_66u | exact m14_66i
theorem m14_68 : M14 68 [l0, l1, l2, l3, .val (.int v)] st H Q = M14 70 [l0, l1, l2, l3, .val (.int v)] (.int v :: st) H Q := w_x (show decode kb14 68 = .ok (.iload 4, 2) from by decide +kernel) rfl
theorem m14_70 : M14 70 [l0, l1, l2, .val (.int v), l4] st H Q = M14 71 [l0, l1, l2, .val (.int v), l4] (.int v :: st) H Q := w_x (show decode kb14 70 = .ok (.iload_n 3, 1) from by decide +kernel) rfl
theorem m14_71 : M14 71 ls (.int y :: .int x :: st) H Q = if x < y then M14 74 ls st H Q else M14 111 ls st H Q := w_icmpN (show decode kb14 71 = .ok (.if_icmp .ge 40, 3) from by decide +kernel) (i_ge x y) rfl
theorem m14_74 : M14 74 [l0, l1, l2, l3, .val (.int v)] st H Q = M14 76 [l0, l1, l2, l3, .val (.int v)] (.int v :: st) H Q := w_x (show decode kb14 74 = .ok (.iload 4, 2) from by decide +kernel) rfl
theorem m14_76 : M14 76 ls st H Q = M14 78 ls (.int 32 :: st) H Q := w_con (show decode kb14 76 = .ok (.bipush 32, 2) from by decide +kernel) rfl (by decide)
theorem m14_78 : M14 78 ls (.int y :: .int x :: st) H Q = if x < y then M14 81 ls st H Q else M14 111 ls st H Q := w_icmpN (show decode kb14 78 = .ok (.if_icmp .ge 33, 3) from by decide +kernel) (i_ge x y) rfl
theorem m14_81 : M14 81 [.val (.ref r), l1, l2, l3, l4] st H Q = M14 82 [.val (.ref r), l1, l2, l3, l4] (.ref r :: st) H Q := w_x (show decode kb14 81 = .ok (.aload_n 0, 1) from by decide +kernel) rfl
theorem m14_82 : M14 82 ls (.ref b :: st) (put b pre s A L B post) Q = M14 85 ls (.ref (b + 5) :: st) (put b pre s A L B post) Q := w_get (show decode kb14 82 = .ok (.getfield 23, 3) from by decide +kernel) gf_23 put_o rfl
theorem m14_85 : M14 85 [l0, l1, .val (.int v), l3, l4] st H Q = M14 86 [l0, l1, .val (.int v), l3, l4] (.int v :: st) H Q := w_x (show decode kb14 85 = .ok (.iload_n 2, 1) from by decide +kernel) rfl
theorem m14_86 : M14 86 ls st H Q = M14 88 ls (.int 32 :: st) H Q := w_con (show decode kb14 86 = .ok (.bipush 32, 2) from by decide +kernel) rfl (by decide)
theorem m14_88 : M14 88 ls (.int y :: .int x :: st) H Q = M14 89 ls (.int (x * y) :: st) H Q := w_x (show decode kb14 88 = .ok (.imul, 1) from by decide +kernel) rfl
theorem m14_89 : M14 89 [l0, l1, l2, l3, .val (.int v)] st H Q = M14 91 [l0, l1, l2, l3, .val (.int v)] (.int v :: st) H Q := w_x (show decode kb14 89 = .ok (.iload 4, 2) from by decide +kernel) rfl
theorem m14_91 : M14 91 ls (.int y :: .int x :: st) H Q = M14 92 ls (.int (x + y) :: st) H Q := w_x (show decode kb14 91 = .ok (.iadd, 1) from by decide +kernel) rfl
theorem m14_92 : M14 92 [.val (.ref r), l1, l2, l3, l4] st H Q = M14 93 [.val (.ref r), l1, l2, l3, l4] (.ref r :: st) H Q := w_x (show decode kb14 92 = .ok (.aload_n 0, 1) from by decide +kernel) rfl
theorem m14_93 : M14 93 ls (.ref b :: st) (put b pre s A L B post) Q = M14 96 ls (.ref (b + 6) :: st) (put b pre s A L B post) Q := w_get (show decode kb14 93 = .ok (.getfield 26, 3) from by decide +kernel) gf_26 put_o rfl
theorem m14_96 : M14 96 [l0, l1, .val (.int v), l3, l4] st H Q = M14 97 [l0, l1, .val (.int v), l3, l4] (.int v :: st) H Q := w_x (show decode kb14 96 = .ok (.iload_n 2, 1) from by decide +kernel) rfl
theorem m14_97 : M14 97 ls st H Q = M14 99 ls (.int 32 :: st) H Q := w_con (show decode kb14 97 = .ok (.bipush 32, 2) from by decide +kernel) rfl (by decide)
theorem m14_99 : M14 99 ls (.int y :: .int x :: st) H Q = M14 100 ls (.int (x * y) :: st) H Q := w_x (show decode kb14 99 = .ok (.imul, 1) from by decide +kernel) rfl
theorem m14_100 : M14 100 [l0, l1, l2, l3, .val (.int v)] st H Q = M14 102 [l0, l1, l2, l3, .val (.int v)] (.int v :: st) H Q := w_x (show decode kb14 100 = .ok (.iload 4, 2) from by decide +kernel) rfl
theorem m14_102 : M14 102 ls (.int y :: .int x :: st) H Q = M14 103 ls (.int (x + y) :: st) H Q := w_x (show decode kb14 102 = .ok (.iadd, 1) from by decide +kernel) rfl
theorem m14_103  : M14 103 ls (.int j :: .ref (b + 6) :: st) (put b pre s A L B post) Q = (inB j (A 5) ∧ M14 104 ls (.int (getA (A 5) j) :: st) (put b pre s A L B post) Q) := w_ild (show decode kb14 103 = .ok (.iaload, 1) from by decide +kernel) rfl put_a5
theorem m14_104  : M14 104 ls (.int v :: .int j :: .ref (b + 5) :: st) (put b pre s A L B post) Q = (inB j (A 4) ∧ M14 105 ls st (put b pre s (ou A 4 (setA (A 4) j v)) L B post) Q) := w_ist (show decode kb14 104 = .ok (.iastore, 1) from by decide +kernel) rfl put_a4 (Nat.zero_le _) rfl put_w4
theorem m14_105 : M14 105 [l0, l1, l2, l3, .val (.int v)] st H Q = M14 108 [l0, l1, l2, l3, .val (.int (v + 1))] st H Q := w_iinc (show decode kb14 105 = .ok (.iinc 4 1, 3) from by decide +kernel) rfl (by decide) rfl
theorem m14_108 : M14 108 ls st H Q = M14 68 ls st H Q := w_x (show decode kb14 108 = .ok (.goto (-40), 3) from by decide +kernel) rfl
theorem m14_111 : M14 111 [l0, l1, .val (.int v), l3, l4] st H Q = M14 114 [l0, l1, .val (.int (v + 1)), l3, l4] st H Q := w_iinc (show decode kb14 111 = .ok (.iinc 2 1, 3) from by decide +kernel) rfl (by decide) rfl
theorem m14_114 : M14 114 ls st H Q = M14 45 ls st H Q := w_x (show decode kb14 114 = .ok (.goto (-69), 3) from by decide +kernel) rfl
theorem m14_117 : M14 117 ls [] H Q = Q none H := w_vret (show decode kb14 117 = .ok (.return_, 1) from by decide +kernel) rfl
theorem m15_0 : M15 0 [.val (.ref r), l1, l2, l3, l4, l5, l6, l7] st H Q = M15 1 [.val (.ref r), l1, l2, l3, l4, l5, l6, l7] (.ref r :: st) H Q := w_x (show decode kb15 0 = .ok (.aload_n 0, 1) from by decide +kernel) rfl
theorem m15_1 : M15 1 ls (.ref b :: st) (put b pre s A L B post) Q = M15 4 ls (.ref (b + 7) :: st) (put b pre s A L B post) Q := w_get (show decode kb15 1 = .ok (.getfield 29, 3) from by decide +kernel) gf_29 put_o rfl
theorem m15_4 : M15 4 [l0, .val (.int v), l2, l3, l4, l5, l6, l7] st H Q = M15 5 [l0, .val (.int v), l2, l3, l4, l5, l6, l7] (.int v :: st) H Q := w_x (show decode kb15 4 = .ok (.iload_n 1, 1) from by decide +kernel) rfl
theorem m15_5  : M15 5 ls (.int j :: .ref (b + 7) :: st) (put b pre s A L B post) Q = (inB j (A 6) ∧ M15 6 ls (.int (getA (A 6) j) :: st) (put b pre s A L B post) Q) := w_ild (show decode kb15 5 = .ok (.iaload, 1) from by decide +kernel) rfl put_a6
theorem m15_6u : M15 6 [l0, l1, l2, .unset, l4, l5, l6, l7] ((.int v) :: st) H Q = M15 7 [l0, l1, l2, .val (.int v), l4, l5, l6, l7] st H Q := w_st (i := 3) (p := isI) (show decode kb15 6 = .ok (.istore_n 3, 1) from by decide +kernel) rfl rfl rfl rfl rfl rfl
theorem m15_7 : M15 7 [l0, l1, l2, .val (.int v), l4, l5, l6, l7] st H Q = M15 8 [l0, l1, l2, .val (.int v), l4, l5, l6, l7] (.int v :: st) H Q := w_x (show decode kb15 7 = .ok (.iload_n 3, 1) from by decide +kernel) rfl
theorem m15_8 : M15 8 ls st H Q = M15 10 ls (.int 32 :: st) H Q := w_con (show decode kb15 8 = .ok (.bipush 32, 2) from by decide +kernel) rfl (by decide)
theorem m15_10 : M15 10 ls (.int y :: .int x :: st) H Q = if y < x then M15 13 ls st H Q else M15 16 ls st H Q := w_icmpN (show decode kb15 10 = .ok (.if_icmp .le 6, 3) from by decide +kernel) (i_le x y) rfl
theorem m15_13 : M15 13 ls st H Q = M15 15 ls (.int 32 :: st) H Q := w_con (show decode kb15 13 = .ok (.bipush 32, 2) from by decide +kernel) rfl (by decide)
theorem m15_15i : M15 15 [l0, l1, l2, .val (.int z), l4, l5, l6, l7] ((.int v) :: st) H Q = M15 16 [l0, l1, l2, .val (.int v), l4, l5, l6, l7] st H Q := w_st (i := 3) (p := isI) (show decode kb15 15 = .ok (.istore_n 3, 1) from by decide +kernel) rfl rfl rfl rfl rfl rfl
theorem m15_16 : M15 16 ls st H Q = M15 17 ls (.int 0 :: st) H Q := w_con (show decode kb15 16 = .ok (.iconst 0, 1) from by decide +kernel) rfl (by decide)
theorem m15_17u : M15 17 [l0, l1, l2, l3, .unset, l5, l6, l7] ((.int v) :: st) H Q = M15 19 [l0, l1, l2, l3, .val (.int v), l5, l6, l7] st H Q := w_st (i := 4) (p := isI) (show decode kb15 17 = .ok (.istore 4, 2) from by decide +kernel) rfl rfl rfl rfl rfl rfl
theorem m15_19 : M15 19 ls st H Q = M15 20 ls (.int 0 :: st) H Q := w_con (show decode kb15 19 = .ok (.iconst 0, 1) from by decide +kernel) rfl (by decide)
theorem m15_20u : M15 20 [l0, l1, l2, l3, l4, .unset, l6, l7] ((.int v) :: st) H Q = M15 22 [l0, l1, l2, l3, l4, .val (.int v), l6, l7] st H Q := w_st (i := 5) (p := isI) (show decode kb15 20 = .ok (.istore 5, 2) from by decide +kernel) rfl rfl rfl rfl rfl rfl
theorem m15_22 : M15 22 [l0, l1, l2, l3, l4, .val (.int v), l6, l7] st H Q = M15 24 [l0, l1, l2, l3, l4, .val (.int v), l6, l7] (.int v :: st) H Q := w_x (show decode kb15 22 = .ok (.iload 5, 2) from by decide +kernel) rfl
theorem m15_24 : M15 24 ls st H Q = M15 26 ls (.int 32 :: st) H Q := w_con (show decode kb15 24 = .ok (.bipush 32, 2) from by decide +kernel) rfl (by decide)
theorem m15_26 : M15 26 ls (.int y :: .int x :: st) H Q = if x < y then M15 29 ls st H Q else M15 104 ls st H Q := w_icmpN (show decode kb15 26 = .ok (.if_icmp .ge 78, 3) from by decide +kernel) (i_ge x y) rfl
theorem m15_29 : M15 29 [l0, l1, l2, .val (.int v), l4, l5, l6, l7] st H Q = M15 30 [l0, l1, l2, .val (.int v), l4, l5, l6, l7] (.int v :: st) H Q := w_x (show decode kb15 29 = .ok (.iload_n 3, 1) from by decide +kernel) rfl
theorem m15_30 : M15 30 [l0, l1, l2, l3, .val (.int v), l5, l6, l7] st H Q = M15 32 [l0, l1, l2, l3, .val (.int v), l5, l6, l7] (.int v :: st) H Q := w_x (show decode kb15 30 = .ok (.iload 4, 2) from by decide +kernel) rfl
theorem m15_32 : M15 32 ls (.int y :: .int x :: st) H Q = M15 33 ls (.int (x - y) :: st) H Q := w_x (show decode kb15 32 = .ok (.isub, 1) from by decide +kernel) rfl
theorem m15_33u : M15 33 [l0, l1, l2, l3, l4, l5, .unset, l7] ((.int v) :: st) H Q = M15 35 [l0, l1, l2, l3, l4, l5, .val (.int v), l7] st H Q := w_st (i := 6) (p := isI) (show decode kb15 33 = .ok (.istore 6, 2) from by decide +kernel) rfl rfl rfl rfl rfl rfl
theorem m15_33i : M15 33 [l0, l1, l2, l3, l4, l5, .val (.int z), l7] ((.int v) :: st) H Q = M15 35 [l0, l1, l2, l3, l4, l5, .val (.int v), l7] st H Q := w_st (i := 6) (p := isI) (show decode kb15 33 = .ok (.istore 6, 2) from by decide +kernel) rfl rfl rfl rfl rfl rfl
theorem m15_33r : M15 33 [l0, l1, l2, l3, l4, l5, .val (.ref q), l7] ((.int v) :: st) H Q = M15 35 [l0, l1, l2, l3, l4, l5, .val (.int v), l7] st H Q := w_st (i := 6) (p := isI) (show decode kb15 33 = .ok (.istore 6, 2) from by decide +kernel) rfl rfl rfl rfl rfl rfl
theorem m15_33g (h : okS l6) : M15 33 [l0, l1, l2, l3, l4, l5, l6, l7] ((.int v) :: st) H Q = M15 35 [l0, l1, l2, l3, l4, l5, .val (.int v), l7] st H Q := by rcases h with rfl | ⟨z, rfl⟩ <;> first | exact m15_33u | exact m15_33i
theorem m15_35 : M15 35 [.val (.ref r), l1, l2, l3, l4, l5, l6, l7] st H Q = M15 36 [.val (.ref r), l1, l2, l3, l4, l5, l6, l7] (.ref r :: st) H Q := w_x (show decode kb15 35 = .ok (.aload_n 0, 1) from by decide +kernel) rfl
theorem m15_36 : M15 36 ls (.ref b :: st) (put b pre s A L B post) Q = M15 39 ls (.ref (b + 8) :: st) (put b pre s A L B post) Q := w_get (show decode kb15 36 = .ok (.getfield 32, 3) from by decide +kernel) gf_32 put_o rfl
theorem m15_39 : M15 39 [l0, .val (.int v), l2, l3, l4, l5, l6, l7] st H Q = M15 40 [l0, .val (.int v), l2, l3, l4, l5, l6, l7] (.int v :: st) H Q := w_x (show decode kb15 39 = .ok (.iload_n 1, 1) from by decide +kernel) rfl
theorem m15_40  : M15 40 ls (.int j :: .ref (b + 8) :: st) (put b pre s A L B post) Q = (inB j (A 7) ∧ M15 41 ls (.int (getA (A 7) j) :: st) (put b pre s A L B post) Q) := w_ild (show decode kb15 40 = .ok (.iaload, 1) from by decide +kernel) rfl put_a7
theorem m15_41 : M15 41 [l0, l1, l2, l3, l4, l5, .val (.int v), l7] st H Q = M15 43 [l0, l1, l2, l3, l4, l5, .val (.int v), l7] (.int v :: st) H Q := w_x (show decode kb15 41 = .ok (.iload 6, 2) from by decide +kernel) rfl
theorem m15_43 : M15 43 ls (.int y :: .int x :: st) H Q = M15 44 ls (.int (x + y) :: st) H Q := w_x (show decode kb15 43 = .ok (.iadd, 1) from by decide +kernel) rfl
theorem m15_44u : M15 44 [l0, l1, l2, l3, l4, l5, l6, .unset] ((.int v) :: st) H Q = M15 46 [l0, l1, l2, l3, l4, l5, l6, .val (.int v)] st H Q := w_st (i := 7) (p := isI) (show decode kb15 44 = .ok (.istore 7, 2) from by decide +kernel) rfl rfl rfl rfl rfl rfl
theorem m15_44i : M15 44 [l0, l1, l2, l3, l4, l5, l6, .val (.int z)] ((.int v) :: st) H Q = M15 46 [l0, l1, l2, l3, l4, l5, l6, .val (.int v)] st H Q := w_st (i := 7) (p := isI) (show decode kb15 44 = .ok (.istore 7, 2) from by decide +kernel) rfl rfl rfl rfl rfl rfl
theorem m15_44r : M15 44 [l0, l1, l2, l3, l4, l5, l6, .val (.ref q)] ((.int v) :: st) H Q = M15 46 [l0, l1, l2, l3, l4, l5, l6, .val (.int v)] st H Q := w_st (i := 7) (p := isI) (show decode kb15 44 = .ok (.istore 7, 2) from by decide +kernel) rfl rfl rfl rfl rfl rfl
theorem m15_44g (h : okS l7) : M15 44 [l0, l1, l2, l3, l4, l5, l6, l7] ((.int v) :: st) H Q = M15 46 [l0, l1, l2, l3, l4, l5, l6, .val (.int v)] st H Q := by rcases h with rfl | ⟨z, rfl⟩ <;> first | exact m15_44u | exact m15_44i
theorem m15_46 : M15 46 [l0, l1, l2, l3, l4, l5, l6, .val (.int v)] st H Q = M15 48 [l0, l1, l2, l3, l4, l5, l6, .val (.int v)] (.int v :: st) H Q := w_x (show decode kb15 46 = .ok (.iload 7, 2) from by decide +kernel) rfl
theorem m15_48 : M15 48 [l0, l1, .val (.int v), l3, l4, l5, l6, l7] st H Q = M15 49 [l0, l1, .val (.int v), l3, l4, l5, l6, l7] (.int v :: st) H Q := w_x (show decode kb15 48 = .ok (.iload_n 2, 1) from by decide +kernel) rfl
theorem m15_49 : M15 49 ls (.int y :: .int x :: st) H Q = if y < x then M15 55 ls st H Q else M15 52 ls st H Q := w_icmp (show decode kb15 49 = .ok (.if_icmp .gt 6, 3) from by decide +kernel) (i_gt x y) rfl
theorem m15_52 : M15 52 ls st H Q = M15 104 ls st H Q := w_x (show decode kb15 52 = .ok (.goto 52, 3) from by decide +kernel) rfl
theorem m15_55 : M15 55 [l0, l1, l2, l3, l4, l5, .val (.int v), l7] st H Q = M15 57 [l0, l1, l2, l3, l4, l5, .val (.int v), l7] (.int v :: st) H Q := w_x (show decode kb15 55 = .ok (.iload 6, 2) from by decide +kernel) rfl
theorem m15_57 : M15 57 ls st H Q = M15 58 ls (.int 3 :: st) H Q := w_con (show decode kb15 57 = .ok (.iconst 3, 1) from by decide +kernel) rfl (by decide)
theorem m15_58 : M15 58 ls (.int y :: .int x :: st) H Q = if x < y then M15 82 ls st H Q else M15 61 ls st H Q := w_icmp (show decode kb15 58 = .ok (.if_icmp .lt 24, 3) from by decide +kernel) (i_lt x y) rfl
theorem m15_61 : M15 61 [l0, l1, l2, l3, l4, l5, l6, .val (.int v)] st H Q = M15 63 [l0, l1, l2, l3, l4, l5, l6, .val (.int v)] (.int v :: st) H Q := w_x (show decode kb15 61 = .ok (.iload 7, 2) from by decide +kernel) rfl
theorem m15_63 : M15 63 [l0, l1, .val (.int v), l3, l4, l5, l6, l7] st H Q = M15 64 [l0, l1, .val (.int v), l3, l4, l5, l6, l7] (.int v :: st) H Q := w_x (show decode kb15 63 = .ok (.iload_n 2, 1) from by decide +kernel) rfl
theorem m15_64 : M15 64 ls st H Q = M15 65 ls (.int 2 :: st) H Q := w_con (show decode kb15 64 = .ok (.iconst 2, 1) from by decide +kernel) rfl (by decide)
theorem m15_65 : M15 65 ls (.int y :: .int x :: st) H Q = M15 66 ls (.int (x + y) :: st) H Q := w_x (show decode kb15 65 = .ok (.iadd, 1) from by decide +kernel) rfl
theorem m15_66 : M15 66 ls (.int y :: .int x :: st) H Q = if x < y then M15 82 ls st H Q else M15 69 ls st H Q := w_icmp (show decode kb15 66 = .ok (.if_icmp .lt 16, 3) from by decide +kernel) (i_lt x y) rfl
theorem m15_69 : M15 69 [.val (.ref r), l1, l2, l3, l4, l5, l6, l7] st H Q = M15 70 [.val (.ref r), l1, l2, l3, l4, l5, l6, l7] (.ref r :: st) H Q := w_x (show decode kb15 69 = .ok (.aload_n 0, 1) from by decide +kernel) rfl
theorem m15_70 : M15 70 [l0, .val (.int v), l2, l3, l4, l5, l6, l7] st H Q = M15 71 [l0, .val (.int v), l2, l3, l4, l5, l6, l7] (.int v :: st) H Q := w_x (show decode kb15 70 = .ok (.iload_n 1, 1) from by decide +kernel) rfl
theorem m15_71 : M15 71 [l0, l1, l2, l3, .val (.int v), l5, l6, l7] st H Q = M15 73 [l0, l1, l2, l3, .val (.int v), l5, l6, l7] (.int v :: st) H Q := w_x (show decode kb15 71 = .ok (.iload 4, 2) from by decide +kernel) rfl
theorem cr15_170 : vR tables_1 dn y15 170 = some (true, y19, prog_1_method_36_code, 12, none, 2, 0) := pR_of (cR_of (by decide +kernel) rc_19 dn_19 dn_15 (sig := ⟨[.int, .int], none⟩) (by decide +kernel) (by decide +kernel) rfl rfl) (by decide +kernel) (by decide +kernel)
theorem m15_73 (a0 : Int32) (a1 : Int32) : M15 73 ls [.int a1, .int a0, .ref b] (put b pre s A L B post) Q = M19 0 [.val (.ref b), .val (.int a0), .val (.int a1), .unset, .unset, .unset, .unset, .unset, .unset, .unset, .unset, .unset] [] (put b pre s A L B post) (fun v H1 => M15 76 ls (v.toList ++ []) H1 Q) := w_virt (as := [.int a1, .int a0]) (rest := []) (a := b) (show decode kb15 73 = .ok (.invokevirtual 170, 3) from by decide +kernel) cr15_170 put_o rfl rfl (Nat.le_of_ble_eq_true rfl) (by show 3 ≤ 12; omega) rfl
theorem m15_76 : M15 76 [l0, l1, l2, l3, .val (.int v), l5, l6, l7] st H Q = M15 79 [l0, l1, l2, l3, .val (.int (v + 3)), l5, l6, l7] st H Q := w_iinc (show decode kb15 76 = .ok (.iinc 4 3, 3) from by decide +kernel) rfl (by decide) rfl
theorem m15_79 : M15 79 ls st H Q = M15 98 ls st H Q := w_x (show decode kb15 79 = .ok (.goto 19, 3) from by decide +kernel) rfl
theorem m15_82 : M15 82 [l0, l1, l2, l3, l4, l5, .val (.int v), l7] st H Q = M15 84 [l0, l1, l2, l3, l4, l5, .val (.int v), l7] (.int v :: st) H Q := w_x (show decode kb15 82 = .ok (.iload 6, 2) from by decide +kernel) rfl
theorem m15_84 : M15 84 ls st H Q = M15 85 ls (.int 2 :: st) H Q := w_con (show decode kb15 84 = .ok (.iconst 2, 1) from by decide +kernel) rfl (by decide)
theorem m15_85 : M15 85 ls (.int y :: .int x :: st) H Q = if x < y then M15 104 ls st H Q else M15 88 ls st H Q := w_icmp (show decode kb15 85 = .ok (.if_icmp .lt 19, 3) from by decide +kernel) (i_lt x y) rfl
theorem m15_88 : M15 88 [.val (.ref r), l1, l2, l3, l4, l5, l6, l7] st H Q = M15 89 [.val (.ref r), l1, l2, l3, l4, l5, l6, l7] (.ref r :: st) H Q := w_x (show decode kb15 88 = .ok (.aload_n 0, 1) from by decide +kernel) rfl
theorem m15_89 : M15 89 [l0, .val (.int v), l2, l3, l4, l5, l6, l7] st H Q = M15 90 [l0, .val (.int v), l2, l3, l4, l5, l6, l7] (.int v :: st) H Q := w_x (show decode kb15 89 = .ok (.iload_n 1, 1) from by decide +kernel) rfl
theorem m15_90 : M15 90 [l0, l1, l2, l3, .val (.int v), l5, l6, l7] st H Q = M15 92 [l0, l1, l2, l3, .val (.int v), l5, l6, l7] (.int v :: st) H Q := w_x (show decode kb15 90 = .ok (.iload 4, 2) from by decide +kernel) rfl
theorem cr15_173 : vR tables_1 dn y15 173 = some (true, y17, prog_1_method_37_code, 8, none, 2, 4) := pR_of (cR_of (by decide +kernel) rc_17 dn_17 dn_15 (sig := ⟨[.int, .int], none⟩) (by decide +kernel) (by decide +kernel) rfl rfl) (by decide +kernel) (by decide +kernel)
theorem m15_92 (a0 : Int32) (a1 : Int32) : M15 92 ls [.int a1, .int a0, .ref b] (put b pre s A L B post) Q = M17 0 [.val (.ref b), .val (.int a0), .val (.int a1), .unset, .unset, .unset, .unset, .unset] [] (put b pre s A L B post) (fun v H1 => M15 95 ls (v.toList ++ []) H1 Q) := w_virt (as := [.int a1, .int a0]) (rest := []) (a := b) (show decode kb15 92 = .ok (.invokevirtual 173, 3) from by decide +kernel) cr15_173 put_o rfl rfl (Nat.le_of_ble_eq_true rfl) (by show 3 ≤ 8; omega) rfl
theorem m15_95 : M15 95 [l0, l1, l2, l3, .val (.int v), l5, l6, l7] st H Q = M15 98 [l0, l1, l2, l3, .val (.int (v + 2)), l5, l6, l7] st H Q := w_iinc (show decode kb15 95 = .ok (.iinc 4 2, 3) from by decide +kernel) rfl (by decide) rfl
theorem m15_98 : M15 98 [l0, l1, l2, l3, l4, .val (.int v), l6, l7] st H Q = M15 101 [l0, l1, l2, l3, l4, .val (.int (v + 1)), l6, l7] st H Q := w_iinc (show decode kb15 98 = .ok (.iinc 5 1, 3) from by decide +kernel) rfl (by decide) rfl
theorem m15_101 : M15 101 ls st H Q = M15 22 ls st H Q := w_x (show decode kb15 101 = .ok (.goto (-79), 3) from by decide +kernel) rfl
theorem m15_104 : M15 104 [l0, l1, l2, l3, .val (.int v), l5, l6, l7] st H Q = M15 106 [l0, l1, l2, l3, .val (.int v), l5, l6, l7] (.int v :: st) H Q := w_x (show decode kb15 104 = .ok (.iload 4, 2) from by decide +kernel) rfl
theorem m15_106 : M15 106 [l0, l1, l2, .val (.int v), l4, l5, l6, l7] st H Q = M15 107 [l0, l1, l2, .val (.int v), l4, l5, l6, l7] (.int v :: st) H Q := w_x (show decode kb15 106 = .ok (.iload_n 3, 1) from by decide +kernel) rfl
theorem m15_107 : M15 107 ls (.int y :: .int x :: st) H Q = if x < y then M15 110 ls st H Q else M15 133 ls st H Q := w_icmpN (show decode kb15 107 = .ok (.if_icmp .ge 26, 3) from by decide +kernel) (i_ge x y) rfl
theorem m15_110 : M15 110 [.val (.ref r), l1, l2, l3, l4, l5, l6, l7] st H Q = M15 111 [.val (.ref r), l1, l2, l3, l4, l5, l6, l7] (.ref r :: st) H Q := w_x (show decode kb15 110 = .ok (.aload_n 0, 1) from by decide +kernel) rfl
theorem m15_111 : M15 111 [l0, .val (.int v), l2, l3, l4, l5, l6, l7] st H Q = M15 112 [l0, .val (.int v), l2, l3, l4, l5, l6, l7] (.int v :: st) H Q := w_x (show decode kb15 111 = .ok (.iload_n 1, 1) from by decide +kernel) rfl
theorem m15_112 : M15 112 [.val (.ref r), l1, l2, l3, l4, l5, l6, l7] st H Q = M15 113 [.val (.ref r), l1, l2, l3, l4, l5, l6, l7] (.ref r :: st) H Q := w_x (show decode kb15 112 = .ok (.aload_n 0, 1) from by decide +kernel) rfl
theorem m15_113 : M15 113 ls (.ref b :: st) (put b pre s A L B post) Q = M15 116 ls (.ref (b + 5) :: st) (put b pre s A L B post) Q := w_get (show decode kb15 113 = .ok (.getfield 23, 3) from by decide +kernel) gf_23 put_o rfl
theorem m15_116 : M15 116 [l0, .val (.int v), l2, l3, l4, l5, l6, l7] st H Q = M15 117 [l0, .val (.int v), l2, l3, l4, l5, l6, l7] (.int v :: st) H Q := w_x (show decode kb15 116 = .ok (.iload_n 1, 1) from by decide +kernel) rfl
theorem m15_117 : M15 117 ls st H Q = M15 119 ls (.int 32 :: st) H Q := w_con (show decode kb15 117 = .ok (.bipush 32, 2) from by decide +kernel) rfl (by decide)
theorem m15_119 : M15 119 ls (.int y :: .int x :: st) H Q = M15 120 ls (.int (x * y) :: st) H Q := w_x (show decode kb15 119 = .ok (.imul, 1) from by decide +kernel) rfl
theorem m15_120 : M15 120 [l0, l1, l2, l3, .val (.int v), l5, l6, l7] st H Q = M15 122 [l0, l1, l2, l3, .val (.int v), l5, l6, l7] (.int v :: st) H Q := w_x (show decode kb15 120 = .ok (.iload 4, 2) from by decide +kernel) rfl
theorem m15_122 : M15 122 ls (.int y :: .int x :: st) H Q = M15 123 ls (.int (x + y) :: st) H Q := w_x (show decode kb15 122 = .ok (.iadd, 1) from by decide +kernel) rfl
theorem m15_123  : M15 123 ls (.int j :: .ref (b + 5) :: st) (put b pre s A L B post) Q = (inB j (A 4) ∧ M15 124 ls (.int (getA (A 4) j) :: st) (put b pre s A L B post) Q) := w_ild (show decode kb15 123 = .ok (.iaload, 1) from by decide +kernel) rfl put_a4
theorem cr15_176 : vR tables_1 dn y15 176 = some (true, y16, prog_1_method_28_code, 4, none, 2, 38) := pR_of (cR_of (by decide +kernel) rc_16 dn_16 dn_15 (sig := ⟨[.int, .int], none⟩) (by decide +kernel) (by decide +kernel) rfl rfl) (by decide +kernel) (by decide +kernel)
theorem m15_124 (a0 : Int32) (a1 : Int32) : M15 124 ls [.int a1, .int a0, .ref b] (put b pre s A L B post) Q = M16 0 [.val (.ref b), .val (.int a0), .val (.int a1), .unset] [] (put b pre s A L B post) (fun v H1 => M15 127 ls (v.toList ++ []) H1 Q) := w_virt (as := [.int a1, .int a0]) (rest := []) (a := b) (show decode kb15 124 = .ok (.invokevirtual 176, 3) from by decide +kernel) cr15_176 put_o rfl rfl (Nat.le_of_ble_eq_true rfl) (by show 3 ≤ 4; omega) rfl
theorem m15_127 : M15 127 [l0, l1, l2, l3, .val (.int v), l5, l6, l7] st H Q = M15 130 [l0, l1, l2, l3, .val (.int (v + 1)), l5, l6, l7] st H Q := w_iinc (show decode kb15 127 = .ok (.iinc 4 1, 3) from by decide +kernel) rfl (by decide) rfl
theorem m15_130 : M15 130 ls st H Q = M15 104 ls st H Q := w_x (show decode kb15 130 = .ok (.goto (-26), 3) from by decide +kernel) rfl
theorem m15_133 : M15 133 ls [] H Q = Q none H := w_vret (show decode kb15 133 = .ok (.return_, 1) from by decide +kernel) rfl
theorem m16_0 : M16 0 [l0, l1, .val (.int v), l3] st H Q = M16 1 [l0, l1, .val (.int v), l3] (.int v :: st) H Q := w_x (show decode kb16 0 = .ok (.iload_n 2, 1) from by decide +kernel) rfl
theorem m16_1 : M16 1 ls (.int x :: st) H Q = if x = 0 then M16 14 ls st H Q else M16 4 ls st H Q := w_if (show decode kb16 1 = .ok (.ifCond .eq 13, 3) from by decide +kernel) (z_eq x) rfl
theorem m16_4 : M16 4 [l0, .val (.int v), l2, l3] st H Q = M16 5 [l0, .val (.int v), l2, l3] (.int v :: st) H Q := w_x (show decode kb16 4 = .ok (.iload_n 1, 1) from by decide +kernel) rfl
theorem m16_5 : M16 5 ls (.int x :: st) H Q = if x < 0 then M16 14 ls st H Q else M16 8 ls st H Q := w_if (show decode kb16 5 = .ok (.ifCond .lt 9, 3) from by decide +kernel) (z_lt x) rfl
theorem m16_8 : M16 8 [l0, .val (.int v), l2, l3] st H Q = M16 9 [l0, .val (.int v), l2, l3] (.int v :: st) H Q := w_x (show decode kb16 8 = .ok (.iload_n 1, 1) from by decide +kernel) rfl
theorem m16_9 : M16 9 ls st H Q = M16 11 ls (.int 16 :: st) H Q := w_con (show decode kb16 9 = .ok (.bipush 16, 2) from by decide +kernel) rfl (by decide)
theorem m16_11 : M16 11 ls (.int y :: .int x :: st) H Q = if x < y then M16 15 ls st H Q else M16 14 ls st H Q := w_icmp (show decode kb16 11 = .ok (.if_icmp .lt 4, 3) from by decide +kernel) (i_lt x y) rfl
theorem m16_14 : M16 14 ls [] H Q = Q none H := w_vret (show decode kb16 14 = .ok (.return_, 1) from by decide +kernel) rfl
theorem m16_15 : M16 15 [.val (.ref r), l1, l2, l3] st H Q = M16 16 [.val (.ref r), l1, l2, l3] (.ref r :: st) H Q := w_x (show decode kb16 15 = .ok (.aload_n 0, 1) from by decide +kernel) rfl
theorem m16_16 : M16 16 ls (.ref b :: st) (put b pre s A L B post) Q = M16 19 ls (.ref (b + 8) :: st) (put b pre s A L B post) Q := w_get (show decode kb16 16 = .ok (.getfield 32, 3) from by decide +kernel) gf_32 put_o rfl
theorem m16_19 : M16 19 [l0, .val (.int v), l2, l3] st H Q = M16 20 [l0, .val (.int v), l2, l3] (.int v :: st) H Q := w_x (show decode kb16 19 = .ok (.iload_n 1, 1) from by decide +kernel) rfl
theorem m16_20  : M16 20 ls (.int j :: .ref (b + 8) :: st) (put b pre s A L B post) Q = (inB j (A 7) ∧ M16 21 ls (.int (getA (A 7) j) :: st) (put b pre s A L B post) Q) := w_ild (show decode kb16 20 = .ok (.iaload, 1) from by decide +kernel) rfl put_a7
theorem m16_21u : M16 21 [l0, l1, l2, .unset] ((.int v) :: st) H Q = M16 22 [l0, l1, l2, .val (.int v)] st H Q := w_st (i := 3) (p := isI) (show decode kb16 21 = .ok (.istore_n 3, 1) from by decide +kernel) rfl rfl rfl rfl rfl rfl
theorem m16_22 : M16 22 [l0, l1, l2, .val (.int v)] st H Q = M16 23 [l0, l1, l2, .val (.int v)] (.int v :: st) H Q := w_x (show decode kb16 22 = .ok (.iload_n 3, 1) from by decide +kernel) rfl
theorem m16_23 : M16 23 ls (.int x :: st) H Q = if x < 0 then M16 32 ls st H Q else M16 26 ls st H Q := w_if (show decode kb16 23 = .ok (.ifCond .lt 9, 3) from by decide +kernel) (z_lt x) rfl
theorem m16_26 : M16 26 [l0, l1, l2, .val (.int v)] st H Q = M16 27 [l0, l1, l2, .val (.int v)] (.int v :: st) H Q := w_x (show decode kb16 26 = .ok (.iload_n 3, 1) from by decide +kernel) rfl
theorem m16_27 : M16 27 ls st H Q = M16 29 ls (.int 32 :: st) H Q := w_con (show decode kb16 27 = .ok (.bipush 32, 2) from by decide +kernel) rfl (by decide)
theorem m16_29 : M16 29 ls (.int y :: .int x :: st) H Q = if x < y then M16 33 ls st H Q else M16 32 ls st H Q := w_icmp (show decode kb16 29 = .ok (.if_icmp .lt 4, 3) from by decide +kernel) (i_lt x y) rfl
theorem m16_32 : M16 32 ls [] H Q = Q none H := w_vret (show decode kb16 32 = .ok (.return_, 1) from by decide +kernel) rfl
theorem m16_33 : M16 33 [.val (.ref r), l1, l2, l3] st H Q = M16 34 [.val (.ref r), l1, l2, l3] (.ref r :: st) H Q := w_x (show decode kb16 33 = .ok (.aload_n 0, 1) from by decide +kernel) rfl
theorem m16_34 : M16 34 ls (.ref b :: st) (put b pre s A L B post) Q = M16 37 ls (.ref (b + 6) :: st) (put b pre s A L B post) Q := w_get (show decode kb16 34 = .ok (.getfield 26, 3) from by decide +kernel) gf_26 put_o rfl
theorem m16_37 : M16 37 [l0, .val (.int v), l2, l3] st H Q = M16 38 [l0, .val (.int v), l2, l3] (.int v :: st) H Q := w_x (show decode kb16 37 = .ok (.iload_n 1, 1) from by decide +kernel) rfl
theorem m16_38 : M16 38 ls st H Q = M16 40 ls (.int 32 :: st) H Q := w_con (show decode kb16 38 = .ok (.bipush 32, 2) from by decide +kernel) rfl (by decide)
theorem m16_40 : M16 40 ls (.int y :: .int x :: st) H Q = M16 41 ls (.int (x * y) :: st) H Q := w_x (show decode kb16 40 = .ok (.imul, 1) from by decide +kernel) rfl
theorem m16_41 : M16 41 [l0, l1, l2, .val (.int v)] st H Q = M16 42 [l0, l1, l2, .val (.int v)] (.int v :: st) H Q := w_x (show decode kb16 41 = .ok (.iload_n 3, 1) from by decide +kernel) rfl
theorem m16_42 : M16 42 ls (.int y :: .int x :: st) H Q = M16 43 ls (.int (x + y) :: st) H Q := w_x (show decode kb16 42 = .ok (.iadd, 1) from by decide +kernel) rfl
theorem m16_43 : M16 43 [l0, l1, .val (.int v), l3] st H Q = M16 44 [l0, l1, .val (.int v), l3] (.int v :: st) H Q := w_x (show decode kb16 43 = .ok (.iload_n 2, 1) from by decide +kernel) rfl
theorem m16_44  : M16 44 ls (.int v :: .int j :: .ref (b + 6) :: st) (put b pre s A L B post) Q = (inB j (A 5) ∧ M16 45 ls st (put b pre s (ou A 5 (setA (A 5) j v)) L B post) Q) := w_ist (show decode kb16 44 = .ok (.iastore, 1) from by decide +kernel) rfl put_a5 (Nat.zero_le _) rfl put_w5
theorem m16_45 : M16 45 [.val (.ref r), l1, l2, l3] st H Q = M16 46 [.val (.ref r), l1, l2, l3] (.ref r :: st) H Q := w_x (show decode kb16 45 = .ok (.aload_n 0, 1) from by decide +kernel) rfl
theorem m16_46 : M16 46 ls (.ref b :: st) (put b pre s A L B post) Q = M16 49 ls (.ref (b + 8) :: st) (put b pre s A L B post) Q := w_get (show decode kb16 46 = .ok (.getfield 32, 3) from by decide +kernel) gf_32 put_o rfl
theorem m16_49 : M16 49 [l0, .val (.int v), l2, l3] st H Q = M16 50 [l0, .val (.int v), l2, l3] (.int v :: st) H Q := w_x (show decode kb16 49 = .ok (.iload_n 1, 1) from by decide +kernel) rfl
theorem m16_50 : M16 50 [l0, l1, l2, .val (.int v)] st H Q = M16 51 [l0, l1, l2, .val (.int v)] (.int v :: st) H Q := w_x (show decode kb16 50 = .ok (.iload_n 3, 1) from by decide +kernel) rfl
theorem m16_51 : M16 51 ls st H Q = M16 52 ls (.int 1 :: st) H Q := w_con (show decode kb16 51 = .ok (.iconst 1, 1) from by decide +kernel) rfl (by decide)
theorem m16_52 : M16 52 ls (.int y :: .int x :: st) H Q = M16 53 ls (.int (x + y) :: st) H Q := w_x (show decode kb16 52 = .ok (.iadd, 1) from by decide +kernel) rfl
theorem m16_53  : M16 53 ls (.int v :: .int j :: .ref (b + 8) :: st) (put b pre s A L B post) Q = (inB j (A 7) ∧ M16 54 ls st (put b pre s (ou A 7 (setA (A 7) j v)) L B post) Q) := w_ist (show decode kb16 53 = .ok (.iastore, 1) from by decide +kernel) rfl put_a7 (Nat.zero_le _) rfl put_w7
theorem m16_54 : M16 54 ls [] H Q = Q none H := w_vret (show decode kb16 54 = .ok (.return_, 1) from by decide +kernel) rfl
theorem m17_0 : M17 0 [l0, .val (.int v), l2, l3, l4, l5, l6, l7] st H Q = M17 1 [l0, .val (.int v), l2, l3, l4, l5, l6, l7] (.int v :: st) H Q := w_x (show decode kb17 0 = .ok (.iload_n 1, 1) from by decide +kernel) rfl
theorem m17_1 : M17 1 ls st H Q = M17 3 ls (.int 32 :: st) H Q := w_con (show decode kb17 1 = .ok (.bipush 32, 2) from by decide +kernel) rfl (by decide)
theorem m17_3 : M17 3 ls (.int y :: .int x :: st) H Q = M17 4 ls (.int (x * y) :: st) H Q := w_x (show decode kb17 3 = .ok (.imul, 1) from by decide +kernel) rfl
theorem m17_4 : M17 4 [l0, l1, .val (.int v), l3, l4, l5, l6, l7] st H Q = M17 5 [l0, l1, .val (.int v), l3, l4, l5, l6, l7] (.int v :: st) H Q := w_x (show decode kb17 4 = .ok (.iload_n 2, 1) from by decide +kernel) rfl
theorem m17_5 : M17 5 ls (.int y :: .int x :: st) H Q = M17 6 ls (.int (x + y) :: st) H Q := w_x (show decode kb17 5 = .ok (.iadd, 1) from by decide +kernel) rfl
theorem m17_6u : M17 6 [l0, l1, l2, .unset, l4, l5, l6, l7] ((.int v) :: st) H Q = M17 7 [l0, l1, l2, .val (.int v), l4, l5, l6, l7] st H Q := w_st (i := 3) (p := isI) (show decode kb17 6 = .ok (.istore_n 3, 1) from by decide +kernel) rfl rfl rfl rfl rfl rfl
theorem m17_7 : M17 7 [l0, l1, l2, .val (.int v), l4, l5, l6, l7] st H Q = M17 8 [l0, l1, l2, .val (.int v), l4, l5, l6, l7] (.int v :: st) H Q := w_x (show decode kb17 7 = .ok (.iload_n 3, 1) from by decide +kernel) rfl
theorem m17_8 : M17 8 ls (.int x :: st) H Q = if x < 0 then M17 20 ls st H Q else M17 11 ls st H Q := w_if (show decode kb17 8 = .ok (.ifCond .lt 12, 3) from by decide +kernel) (z_lt x) rfl
theorem m17_11 : M17 11 [l0, l1, l2, .val (.int v), l4, l5, l6, l7] st H Q = M17 12 [l0, l1, l2, .val (.int v), l4, l5, l6, l7] (.int v :: st) H Q := w_x (show decode kb17 11 = .ok (.iload_n 3, 1) from by decide +kernel) rfl
theorem m17_12 : M17 12 ls st H Q = M17 13 ls (.int 1 :: st) H Q := w_con (show decode kb17 12 = .ok (.iconst 1, 1) from by decide +kernel) rfl (by decide)
theorem m17_13 : M17 13 ls (.int y :: .int x :: st) H Q = M17 14 ls (.int (x + y) :: st) H Q := w_x (show decode kb17 13 = .ok (.iadd, 1) from by decide +kernel) rfl
theorem m17_14 : M17 14 ls st H Q = M17 17 ls (.int 512 :: st) H Q := w_con (show decode kb17 14 = .ok (.sipush 512, 3) from by decide +kernel) rfl (by decide)
theorem m17_17 : M17 17 ls (.int y :: .int x :: st) H Q = if x < y then M17 21 ls st H Q else M17 20 ls st H Q := w_icmp (show decode kb17 17 = .ok (.if_icmp .lt 4, 3) from by decide +kernel) (i_lt x y) rfl
theorem m17_20 : M17 20 ls [] H Q = Q none H := w_vret (show decode kb17 20 = .ok (.return_, 1) from by decide +kernel) rfl
theorem m17_21 : M17 21 [.val (.ref r), l1, l2, l3, l4, l5, l6, l7] st H Q = M17 22 [.val (.ref r), l1, l2, l3, l4, l5, l6, l7] (.ref r :: st) H Q := w_x (show decode kb17 21 = .ok (.aload_n 0, 1) from by decide +kernel) rfl
theorem m17_22 : M17 22 ls (.ref b :: st) (put b pre s A L B post) Q = M17 25 ls (.ref (b + 5) :: st) (put b pre s A L B post) Q := w_get (show decode kb17 22 = .ok (.getfield 23, 3) from by decide +kernel) gf_23 put_o rfl
theorem m17_25 : M17 25 [l0, l1, l2, .val (.int v), l4, l5, l6, l7] st H Q = M17 26 [l0, l1, l2, .val (.int v), l4, l5, l6, l7] (.int v :: st) H Q := w_x (show decode kb17 25 = .ok (.iload_n 3, 1) from by decide +kernel) rfl
theorem m17_26  : M17 26 ls (.int j :: .ref (b + 5) :: st) (put b pre s A L B post) Q = (inB j (A 4) ∧ M17 27 ls (.int (getA (A 4) j) :: st) (put b pre s A L B post) Q) := w_ild (show decode kb17 26 = .ok (.iaload, 1) from by decide +kernel) rfl put_a4
theorem m17_27u : M17 27 [l0, l1, l2, l3, .unset, l5, l6, l7] ((.int v) :: st) H Q = M17 29 [l0, l1, l2, l3, .val (.int v), l5, l6, l7] st H Q := w_st (i := 4) (p := isI) (show decode kb17 27 = .ok (.istore 4, 2) from by decide +kernel) rfl rfl rfl rfl rfl rfl
theorem m17_29 : M17 29 [.val (.ref r), l1, l2, l3, l4, l5, l6, l7] st H Q = M17 30 [.val (.ref r), l1, l2, l3, l4, l5, l6, l7] (.ref r :: st) H Q := w_x (show decode kb17 29 = .ok (.aload_n 0, 1) from by decide +kernel) rfl
theorem m17_30 : M17 30 ls (.ref b :: st) (put b pre s A L B post) Q = M17 33 ls (.ref (b + 5) :: st) (put b pre s A L B post) Q := w_get (show decode kb17 30 = .ok (.getfield 23, 3) from by decide +kernel) gf_23 put_o rfl
theorem m17_33 : M17 33 [l0, l1, l2, .val (.int v), l4, l5, l6, l7] st H Q = M17 34 [l0, l1, l2, .val (.int v), l4, l5, l6, l7] (.int v :: st) H Q := w_x (show decode kb17 33 = .ok (.iload_n 3, 1) from by decide +kernel) rfl
theorem m17_34 : M17 34 ls st H Q = M17 35 ls (.int 1 :: st) H Q := w_con (show decode kb17 34 = .ok (.iconst 1, 1) from by decide +kernel) rfl (by decide)
theorem m17_35 : M17 35 ls (.int y :: .int x :: st) H Q = M17 36 ls (.int (x + y) :: st) H Q := w_x (show decode kb17 35 = .ok (.iadd, 1) from by decide +kernel) rfl
theorem m17_36  : M17 36 ls (.int j :: .ref (b + 5) :: st) (put b pre s A L B post) Q = (inB j (A 4) ∧ M17 37 ls (.int (getA (A 4) j) :: st) (put b pre s A L B post) Q) := w_ild (show decode kb17 36 = .ok (.iaload, 1) from by decide +kernel) rfl put_a4
theorem m17_37u : M17 37 [l0, l1, l2, l3, l4, .unset, l6, l7] ((.int v) :: st) H Q = M17 39 [l0, l1, l2, l3, l4, .val (.int v), l6, l7] st H Q := w_st (i := 5) (p := isI) (show decode kb17 37 = .ok (.istore 5, 2) from by decide +kernel) rfl rfl rfl rfl rfl rfl
theorem m17_39 : M17 39 [.val (.ref r), l1, l2, l3, l4, l5, l6, l7] st H Q = M17 40 [.val (.ref r), l1, l2, l3, l4, l5, l6, l7] (.ref r :: st) H Q := w_x (show decode kb17 39 = .ok (.aload_n 0, 1) from by decide +kernel) rfl
theorem m17_40 : M17 40 [l0, l1, l2, l3, .val (.int v), l5, l6, l7] st H Q = M17 42 [l0, l1, l2, l3, .val (.int v), l5, l6, l7] (.int v :: st) H Q := w_x (show decode kb17 40 = .ok (.iload 4, 2) from by decide +kernel) rfl
theorem m17_42 : M17 42 [l0, l1, l2, l3, l4, .val (.int v), l6, l7] st H Q = M17 44 [l0, l1, l2, l3, l4, .val (.int v), l6, l7] (.int v :: st) H Q := w_x (show decode kb17 42 = .ok (.iload 5, 2) from by decide +kernel) rfl
theorem cr17_155 : vR tables_1 dn y17 155 = some (true, y18, prog_1_method_24_code, 3, (some .int), 2, 0) := pR_of (cR_of (by decide +kernel) rc_18 dn_18 dn_17 (sig := ⟨[.int, .int], some .int⟩) (by decide +kernel) (by decide +kernel) rfl rfl) (by decide +kernel) (by decide +kernel)
theorem m17_44 (a0 : Int32) (a1 : Int32) : M17 44 ls [.int a1, .int a0, .ref b] (put b pre s A L B post) Q = M18 0 [.val (.ref b), .val (.int a0), .val (.int a1)] [] (put b pre s A L B post) (fun v H1 => M17 47 ls (v.toList ++ []) H1 Q) := w_virt (as := [.int a1, .int a0]) (rest := []) (a := b) (show decode kb17 44 = .ok (.invokevirtual 155, 3) from by decide +kernel) cr17_155 put_o rfl rfl (Nat.le_of_ble_eq_true rfl) (by show 3 ≤ 3; omega) rfl
theorem m17_47u : M17 47 [l0, l1, l2, l3, l4, l5, .unset, l7] ((.int v) :: st) H Q = M17 49 [l0, l1, l2, l3, l4, l5, .val (.int v), l7] st H Q := w_st (i := 6) (p := isI) (show decode kb17 47 = .ok (.istore 6, 2) from by decide +kernel) rfl rfl rfl rfl rfl rfl
theorem m17_49 : M17 49 [.val (.ref r), l1, l2, l3, l4, l5, l6, l7] st H Q = M17 50 [.val (.ref r), l1, l2, l3, l4, l5, l6, l7] (.ref r :: st) H Q := w_x (show decode kb17 49 = .ok (.aload_n 0, 1) from by decide +kernel) rfl
theorem m17_50 : M17 50 [l0, l1, l2, l3, .val (.int v), l5, l6, l7] st H Q = M17 52 [l0, l1, l2, l3, .val (.int v), l5, l6, l7] (.int v :: st) H Q := w_x (show decode kb17 50 = .ok (.iload 4, 2) from by decide +kernel) rfl
theorem m17_52 : M17 52 [l0, l1, l2, l3, l4, .val (.int v), l6, l7] st H Q = M17 54 [l0, l1, l2, l3, l4, .val (.int v), l6, l7] (.int v :: st) H Q := w_x (show decode kb17 52 = .ok (.iload 5, 2) from by decide +kernel) rfl
theorem cr17_148 : vR tables_1 dn y17 148 = some (true, y10, prog_1_method_22_code, 3, (some .int), 2, 0) := pR_of (cR_of (by decide +kernel) rc_10 dn_10 dn_17 (sig := ⟨[.int, .int], some .int⟩) (by decide +kernel) (by decide +kernel) rfl rfl) (by decide +kernel) (by decide +kernel)
theorem m17_54 (a0 : Int32) (a1 : Int32) : M17 54 ls [.int a1, .int a0, .ref b] (put b pre s A L B post) Q = M10 0 [.val (.ref b), .val (.int a0), .val (.int a1)] [] (put b pre s A L B post) (fun v H1 => M17 57 ls (v.toList ++ []) H1 Q) := w_virt (as := [.int a1, .int a0]) (rest := []) (a := b) (show decode kb17 54 = .ok (.invokevirtual 148, 3) from by decide +kernel) cr17_148 put_o rfl rfl (Nat.le_of_ble_eq_true rfl) (by show 3 ≤ 3; omega) rfl
theorem m17_57u : M17 57 [l0, l1, l2, l3, l4, l5, l6, .unset] ((.int v) :: st) H Q = M17 59 [l0, l1, l2, l3, l4, l5, l6, .val (.int v)] st H Q := w_st (i := 7) (p := isI) (show decode kb17 57 = .ok (.istore 7, 2) from by decide +kernel) rfl rfl rfl rfl rfl rfl
theorem m17_59 : M17 59 [.val (.ref r), l1, l2, l3, l4, l5, l6, l7] st H Q = M17 60 [.val (.ref r), l1, l2, l3, l4, l5, l6, l7] (.ref r :: st) H Q := w_x (show decode kb17 59 = .ok (.aload_n 0, 1) from by decide +kernel) rfl
theorem m17_60 : M17 60 [l0, .val (.int v), l2, l3, l4, l5, l6, l7] st H Q = M17 61 [l0, .val (.int v), l2, l3, l4, l5, l6, l7] (.int v :: st) H Q := w_x (show decode kb17 60 = .ok (.iload_n 1, 1) from by decide +kernel) rfl
theorem m17_61 : M17 61 [l0, l1, l2, l3, l4, l5, .val (.int v), l7] st H Q = M17 63 [l0, l1, l2, l3, l4, l5, .val (.int v), l7] (.int v :: st) H Q := w_x (show decode kb17 61 = .ok (.iload 6, 2) from by decide +kernel) rfl
theorem cr17_176 : vR tables_1 dn y17 176 = some (true, y16, prog_1_method_28_code, 4, none, 2, 15) := pR_of (cR_of (by decide +kernel) rc_16 dn_16 dn_17 (sig := ⟨[.int, .int], none⟩) (by decide +kernel) (by decide +kernel) rfl rfl) (by decide +kernel) (by decide +kernel)
theorem m17_63 (a0 : Int32) (a1 : Int32) : M17 63 ls [.int a1, .int a0, .ref b] (put b pre s A L B post) Q = M16 0 [.val (.ref b), .val (.int a0), .val (.int a1), .unset] [] (put b pre s A L B post) (fun v H1 => M17 66 ls (v.toList ++ []) H1 Q) := w_virt (as := [.int a1, .int a0]) (rest := []) (a := b) (show decode kb17 63 = .ok (.invokevirtual 176, 3) from by decide +kernel) cr17_176 put_o rfl rfl (Nat.le_of_ble_eq_true rfl) (by show 3 ≤ 4; omega) rfl
theorem m17_66 : M17 66 [l0, .val (.int v), l2, l3, l4, l5, l6, l7] st H Q = M17 67 [l0, .val (.int v), l2, l3, l4, l5, l6, l7] (.int v :: st) H Q := w_x (show decode kb17 66 = .ok (.iload_n 1, 1) from by decide +kernel) rfl
theorem m17_67 : M17 67 ls st H Q = M17 68 ls (.int 1 :: st) H Q := w_con (show decode kb17 67 = .ok (.iconst 1, 1) from by decide +kernel) rfl (by decide)
theorem m17_68 : M17 68 ls (.int y :: .int x :: st) H Q = M17 69 ls (.int (x + y) :: st) H Q := w_x (show decode kb17 68 = .ok (.iadd, 1) from by decide +kernel) rfl
theorem m17_69 : M17 69 [.val (.ref r), l1, l2, l3, l4, l5, l6, l7] st H Q = M17 70 [.val (.ref r), l1, l2, l3, l4, l5, l6, l7] (.ref r :: st) H Q := w_x (show decode kb17 69 = .ok (.aload_n 0, 1) from by decide +kernel) rfl
theorem m17_70 : M17 70 ls (.ref b :: st) (put b pre s A L B post) Q = M17 73 ls (.int (s 14) :: st) (put b pre s A L B post) Q := w_get (show decode kb17 70 = .ok (.getfield 126, 3) from by decide +kernel) gf_126 put_o rfl
theorem m17_73 : M17 73 ls (.int y :: .int x :: st) H Q = if x < y then M17 76 ls st H Q else M17 85 ls st H Q := w_icmpN (show decode kb17 73 = .ok (.if_icmp .ge 12, 3) from by decide +kernel) (i_ge x y) rfl
theorem m17_76 : M17 76 [.val (.ref r), l1, l2, l3, l4, l5, l6, l7] st H Q = M17 77 [.val (.ref r), l1, l2, l3, l4, l5, l6, l7] (.ref r :: st) H Q := w_x (show decode kb17 76 = .ok (.aload_n 0, 1) from by decide +kernel) rfl
theorem m17_77 : M17 77 [l0, .val (.int v), l2, l3, l4, l5, l6, l7] st H Q = M17 78 [l0, .val (.int v), l2, l3, l4, l5, l6, l7] (.int v :: st) H Q := w_x (show decode kb17 77 = .ok (.iload_n 1, 1) from by decide +kernel) rfl
theorem m17_78 : M17 78 ls st H Q = M17 79 ls (.int 1 :: st) H Q := w_con (show decode kb17 78 = .ok (.iconst 1, 1) from by decide +kernel) rfl (by decide)
theorem m17_79 : M17 79 ls (.int y :: .int x :: st) H Q = M17 80 ls (.int (x + y) :: st) H Q := w_x (show decode kb17 79 = .ok (.iadd, 1) from by decide +kernel) rfl
theorem m17_80 : M17 80 [l0, l1, l2, l3, l4, l5, l6, .val (.int v)] st H Q = M17 82 [l0, l1, l2, l3, l4, l5, l6, .val (.int v)] (.int v :: st) H Q := w_x (show decode kb17 80 = .ok (.iload 7, 2) from by decide +kernel) rfl
theorem m17_82 (a0 : Int32) (a1 : Int32) : M17 82 ls [.int a1, .int a0, .ref b] (put b pre s A L B post) Q = M16 0 [.val (.ref b), .val (.int a0), .val (.int a1), .unset] [] (put b pre s A L B post) (fun v H1 => M17 85 ls (v.toList ++ []) H1 Q) := w_virt (as := [.int a1, .int a0]) (rest := []) (a := b) (show decode kb17 82 = .ok (.invokevirtual 176, 3) from by decide +kernel) cr17_176 put_o rfl rfl (Nat.le_of_ble_eq_true rfl) (by show 3 ≤ 4; omega) rfl
theorem m17_85 : M17 85 ls [] H Q = Q none H := w_vret (show decode kb17 85 = .ok (.return_, 1) from by decide +kernel) rfl
theorem m18_0 : M18 0 [l0, .val (.int v), l2] st H Q = M18 1 [l0, .val (.int v), l2] (.int v :: st) H Q := w_x (show decode kb18 0 = .ok (.iload_n 1, 1) from by decide +kernel) rfl
theorem m18_1 : M18 1 ls (.int x :: st) H Q = if x = 0 then M18 4 ls st H Q else M18 6 ls st H Q := w_ifN (show decode kb18 1 = .ok (.ifCond .ne 5, 3) from by decide +kernel) (z_ne x) rfl
theorem m18_4 : M18 4 [l0, l1, .val (.int v)] st H Q = M18 5 [l0, l1, .val (.int v)] (.int v :: st) H Q := w_x (show decode kb18 4 = .ok (.iload_n 2, 1) from by decide +kernel) rfl
theorem m18_5 : M18 5 ls (.int z :: st) H Q = Q (some (.int z)) H := w_iret (show decode kb18 5 = .ok (.ireturn, 1) from by decide +kernel) rfl
theorem m18_6 : M18 6 [l0, l1, .val (.int v)] st H Q = M18 7 [l0, l1, .val (.int v)] (.int v :: st) H Q := w_x (show decode kb18 6 = .ok (.iload_n 2, 1) from by decide +kernel) rfl
theorem m18_7 : M18 7 ls (.int x :: st) H Q = if x = 0 then M18 10 ls st H Q else M18 12 ls st H Q := w_ifN (show decode kb18 7 = .ok (.ifCond .ne 5, 3) from by decide +kernel) (z_ne x) rfl
theorem m18_10 : M18 10 [l0, .val (.int v), l2] st H Q = M18 11 [l0, .val (.int v), l2] (.int v :: st) H Q := w_x (show decode kb18 10 = .ok (.iload_n 1, 1) from by decide +kernel) rfl
theorem m18_11 : M18 11 ls (.int z :: st) H Q = Q (some (.int z)) H := w_iret (show decode kb18 11 = .ok (.ireturn, 1) from by decide +kernel) rfl
theorem m18_12 : M18 12 [l0, .val (.int v), l2] st H Q = M18 13 [l0, .val (.int v), l2] (.int v :: st) H Q := w_x (show decode kb18 12 = .ok (.iload_n 1, 1) from by decide +kernel) rfl
theorem m18_13 : M18 13 [l0, l1, .val (.int v)] st H Q = M18 14 [l0, l1, .val (.int v)] (.int v :: st) H Q := w_x (show decode kb18 13 = .ok (.iload_n 2, 1) from by decide +kernel) rfl
theorem m18_14 : M18 14 ls (.int y :: .int x :: st) H Q = if x = y then M18 17 ls st H Q else M18 19 ls st H Q := w_icmpN (show decode kb18 14 = .ok (.if_icmp .ne 5, 3) from by decide +kernel) (i_ne x y) rfl
theorem m18_17 : M18 17 ls st H Q = M18 18 ls (.int 0 :: st) H Q := w_con (show decode kb18 17 = .ok (.iconst 0, 1) from by decide +kernel) rfl (by decide)
theorem m18_18 : M18 18 ls (.int z :: st) H Q = Q (some (.int z)) H := w_iret (show decode kb18 18 = .ok (.ireturn, 1) from by decide +kernel) rfl
theorem m18_19 : M18 19 [l0, .val (.int v), l2] st H Q = M18 20 [l0, .val (.int v), l2] (.int v :: st) H Q := w_x (show decode kb18 19 = .ok (.iload_n 1, 1) from by decide +kernel) rfl
theorem m18_20 : M18 20 ls st H Q = M18 21 ls (.int 1 :: st) H Q := w_con (show decode kb18 20 = .ok (.iconst 1, 1) from by decide +kernel) rfl (by decide)
theorem m18_21 : M18 21 ls (.int y :: .int x :: st) H Q = if x = y then M18 24 ls st H Q else M18 30 ls st H Q := w_icmpN (show decode kb18 21 = .ok (.if_icmp .ne 9, 3) from by decide +kernel) (i_ne x y) rfl
theorem m18_24 : M18 24 [.val (.ref r), l1, l2] st H Q = M18 25 [.val (.ref r), l1, l2] (.ref r :: st) H Q := w_x (show decode kb18 24 = .ok (.aload_n 0, 1) from by decide +kernel) rfl
theorem m18_25 : M18 25 [l0, l1, .val (.int v)] st H Q = M18 26 [l0, l1, .val (.int v)] (.int v :: st) H Q := w_x (show decode kb18 25 = .ok (.iload_n 2, 1) from by decide +kernel) rfl
theorem m18_30 : M18 30 [l0, l1, .val (.int v)] st H Q = M18 31 [l0, l1, .val (.int v)] (.int v :: st) H Q := w_x (show decode kb18 30 = .ok (.iload_n 2, 1) from by decide +kernel) rfl
theorem m18_31 : M18 31 ls st H Q = M18 32 ls (.int 1 :: st) H Q := w_con (show decode kb18 31 = .ok (.iconst 1, 1) from by decide +kernel) rfl (by decide)
theorem m18_32 : M18 32 ls (.int y :: .int x :: st) H Q = if x = y then M18 35 ls st H Q else M18 41 ls st H Q := w_icmpN (show decode kb18 32 = .ok (.if_icmp .ne 9, 3) from by decide +kernel) (i_ne x y) rfl
theorem m18_35 : M18 35 [.val (.ref r), l1, l2] st H Q = M18 36 [.val (.ref r), l1, l2] (.ref r :: st) H Q := w_x (show decode kb18 35 = .ok (.aload_n 0, 1) from by decide +kernel) rfl
theorem m18_36 : M18 36 [l0, .val (.int v), l2] st H Q = M18 37 [l0, .val (.int v), l2] (.int v :: st) H Q := w_x (show decode kb18 36 = .ok (.iload_n 1, 1) from by decide +kernel) rfl
theorem m18_41 : M18 41 [.val (.ref r), l1, l2] st H Q = M18 42 [.val (.ref r), l1, l2] (.ref r :: st) H Q := w_x (show decode kb18 41 = .ok (.aload_n 0, 1) from by decide +kernel) rfl
theorem m18_42 : M18 42 ls st H Q = M18 44 ls (.int 6 :: st) H Q := w_con (show decode kb18 42 = .ok (.bipush 6, 2) from by decide +kernel) rfl (by decide)
theorem m18_44 : M18 44 [l0, .val (.int v), l2] st H Q = M18 45 [l0, .val (.int v), l2] (.int v :: st) H Q := w_x (show decode kb18 44 = .ok (.iload_n 1, 1) from by decide +kernel) rfl
theorem m18_45 : M18 45 [l0, l1, .val (.int v)] st H Q = M18 46 [l0, l1, .val (.int v)] (.int v :: st) H Q := w_x (show decode kb18 45 = .ok (.iload_n 2, 1) from by decide +kernel) rfl
theorem cr18_119 : vR tables_1 dn y18 119 = some (true, y6, prog_1_method_20_code, 5, (some .int), 3, 0) := pR_of (cR_of (by decide +kernel) rc_6 dn_6 dn_18 (sig := ⟨[.int, .int, .int], some .int⟩) (by decide +kernel) (by decide +kernel) rfl rfl) (by decide +kernel) (by decide +kernel)
theorem m18_46 (a0 : Int32) (a1 : Int32) (a2 : Int32) : M18 46 ls [.int a2, .int a1, .int a0, .ref b] (put b pre s A L B post) Q = M6 0 [.val (.ref b), .val (.int a0), .val (.int a1), .val (.int a2), .unset] [] (put b pre s A L B post) (fun v H1 => M18 49 ls (v.toList ++ []) H1 Q) := w_virt (as := [.int a2, .int a1, .int a0]) (rest := []) (a := b) (show decode kb18 46 = .ok (.invokevirtual 119, 3) from by decide +kernel) cr18_119 put_o rfl rfl (Nat.le_of_ble_eq_true rfl) (by show 4 ≤ 5; omega) rfl
theorem m18_49 : M18 49 ls (.int z :: st) H Q = Q (some (.int z)) H := w_iret (show decode kb18 49 = .ok (.ireturn, 1) from by decide +kernel) rfl
theorem m19_0 : M19 0 [l0, .val (.int v), l2, l3, l4, l5, l6, l7, l8, l9, l10, l11] st H Q = M19 1 [l0, .val (.int v), l2, l3, l4, l5, l6, l7, l8, l9, l10, l11] (.int v :: st) H Q := w_x (show decode kb19 0 = .ok (.iload_n 1, 1) from by decide +kernel) rfl
theorem m19_1 : M19 1 ls st H Q = M19 3 ls (.int 32 :: st) H Q := w_con (show decode kb19 1 = .ok (.bipush 32, 2) from by decide +kernel) rfl (by decide)
theorem m19_3 : M19 3 ls (.int y :: .int x :: st) H Q = M19 4 ls (.int (x * y) :: st) H Q := w_x (show decode kb19 3 = .ok (.imul, 1) from by decide +kernel) rfl
theorem m19_4 : M19 4 [l0, l1, .val (.int v), l3, l4, l5, l6, l7, l8, l9, l10, l11] st H Q = M19 5 [l0, l1, .val (.int v), l3, l4, l5, l6, l7, l8, l9, l10, l11] (.int v :: st) H Q := w_x (show decode kb19 4 = .ok (.iload_n 2, 1) from by decide +kernel) rfl
theorem m19_5 : M19 5 ls (.int y :: .int x :: st) H Q = M19 6 ls (.int (x + y) :: st) H Q := w_x (show decode kb19 5 = .ok (.iadd, 1) from by decide +kernel) rfl
theorem m19_6u : M19 6 [l0, l1, l2, .unset, l4, l5, l6, l7, l8, l9, l10, l11] ((.int v) :: st) H Q = M19 7 [l0, l1, l2, .val (.int v), l4, l5, l6, l7, l8, l9, l10, l11] st H Q := w_st (i := 3) (p := isI) (show decode kb19 6 = .ok (.istore_n 3, 1) from by decide +kernel) rfl rfl rfl rfl rfl rfl
theorem m19_7 : M19 7 [l0, l1, l2, .val (.int v), l4, l5, l6, l7, l8, l9, l10, l11] st H Q = M19 8 [l0, l1, l2, .val (.int v), l4, l5, l6, l7, l8, l9, l10, l11] (.int v :: st) H Q := w_x (show decode kb19 7 = .ok (.iload_n 3, 1) from by decide +kernel) rfl
theorem m19_8 : M19 8 ls (.int x :: st) H Q = if x < 0 then M19 20 ls st H Q else M19 11 ls st H Q := w_if (show decode kb19 8 = .ok (.ifCond .lt 12, 3) from by decide +kernel) (z_lt x) rfl
theorem m19_11 : M19 11 [l0, l1, l2, .val (.int v), l4, l5, l6, l7, l8, l9, l10, l11] st H Q = M19 12 [l0, l1, l2, .val (.int v), l4, l5, l6, l7, l8, l9, l10, l11] (.int v :: st) H Q := w_x (show decode kb19 11 = .ok (.iload_n 3, 1) from by decide +kernel) rfl
theorem m19_12 : M19 12 ls st H Q = M19 13 ls (.int 2 :: st) H Q := w_con (show decode kb19 12 = .ok (.iconst 2, 1) from by decide +kernel) rfl (by decide)
theorem m19_13 : M19 13 ls (.int y :: .int x :: st) H Q = M19 14 ls (.int (x + y) :: st) H Q := w_x (show decode kb19 13 = .ok (.iadd, 1) from by decide +kernel) rfl
theorem m19_14 : M19 14 ls st H Q = M19 17 ls (.int 512 :: st) H Q := w_con (show decode kb19 14 = .ok (.sipush 512, 3) from by decide +kernel) rfl (by decide)
theorem m19_17 : M19 17 ls (.int y :: .int x :: st) H Q = if x < y then M19 21 ls st H Q else M19 20 ls st H Q := w_icmp (show decode kb19 17 = .ok (.if_icmp .lt 4, 3) from by decide +kernel) (i_lt x y) rfl
theorem m19_20 : M19 20 ls [] H Q = Q none H := w_vret (show decode kb19 20 = .ok (.return_, 1) from by decide +kernel) rfl
theorem m19_21 : M19 21 [.val (.ref r), l1, l2, l3, l4, l5, l6, l7, l8, l9, l10, l11] st H Q = M19 22 [.val (.ref r), l1, l2, l3, l4, l5, l6, l7, l8, l9, l10, l11] (.ref r :: st) H Q := w_x (show decode kb19 21 = .ok (.aload_n 0, 1) from by decide +kernel) rfl
theorem m19_22 : M19 22 ls (.ref b :: st) (put b pre s A L B post) Q = M19 25 ls (.ref (b + 5) :: st) (put b pre s A L B post) Q := w_get (show decode kb19 22 = .ok (.getfield 23, 3) from by decide +kernel) gf_23 put_o rfl
theorem m19_25 : M19 25 [l0, l1, l2, .val (.int v), l4, l5, l6, l7, l8, l9, l10, l11] st H Q = M19 26 [l0, l1, l2, .val (.int v), l4, l5, l6, l7, l8, l9, l10, l11] (.int v :: st) H Q := w_x (show decode kb19 25 = .ok (.iload_n 3, 1) from by decide +kernel) rfl
theorem m19_26  : M19 26 ls (.int j :: .ref (b + 5) :: st) (put b pre s A L B post) Q = (inB j (A 4) ∧ M19 27 ls (.int (getA (A 4) j) :: st) (put b pre s A L B post) Q) := w_ild (show decode kb19 26 = .ok (.iaload, 1) from by decide +kernel) rfl put_a4
theorem m19_27u : M19 27 [l0, l1, l2, l3, .unset, l5, l6, l7, l8, l9, l10, l11] ((.int v) :: st) H Q = M19 29 [l0, l1, l2, l3, .val (.int v), l5, l6, l7, l8, l9, l10, l11] st H Q := w_st (i := 4) (p := isI) (show decode kb19 27 = .ok (.istore 4, 2) from by decide +kernel) rfl rfl rfl rfl rfl rfl
theorem m19_29 : M19 29 [.val (.ref r), l1, l2, l3, l4, l5, l6, l7, l8, l9, l10, l11] st H Q = M19 30 [.val (.ref r), l1, l2, l3, l4, l5, l6, l7, l8, l9, l10, l11] (.ref r :: st) H Q := w_x (show decode kb19 29 = .ok (.aload_n 0, 1) from by decide +kernel) rfl
theorem m19_30 : M19 30 ls (.ref b :: st) (put b pre s A L B post) Q = M19 33 ls (.ref (b + 5) :: st) (put b pre s A L B post) Q := w_get (show decode kb19 30 = .ok (.getfield 23, 3) from by decide +kernel) gf_23 put_o rfl
theorem m19_33 : M19 33 [l0, l1, l2, .val (.int v), l4, l5, l6, l7, l8, l9, l10, l11] st H Q = M19 34 [l0, l1, l2, .val (.int v), l4, l5, l6, l7, l8, l9, l10, l11] (.int v :: st) H Q := w_x (show decode kb19 33 = .ok (.iload_n 3, 1) from by decide +kernel) rfl
theorem m19_34 : M19 34 ls st H Q = M19 35 ls (.int 1 :: st) H Q := w_con (show decode kb19 34 = .ok (.iconst 1, 1) from by decide +kernel) rfl (by decide)
theorem m19_35 : M19 35 ls (.int y :: .int x :: st) H Q = M19 36 ls (.int (x + y) :: st) H Q := w_x (show decode kb19 35 = .ok (.iadd, 1) from by decide +kernel) rfl
theorem m19_36  : M19 36 ls (.int j :: .ref (b + 5) :: st) (put b pre s A L B post) Q = (inB j (A 4) ∧ M19 37 ls (.int (getA (A 4) j) :: st) (put b pre s A L B post) Q) := w_ild (show decode kb19 36 = .ok (.iaload, 1) from by decide +kernel) rfl put_a4
theorem m19_37u : M19 37 [l0, l1, l2, l3, l4, .unset, l6, l7, l8, l9, l10, l11] ((.int v) :: st) H Q = M19 39 [l0, l1, l2, l3, l4, .val (.int v), l6, l7, l8, l9, l10, l11] st H Q := w_st (i := 5) (p := isI) (show decode kb19 37 = .ok (.istore 5, 2) from by decide +kernel) rfl rfl rfl rfl rfl rfl
theorem m19_39 : M19 39 [.val (.ref r), l1, l2, l3, l4, l5, l6, l7, l8, l9, l10, l11] st H Q = M19 40 [.val (.ref r), l1, l2, l3, l4, l5, l6, l7, l8, l9, l10, l11] (.ref r :: st) H Q := w_x (show decode kb19 39 = .ok (.aload_n 0, 1) from by decide +kernel) rfl
theorem m19_40 : M19 40 ls (.ref b :: st) (put b pre s A L B post) Q = M19 43 ls (.ref (b + 5) :: st) (put b pre s A L B post) Q := w_get (show decode kb19 40 = .ok (.getfield 23, 3) from by decide +kernel) gf_23 put_o rfl
theorem m19_43 : M19 43 [l0, l1, l2, .val (.int v), l4, l5, l6, l7, l8, l9, l10, l11] st H Q = M19 44 [l0, l1, l2, .val (.int v), l4, l5, l6, l7, l8, l9, l10, l11] (.int v :: st) H Q := w_x (show decode kb19 43 = .ok (.iload_n 3, 1) from by decide +kernel) rfl
theorem m19_44 : M19 44 ls st H Q = M19 45 ls (.int 2 :: st) H Q := w_con (show decode kb19 44 = .ok (.iconst 2, 1) from by decide +kernel) rfl (by decide)
theorem m19_45 : M19 45 ls (.int y :: .int x :: st) H Q = M19 46 ls (.int (x + y) :: st) H Q := w_x (show decode kb19 45 = .ok (.iadd, 1) from by decide +kernel) rfl
theorem m19_46  : M19 46 ls (.int j :: .ref (b + 5) :: st) (put b pre s A L B post) Q = (inB j (A 4) ∧ M19 47 ls (.int (getA (A 4) j) :: st) (put b pre s A L B post) Q) := w_ild (show decode kb19 46 = .ok (.iaload, 1) from by decide +kernel) rfl put_a4
theorem m19_47u : M19 47 [l0, l1, l2, l3, l4, l5, .unset, l7, l8, l9, l10, l11] ((.int v) :: st) H Q = M19 49 [l0, l1, l2, l3, l4, l5, .val (.int v), l7, l8, l9, l10, l11] st H Q := w_st (i := 6) (p := isI) (show decode kb19 47 = .ok (.istore 6, 2) from by decide +kernel) rfl rfl rfl rfl rfl rfl
theorem m19_49 : M19 49 [.val (.ref r), l1, l2, l3, l4, l5, l6, l7, l8, l9, l10, l11] st H Q = M19 50 [.val (.ref r), l1, l2, l3, l4, l5, l6, l7, l8, l9, l10, l11] (.ref r :: st) H Q := w_x (show decode kb19 49 = .ok (.aload_n 0, 1) from by decide +kernel) rfl
theorem m19_50 : M19 50 [l0, l1, l2, l3, .val (.int v), l5, l6, l7, l8, l9, l10, l11] st H Q = M19 52 [l0, l1, l2, l3, .val (.int v), l5, l6, l7, l8, l9, l10, l11] (.int v :: st) H Q := w_x (show decode kb19 50 = .ok (.iload 4, 2) from by decide +kernel) rfl
theorem m19_52 : M19 52 [l0, l1, l2, l3, l4, .val (.int v), l6, l7, l8, l9, l10, l11] st H Q = M19 54 [l0, l1, l2, l3, l4, .val (.int v), l6, l7, l8, l9, l10, l11] (.int v :: st) H Q := w_x (show decode kb19 52 = .ok (.iload 5, 2) from by decide +kernel) rfl
theorem cr19_155 : vR tables_1 dn y19 155 = some (true, y18, prog_1_method_24_code, 3, (some .int), 2, 0) := pR_of (cR_of (by decide +kernel) rc_18 dn_18 dn_19 (sig := ⟨[.int, .int], some .int⟩) (by decide +kernel) (by decide +kernel) rfl rfl) (by decide +kernel) (by decide +kernel)
theorem m19_54 (a0 : Int32) (a1 : Int32) : M19 54 ls [.int a1, .int a0, .ref b] (put b pre s A L B post) Q = M18 0 [.val (.ref b), .val (.int a0), .val (.int a1)] [] (put b pre s A L B post) (fun v H1 => M19 57 ls (v.toList ++ []) H1 Q) := w_virt (as := [.int a1, .int a0]) (rest := []) (a := b) (show decode kb19 54 = .ok (.invokevirtual 155, 3) from by decide +kernel) cr19_155 put_o rfl rfl (Nat.le_of_ble_eq_true rfl) (by show 3 ≤ 3; omega) rfl
theorem m19_57u : M19 57 [l0, l1, l2, l3, l4, l5, l6, .unset, l8, l9, l10, l11] ((.int v) :: st) H Q = M19 59 [l0, l1, l2, l3, l4, l5, l6, .val (.int v), l8, l9, l10, l11] st H Q := w_st (i := 7) (p := isI) (show decode kb19 57 = .ok (.istore 7, 2) from by decide +kernel) rfl rfl rfl rfl rfl rfl
theorem m19_59 : M19 59 [.val (.ref r), l1, l2, l3, l4, l5, l6, l7, l8, l9, l10, l11] st H Q = M19 60 [.val (.ref r), l1, l2, l3, l4, l5, l6, l7, l8, l9, l10, l11] (.ref r :: st) H Q := w_x (show decode kb19 59 = .ok (.aload_n 0, 1) from by decide +kernel) rfl
theorem m19_60 : M19 60 [l0, l1, l2, l3, l4, l5, l6, .val (.int v), l8, l9, l10, l11] st H Q = M19 62 [l0, l1, l2, l3, l4, l5, l6, .val (.int v), l8, l9, l10, l11] (.int v :: st) H Q := w_x (show decode kb19 60 = .ok (.iload 7, 2) from by decide +kernel) rfl
theorem m19_62 : M19 62 [l0, l1, l2, l3, l4, l5, .val (.int v), l7, l8, l9, l10, l11] st H Q = M19 64 [l0, l1, l2, l3, l4, l5, .val (.int v), l7, l8, l9, l10, l11] (.int v :: st) H Q := w_x (show decode kb19 62 = .ok (.iload 6, 2) from by decide +kernel) rfl
theorem m19_64 (a0 : Int32) (a1 : Int32) : M19 64 ls [.int a1, .int a0, .ref b] (put b pre s A L B post) Q = M18 0 [.val (.ref b), .val (.int a0), .val (.int a1)] [] (put b pre s A L B post) (fun v H1 => M19 67 ls (v.toList ++ []) H1 Q) := w_virt (as := [.int a1, .int a0]) (rest := []) (a := b) (show decode kb19 64 = .ok (.invokevirtual 155, 3) from by decide +kernel) cr19_155 put_o rfl rfl (Nat.le_of_ble_eq_true rfl) (by show 3 ≤ 3; omega) rfl
theorem m19_67u : M19 67 [l0, l1, l2, l3, l4, l5, l6, l7, .unset, l9, l10, l11] ((.int v) :: st) H Q = M19 69 [l0, l1, l2, l3, l4, l5, l6, l7, .val (.int v), l9, l10, l11] st H Q := w_st (i := 8) (p := isI) (show decode kb19 67 = .ok (.istore 8, 2) from by decide +kernel) rfl rfl rfl rfl rfl rfl
theorem m19_69 : M19 69 [.val (.ref r), l1, l2, l3, l4, l5, l6, l7, l8, l9, l10, l11] st H Q = M19 70 [.val (.ref r), l1, l2, l3, l4, l5, l6, l7, l8, l9, l10, l11] (.ref r :: st) H Q := w_x (show decode kb19 69 = .ok (.aload_n 0, 1) from by decide +kernel) rfl
theorem m19_70 : M19 70 [l0, l1, l2, l3, .val (.int v), l5, l6, l7, l8, l9, l10, l11] st H Q = M19 72 [l0, l1, l2, l3, .val (.int v), l5, l6, l7, l8, l9, l10, l11] (.int v :: st) H Q := w_x (show decode kb19 70 = .ok (.iload 4, 2) from by decide +kernel) rfl
theorem m19_72 : M19 72 [l0, l1, l2, l3, l4, .val (.int v), l6, l7, l8, l9, l10, l11] st H Q = M19 74 [l0, l1, l2, l3, l4, .val (.int v), l6, l7, l8, l9, l10, l11] (.int v :: st) H Q := w_x (show decode kb19 72 = .ok (.iload 5, 2) from by decide +kernel) rfl
theorem cr19_148 : vR tables_1 dn y19 148 = some (true, y10, prog_1_method_22_code, 3, (some .int), 2, 0) := pR_of (cR_of (by decide +kernel) rc_10 dn_10 dn_19 (sig := ⟨[.int, .int], some .int⟩) (by decide +kernel) (by decide +kernel) rfl rfl) (by decide +kernel) (by decide +kernel)
theorem m19_74 (a0 : Int32) (a1 : Int32) : M19 74 ls [.int a1, .int a0, .ref b] (put b pre s A L B post) Q = M10 0 [.val (.ref b), .val (.int a0), .val (.int a1)] [] (put b pre s A L B post) (fun v H1 => M19 77 ls (v.toList ++ []) H1 Q) := w_virt (as := [.int a1, .int a0]) (rest := []) (a := b) (show decode kb19 74 = .ok (.invokevirtual 148, 3) from by decide +kernel) cr19_148 put_o rfl rfl (Nat.le_of_ble_eq_true rfl) (by show 3 ≤ 3; omega) rfl
theorem m19_77u : M19 77 [l0, l1, l2, l3, l4, l5, l6, l7, l8, .unset, l10, l11] ((.int v) :: st) H Q = M19 79 [l0, l1, l2, l3, l4, l5, l6, l7, l8, .val (.int v), l10, l11] st H Q := w_st (i := 9) (p := isI) (show decode kb19 77 = .ok (.istore 9, 2) from by decide +kernel) rfl rfl rfl rfl rfl rfl
theorem m19_79 : M19 79 [.val (.ref r), l1, l2, l3, l4, l5, l6, l7, l8, l9, l10, l11] st H Q = M19 80 [.val (.ref r), l1, l2, l3, l4, l5, l6, l7, l8, l9, l10, l11] (.ref r :: st) H Q := w_x (show decode kb19 79 = .ok (.aload_n 0, 1) from by decide +kernel) rfl
theorem m19_80 : M19 80 [l0, l1, l2, l3, l4, l5, l6, .val (.int v), l8, l9, l10, l11] st H Q = M19 82 [l0, l1, l2, l3, l4, l5, l6, .val (.int v), l8, l9, l10, l11] (.int v :: st) H Q := w_x (show decode kb19 80 = .ok (.iload 7, 2) from by decide +kernel) rfl
theorem m19_82 : M19 82 [l0, l1, l2, l3, l4, l5, .val (.int v), l7, l8, l9, l10, l11] st H Q = M19 84 [l0, l1, l2, l3, l4, l5, .val (.int v), l7, l8, l9, l10, l11] (.int v :: st) H Q := w_x (show decode kb19 82 = .ok (.iload 6, 2) from by decide +kernel) rfl
theorem m19_84 (a0 : Int32) (a1 : Int32) : M19 84 ls [.int a1, .int a0, .ref b] (put b pre s A L B post) Q = M10 0 [.val (.ref b), .val (.int a0), .val (.int a1)] [] (put b pre s A L B post) (fun v H1 => M19 87 ls (v.toList ++ []) H1 Q) := w_virt (as := [.int a1, .int a0]) (rest := []) (a := b) (show decode kb19 84 = .ok (.invokevirtual 148, 3) from by decide +kernel) cr19_148 put_o rfl rfl (Nat.le_of_ble_eq_true rfl) (by show 3 ≤ 3; omega) rfl
theorem m19_87u : M19 87 [l0, l1, l2, l3, l4, l5, l6, l7, l8, l9, .unset, l11] ((.int v) :: st) H Q = M19 89 [l0, l1, l2, l3, l4, l5, l6, l7, l8, l9, .val (.int v), l11] st H Q := w_st (i := 10) (p := isI) (show decode kb19 87 = .ok (.istore 10, 2) from by decide +kernel) rfl rfl rfl rfl rfl rfl
theorem m19_89 : M19 89 [.val (.ref r), l1, l2, l3, l4, l5, l6, l7, l8, l9, l10, l11] st H Q = M19 90 [.val (.ref r), l1, l2, l3, l4, l5, l6, l7, l8, l9, l10, l11] (.ref r :: st) H Q := w_x (show decode kb19 89 = .ok (.aload_n 0, 1) from by decide +kernel) rfl
theorem m19_90 : M19 90 [l0, l1, l2, l3, l4, l5, l6, l7, l8, .val (.int v), l10, l11] st H Q = M19 92 [l0, l1, l2, l3, l4, l5, l6, l7, l8, .val (.int v), l10, l11] (.int v :: st) H Q := w_x (show decode kb19 90 = .ok (.iload 9, 2) from by decide +kernel) rfl
theorem m19_92 : M19 92 [l0, l1, l2, l3, l4, l5, l6, l7, l8, l9, .val (.int v), l11] st H Q = M19 94 [l0, l1, l2, l3, l4, l5, l6, l7, l8, l9, .val (.int v), l11] (.int v :: st) H Q := w_x (show decode kb19 92 = .ok (.iload 10, 2) from by decide +kernel) rfl
theorem cr19_158 : vR tables_1 dn y19 158 = some (true, y20, prog_1_method_23_code, 3, (some .int), 2, 0) := pR_of (cR_of (by decide +kernel) rc_20 dn_20 dn_19 (sig := ⟨[.int, .int], some .int⟩) (by decide +kernel) (by decide +kernel) rfl rfl) (by decide +kernel) (by decide +kernel)
theorem m19_94 (a0 : Int32) (a1 : Int32) : M19 94 ls [.int a1, .int a0, .ref b] (put b pre s A L B post) Q = M20 0 [.val (.ref b), .val (.int a0), .val (.int a1)] [] (put b pre s A L B post) (fun v H1 => M19 97 ls (v.toList ++ []) H1 Q) := w_virt (as := [.int a1, .int a0]) (rest := []) (a := b) (show decode kb19 94 = .ok (.invokevirtual 158, 3) from by decide +kernel) cr19_158 put_o rfl rfl (Nat.le_of_ble_eq_true rfl) (by show 3 ≤ 3; omega) rfl
theorem m19_97u : M19 97 [l0, l1, l2, l3, l4, l5, l6, l7, l8, l9, l10, .unset] ((.int v) :: st) H Q = M19 99 [l0, l1, l2, l3, l4, l5, l6, l7, l8, l9, l10, .val (.int v)] st H Q := w_st (i := 11) (p := isI) (show decode kb19 97 = .ok (.istore 11, 2) from by decide +kernel) rfl rfl rfl rfl rfl rfl
theorem m19_99 : M19 99 [.val (.ref r), l1, l2, l3, l4, l5, l6, l7, l8, l9, l10, l11] st H Q = M19 100 [.val (.ref r), l1, l2, l3, l4, l5, l6, l7, l8, l9, l10, l11] (.ref r :: st) H Q := w_x (show decode kb19 99 = .ok (.aload_n 0, 1) from by decide +kernel) rfl
theorem m19_100 : M19 100 [l0, .val (.int v), l2, l3, l4, l5, l6, l7, l8, l9, l10, l11] st H Q = M19 101 [l0, .val (.int v), l2, l3, l4, l5, l6, l7, l8, l9, l10, l11] (.int v :: st) H Q := w_x (show decode kb19 100 = .ok (.iload_n 1, 1) from by decide +kernel) rfl
theorem m19_101 : M19 101 [l0, l1, l2, l3, l4, l5, l6, l7, .val (.int v), l9, l10, l11] st H Q = M19 103 [l0, l1, l2, l3, l4, l5, l6, l7, .val (.int v), l9, l10, l11] (.int v :: st) H Q := w_x (show decode kb19 101 = .ok (.iload 8, 2) from by decide +kernel) rfl
theorem cr19_176 : vR tables_1 dn y19 176 = some (true, y16, prog_1_method_28_code, 4, none, 2, 15) := pR_of (cR_of (by decide +kernel) rc_16 dn_16 dn_19 (sig := ⟨[.int, .int], none⟩) (by decide +kernel) (by decide +kernel) rfl rfl) (by decide +kernel) (by decide +kernel)
theorem m19_103 (a0 : Int32) (a1 : Int32) : M19 103 ls [.int a1, .int a0, .ref b] (put b pre s A L B post) Q = M16 0 [.val (.ref b), .val (.int a0), .val (.int a1), .unset] [] (put b pre s A L B post) (fun v H1 => M19 106 ls (v.toList ++ []) H1 Q) := w_virt (as := [.int a1, .int a0]) (rest := []) (a := b) (show decode kb19 103 = .ok (.invokevirtual 176, 3) from by decide +kernel) cr19_176 put_o rfl rfl (Nat.le_of_ble_eq_true rfl) (by show 3 ≤ 4; omega) rfl
theorem m19_106 : M19 106 [l0, .val (.int v), l2, l3, l4, l5, l6, l7, l8, l9, l10, l11] st H Q = M19 107 [l0, .val (.int v), l2, l3, l4, l5, l6, l7, l8, l9, l10, l11] (.int v :: st) H Q := w_x (show decode kb19 106 = .ok (.iload_n 1, 1) from by decide +kernel) rfl
theorem m19_107 : M19 107 ls st H Q = M19 108 ls (.int 1 :: st) H Q := w_con (show decode kb19 107 = .ok (.iconst 1, 1) from by decide +kernel) rfl (by decide)
theorem m19_108 : M19 108 ls (.int y :: .int x :: st) H Q = M19 109 ls (.int (x + y) :: st) H Q := w_x (show decode kb19 108 = .ok (.iadd, 1) from by decide +kernel) rfl
theorem m19_109 : M19 109 [.val (.ref r), l1, l2, l3, l4, l5, l6, l7, l8, l9, l10, l11] st H Q = M19 110 [.val (.ref r), l1, l2, l3, l4, l5, l6, l7, l8, l9, l10, l11] (.ref r :: st) H Q := w_x (show decode kb19 109 = .ok (.aload_n 0, 1) from by decide +kernel) rfl
theorem m19_110 : M19 110 ls (.ref b :: st) (put b pre s A L B post) Q = M19 113 ls (.int (s 14) :: st) (put b pre s A L B post) Q := w_get (show decode kb19 110 = .ok (.getfield 126, 3) from by decide +kernel) gf_126 put_o rfl
theorem m19_113 : M19 113 ls (.int y :: .int x :: st) H Q = if x < y then M19 116 ls st H Q else M19 125 ls st H Q := w_icmpN (show decode kb19 113 = .ok (.if_icmp .ge 12, 3) from by decide +kernel) (i_ge x y) rfl
theorem m19_116 : M19 116 [.val (.ref r), l1, l2, l3, l4, l5, l6, l7, l8, l9, l10, l11] st H Q = M19 117 [.val (.ref r), l1, l2, l3, l4, l5, l6, l7, l8, l9, l10, l11] (.ref r :: st) H Q := w_x (show decode kb19 116 = .ok (.aload_n 0, 1) from by decide +kernel) rfl
theorem m19_117 : M19 117 [l0, .val (.int v), l2, l3, l4, l5, l6, l7, l8, l9, l10, l11] st H Q = M19 118 [l0, .val (.int v), l2, l3, l4, l5, l6, l7, l8, l9, l10, l11] (.int v :: st) H Q := w_x (show decode kb19 117 = .ok (.iload_n 1, 1) from by decide +kernel) rfl
theorem m19_118 : M19 118 ls st H Q = M19 119 ls (.int 1 :: st) H Q := w_con (show decode kb19 118 = .ok (.iconst 1, 1) from by decide +kernel) rfl (by decide)
theorem m19_119 : M19 119 ls (.int y :: .int x :: st) H Q = M19 120 ls (.int (x + y) :: st) H Q := w_x (show decode kb19 119 = .ok (.iadd, 1) from by decide +kernel) rfl
theorem m19_120 : M19 120 [l0, l1, l2, l3, l4, l5, l6, l7, l8, l9, l10, .val (.int v)] st H Q = M19 122 [l0, l1, l2, l3, l4, l5, l6, l7, l8, l9, l10, .val (.int v)] (.int v :: st) H Q := w_x (show decode kb19 120 = .ok (.iload 11, 2) from by decide +kernel) rfl
theorem m19_122 (a0 : Int32) (a1 : Int32) : M19 122 ls [.int a1, .int a0, .ref b] (put b pre s A L B post) Q = M16 0 [.val (.ref b), .val (.int a0), .val (.int a1), .unset] [] (put b pre s A L B post) (fun v H1 => M19 125 ls (v.toList ++ []) H1 Q) := w_virt (as := [.int a1, .int a0]) (rest := []) (a := b) (show decode kb19 122 = .ok (.invokevirtual 176, 3) from by decide +kernel) cr19_176 put_o rfl rfl (Nat.le_of_ble_eq_true rfl) (by show 3 ≤ 4; omega) rfl
theorem m19_125 : M19 125 ls [] H Q = Q none H := w_vret (show decode kb19 125 = .ok (.return_, 1) from by decide +kernel) rfl
theorem m20_0 : M20 0 [l0, .val (.int v), l2] st H Q = M20 1 [l0, .val (.int v), l2] (.int v :: st) H Q := w_x (show decode kb20 0 = .ok (.iload_n 1, 1) from by decide +kernel) rfl
theorem m20_1 : M20 1 ls st H Q = M20 2 ls (.int 1 :: st) H Q := w_con (show decode kb20 1 = .ok (.iconst 1, 1) from by decide +kernel) rfl (by decide)
theorem m20_2 : M20 2 ls (.int y :: .int x :: st) H Q = if x = y then M20 10 ls st H Q else M20 5 ls st H Q := w_icmp (show decode kb20 2 = .ok (.if_icmp .eq 8, 3) from by decide +kernel) (i_eq x y) rfl
theorem m20_5 : M20 5 [l0, l1, .val (.int v)] st H Q = M20 6 [l0, l1, .val (.int v)] (.int v :: st) H Q := w_x (show decode kb20 5 = .ok (.iload_n 2, 1) from by decide +kernel) rfl
theorem m20_6 : M20 6 ls st H Q = M20 7 ls (.int 1 :: st) H Q := w_con (show decode kb20 6 = .ok (.iconst 1, 1) from by decide +kernel) rfl (by decide)
theorem m20_7 : M20 7 ls (.int y :: .int x :: st) H Q = if x = y then M20 10 ls st H Q else M20 12 ls st H Q := w_icmpN (show decode kb20 7 = .ok (.if_icmp .ne 5, 3) from by decide +kernel) (i_ne x y) rfl
theorem m20_10 : M20 10 ls st H Q = M20 11 ls (.int 1 :: st) H Q := w_con (show decode kb20 10 = .ok (.iconst 1, 1) from by decide +kernel) rfl (by decide)
theorem m20_11 : M20 11 ls (.int z :: st) H Q = Q (some (.int z)) H := w_iret (show decode kb20 11 = .ok (.ireturn, 1) from by decide +kernel) rfl
theorem m20_12 : M20 12 [l0, .val (.int v), l2] st H Q = M20 13 [l0, .val (.int v), l2] (.int v :: st) H Q := w_x (show decode kb20 12 = .ok (.iload_n 1, 1) from by decide +kernel) rfl
theorem m20_13 : M20 13 ls (.int x :: st) H Q = if x = 0 then M20 16 ls st H Q else M20 18 ls st H Q := w_ifN (show decode kb20 13 = .ok (.ifCond .ne 5, 3) from by decide +kernel) (z_ne x) rfl
theorem m20_16 : M20 16 [l0, l1, .val (.int v)] st H Q = M20 17 [l0, l1, .val (.int v)] (.int v :: st) H Q := w_x (show decode kb20 16 = .ok (.iload_n 2, 1) from by decide +kernel) rfl
theorem m20_17 : M20 17 ls (.int z :: st) H Q = Q (some (.int z)) H := w_iret (show decode kb20 17 = .ok (.ireturn, 1) from by decide +kernel) rfl
theorem m20_18 : M20 18 [l0, l1, .val (.int v)] st H Q = M20 19 [l0, l1, .val (.int v)] (.int v :: st) H Q := w_x (show decode kb20 18 = .ok (.iload_n 2, 1) from by decide +kernel) rfl
theorem m20_19 : M20 19 ls (.int x :: st) H Q = if x = 0 then M20 27 ls st H Q else M20 22 ls st H Q := w_if (show decode kb20 19 = .ok (.ifCond .eq 8, 3) from by decide +kernel) (z_eq x) rfl
theorem m20_22 : M20 22 [l0, .val (.int v), l2] st H Q = M20 23 [l0, .val (.int v), l2] (.int v :: st) H Q := w_x (show decode kb20 22 = .ok (.iload_n 1, 1) from by decide +kernel) rfl
theorem m20_23 : M20 23 [l0, l1, .val (.int v)] st H Q = M20 24 [l0, l1, .val (.int v)] (.int v :: st) H Q := w_x (show decode kb20 23 = .ok (.iload_n 2, 1) from by decide +kernel) rfl
theorem m20_24 : M20 24 ls (.int y :: .int x :: st) H Q = if x = y then M20 27 ls st H Q else M20 29 ls st H Q := w_icmpN (show decode kb20 24 = .ok (.if_icmp .ne 5, 3) from by decide +kernel) (i_ne x y) rfl
theorem m20_27 : M20 27 [l0, .val (.int v), l2] st H Q = M20 28 [l0, .val (.int v), l2] (.int v :: st) H Q := w_x (show decode kb20 27 = .ok (.iload_n 1, 1) from by decide +kernel) rfl
theorem m20_28 : M20 28 ls (.int z :: st) H Q = Q (some (.int z)) H := w_iret (show decode kb20 28 = .ok (.ireturn, 1) from by decide +kernel) rfl
theorem m20_29 : M20 29 [.val (.ref r), l1, l2] st H Q = M20 30 [.val (.ref r), l1, l2] (.ref r :: st) H Q := w_x (show decode kb20 29 = .ok (.aload_n 0, 1) from by decide +kernel) rfl
theorem m20_30 : M20 30 ls st H Q = M20 31 ls (.int 5 :: st) H Q := w_con (show decode kb20 30 = .ok (.iconst 5, 1) from by decide +kernel) rfl (by decide)
theorem m20_31 : M20 31 [l0, .val (.int v), l2] st H Q = M20 32 [l0, .val (.int v), l2] (.int v :: st) H Q := w_x (show decode kb20 31 = .ok (.iload_n 1, 1) from by decide +kernel) rfl
theorem m20_32 : M20 32 [l0, l1, .val (.int v)] st H Q = M20 33 [l0, l1, .val (.int v)] (.int v :: st) H Q := w_x (show decode kb20 32 = .ok (.iload_n 2, 1) from by decide +kernel) rfl
theorem cr20_119 : vR tables_1 dn y20 119 = some (true, y6, prog_1_method_20_code, 5, (some .int), 3, 0) := pR_of (cR_of (by decide +kernel) rc_6 dn_6 dn_20 (sig := ⟨[.int, .int, .int], some .int⟩) (by decide +kernel) (by decide +kernel) rfl rfl) (by decide +kernel) (by decide +kernel)
theorem m20_33 (a0 : Int32) (a1 : Int32) (a2 : Int32) : M20 33 ls [.int a2, .int a1, .int a0, .ref b] (put b pre s A L B post) Q = M6 0 [.val (.ref b), .val (.int a0), .val (.int a1), .val (.int a2), .unset] [] (put b pre s A L B post) (fun v H1 => M20 36 ls (v.toList ++ []) H1 Q) := w_virt (as := [.int a2, .int a1, .int a0]) (rest := []) (a := b) (show decode kb20 33 = .ok (.invokevirtual 119, 3) from by decide +kernel) cr20_119 put_o rfl rfl (Nat.le_of_ble_eq_true rfl) (by show 4 ≤ 5; omega) rfl
theorem m20_36 : M20 36 ls (.int z :: st) H Q = Q (some (.int z)) H := w_iret (show decode kb20 36 = .ok (.ireturn, 1) from by decide +kernel) rfl
theorem m21_0 : M21 0 ls st H Q = M21 1 ls (.int 0 :: st) H Q := w_con (show decode kb21 0 = .ok (.iconst 0, 1) from by decide +kernel) rfl (by decide)
theorem m21_1u : M21 1 [l0, .unset, l2, l3, l4] ((.int v) :: st) H Q = M21 2 [l0, .val (.int v), l2, l3, l4] st H Q := w_st (i := 1) (p := isI) (show decode kb21 1 = .ok (.istore_n 1, 1) from by decide +kernel) rfl rfl rfl rfl rfl rfl
theorem m21_2 : M21 2 [l0, .val (.int v), l2, l3, l4] st H Q = M21 3 [l0, .val (.int v), l2, l3, l4] (.int v :: st) H Q := w_x (show decode kb21 2 = .ok (.iload_n 1, 1) from by decide +kernel) rfl
theorem m21_3 : M21 3 [.val (.ref r), l1, l2, l3, l4] st H Q = M21 4 [.val (.ref r), l1, l2, l3, l4] (.ref r :: st) H Q := w_x (show decode kb21 3 = .ok (.aload_n 0, 1) from by decide +kernel) rfl
theorem m21_4 : M21 4 ls (.ref b :: st) (put b pre s A L B post) Q = M21 7 ls (.int (s 14) :: st) (put b pre s A L B post) Q := w_get (show decode kb21 4 = .ok (.getfield 126, 3) from by decide +kernel) gf_126 put_o rfl
theorem m21_7 : M21 7 ls (.int y :: .int x :: st) H Q = if x < y then M21 10 ls st H Q else M21 102 ls st H Q := w_icmpN (show decode kb21 7 = .ok (.if_icmp .ge 95, 3) from by decide +kernel) (i_ge x y) rfl
theorem m21_10 : M21 10 [.val (.ref r), l1, l2, l3, l4] st H Q = M21 11 [.val (.ref r), l1, l2, l3, l4] (.ref r :: st) H Q := w_x (show decode kb21 10 = .ok (.aload_n 0, 1) from by decide +kernel) rfl
theorem m21_11 : M21 11 ls (.ref b :: st) (put b pre s A L B post) Q = M21 14 ls (.ref (b + 7) :: st) (put b pre s A L B post) Q := w_get (show decode kb21 11 = .ok (.getfield 29, 3) from by decide +kernel) gf_29 put_o rfl
theorem m21_14 : M21 14 [l0, .val (.int v), l2, l3, l4] st H Q = M21 15 [l0, .val (.int v), l2, l3, l4] (.int v :: st) H Q := w_x (show decode kb21 14 = .ok (.iload_n 1, 1) from by decide +kernel) rfl
theorem m21_15  : M21 15 ls (.int j :: .ref (b + 7) :: st) (put b pre s A L B post) Q = (inB j (A 6) ∧ M21 16 ls (.int (getA (A 6) j) :: st) (put b pre s A L B post) Q) := w_ild (show decode kb21 15 = .ok (.iaload, 1) from by decide +kernel) rfl put_a6
theorem m21_16 : M21 16 ls st H Q = M21 17 ls (.int 1 :: st) H Q := w_con (show decode kb21 16 = .ok (.iconst 1, 1) from by decide +kernel) rfl (by decide)
theorem m21_17 : M21 17 ls (.int y :: .int x :: st) H Q = if x < y then M21 32 ls st H Q else M21 20 ls st H Q := w_icmp (show decode kb21 17 = .ok (.if_icmp .lt 15, 3) from by decide +kernel) (i_lt x y) rfl
theorem m21_20 : M21 20 [.val (.ref r), l1, l2, l3, l4] st H Q = M21 21 [.val (.ref r), l1, l2, l3, l4] (.ref r :: st) H Q := w_x (show decode kb21 20 = .ok (.aload_n 0, 1) from by decide +kernel) rfl
theorem m21_21 : M21 21 ls (.ref b :: st) (put b pre s A L B post) Q = M21 24 ls (.ref (b + 5) :: st) (put b pre s A L B post) Q := w_get (show decode kb21 21 = .ok (.getfield 23, 3) from by decide +kernel) gf_23 put_o rfl
theorem m21_24 : M21 24 [l0, .val (.int v), l2, l3, l4] st H Q = M21 25 [l0, .val (.int v), l2, l3, l4] (.int v :: st) H Q := w_x (show decode kb21 24 = .ok (.iload_n 1, 1) from by decide +kernel) rfl
theorem m21_25 : M21 25 ls st H Q = M21 27 ls (.int 32 :: st) H Q := w_con (show decode kb21 25 = .ok (.bipush 32, 2) from by decide +kernel) rfl (by decide)
theorem m21_27 : M21 27 ls (.int y :: .int x :: st) H Q = M21 28 ls (.int (x * y) :: st) H Q := w_x (show decode kb21 27 = .ok (.imul, 1) from by decide +kernel) rfl
theorem m21_28  : M21 28 ls (.int j :: .ref (b + 5) :: st) (put b pre s A L B post) Q = (inB j (A 4) ∧ M21 29 ls (.int (getA (A 4) j) :: st) (put b pre s A L B post) Q) := w_ild (show decode kb21 28 = .ok (.iaload, 1) from by decide +kernel) rfl put_a4
theorem m21_29 : M21 29 ls st H Q = M21 33 ls st H Q := w_x (show decode kb21 29 = .ok (.goto 4, 3) from by decide +kernel) rfl
theorem m21_32 : M21 32 ls st H Q = M21 33 ls (.int 0 :: st) H Q := w_con (show decode kb21 32 = .ok (.iconst 0, 1) from by decide +kernel) rfl (by decide)
theorem m21_33u : M21 33 [l0, l1, .unset, l3, l4] ((.int v) :: st) H Q = M21 34 [l0, l1, .val (.int v), l3, l4] st H Q := w_st (i := 2) (p := isI) (show decode kb21 33 = .ok (.istore_n 2, 1) from by decide +kernel) rfl rfl rfl rfl rfl rfl
theorem m21_33i : M21 33 [l0, l1, .val (.int z), l3, l4] ((.int v) :: st) H Q = M21 34 [l0, l1, .val (.int v), l3, l4] st H Q := w_st (i := 2) (p := isI) (show decode kb21 33 = .ok (.istore_n 2, 1) from by decide +kernel) rfl rfl rfl rfl rfl rfl
theorem m21_33r : M21 33 [l0, l1, .val (.ref q), l3, l4] ((.int v) :: st) H Q = M21 34 [l0, l1, .val (.int v), l3, l4] st H Q := w_st (i := 2) (p := isI) (show decode kb21 33 = .ok (.istore_n 2, 1) from by decide +kernel) rfl rfl rfl rfl rfl rfl
theorem m21_33g (h : okS l2) : M21 33 [l0, l1, l2, l3, l4] ((.int v) :: st) H Q = M21 34 [l0, l1, .val (.int v), l3, l4] st H Q := by rcases h with rfl | ⟨z, rfl⟩ <;> first | exact m21_33u | exact m21_33i
theorem m21_34 : M21 34 [.val (.ref r), l1, l2, l3, l4] st H Q = M21 35 [.val (.ref r), l1, l2, l3, l4] (.ref r :: st) H Q := w_x (show decode kb21 34 = .ok (.aload_n 0, 1) from by decide +kernel) rfl
theorem m21_35 : M21 35 ls (.ref b :: st) (put b pre s A L B post) Q = M21 38 ls (.ref (b + 7) :: st) (put b pre s A L B post) Q := w_get (show decode kb21 35 = .ok (.getfield 29, 3) from by decide +kernel) gf_29 put_o rfl
theorem m21_38 : M21 38 [l0, .val (.int v), l2, l3, l4] st H Q = M21 39 [l0, .val (.int v), l2, l3, l4] (.int v :: st) H Q := w_x (show decode kb21 38 = .ok (.iload_n 1, 1) from by decide +kernel) rfl
theorem m21_39  : M21 39 ls (.int j :: .ref (b + 7) :: st) (put b pre s A L B post) Q = (inB j (A 6) ∧ M21 40 ls (.int (getA (A 6) j) :: st) (put b pre s A L B post) Q) := w_ild (show decode kb21 39 = .ok (.iaload, 1) from by decide +kernel) rfl put_a6
theorem m21_40 : M21 40 ls st H Q = M21 41 ls (.int 2 :: st) H Q := w_con (show decode kb21 40 = .ok (.iconst 2, 1) from by decide +kernel) rfl (by decide)
theorem m21_41 : M21 41 ls (.int y :: .int x :: st) H Q = if x < y then M21 58 ls st H Q else M21 44 ls st H Q := w_icmp (show decode kb21 41 = .ok (.if_icmp .lt 17, 3) from by decide +kernel) (i_lt x y) rfl
theorem m21_44 : M21 44 [.val (.ref r), l1, l2, l3, l4] st H Q = M21 45 [.val (.ref r), l1, l2, l3, l4] (.ref r :: st) H Q := w_x (show decode kb21 44 = .ok (.aload_n 0, 1) from by decide +kernel) rfl
theorem m21_45 : M21 45 ls (.ref b :: st) (put b pre s A L B post) Q = M21 48 ls (.ref (b + 5) :: st) (put b pre s A L B post) Q := w_get (show decode kb21 45 = .ok (.getfield 23, 3) from by decide +kernel) gf_23 put_o rfl
theorem m21_48 : M21 48 [l0, .val (.int v), l2, l3, l4] st H Q = M21 49 [l0, .val (.int v), l2, l3, l4] (.int v :: st) H Q := w_x (show decode kb21 48 = .ok (.iload_n 1, 1) from by decide +kernel) rfl
theorem m21_49 : M21 49 ls st H Q = M21 51 ls (.int 32 :: st) H Q := w_con (show decode kb21 49 = .ok (.bipush 32, 2) from by decide +kernel) rfl (by decide)
theorem m21_51 : M21 51 ls (.int y :: .int x :: st) H Q = M21 52 ls (.int (x * y) :: st) H Q := w_x (show decode kb21 51 = .ok (.imul, 1) from by decide +kernel) rfl
theorem m21_52 : M21 52 ls st H Q = M21 53 ls (.int 1 :: st) H Q := w_con (show decode kb21 52 = .ok (.iconst 1, 1) from by decide +kernel) rfl (by decide)
theorem m21_53 : M21 53 ls (.int y :: .int x :: st) H Q = M21 54 ls (.int (x + y) :: st) H Q := w_x (show decode kb21 53 = .ok (.iadd, 1) from by decide +kernel) rfl
theorem m21_54  : M21 54 ls (.int j :: .ref (b + 5) :: st) (put b pre s A L B post) Q = (inB j (A 4) ∧ M21 55 ls (.int (getA (A 4) j) :: st) (put b pre s A L B post) Q) := w_ild (show decode kb21 54 = .ok (.iaload, 1) from by decide +kernel) rfl put_a4
theorem m21_55 : M21 55 ls st H Q = M21 59 ls st H Q := w_x (show decode kb21 55 = .ok (.goto 4, 3) from by decide +kernel) rfl
theorem m21_58 : M21 58 ls st H Q = M21 59 ls (.int 0 :: st) H Q := w_con (show decode kb21 58 = .ok (.iconst 0, 1) from by decide +kernel) rfl (by decide)
theorem m21_59u : M21 59 [l0, l1, l2, .unset, l4] ((.int v) :: st) H Q = M21 60 [l0, l1, l2, .val (.int v), l4] st H Q := w_st (i := 3) (p := isI) (show decode kb21 59 = .ok (.istore_n 3, 1) from by decide +kernel) rfl rfl rfl rfl rfl rfl
theorem m21_59i : M21 59 [l0, l1, l2, .val (.int z), l4] ((.int v) :: st) H Q = M21 60 [l0, l1, l2, .val (.int v), l4] st H Q := w_st (i := 3) (p := isI) (show decode kb21 59 = .ok (.istore_n 3, 1) from by decide +kernel) rfl rfl rfl rfl rfl rfl
theorem m21_59r : M21 59 [l0, l1, l2, .val (.ref q), l4] ((.int v) :: st) H Q = M21 60 [l0, l1, l2, .val (.int v), l4] st H Q := w_st (i := 3) (p := isI) (show decode kb21 59 = .ok (.istore_n 3, 1) from by decide +kernel) rfl rfl rfl rfl rfl rfl
theorem m21_59g (h : okS l3) : M21 59 [l0, l1, l2, l3, l4] ((.int v) :: st) H Q = M21 60 [l0, l1, l2, .val (.int v), l4] st H Q := by rcases h with rfl | ⟨z, rfl⟩ <;> first | exact m21_59u | exact m21_59i
theorem m21_60 : M21 60 [.val (.ref r), l1, l2, l3, l4] st H Q = M21 61 [.val (.ref r), l1, l2, l3, l4] (.ref r :: st) H Q := w_x (show decode kb21 60 = .ok (.aload_n 0, 1) from by decide +kernel) rfl
theorem m21_61 : M21 61 ls (.ref b :: st) (put b pre s A L B post) Q = M21 64 ls (.ref (b + 9) :: st) (put b pre s A L B post) Q := w_get (show decode kb21 61 = .ok (.getfield 35, 3) from by decide +kernel) gf_35 put_o rfl
theorem m21_64 : M21 64 [l0, .val (.int v), l2, l3, l4] st H Q = M21 65 [l0, .val (.int v), l2, l3, l4] (.int v :: st) H Q := w_x (show decode kb21 64 = .ok (.iload_n 1, 1) from by decide +kernel) rfl
theorem m21_65 : M21 65 [.val (.ref r), l1, l2, l3, l4] st H Q = M21 66 [.val (.ref r), l1, l2, l3, l4] (.ref r :: st) H Q := w_x (show decode kb21 65 = .ok (.aload_n 0, 1) from by decide +kernel) rfl
theorem m21_66 : M21 66 [l0, l1, .val (.int v), l3, l4] st H Q = M21 67 [l0, l1, .val (.int v), l3, l4] (.int v :: st) H Q := w_x (show decode kb21 66 = .ok (.iload_n 2, 1) from by decide +kernel) rfl
theorem m21_67 : M21 67 [l0, l1, l2, .val (.int v), l4] st H Q = M21 68 [l0, l1, l2, .val (.int v), l4] (.int v :: st) H Q := w_x (show decode kb21 67 = .ok (.iload_n 3, 1) from by decide +kernel) rfl
theorem cr21_148 : vR tables_1 dn y21 148 = some (true, y10, prog_1_method_22_code, 3, (some .int), 2, 46) := pR_of (cR_of (by decide +kernel) rc_10 dn_10 dn_21 (sig := ⟨[.int, .int], some .int⟩) (by decide +kernel) (by decide +kernel) rfl rfl) (by decide +kernel) (by decide +kernel)
theorem m21_68 (a0 : Int32) (a1 : Int32) (u0 : Int32) (u1 : Nat) : M21 68 ls [.int a1, .int a0, .ref b, .int u0, .ref u1] (put b pre s A L B post) Q = M10 0 [.val (.ref b), .val (.int a0), .val (.int a1)] [] (put b pre s A L B post) (fun v H1 => M21 71 ls (v.toList ++ [.int u0, .ref u1]) H1 Q) := w_virt (as := [.int a1, .int a0]) (rest := [.int u0, .ref u1]) (a := b) (show decode kb21 68 = .ok (.invokevirtual 148, 3) from by decide +kernel) cr21_148 put_o rfl rfl (Nat.le_of_ble_eq_true rfl) (by show 3 ≤ 3; omega) rfl
theorem m21_71  : M21 71 ls (.int v :: .int j :: .ref (b + 9) :: st) (put b pre s A L B post) Q = (inB j (A 8) ∧ M21 72 ls st (put b pre s (ou A 8 (setA (A 8) j v)) L B post) Q) := w_ist (show decode kb21 71 = .ok (.iastore, 1) from by decide +kernel) rfl put_a8 (Nat.zero_le _) rfl put_w8
theorem m21_72 : M21 72 [.val (.ref r), l1, l2, l3, l4] st H Q = M21 73 [.val (.ref r), l1, l2, l3, l4] (.ref r :: st) H Q := w_x (show decode kb21 72 = .ok (.aload_n 0, 1) from by decide +kernel) rfl
theorem m21_73 : M21 73 [l0, l1, .val (.int v), l3, l4] st H Q = M21 74 [l0, l1, .val (.int v), l3, l4] (.int v :: st) H Q := w_x (show decode kb21 73 = .ok (.iload_n 2, 1) from by decide +kernel) rfl
theorem m21_74 : M21 74 [l0, l1, l2, .val (.int v), l4] st H Q = M21 75 [l0, l1, l2, .val (.int v), l4] (.int v :: st) H Q := w_x (show decode kb21 74 = .ok (.iload_n 3, 1) from by decide +kernel) rfl
theorem cr21_155 : vR tables_1 dn y21 155 = some (true, y18, prog_1_method_24_code, 3, (some .int), 2, 46) := pR_of (cR_of (by decide +kernel) rc_18 dn_18 dn_21 (sig := ⟨[.int, .int], some .int⟩) (by decide +kernel) (by decide +kernel) rfl rfl) (by decide +kernel) (by decide +kernel)
theorem m21_75 (a0 : Int32) (a1 : Int32) : M21 75 ls [.int a1, .int a0, .ref b] (put b pre s A L B post) Q = M18 0 [.val (.ref b), .val (.int a0), .val (.int a1)] [] (put b pre s A L B post) (fun v H1 => M21 78 ls (v.toList ++ []) H1 Q) := w_virt (as := [.int a1, .int a0]) (rest := []) (a := b) (show decode kb21 75 = .ok (.invokevirtual 155, 3) from by decide +kernel) cr21_155 put_o rfl rfl (Nat.le_of_ble_eq_true rfl) (by show 3 ≤ 3; omega) rfl
theorem m21_78u : M21 78 [l0, l1, l2, l3, .unset] ((.int v) :: st) H Q = M21 80 [l0, l1, l2, l3, .val (.int v)] st H Q := w_st (i := 4) (p := isI) (show decode kb21 78 = .ok (.istore 4, 2) from by decide +kernel) rfl rfl rfl rfl rfl rfl
theorem m21_78i : M21 78 [l0, l1, l2, l3, .val (.int z)] ((.int v) :: st) H Q = M21 80 [l0, l1, l2, l3, .val (.int v)] st H Q := w_st (i := 4) (p := isI) (show decode kb21 78 = .ok (.istore 4, 2) from by decide +kernel) rfl rfl rfl rfl rfl rfl
theorem m21_78r : M21 78 [l0, l1, l2, l3, .val (.ref q)] ((.int v) :: st) H Q = M21 80 [l0, l1, l2, l3, .val (.int v)] st H Q := w_st (i := 4) (p := isI) (show decode kb21 78 = .ok (.istore 4, 2) from by decide +kernel) rfl rfl rfl rfl rfl rfl
theorem m21_78g (h : okS l4) : M21 78 [l0, l1, l2, l3, l4] ((.int v) :: st) H Q = M21 80 [l0, l1, l2, l3, .val (.int v)] st H Q := by rcases h with rfl | ⟨z, rfl⟩ <;> first | exact m21_78u | exact m21_78i
theorem m21_80 : M21 80 [.val (.ref r), l1, l2, l3, l4] st H Q = M21 81 [.val (.ref r), l1, l2, l3, l4] (.ref r :: st) H Q := w_x (show decode kb21 80 = .ok (.aload_n 0, 1) from by decide +kernel) rfl
theorem m21_81 : M21 81 ls (.ref b :: st) (put b pre s A L B post) Q = M21 84 ls (.ref (b + 10) :: st) (put b pre s A L B post) Q := w_get (show decode kb21 81 = .ok (.getfield 38, 3) from by decide +kernel) gf_38 put_o rfl
theorem m21_84 : M21 84 [l0, .val (.int v), l2, l3, l4] st H Q = M21 85 [l0, .val (.int v), l2, l3, l4] (.int v :: st) H Q := w_x (show decode kb21 84 = .ok (.iload_n 1, 1) from by decide +kernel) rfl
theorem m21_85 : M21 85 [l0, l1, l2, l3, .val (.int v)] st H Q = M21 87 [l0, l1, l2, l3, .val (.int v)] (.int v :: st) H Q := w_x (show decode kb21 85 = .ok (.iload 4, 2) from by decide +kernel) rfl
theorem m21_87  : M21 87 ls (.int v :: .int j :: .ref (b + 10) :: st) (put b pre s A L B post) Q = (inB j (A 9) ∧ M21 88 ls st (put b pre s (ou A 9 (setA (A 9) j v)) L B post) Q) := w_ist (show decode kb21 87 = .ok (.iastore, 1) from by decide +kernel) rfl put_a9 (Nat.zero_le _) rfl put_w9
theorem m21_88 : M21 88 [.val (.ref r), l1, l2, l3, l4] st H Q = M21 89 [.val (.ref r), l1, l2, l3, l4] (.ref r :: st) H Q := w_x (show decode kb21 88 = .ok (.aload_n 0, 1) from by decide +kernel) rfl
theorem m21_89 : M21 89 ls (.ref b :: st) (put b pre s A L B post) Q = M21 92 ls (.ref (b + 11) :: st) (put b pre s A L B post) Q := w_get (show decode kb21 89 = .ok (.getfield 41, 3) from by decide +kernel) gf_41 put_o rfl
theorem m21_92 : M21 92 [l0, .val (.int v), l2, l3, l4] st H Q = M21 93 [l0, .val (.int v), l2, l3, l4] (.int v :: st) H Q := w_x (show decode kb21 92 = .ok (.iload_n 1, 1) from by decide +kernel) rfl
theorem m21_93 : M21 93 [l0, l1, l2, l3, .val (.int v)] st H Q = M21 95 [l0, l1, l2, l3, .val (.int v)] (.int v :: st) H Q := w_x (show decode kb21 93 = .ok (.iload 4, 2) from by decide +kernel) rfl
theorem m21_95  : M21 95 ls (.int v :: .int j :: .ref (b + 11) :: st) (put b pre s A L B post) Q = (inB j (A 10) ∧ M21 96 ls st (put b pre s (ou A 10 (setA (A 10) j v)) L B post) Q) := w_ist (show decode kb21 95 = .ok (.iastore, 1) from by decide +kernel) rfl put_a10 (Nat.zero_le _) rfl put_w10
theorem m21_96 : M21 96 [l0, .val (.int v), l2, l3, l4] st H Q = M21 99 [l0, .val (.int (v + 1)), l2, l3, l4] st H Q := w_iinc (show decode kb21 96 = .ok (.iinc 1 1, 3) from by decide +kernel) rfl (by decide) rfl
theorem m21_99 : M21 99 ls st H Q = M21 2 ls st H Q := w_x (show decode kb21 99 = .ok (.goto (-97), 3) from by decide +kernel) rfl
theorem m21_102 : M21 102 [.val (.ref r), l1, l2, l3, l4] st H Q = M21 103 [.val (.ref r), l1, l2, l3, l4] (.ref r :: st) H Q := w_x (show decode kb21 102 = .ok (.aload_n 0, 1) from by decide +kernel) rfl
theorem m21_103 : M21 103 ls (.ref b :: st) (put b pre s A L B post) Q = M21 106 ls (.int (s 7) :: st) (put b pre s A L B post) Q := w_get (show decode kb21 103 = .ok (.getfield 99, 3) from by decide +kernel) gf_99 put_o rfl
theorem m21_106 : M21 106 ls st H Q = M21 107 ls (.int 2 :: st) H Q := w_con (show decode kb21 106 = .ok (.iconst 2, 1) from by decide +kernel) rfl (by decide)
theorem m21_107 : M21 107 ls (.int y :: .int x :: st) H Q = if x = y then M21 110 ls st H Q else M21 117 ls st H Q := w_icmpN (show decode kb21 107 = .ok (.if_icmp .ne 10, 3) from by decide +kernel) (i_ne x y) rfl
theorem m21_110 : M21 110 [.val (.ref r), l1, l2, l3, l4] st H Q = M21 111 [.val (.ref r), l1, l2, l3, l4] (.ref r :: st) H Q := w_x (show decode kb21 110 = .ok (.aload_n 0, 1) from by decide +kernel) rfl
theorem m21_117 : M21 117 [.val (.ref r), l1, l2, l3, l4] st H Q = M21 118 [.val (.ref r), l1, l2, l3, l4] (.ref r :: st) H Q := w_x (show decode kb21 117 = .ok (.aload_n 0, 1) from by decide +kernel) rfl
theorem m21_118 : M21 118 ls (.ref b :: st) (put b pre s A L B post) Q = M21 121 ls (.int (s 7) :: st) (put b pre s A L B post) Q := w_get (show decode kb21 118 = .ok (.getfield 99, 3) from by decide +kernel) gf_99 put_o rfl
theorem m21_121 : M21 121 ls st H Q = M21 122 ls (.int 1 :: st) H Q := w_con (show decode kb21 121 = .ok (.iconst 1, 1) from by decide +kernel) rfl (by decide)
theorem m21_122 : M21 122 ls (.int y :: .int x :: st) H Q = if x = y then M21 125 ls st H Q else M21 132 ls st H Q := w_icmpN (show decode kb21 122 = .ok (.if_icmp .ne 10, 3) from by decide +kernel) (i_ne x y) rfl
theorem m21_125 : M21 125 [.val (.ref r), l1, l2, l3, l4] st H Q = M21 126 [.val (.ref r), l1, l2, l3, l4] (.ref r :: st) H Q := w_x (show decode kb21 125 = .ok (.aload_n 0, 1) from by decide +kernel) rfl
theorem m21_132 : M21 132 [.val (.ref r), l1, l2, l3, l4] st H Q = M21 133 [.val (.ref r), l1, l2, l3, l4] (.ref r :: st) H Q := w_x (show decode kb21 132 = .ok (.aload_n 0, 1) from by decide +kernel) rfl
theorem cr21_185 : vR tables_1 dn y21 185 = some (true, y22, prog_1_method_43_code, 4, none, 0, 0) := pR_of (cR_of (by decide +kernel) rc_22 dn_22 dn_21 (sig := ⟨[], none⟩) (by decide +kernel) (by decide +kernel) rfl rfl) (by decide +kernel) (by decide +kernel)
theorem m21_133 : M21 133 ls [.ref b] (put b pre s A L B post) Q = M22 0 [.val (.ref b), .unset, .unset, .unset] [] (put b pre s A L B post) (fun v H1 => M21 136 ls (v.toList ++ []) H1 Q) := w_virt (as := []) (rest := []) (a := b) (show decode kb21 133 = .ok (.invokevirtual 185, 3) from by decide +kernel) cr21_185 put_o rfl rfl (Nat.le_of_ble_eq_true rfl) (by show 1 ≤ 4; omega) rfl
theorem m21_136 : M21 136 [.val (.ref r), l1, l2, l3, l4] st H Q = M21 137 [.val (.ref r), l1, l2, l3, l4] (.ref r :: st) H Q := w_x (show decode kb21 136 = .ok (.aload_n 0, 1) from by decide +kernel) rfl
theorem m21_137 : M21 137 ls (.ref b :: st) (put b pre s A L B post) Q = M21 140 ls (.ref (b + 12) :: st) (put b pre s A L B post) Q := w_get (show decode kb21 137 = .ok (.getfield 44, 3) from by decide +kernel) gf_44 put_o rfl
theorem m21_140 : M21 140 ls st H Q = M21 141 ls (.int 0 :: st) H Q := w_con (show decode kb21 140 = .ok (.iconst 0, 1) from by decide +kernel) rfl (by decide)
theorem m21_141 : M21 141 [.val (.ref r), l1, l2, l3, l4] st H Q = M21 142 [.val (.ref r), l1, l2, l3, l4] (.ref r :: st) H Q := w_x (show decode kb21 141 = .ok (.aload_n 0, 1) from by decide +kernel) rfl
theorem m21_142 : M21 142 ls (.ref b :: st) (put b pre s A L B post) Q = M21 145 ls (.ref (b + 11) :: st) (put b pre s A L B post) Q := w_get (show decode kb21 142 = .ok (.getfield 41, 3) from by decide +kernel) gf_41 put_o rfl
theorem m21_145 : M21 145 ls st H Q = M21 146 ls (.int 0 :: st) H Q := w_con (show decode kb21 145 = .ok (.iconst 0, 1) from by decide +kernel) rfl (by decide)
theorem m21_146  : M21 146 ls (.int j :: .ref (b + 11) :: st) (put b pre s A L B post) Q = (inB j (A 10) ∧ M21 147 ls (.int (getA (A 10) j) :: st) (put b pre s A L B post) Q) := w_ild (show decode kb21 146 = .ok (.iaload, 1) from by decide +kernel) rfl put_a10
theorem m21_147  : M21 147 ls (.int v :: .int j :: .ref (b + 12) :: st) (put b pre s A L B post) Q = (inB j (A 11) ∧ M21 148 ls st (put b pre s (ou A 11 (setA (A 11) j v)) L B post) Q) := w_ist (show decode kb21 147 = .ok (.iastore, 1) from by decide +kernel) rfl put_a11 (Nat.zero_le _) rfl put_w11
theorem m21_148 : M21 148 ls st H Q = M21 149 ls (.int 1 :: st) H Q := w_con (show decode kb21 148 = .ok (.iconst 1, 1) from by decide +kernel) rfl (by decide)
theorem m21_149i : M21 149 [l0, .val (.int z), l2, l3, l4] ((.int v) :: st) H Q = M21 150 [l0, .val (.int v), l2, l3, l4] st H Q := w_st (i := 1) (p := isI) (show decode kb21 149 = .ok (.istore_n 1, 1) from by decide +kernel) rfl rfl rfl rfl rfl rfl
theorem m21_150 : M21 150 [l0, .val (.int v), l2, l3, l4] st H Q = M21 151 [l0, .val (.int v), l2, l3, l4] (.int v :: st) H Q := w_x (show decode kb21 150 = .ok (.iload_n 1, 1) from by decide +kernel) rfl
theorem m21_151 : M21 151 [.val (.ref r), l1, l2, l3, l4] st H Q = M21 152 [.val (.ref r), l1, l2, l3, l4] (.ref r :: st) H Q := w_x (show decode kb21 151 = .ok (.aload_n 0, 1) from by decide +kernel) rfl
theorem m21_152 : M21 152 ls (.ref b :: st) (put b pre s A L B post) Q = M21 155 ls (.int (s 14) :: st) (put b pre s A L B post) Q := w_get (show decode kb21 152 = .ok (.getfield 126, 3) from by decide +kernel) gf_126 put_o rfl
theorem m21_155 : M21 155 ls (.int y :: .int x :: st) H Q = if x < y then M21 158 ls st H Q else M21 188 ls st H Q := w_icmpN (show decode kb21 155 = .ok (.if_icmp .ge 33, 3) from by decide +kernel) (i_ge x y) rfl
theorem m21_158 : M21 158 [.val (.ref r), l1, l2, l3, l4] st H Q = M21 159 [.val (.ref r), l1, l2, l3, l4] (.ref r :: st) H Q := w_x (show decode kb21 158 = .ok (.aload_n 0, 1) from by decide +kernel) rfl
theorem m21_159 : M21 159 ls (.ref b :: st) (put b pre s A L B post) Q = M21 162 ls (.ref (b + 12) :: st) (put b pre s A L B post) Q := w_get (show decode kb21 159 = .ok (.getfield 44, 3) from by decide +kernel) gf_44 put_o rfl
theorem m21_162 : M21 162 [l0, .val (.int v), l2, l3, l4] st H Q = M21 163 [l0, .val (.int v), l2, l3, l4] (.int v :: st) H Q := w_x (show decode kb21 162 = .ok (.iload_n 1, 1) from by decide +kernel) rfl
theorem m21_163 : M21 163 [.val (.ref r), l1, l2, l3, l4] st H Q = M21 164 [.val (.ref r), l1, l2, l3, l4] (.ref r :: st) H Q := w_x (show decode kb21 163 = .ok (.aload_n 0, 1) from by decide +kernel) rfl
theorem m21_164 : M21 164 [.val (.ref r), l1, l2, l3, l4] st H Q = M21 165 [.val (.ref r), l1, l2, l3, l4] (.ref r :: st) H Q := w_x (show decode kb21 164 = .ok (.aload_n 0, 1) from by decide +kernel) rfl
theorem m21_165 : M21 165 ls (.ref b :: st) (put b pre s A L B post) Q = M21 168 ls (.ref (b + 11) :: st) (put b pre s A L B post) Q := w_get (show decode kb21 165 = .ok (.getfield 41, 3) from by decide +kernel) gf_41 put_o rfl
theorem m21_168 : M21 168 [l0, .val (.int v), l2, l3, l4] st H Q = M21 169 [l0, .val (.int v), l2, l3, l4] (.int v :: st) H Q := w_x (show decode kb21 168 = .ok (.iload_n 1, 1) from by decide +kernel) rfl
theorem m21_169  : M21 169 ls (.int j :: .ref (b + 11) :: st) (put b pre s A L B post) Q = (inB j (A 10) ∧ M21 170 ls (.int (getA (A 10) j) :: st) (put b pre s A L B post) Q) := w_ild (show decode kb21 169 = .ok (.iaload, 1) from by decide +kernel) rfl put_a10
theorem m21_170 : M21 170 [.val (.ref r), l1, l2, l3, l4] st H Q = M21 171 [.val (.ref r), l1, l2, l3, l4] (.ref r :: st) H Q := w_x (show decode kb21 170 = .ok (.aload_n 0, 1) from by decide +kernel) rfl
theorem m21_171 : M21 171 ls (.ref b :: st) (put b pre s A L B post) Q = M21 174 ls (.ref (b + 9) :: st) (put b pre s A L B post) Q := w_get (show decode kb21 171 = .ok (.getfield 35, 3) from by decide +kernel) gf_35 put_o rfl
theorem m21_174 : M21 174 [l0, .val (.int v), l2, l3, l4] st H Q = M21 175 [l0, .val (.int v), l2, l3, l4] (.int v :: st) H Q := w_x (show decode kb21 174 = .ok (.iload_n 1, 1) from by decide +kernel) rfl
theorem m21_175 : M21 175 ls st H Q = M21 176 ls (.int 1 :: st) H Q := w_con (show decode kb21 175 = .ok (.iconst 1, 1) from by decide +kernel) rfl (by decide)
theorem m21_176 : M21 176 ls (.int y :: .int x :: st) H Q = M21 177 ls (.int (x - y) :: st) H Q := w_x (show decode kb21 176 = .ok (.isub, 1) from by decide +kernel) rfl
theorem m21_177  : M21 177 ls (.int j :: .ref (b + 9) :: st) (put b pre s A L B post) Q = (inB j (A 8) ∧ M21 178 ls (.int (getA (A 8) j) :: st) (put b pre s A L B post) Q) := w_ild (show decode kb21 177 = .ok (.iaload, 1) from by decide +kernel) rfl put_a8
theorem m21_178 (a0 : Int32) (a1 : Int32) (u0 : Int32) (u1 : Nat) : M21 178 ls [.int a1, .int a0, .ref b, .int u0, .ref u1] (put b pre s A L B post) Q = M18 0 [.val (.ref b), .val (.int a0), .val (.int a1)] [] (put b pre s A L B post) (fun v H1 => M21 181 ls (v.toList ++ [.int u0, .ref u1]) H1 Q) := w_virt (as := [.int a1, .int a0]) (rest := [.int u0, .ref u1]) (a := b) (show decode kb21 178 = .ok (.invokevirtual 155, 3) from by decide +kernel) cr21_155 put_o rfl rfl (Nat.le_of_ble_eq_true rfl) (by show 3 ≤ 3; omega) rfl
theorem m21_181  : M21 181 ls (.int v :: .int j :: .ref (b + 12) :: st) (put b pre s A L B post) Q = (inB j (A 11) ∧ M21 182 ls st (put b pre s (ou A 11 (setA (A 11) j v)) L B post) Q) := w_ist (show decode kb21 181 = .ok (.iastore, 1) from by decide +kernel) rfl put_a11 (Nat.zero_le _) rfl put_w11
theorem m21_182 : M21 182 [l0, .val (.int v), l2, l3, l4] st H Q = M21 185 [l0, .val (.int (v + 1)), l2, l3, l4] st H Q := w_iinc (show decode kb21 182 = .ok (.iinc 1 1, 3) from by decide +kernel) rfl (by decide) rfl
theorem m21_185 : M21 185 ls st H Q = M21 150 ls st H Q := w_x (show decode kb21 185 = .ok (.goto (-35), 3) from by decide +kernel) rfl
theorem m21_188 : M21 188 ls [] H Q = Q none H := w_vret (show decode kb21 188 = .ok (.return_, 1) from by decide +kernel) rfl
theorem m22_0 : M22 0 ls st H Q = M22 1 ls (.int 1 :: st) H Q := w_con (show decode kb22 0 = .ok (.iconst 1, 1) from by decide +kernel) rfl (by decide)
theorem m22_1u : M22 1 [l0, .unset, l2, l3] ((.int v) :: st) H Q = M22 2 [l0, .val (.int v), l2, l3] st H Q := w_st (i := 1) (p := isI) (show decode kb22 1 = .ok (.istore_n 1, 1) from by decide +kernel) rfl rfl rfl rfl rfl rfl
theorem m22_2 : M22 2 [l0, .val (.int v), l2, l3] st H Q = M22 3 [l0, .val (.int v), l2, l3] (.int v :: st) H Q := w_x (show decode kb22 2 = .ok (.iload_n 1, 1) from by decide +kernel) rfl
theorem m22_3 : M22 3 [.val (.ref r), l1, l2, l3] st H Q = M22 4 [.val (.ref r), l1, l2, l3] (.ref r :: st) H Q := w_x (show decode kb22 3 = .ok (.aload_n 0, 1) from by decide +kernel) rfl
theorem m22_4 : M22 4 ls (.ref b :: st) (put b pre s A L B post) Q = M22 7 ls (.int (s 14) :: st) (put b pre s A L B post) Q := w_get (show decode kb22 4 = .ok (.getfield 126, 3) from by decide +kernel) gf_126 put_o rfl
theorem m22_7 : M22 7 ls (.int y :: .int x :: st) H Q = if x < y then M22 10 ls st H Q else M22 24 ls st H Q := w_icmpN (show decode kb22 7 = .ok (.if_icmp .ge 17, 3) from by decide +kernel) (i_ge x y) rfl
theorem m22_10 : M22 10 [.val (.ref r), l1, l2, l3] st H Q = M22 11 [.val (.ref r), l1, l2, l3] (.ref r :: st) H Q := w_x (show decode kb22 10 = .ok (.aload_n 0, 1) from by decide +kernel) rfl
theorem m22_11 : M22 11 [l0, .val (.int v), l2, l3] st H Q = M22 12 [l0, .val (.int v), l2, l3] (.int v :: st) H Q := w_x (show decode kb22 11 = .ok (.iload_n 1, 1) from by decide +kernel) rfl
theorem m22_12 : M22 12 [l0, .val (.int v), l2, l3] st H Q = M22 13 [l0, .val (.int v), l2, l3] (.int v :: st) H Q := w_x (show decode kb22 12 = .ok (.iload_n 1, 1) from by decide +kernel) rfl
theorem m22_13 : M22 13 ls st H Q = M22 14 ls (.int 1 :: st) H Q := w_con (show decode kb22 13 = .ok (.iconst 1, 1) from by decide +kernel) rfl (by decide)
theorem m22_14 : M22 14 ls (.int y :: .int x :: st) H Q = M22 15 ls (.int (x - y) :: st) H Q := w_x (show decode kb22 14 = .ok (.isub, 1) from by decide +kernel) rfl
theorem cr22_191 : vR tables_1 dn y22 191 = some (true, y23, prog_1_method_40_code, 3, none, 2, 0) := pR_of (cR_of (by decide +kernel) rc_23 dn_23 dn_22 (sig := ⟨[.int, .int], none⟩) (by decide +kernel) (by decide +kernel) rfl rfl) (by decide +kernel) (by decide +kernel)
theorem m22_15 (a0 : Int32) (a1 : Int32) : M22 15 ls [.int a1, .int a0, .ref b] (put b pre s A L B post) Q = M23 0 [.val (.ref b), .val (.int a0), .val (.int a1)] [] (put b pre s A L B post) (fun v H1 => M22 18 ls (v.toList ++ []) H1 Q) := w_virt (as := [.int a1, .int a0]) (rest := []) (a := b) (show decode kb22 15 = .ok (.invokevirtual 191, 3) from by decide +kernel) cr22_191 put_o rfl rfl (Nat.le_of_ble_eq_true rfl) (by show 3 ≤ 3; omega) rfl
theorem m22_18 : M22 18 [l0, .val (.int v), l2, l3] st H Q = M22 21 [l0, .val (.int (v + 2)), l2, l3] st H Q := w_iinc (show decode kb22 18 = .ok (.iinc 1 2, 3) from by decide +kernel) rfl (by decide) rfl
theorem m22_21 : M22 21 ls st H Q = M22 2 ls st H Q := w_x (show decode kb22 21 = .ok (.goto (-19), 3) from by decide +kernel) rfl
theorem m22_24 : M22 24 ls st H Q = M22 25 ls (.int 0 :: st) H Q := w_con (show decode kb22 24 = .ok (.iconst 0, 1) from by decide +kernel) rfl (by decide)
theorem m22_25i : M22 25 [l0, .val (.int z), l2, l3] ((.int v) :: st) H Q = M22 26 [l0, .val (.int v), l2, l3] st H Q := w_st (i := 1) (p := isI) (show decode kb22 25 = .ok (.istore_n 1, 1) from by decide +kernel) rfl rfl rfl rfl rfl rfl
theorem m22_26 : M22 26 [l0, .val (.int v), l2, l3] st H Q = M22 27 [l0, .val (.int v), l2, l3] (.int v :: st) H Q := w_x (show decode kb22 26 = .ok (.iload_n 1, 1) from by decide +kernel) rfl
theorem m22_27 : M22 27 ls st H Q = M22 28 ls (.int 3 :: st) H Q := w_con (show decode kb22 27 = .ok (.iconst 3, 1) from by decide +kernel) rfl (by decide)
theorem m22_28 : M22 28 ls (.int y :: .int x :: st) H Q = if x < y then M22 31 ls st H Q else M22 80 ls st H Q := w_icmpN (show decode kb22 28 = .ok (.if_icmp .ge 52, 3) from by decide +kernel) (i_ge x y) rfl
theorem m22_31 : M22 31 ls st H Q = M22 32 ls (.int 2 :: st) H Q := w_con (show decode kb22 31 = .ok (.iconst 2, 1) from by decide +kernel) rfl (by decide)
theorem m22_32 : M22 32 [l0, .val (.int v), l2, l3] st H Q = M22 33 [l0, .val (.int v), l2, l3] (.int v :: st) H Q := w_x (show decode kb22 32 = .ok (.iload_n 1, 1) from by decide +kernel) rfl
theorem m22_33 : M22 33 ls (.int y :: .int x :: st) H Q = M22 34 ls (.int (x <<< (y &&& 31)) :: st) H Q := w_x (show decode kb22 33 = .ok (.ishl, 1) from by decide +kernel) rfl
theorem m22_34u : M22 34 [l0, l1, .unset, l3] ((.int v) :: st) H Q = M22 35 [l0, l1, .val (.int v), l3] st H Q := w_st (i := 2) (p := isI) (show decode kb22 34 = .ok (.istore_n 2, 1) from by decide +kernel) rfl rfl rfl rfl rfl rfl
theorem m22_34i : M22 34 [l0, l1, .val (.int z), l3] ((.int v) :: st) H Q = M22 35 [l0, l1, .val (.int v), l3] st H Q := w_st (i := 2) (p := isI) (show decode kb22 34 = .ok (.istore_n 2, 1) from by decide +kernel) rfl rfl rfl rfl rfl rfl
theorem m22_34r : M22 34 [l0, l1, .val (.ref q), l3] ((.int v) :: st) H Q = M22 35 [l0, l1, .val (.int v), l3] st H Q := w_st (i := 2) (p := isI) (show decode kb22 34 = .ok (.istore_n 2, 1) from by decide +kernel) rfl rfl rfl rfl rfl rfl
theorem m22_34g (h : okS l2) : M22 34 [l0, l1, l2, l3] ((.int v) :: st) H Q = M22 35 [l0, l1, .val (.int v), l3] st H Q := by rcases h with rfl | ⟨z, rfl⟩ <;> first | exact m22_34u | exact m22_34i
theorem m22_35 : M22 35 [l0, l1, .val (.int v), l3] st H Q = M22 36 [l0, l1, .val (.int v), l3] (.int v :: st) H Q := w_x (show decode kb22 35 = .ok (.iload_n 2, 1) from by decide +kernel) rfl
theorem m22_36 : M22 36 [.val (.ref r), l1, l2, l3] st H Q = M22 37 [.val (.ref r), l1, l2, l3] (.ref r :: st) H Q := w_x (show decode kb22 36 = .ok (.aload_n 0, 1) from by decide +kernel) rfl
theorem m22_37 : M22 37 ls (.ref b :: st) (put b pre s A L B post) Q = M22 40 ls (.int (s 14) :: st) (put b pre s A L B post) Q := w_get (show decode kb22 37 = .ok (.getfield 126, 3) from by decide +kernel) gf_126 put_o rfl
theorem m22_40 : M22 40 ls (.int y :: .int x :: st) H Q = if x < y then M22 46 ls st H Q else M22 43 ls st H Q := w_icmp (show decode kb22 40 = .ok (.if_icmp .lt 6, 3) from by decide +kernel) (i_lt x y) rfl
theorem m22_43 : M22 43 ls st H Q = M22 80 ls st H Q := w_x (show decode kb22 43 = .ok (.goto 37, 3) from by decide +kernel) rfl
theorem m22_46 : M22 46 [.val (.ref r), l1, l2, l3] st H Q = M22 47 [.val (.ref r), l1, l2, l3] (.ref r :: st) H Q := w_x (show decode kb22 46 = .ok (.aload_n 0, 1) from by decide +kernel) rfl
theorem m22_47 : M22 47 ls (.ref b :: st) (put b pre s A L B post) Q = M22 50 ls (.int (s 14) :: st) (put b pre s A L B post) Q := w_get (show decode kb22 47 = .ok (.getfield 126, 3) from by decide +kernel) gf_126 put_o rfl
theorem m22_50 : M22 50 ls st H Q = M22 51 ls (.int 1 :: st) H Q := w_con (show decode kb22 50 = .ok (.iconst 1, 1) from by decide +kernel) rfl (by decide)
theorem m22_51 : M22 51 ls (.int y :: .int x :: st) H Q = M22 52 ls (.int (x - y) :: st) H Q := w_x (show decode kb22 51 = .ok (.isub, 1) from by decide +kernel) rfl
theorem m22_52u : M22 52 [l0, l1, l2, .unset] ((.int v) :: st) H Q = M22 53 [l0, l1, l2, .val (.int v)] st H Q := w_st (i := 3) (p := isI) (show decode kb22 52 = .ok (.istore_n 3, 1) from by decide +kernel) rfl rfl rfl rfl rfl rfl
theorem m22_52i : M22 52 [l0, l1, l2, .val (.int z)] ((.int v) :: st) H Q = M22 53 [l0, l1, l2, .val (.int v)] st H Q := w_st (i := 3) (p := isI) (show decode kb22 52 = .ok (.istore_n 3, 1) from by decide +kernel) rfl rfl rfl rfl rfl rfl
theorem m22_52r : M22 52 [l0, l1, l2, .val (.ref q)] ((.int v) :: st) H Q = M22 53 [l0, l1, l2, .val (.int v)] st H Q := w_st (i := 3) (p := isI) (show decode kb22 52 = .ok (.istore_n 3, 1) from by decide +kernel) rfl rfl rfl rfl rfl rfl
theorem m22_52g (h : okS l3) : M22 52 [l0, l1, l2, l3] ((.int v) :: st) H Q = M22 53 [l0, l1, l2, .val (.int v)] st H Q := by rcases h with rfl | ⟨z, rfl⟩ <;> first | exact m22_52u | exact m22_52i
theorem m22_53 : M22 53 [l0, l1, l2, .val (.int v)] st H Q = M22 54 [l0, l1, l2, .val (.int v)] (.int v :: st) H Q := w_x (show decode kb22 53 = .ok (.iload_n 3, 1) from by decide +kernel) rfl
theorem m22_54 : M22 54 [l0, l1, .val (.int v), l3] st H Q = M22 55 [l0, l1, .val (.int v), l3] (.int v :: st) H Q := w_x (show decode kb22 54 = .ok (.iload_n 2, 1) from by decide +kernel) rfl
theorem m22_55 : M22 55 ls (.int y :: .int x :: st) H Q = M22 56 ls (.int (x - y) :: st) H Q := w_x (show decode kb22 55 = .ok (.isub, 1) from by decide +kernel) rfl
theorem m22_56 : M22 56 ls st H Q = M22 57 ls (.int 1 :: st) H Q := w_con (show decode kb22 56 = .ok (.iconst 1, 1) from by decide +kernel) rfl (by decide)
theorem m22_57 : M22 57 ls (.int y :: .int x :: st) H Q = if x < y then M22 74 ls st H Q else M22 60 ls st H Q := w_icmp (show decode kb22 57 = .ok (.if_icmp .lt 17, 3) from by decide +kernel) (i_lt x y) rfl
theorem m22_60 : M22 60 [.val (.ref r), l1, l2, l3] st H Q = M22 61 [.val (.ref r), l1, l2, l3] (.ref r :: st) H Q := w_x (show decode kb22 60 = .ok (.aload_n 0, 1) from by decide +kernel) rfl
theorem m22_61 : M22 61 [l0, l1, l2, .val (.int v)] st H Q = M22 62 [l0, l1, l2, .val (.int v)] (.int v :: st) H Q := w_x (show decode kb22 61 = .ok (.iload_n 3, 1) from by decide +kernel) rfl
theorem m22_62 : M22 62 [l0, l1, l2, .val (.int v)] st H Q = M22 63 [l0, l1, l2, .val (.int v)] (.int v :: st) H Q := w_x (show decode kb22 62 = .ok (.iload_n 3, 1) from by decide +kernel) rfl
theorem m22_63 : M22 63 [l0, l1, .val (.int v), l3] st H Q = M22 64 [l0, l1, .val (.int v), l3] (.int v :: st) H Q := w_x (show decode kb22 63 = .ok (.iload_n 2, 1) from by decide +kernel) rfl
theorem m22_64 : M22 64 ls (.int y :: .int x :: st) H Q = M22 65 ls (.int (x - y) :: st) H Q := w_x (show decode kb22 64 = .ok (.isub, 1) from by decide +kernel) rfl
theorem m22_65 (a0 : Int32) (a1 : Int32) : M22 65 ls [.int a1, .int a0, .ref b] (put b pre s A L B post) Q = M23 0 [.val (.ref b), .val (.int a0), .val (.int a1)] [] (put b pre s A L B post) (fun v H1 => M22 68 ls (v.toList ++ []) H1 Q) := w_virt (as := [.int a1, .int a0]) (rest := []) (a := b) (show decode kb22 65 = .ok (.invokevirtual 191, 3) from by decide +kernel) cr22_191 put_o rfl rfl (Nat.le_of_ble_eq_true rfl) (by show 3 ≤ 3; omega) rfl
theorem m22_68 : M22 68 [l0, l1, l2, .val (.int v)] st H Q = M22 71 [l0, l1, l2, .val (.int (v + (-2)))] st H Q := w_iinc (show decode kb22 68 = .ok (.iinc 3 (-2), 3) from by decide +kernel) rfl (by decide) rfl
theorem m22_71 : M22 71 ls st H Q = M22 53 ls st H Q := w_x (show decode kb22 71 = .ok (.goto (-18), 3) from by decide +kernel) rfl
theorem m22_74 : M22 74 [l0, .val (.int v), l2, l3] st H Q = M22 77 [l0, .val (.int (v + 1)), l2, l3] st H Q := w_iinc (show decode kb22 74 = .ok (.iinc 1 1, 3) from by decide +kernel) rfl (by decide) rfl
theorem m22_77 : M22 77 ls st H Q = M22 26 ls st H Q := w_x (show decode kb22 77 = .ok (.goto (-51), 3) from by decide +kernel) rfl
theorem m22_80 : M22 80 ls st H Q = M22 81 ls (.int 2 :: st) H Q := w_con (show decode kb22 80 = .ok (.iconst 2, 1) from by decide +kernel) rfl (by decide)
theorem m22_81i : M22 81 [l0, .val (.int z), l2, l3] ((.int v) :: st) H Q = M22 82 [l0, .val (.int v), l2, l3] st H Q := w_st (i := 1) (p := isI) (show decode kb22 81 = .ok (.istore_n 1, 1) from by decide +kernel) rfl rfl rfl rfl rfl rfl
theorem m22_82 : M22 82 [l0, .val (.int v), l2, l3] st H Q = M22 83 [l0, .val (.int v), l2, l3] (.int v :: st) H Q := w_x (show decode kb22 82 = .ok (.iload_n 1, 1) from by decide +kernel) rfl
theorem m22_83 : M22 83 [.val (.ref r), l1, l2, l3] st H Q = M22 84 [.val (.ref r), l1, l2, l3] (.ref r :: st) H Q := w_x (show decode kb22 83 = .ok (.aload_n 0, 1) from by decide +kernel) rfl
theorem m22_84 : M22 84 ls (.ref b :: st) (put b pre s A L B post) Q = M22 87 ls (.int (s 14) :: st) (put b pre s A L B post) Q := w_get (show decode kb22 84 = .ok (.getfield 126, 3) from by decide +kernel) gf_126 put_o rfl
theorem m22_87 : M22 87 ls (.int y :: .int x :: st) H Q = if x < y then M22 90 ls st H Q else M22 104 ls st H Q := w_icmpN (show decode kb22 87 = .ok (.if_icmp .ge 17, 3) from by decide +kernel) (i_ge x y) rfl
theorem m22_90 : M22 90 [.val (.ref r), l1, l2, l3] st H Q = M22 91 [.val (.ref r), l1, l2, l3] (.ref r :: st) H Q := w_x (show decode kb22 90 = .ok (.aload_n 0, 1) from by decide +kernel) rfl
theorem m22_91 : M22 91 [l0, .val (.int v), l2, l3] st H Q = M22 92 [l0, .val (.int v), l2, l3] (.int v :: st) H Q := w_x (show decode kb22 91 = .ok (.iload_n 1, 1) from by decide +kernel) rfl
theorem m22_92 : M22 92 [l0, .val (.int v), l2, l3] st H Q = M22 93 [l0, .val (.int v), l2, l3] (.int v :: st) H Q := w_x (show decode kb22 92 = .ok (.iload_n 1, 1) from by decide +kernel) rfl
theorem m22_93 : M22 93 ls st H Q = M22 94 ls (.int 1 :: st) H Q := w_con (show decode kb22 93 = .ok (.iconst 1, 1) from by decide +kernel) rfl (by decide)
theorem m22_94 : M22 94 ls (.int y :: .int x :: st) H Q = M22 95 ls (.int (x - y) :: st) H Q := w_x (show decode kb22 94 = .ok (.isub, 1) from by decide +kernel) rfl
theorem cr22_188 : vR tables_1 dn y22 188 = some (true, y24, prog_1_method_39_code, 4, none, 2, 14) := pR_of (cR_of (by decide +kernel) rc_24 dn_24 dn_22 (sig := ⟨[.int, .int], none⟩) (by decide +kernel) (by decide +kernel) rfl rfl) (by decide +kernel) (by decide +kernel)
theorem m22_95 (a0 : Int32) (a1 : Int32) : M22 95 ls [.int a1, .int a0, .ref b] (put b pre s A L B post) Q = M24 0 [.val (.ref b), .val (.int a0), .val (.int a1), .unset] [] (put b pre s A L B post) (fun v H1 => M22 98 ls (v.toList ++ []) H1 Q) := w_virt (as := [.int a1, .int a0]) (rest := []) (a := b) (show decode kb22 95 = .ok (.invokevirtual 188, 3) from by decide +kernel) cr22_188 put_o rfl rfl (Nat.le_of_ble_eq_true rfl) (by show 3 ≤ 4; omega) rfl
theorem m22_98 : M22 98 [l0, .val (.int v), l2, l3] st H Q = M22 101 [l0, .val (.int (v + 2)), l2, l3] st H Q := w_iinc (show decode kb22 98 = .ok (.iinc 1 2, 3) from by decide +kernel) rfl (by decide) rfl
theorem m22_101 : M22 101 ls st H Q = M22 82 ls st H Q := w_x (show decode kb22 101 = .ok (.goto (-19), 3) from by decide +kernel) rfl
theorem m22_104 : M22 104 ls [] H Q = Q none H := w_vret (show decode kb22 104 = .ok (.return_, 1) from by decide +kernel) rfl
theorem m23_0 : M23 0 [.val (.ref r), l1, l2] st H Q = M23 1 [.val (.ref r), l1, l2] (.ref r :: st) H Q := w_x (show decode kb23 0 = .ok (.aload_n 0, 1) from by decide +kernel) rfl
theorem m23_1 : M23 1 [l0, .val (.int v), l2] st H Q = M23 2 [l0, .val (.int v), l2] (.int v :: st) H Q := w_x (show decode kb23 1 = .ok (.iload_n 1, 1) from by decide +kernel) rfl
theorem m23_2 : M23 2 [l0, l1, .val (.int v)] st H Q = M23 3 [l0, l1, .val (.int v)] (.int v :: st) H Q := w_x (show decode kb23 2 = .ok (.iload_n 2, 1) from by decide +kernel) rfl
theorem cr23_188 : vR tables_1 dn y23 188 = some (true, y24, prog_1_method_39_code, 4, none, 2, 0) := pR_of (cR_of (by decide +kernel) rc_24 dn_24 dn_23 (sig := ⟨[.int, .int], none⟩) (by decide +kernel) (by decide +kernel) rfl rfl) (by decide +kernel) (by decide +kernel)
theorem m23_3 (a0 : Int32) (a1 : Int32) : M23 3 ls [.int a1, .int a0, .ref b] (put b pre s A L B post) Q = M24 0 [.val (.ref b), .val (.int a0), .val (.int a1), .unset] [] (put b pre s A L B post) (fun v H1 => M23 6 ls (v.toList ++ []) H1 Q) := w_virt (as := [.int a1, .int a0]) (rest := []) (a := b) (show decode kb23 3 = .ok (.invokevirtual 188, 3) from by decide +kernel) cr23_188 put_o rfl rfl (Nat.le_of_ble_eq_true rfl) (by show 3 ≤ 4; omega) rfl
theorem m23_6 : M23 6 [.val (.ref r), l1, l2] st H Q = M23 7 [.val (.ref r), l1, l2] (.ref r :: st) H Q := w_x (show decode kb23 6 = .ok (.aload_n 0, 1) from by decide +kernel) rfl
theorem m23_7 : M23 7 ls (.ref b :: st) (put b pre s A L B post) Q = M23 10 ls (.ref (b + 10) :: st) (put b pre s A L B post) Q := w_get (show decode kb23 7 = .ok (.getfield 38, 3) from by decide +kernel) gf_38 put_o rfl
theorem m23_10 : M23 10 [l0, .val (.int v), l2] st H Q = M23 11 [l0, .val (.int v), l2] (.int v :: st) H Q := w_x (show decode kb23 10 = .ok (.iload_n 1, 1) from by decide +kernel) rfl
theorem m23_11 : M23 11 [.val (.ref r), l1, l2] st H Q = M23 12 [.val (.ref r), l1, l2] (.ref r :: st) H Q := w_x (show decode kb23 11 = .ok (.aload_n 0, 1) from by decide +kernel) rfl
theorem m23_12 : M23 12 [.val (.ref r), l1, l2] st H Q = M23 13 [.val (.ref r), l1, l2] (.ref r :: st) H Q := w_x (show decode kb23 12 = .ok (.aload_n 0, 1) from by decide +kernel) rfl
theorem m23_13 : M23 13 ls (.ref b :: st) (put b pre s A L B post) Q = M23 16 ls (.ref (b + 10) :: st) (put b pre s A L B post) Q := w_get (show decode kb23 13 = .ok (.getfield 38, 3) from by decide +kernel) gf_38 put_o rfl
theorem m23_16 : M23 16 [l0, .val (.int v), l2] st H Q = M23 17 [l0, .val (.int v), l2] (.int v :: st) H Q := w_x (show decode kb23 16 = .ok (.iload_n 1, 1) from by decide +kernel) rfl
theorem m23_17  : M23 17 ls (.int j :: .ref (b + 10) :: st) (put b pre s A L B post) Q = (inB j (A 9) ∧ M23 18 ls (.int (getA (A 9) j) :: st) (put b pre s A L B post) Q) := w_ild (show decode kb23 17 = .ok (.iaload, 1) from by decide +kernel) rfl put_a9
theorem m23_18 : M23 18 [.val (.ref r), l1, l2] st H Q = M23 19 [.val (.ref r), l1, l2] (.ref r :: st) H Q := w_x (show decode kb23 18 = .ok (.aload_n 0, 1) from by decide +kernel) rfl
theorem m23_19 : M23 19 ls (.ref b :: st) (put b pre s A L B post) Q = M23 22 ls (.ref (b + 10) :: st) (put b pre s A L B post) Q := w_get (show decode kb23 19 = .ok (.getfield 38, 3) from by decide +kernel) gf_38 put_o rfl
theorem m23_22 : M23 22 [l0, l1, .val (.int v)] st H Q = M23 23 [l0, l1, .val (.int v)] (.int v :: st) H Q := w_x (show decode kb23 22 = .ok (.iload_n 2, 1) from by decide +kernel) rfl
theorem m23_23  : M23 23 ls (.int j :: .ref (b + 10) :: st) (put b pre s A L B post) Q = (inB j (A 9) ∧ M23 24 ls (.int (getA (A 9) j) :: st) (put b pre s A L B post) Q) := w_ild (show decode kb23 23 = .ok (.iaload, 1) from by decide +kernel) rfl put_a9
theorem cr23_148 : vR tables_1 dn y23 148 = some (true, y10, prog_1_method_22_code, 3, (some .int), 2, 17) := pR_of (cR_of (by decide +kernel) rc_10 dn_10 dn_23 (sig := ⟨[.int, .int], some .int⟩) (by decide +kernel) (by decide +kernel) rfl rfl) (by decide +kernel) (by decide +kernel)
theorem m23_24 (a0 : Int32) (a1 : Int32) (u0 : Int32) (u1 : Nat) : M23 24 ls [.int a1, .int a0, .ref b, .int u0, .ref u1] (put b pre s A L B post) Q = M10 0 [.val (.ref b), .val (.int a0), .val (.int a1)] [] (put b pre s A L B post) (fun v H1 => M23 27 ls (v.toList ++ [.int u0, .ref u1]) H1 Q) := w_virt (as := [.int a1, .int a0]) (rest := [.int u0, .ref u1]) (a := b) (show decode kb23 24 = .ok (.invokevirtual 148, 3) from by decide +kernel) cr23_148 put_o rfl rfl (Nat.le_of_ble_eq_true rfl) (by show 3 ≤ 3; omega) rfl
theorem m23_27  : M23 27 ls (.int v :: .int j :: .ref (b + 10) :: st) (put b pre s A L B post) Q = (inB j (A 9) ∧ M23 28 ls st (put b pre s (ou A 9 (setA (A 9) j v)) L B post) Q) := w_ist (show decode kb23 27 = .ok (.iastore, 1) from by decide +kernel) rfl put_a9 (Nat.zero_le _) rfl put_w9
theorem m23_28 : M23 28 ls [] H Q = Q none H := w_vret (show decode kb23 28 = .ok (.return_, 1) from by decide +kernel) rfl
theorem m24_0 : M24 0 [.val (.ref r), l1, l2, l3] st H Q = M24 1 [.val (.ref r), l1, l2, l3] (.ref r :: st) H Q := w_x (show decode kb24 0 = .ok (.aload_n 0, 1) from by decide +kernel) rfl
theorem m24_1 : M24 1 [.val (.ref r), l1, l2, l3] st H Q = M24 2 [.val (.ref r), l1, l2, l3] (.ref r :: st) H Q := w_x (show decode kb24 1 = .ok (.aload_n 0, 1) from by decide +kernel) rfl
theorem m24_2 : M24 2 ls (.ref b :: st) (put b pre s A L B post) Q = M24 5 ls (.ref (b + 10) :: st) (put b pre s A L B post) Q := w_get (show decode kb24 2 = .ok (.getfield 38, 3) from by decide +kernel) gf_38 put_o rfl
theorem m24_5 : M24 5 [l0, .val (.int v), l2, l3] st H Q = M24 6 [l0, .val (.int v), l2, l3] (.int v :: st) H Q := w_x (show decode kb24 5 = .ok (.iload_n 1, 1) from by decide +kernel) rfl
theorem m24_6  : M24 6 ls (.int j :: .ref (b + 10) :: st) (put b pre s A L B post) Q = (inB j (A 9) ∧ M24 7 ls (.int (getA (A 9) j) :: st) (put b pre s A L B post) Q) := w_ild (show decode kb24 6 = .ok (.iaload, 1) from by decide +kernel) rfl put_a9
theorem m24_7 : M24 7 [.val (.ref r), l1, l2, l3] st H Q = M24 8 [.val (.ref r), l1, l2, l3] (.ref r :: st) H Q := w_x (show decode kb24 7 = .ok (.aload_n 0, 1) from by decide +kernel) rfl
theorem m24_8 : M24 8 ls (.ref b :: st) (put b pre s A L B post) Q = M24 11 ls (.ref (b + 9) :: st) (put b pre s A L B post) Q := w_get (show decode kb24 8 = .ok (.getfield 35, 3) from by decide +kernel) gf_35 put_o rfl
theorem m24_11 : M24 11 [l0, l1, .val (.int v), l3] st H Q = M24 12 [l0, l1, .val (.int v), l3] (.int v :: st) H Q := w_x (show decode kb24 11 = .ok (.iload_n 2, 1) from by decide +kernel) rfl
theorem m24_12  : M24 12 ls (.int j :: .ref (b + 9) :: st) (put b pre s A L B post) Q = (inB j (A 8) ∧ M24 13 ls (.int (getA (A 8) j) :: st) (put b pre s A L B post) Q) := w_ild (show decode kb24 12 = .ok (.iaload, 1) from by decide +kernel) rfl put_a8
theorem cr24_148 : vR tables_1 dn y24 148 = some (true, y10, prog_1_method_22_code, 3, (some .int), 2, 2) := pR_of (cR_of (by decide +kernel) rc_10 dn_10 dn_24 (sig := ⟨[.int, .int], some .int⟩) (by decide +kernel) (by decide +kernel) rfl rfl) (by decide +kernel) (by decide +kernel)
theorem m24_13 (a0 : Int32) (a1 : Int32) : M24 13 ls [.int a1, .int a0, .ref b] (put b pre s A L B post) Q = M10 0 [.val (.ref b), .val (.int a0), .val (.int a1)] [] (put b pre s A L B post) (fun v H1 => M24 16 ls (v.toList ++ []) H1 Q) := w_virt (as := [.int a1, .int a0]) (rest := []) (a := b) (show decode kb24 13 = .ok (.invokevirtual 148, 3) from by decide +kernel) cr24_148 put_o rfl rfl (Nat.le_of_ble_eq_true rfl) (by show 3 ≤ 3; omega) rfl
theorem m24_16u : M24 16 [l0, l1, l2, .unset] ((.int v) :: st) H Q = M24 17 [l0, l1, l2, .val (.int v)] st H Q := w_st (i := 3) (p := isI) (show decode kb24 16 = .ok (.istore_n 3, 1) from by decide +kernel) rfl rfl rfl rfl rfl rfl
theorem m24_17 : M24 17 [.val (.ref r), l1, l2, l3] st H Q = M24 18 [.val (.ref r), l1, l2, l3] (.ref r :: st) H Q := w_x (show decode kb24 17 = .ok (.aload_n 0, 1) from by decide +kernel) rfl
theorem m24_18 : M24 18 ls (.ref b :: st) (put b pre s A L B post) Q = M24 21 ls (.ref (b + 9) :: st) (put b pre s A L B post) Q := w_get (show decode kb24 18 = .ok (.getfield 35, 3) from by decide +kernel) gf_35 put_o rfl
theorem m24_21 : M24 21 [l0, .val (.int v), l2, l3] st H Q = M24 22 [l0, .val (.int v), l2, l3] (.int v :: st) H Q := w_x (show decode kb24 21 = .ok (.iload_n 1, 1) from by decide +kernel) rfl
theorem m24_22 : M24 22 [.val (.ref r), l1, l2, l3] st H Q = M24 23 [.val (.ref r), l1, l2, l3] (.ref r :: st) H Q := w_x (show decode kb24 22 = .ok (.aload_n 0, 1) from by decide +kernel) rfl
theorem m24_23 : M24 23 [.val (.ref r), l1, l2, l3] st H Q = M24 24 [.val (.ref r), l1, l2, l3] (.ref r :: st) H Q := w_x (show decode kb24 23 = .ok (.aload_n 0, 1) from by decide +kernel) rfl
theorem m24_24 : M24 24 ls (.ref b :: st) (put b pre s A L B post) Q = M24 27 ls (.ref (b + 9) :: st) (put b pre s A L B post) Q := w_get (show decode kb24 24 = .ok (.getfield 35, 3) from by decide +kernel) gf_35 put_o rfl
theorem m24_27 : M24 27 [l0, .val (.int v), l2, l3] st H Q = M24 28 [l0, .val (.int v), l2, l3] (.int v :: st) H Q := w_x (show decode kb24 27 = .ok (.iload_n 1, 1) from by decide +kernel) rfl
theorem m24_28  : M24 28 ls (.int j :: .ref (b + 9) :: st) (put b pre s A L B post) Q = (inB j (A 8) ∧ M24 29 ls (.int (getA (A 8) j) :: st) (put b pre s A L B post) Q) := w_ild (show decode kb24 28 = .ok (.iaload, 1) from by decide +kernel) rfl put_a8
theorem m24_29 : M24 29 [l0, l1, l2, .val (.int v)] st H Q = M24 30 [l0, l1, l2, .val (.int v)] (.int v :: st) H Q := w_x (show decode kb24 29 = .ok (.iload_n 3, 1) from by decide +kernel) rfl
theorem cr24_158 : vR tables_1 dn y24 158 = some (true, y20, prog_1_method_23_code, 3, (some .int), 2, 2) := pR_of (cR_of (by decide +kernel) rc_20 dn_20 dn_24 (sig := ⟨[.int, .int], some .int⟩) (by decide +kernel) (by decide +kernel) rfl rfl) (by decide +kernel) (by decide +kernel)
theorem m24_30 (a0 : Int32) (a1 : Int32) (u0 : Int32) (u1 : Nat) : M24 30 ls [.int a1, .int a0, .ref b, .int u0, .ref u1] (put b pre s A L B post) Q = M20 0 [.val (.ref b), .val (.int a0), .val (.int a1)] [] (put b pre s A L B post) (fun v H1 => M24 33 ls (v.toList ++ [.int u0, .ref u1]) H1 Q) := w_virt (as := [.int a1, .int a0]) (rest := [.int u0, .ref u1]) (a := b) (show decode kb24 30 = .ok (.invokevirtual 158, 3) from by decide +kernel) cr24_158 put_o rfl rfl (Nat.le_of_ble_eq_true rfl) (by show 3 ≤ 3; omega) rfl
theorem m24_33  : M24 33 ls (.int v :: .int j :: .ref (b + 9) :: st) (put b pre s A L B post) Q = (inB j (A 8) ∧ M24 34 ls st (put b pre s (ou A 8 (setA (A 8) j v)) L B post) Q) := w_ist (show decode kb24 33 = .ok (.iastore, 1) from by decide +kernel) rfl put_a8 (Nat.zero_le _) rfl put_w8
theorem m24_34 : M24 34 ls [] H Q = Q none H := w_vret (show decode kb24 34 = .ok (.return_, 1) from by decide +kernel) rfl
theorem m25_0 : M25 0 [.val (.ref r), l1] st H Q = M25 1 [.val (.ref r), l1] (.ref r :: st) H Q := w_x (show decode kb25 0 = .ok (.aload_n 0, 1) from by decide +kernel) rfl
theorem m25_1 : M25 1 ls (.ref b :: st) (put b pre s A L B post) Q = M25 4 ls (.int (s 8) :: st) (put b pre s A L B post) Q := w_get (show decode kb25 1 = .ok (.getfield 70, 3) from by decide +kernel) gf_70 put_o rfl
theorem m25_4 : M25 4 ls (.int x :: st) H Q = if x = 0 then M25 7 ls st H Q else M25 9 ls st H Q := w_ifN (show decode kb25 4 = .ok (.ifCond .ne 5, 3) from by decide +kernel) (z_ne x) rfl
theorem m25_7 : M25 7 ls st H Q = M25 8 ls (.int (-1) :: st) H Q := w_con (show decode kb25 7 = .ok (.iconst (-1), 1) from by decide +kernel) rfl (by decide)
theorem m25_8 : M25 8 ls (.int z :: st) H Q = Q (some (.int z)) H := w_iret (show decode kb25 8 = .ok (.ireturn, 1) from by decide +kernel) rfl
theorem m25_9 : M25 9 [.val (.ref r), l1] st H Q = M25 10 [.val (.ref r), l1] (.ref r :: st) H Q := w_x (show decode kb25 9 = .ok (.aload_n 0, 1) from by decide +kernel) rfl
theorem m25_10 : M25 10 [l0, .val (.int v)] st H Q = M25 11 [l0, .val (.int v)] (.int v :: st) H Q := w_x (show decode kb25 10 = .ok (.iload_n 1, 1) from by decide +kernel) rfl
theorem m25_11 : M25 11 ls st H Q = M25 12 ls (.int 1 :: st) H Q := w_con (show decode kb25 11 = .ok (.iconst 1, 1) from by decide +kernel) rfl (by decide)
theorem m25_12 : M25 12 [.val (.ref r), l1] st H Q = M25 13 [.val (.ref r), l1] (.ref r :: st) H Q := w_x (show decode kb25 12 = .ok (.aload_n 0, 1) from by decide +kernel) rfl
theorem m25_13 : M25 13 ls (.ref b :: st) (put b pre s A L B post) Q = M25 16 ls (.int (s 4) :: st) (put b pre s A L B post) Q := w_get (show decode kb25 13 = .ok (.getfield 90, 3) from by decide +kernel) gf_90 put_o rfl
theorem m25_16 : M25 16 ls (.int y :: .int x :: st) H Q = M25 17 ls (.int (x <<< (y &&& 31)) :: st) H Q := w_x (show decode kb25 16 = .ok (.ishl, 1) from by decide +kernel) rfl
theorem m25_17 : M25 17 ls st H Q = M25 18 ls (.int 1 :: st) H Q := w_con (show decode kb25 17 = .ok (.iconst 1, 1) from by decide +kernel) rfl (by decide)
theorem m25_18 : M25 18 ls (.int y :: .int x :: st) H Q = M25 19 ls (.int (x - y) :: st) H Q := w_x (show decode kb25 18 = .ok (.isub, 1) from by decide +kernel) rfl
theorem m25_19 : M25 19 ls (.int y :: .int x :: st) H Q = M25 20 ls (.int (x &&& y) :: st) H Q := w_x (show decode kb25 19 = .ok (.iand, 1) from by decide +kernel) rfl
theorem pf25_77 : pfR tables_1 y25.cls y25.name 77 = some ("MultiplierGen", 20, .int) := by decide +kernel
theorem m25_20 : M25 20 ls (.int v :: .ref b :: st) (put b pre s A L B post) Q = M25 23 ls st (put b pre (ou s 10 v) A L B post) Q := w_put (show decode kb25 20 = .ok (.putfield 77, 3) from by decide +kernel) pf25_77 put_o (Nat.zero_le _) (by show 20 < 30; omega) rfl put_s10
theorem m25_23 : M25 23 ls st H Q = M25 24 ls (.int 0 :: st) H Q := w_con (show decode kb25 23 = .ok (.iconst 0, 1) from by decide +kernel) rfl (by decide)
theorem m25_24 : M25 24 ls (.int z :: st) H Q = Q (some (.int z)) H := w_iret (show decode kb25 24 = .ok (.ireturn, 1) from by decide +kernel) rfl
theorem m26_0 : M26 0 [.val (.ref r), l1, l2] st H Q = M26 1 [.val (.ref r), l1, l2] (.ref r :: st) H Q := w_x (show decode kb26 0 = .ok (.aload_n 0, 1) from by decide +kernel) rfl
theorem m26_1 : M26 1 ls (.ref b :: st) (put b pre s A L B post) Q = M26 4 ls (.int (s 5) :: st) (put b pre s A L B post) Q := w_get (show decode kb26 1 = .ok (.getfield 93, 3) from by decide +kernel) gf_93 put_o rfl
theorem m26_4 : M26 4 ls st H Q = M26 5 ls (.int 1 :: st) H Q := w_con (show decode kb26 4 = .ok (.iconst 1, 1) from by decide +kernel) rfl (by decide)
theorem m26_5 : M26 5 ls (.int y :: .int x :: st) H Q = if x = y then M26 8 ls st H Q else M26 25 ls st H Q := w_icmpN (show decode kb26 5 = .ok (.if_icmp .ne 20, 3) from by decide +kernel) (i_ne x y) rfl
theorem m26_8 : M26 8 [l0, .val (.int v), l2] st H Q = M26 9 [l0, .val (.int v), l2] (.int v :: st) H Q := w_x (show decode kb26 8 = .ok (.iload_n 1, 1) from by decide +kernel) rfl
theorem m26_9 : M26 9 [l0, l1, .val (.int v)] st H Q = M26 10 [l0, l1, .val (.int v)] (.int v :: st) H Q := w_x (show decode kb26 9 = .ok (.iload_n 2, 1) from by decide +kernel) rfl
theorem m26_10 : M26 10 ls st H Q = M26 11 ls (.int 1 :: st) H Q := w_con (show decode kb26 10 = .ok (.iconst 1, 1) from by decide +kernel) rfl (by decide)
theorem m26_11 : M26 11 ls (.int y :: .int x :: st) H Q = M26 12 ls (.int (x - y) :: st) H Q := w_x (show decode kb26 11 = .ok (.isub, 1) from by decide +kernel) rfl
theorem m26_12 : M26 12 ls (.int y :: .int x :: st) H Q = M26 13 ls (.int (x >>> (y &&& 31)) :: st) H Q := w_x (show decode kb26 12 = .ok (.ishr, 1) from by decide +kernel) rfl
theorem m26_13 : M26 13 ls st H Q = M26 14 ls (.int 1 :: st) H Q := w_con (show decode kb26 13 = .ok (.iconst 1, 1) from by decide +kernel) rfl (by decide)
theorem m26_14 : M26 14 ls (.int y :: .int x :: st) H Q = M26 15 ls (.int (x &&& y) :: st) H Q := w_x (show decode kb26 14 = .ok (.iand, 1) from by decide +kernel) rfl
theorem m26_15 : M26 15 ls st H Q = M26 16 ls (.int 1 :: st) H Q := w_con (show decode kb26 15 = .ok (.iconst 1, 1) from by decide +kernel) rfl (by decide)
theorem m26_16 : M26 16 ls (.int y :: .int x :: st) H Q = if x = y then M26 19 ls st H Q else M26 25 ls st H Q := w_icmpN (show decode kb26 16 = .ok (.if_icmp .ne 9, 3) from by decide +kernel) (i_ne x y) rfl
theorem m26_19 : M26 19 [l0, .val (.int v), l2] st H Q = M26 20 [l0, .val (.int v), l2] (.int v :: st) H Q := w_x (show decode kb26 19 = .ok (.iload_n 1, 1) from by decide +kernel) rfl
theorem m26_20 : M26 20 ls st H Q = M26 21 ls (.int 1 :: st) H Q := w_con (show decode kb26 20 = .ok (.iconst 1, 1) from by decide +kernel) rfl (by decide)
theorem m26_21 : M26 21 [l0, l1, .val (.int v)] st H Q = M26 22 [l0, l1, .val (.int v)] (.int v :: st) H Q := w_x (show decode kb26 21 = .ok (.iload_n 2, 1) from by decide +kernel) rfl
theorem m26_22 : M26 22 ls (.int y :: .int x :: st) H Q = M26 23 ls (.int (x <<< (y &&& 31)) :: st) H Q := w_x (show decode kb26 22 = .ok (.ishl, 1) from by decide +kernel) rfl
theorem m26_23 : M26 23 ls (.int y :: .int x :: st) H Q = M26 24 ls (.int (x - y) :: st) H Q := w_x (show decode kb26 23 = .ok (.isub, 1) from by decide +kernel) rfl
theorem m26_24 : M26 24 ls (.int z :: st) H Q = Q (some (.int z)) H := w_iret (show decode kb26 24 = .ok (.ireturn, 1) from by decide +kernel) rfl
theorem m26_25 : M26 25 [l0, .val (.int v), l2] st H Q = M26 26 [l0, .val (.int v), l2] (.int v :: st) H Q := w_x (show decode kb26 25 = .ok (.iload_n 1, 1) from by decide +kernel) rfl
theorem m26_26 : M26 26 ls (.int z :: st) H Q = Q (some (.int z)) H := w_iret (show decode kb26 26 = .ok (.ireturn, 1) from by decide +kernel) rfl
theorem m27_0 : M27 0 [.val (.int v), l1, l2, l3] st H Q = M27 1 [.val (.int v), l1, l2, l3] (.int v :: st) H Q := w_x (show decode kb27 0 = .ok (.iload_n 0, 1) from by decide +kernel) rfl
theorem m27_1 : M27 1 ls st H Q = M27 2 ls (.int 1 :: st) H Q := w_con (show decode kb27 1 = .ok (.iconst 1, 1) from by decide +kernel) rfl (by decide)
theorem m27_2 : M27 2 [l0, .val (.int v), l2, l3] st H Q = M27 3 [l0, .val (.int v), l2, l3] (.int v :: st) H Q := w_x (show decode kb27 2 = .ok (.iload_n 1, 1) from by decide +kernel) rfl
theorem m27_3 : M27 3 ls (.int y :: .int x :: st) H Q = M27 4 ls (.int (x <<< (y &&& 31)) :: st) H Q := w_x (show decode kb27 3 = .ok (.ishl, 1) from by decide +kernel) rfl
theorem m27_4 : M27 4 ls st H Q = M27 5 ls (.int 1 :: st) H Q := w_con (show decode kb27 4 = .ok (.iconst 1, 1) from by decide +kernel) rfl (by decide)
theorem m27_5 : M27 5 ls (.int y :: .int x :: st) H Q = M27 6 ls (.int (x - y) :: st) H Q := w_x (show decode kb27 5 = .ok (.isub, 1) from by decide +kernel) rfl
theorem m27_6 : M27 6 ls (.int y :: .int x :: st) H Q = M27 7 ls (.int (x &&& y) :: st) H Q := w_x (show decode kb27 6 = .ok (.iand, 1) from by decide +kernel) rfl
theorem m27_7u : M27 7 [l0, l1, l2, .unset] ((.int v) :: st) H Q = M27 8 [l0, l1, l2, .val (.int v)] st H Q := w_st (i := 3) (p := isI) (show decode kb27 7 = .ok (.istore_n 3, 1) from by decide +kernel) rfl rfl rfl rfl rfl rfl
theorem m27_8 : M27 8 [l0, l1, .val (.int v), l3] st H Q = M27 9 [l0, l1, .val (.int v), l3] (.int v :: st) H Q := w_x (show decode kb27 8 = .ok (.iload_n 2, 1) from by decide +kernel) rfl
theorem m27_9 : M27 9 ls st H Q = M27 10 ls (.int 1 :: st) H Q := w_con (show decode kb27 9 = .ok (.iconst 1, 1) from by decide +kernel) rfl (by decide)
theorem m27_10 : M27 10 ls (.int y :: .int x :: st) H Q = if x = y then M27 13 ls st H Q else M27 28 ls st H Q := w_icmpN (show decode kb27 10 = .ok (.if_icmp .ne 18, 3) from by decide +kernel) (i_ne x y) rfl
theorem m27_13 : M27 13 [l0, l1, l2, .val (.int v)] st H Q = M27 14 [l0, l1, l2, .val (.int v)] (.int v :: st) H Q := w_x (show decode kb27 13 = .ok (.iload_n 3, 1) from by decide +kernel) rfl
theorem m27_14 : M27 14 ls st H Q = M27 15 ls (.int 1 :: st) H Q := w_con (show decode kb27 14 = .ok (.iconst 1, 1) from by decide +kernel) rfl (by decide)
theorem m27_15 : M27 15 [l0, .val (.int v), l2, l3] st H Q = M27 16 [l0, .val (.int v), l2, l3] (.int v :: st) H Q := w_x (show decode kb27 15 = .ok (.iload_n 1, 1) from by decide +kernel) rfl
theorem m27_16 : M27 16 ls st H Q = M27 17 ls (.int 1 :: st) H Q := w_con (show decode kb27 16 = .ok (.iconst 1, 1) from by decide +kernel) rfl (by decide)
theorem m27_17 : M27 17 ls (.int y :: .int x :: st) H Q = M27 18 ls (.int (x - y) :: st) H Q := w_x (show decode kb27 17 = .ok (.isub, 1) from by decide +kernel) rfl
theorem m27_18 : M27 18 ls (.int y :: .int x :: st) H Q = M27 19 ls (.int (x <<< (y &&& 31)) :: st) H Q := w_x (show decode kb27 18 = .ok (.ishl, 1) from by decide +kernel) rfl
theorem m27_19 : M27 19 ls (.int y :: .int x :: st) H Q = if x < y then M27 28 ls st H Q else M27 22 ls st H Q := w_icmp (show decode kb27 19 = .ok (.if_icmp .lt 9, 3) from by decide +kernel) (i_lt x y) rfl
theorem m27_22 : M27 22 [l0, l1, l2, .val (.int v)] st H Q = M27 23 [l0, l1, l2, .val (.int v)] (.int v :: st) H Q := w_x (show decode kb27 22 = .ok (.iload_n 3, 1) from by decide +kernel) rfl
theorem m27_23 : M27 23 ls st H Q = M27 24 ls (.int 1 :: st) H Q := w_con (show decode kb27 23 = .ok (.iconst 1, 1) from by decide +kernel) rfl (by decide)
theorem m27_24 : M27 24 [l0, .val (.int v), l2, l3] st H Q = M27 25 [l0, .val (.int v), l2, l3] (.int v :: st) H Q := w_x (show decode kb27 24 = .ok (.iload_n 1, 1) from by decide +kernel) rfl
theorem m27_25 : M27 25 ls (.int y :: .int x :: st) H Q = M27 26 ls (.int (x <<< (y &&& 31)) :: st) H Q := w_x (show decode kb27 25 = .ok (.ishl, 1) from by decide +kernel) rfl
theorem m27_26 : M27 26 ls (.int y :: .int x :: st) H Q = M27 27 ls (.int (x - y) :: st) H Q := w_x (show decode kb27 26 = .ok (.isub, 1) from by decide +kernel) rfl
theorem m27_27 : M27 27 ls (.int z :: st) H Q = Q (some (.int z)) H := w_iret (show decode kb27 27 = .ok (.ireturn, 1) from by decide +kernel) rfl
theorem m27_28 : M27 28 [l0, l1, l2, .val (.int v)] st H Q = M27 29 [l0, l1, l2, .val (.int v)] (.int v :: st) H Q := w_x (show decode kb27 28 = .ok (.iload_n 3, 1) from by decide +kernel) rfl
theorem m27_29 : M27 29 ls (.int z :: st) H Q = Q (some (.int z)) H := w_iret (show decode kb27 29 = .ok (.ireturn, 1) from by decide +kernel) rfl
theorem m28_0 : M28 0 ls st H Q = M28 3 ls (.ref H.length :: st) (H ++ [(.object "MultiplierGen", D0)]) Q := (w_new (C := "MultiplierGen") at_0 (by rw [hNew, show rCls tables_1 y28.cls 7 = some "MultiplierGen" from by decide +kernel]; dsimp only; rw [if_pos (by decide +kernel)])).trans (by rw [lay0]; rfl)
theorem m28_3 : M28 3 ls ((.ref r) :: st) H Q = M28 4 ls ((.ref r) :: (.ref r) :: st) H Q := w_x at_3 rfl
theorem m28_4 : M28 4 [.val (.int v), l1, l2, l3, l4, l5, l6] st H Q = M28 5 [.val (.int v), l1, l2, l3, l4, l5, l6] (.int v :: st) H Q := w_x at_4 rfl
theorem m28_5 : M28 5 [l0, .val (.int v), l2, l3, l4, l5, l6] st H Q = M28 6 [l0, .val (.int v), l2, l3, l4, l5, l6] (.int v :: st) H Q := w_x at_5 rfl
theorem m28_6 : M28 6 ls st H Q = M28 7 ls (.int 0 :: st) H Q := w_con at_6 rfl (by decide)
theorem m28_7 : M28 7 ls st H Q = M28 8 ls (.int 0 :: st) H Q := w_con at_7 rfl (by decide)
theorem cr28_9 : nR tables_1 dn y28 9 = some (y0, prog_1_method_1_code, 5, none, 4, 97) := nR_of (cR_of (by decide +kernel) rc_0 dn_0 dn_28 (sig := ⟨[.int, .int, .int, .int], none⟩) (by decide +kernel) (by decide +kernel) rfl rfl) rfl (by decide +kernel) rfl
theorem cr28_9_o : oR tables_1 dn y28 9 = none := by decide +kernel
theorem m28_8 (a0 : Int32) (a1 : Int32) (a2 : Int32) (a3 : Int32) (u0 : Nat) : M28 8 ls [.int a3, .int a2, .int a1, .int a0, .ref r, .ref u0] H Q = M0 0 [.val (.ref r), .val (.int a0), .val (.int a1), .val (.int a2), .val (.int a3)] [] H (fun v H1 => M28 11 ls (v.toList ++ [.ref u0]) H1 Q) := w_spec (as := [.int a3, .int a2, .int a1, .int a0]) (rest := [.ref u0]) (a := r) at_8 cr28_9_o cr28_9 rfl (Nat.le_of_ble_eq_true rfl) (by show 5 ≤ 5; omega) rfl
theorem m28_11u : M28 11 [l0, l1, l2, l3, .unset, l5, l6] ((.ref r) :: st) H Q = M28 13 [l0, l1, l2, l3, .val (.ref r), l5, l6] st H Q := w_st (i := 4) (p := Value.isRef) at_11 rfl rfl rfl rfl rfl rfl
theorem m28_13 : M28 13 [.val (.int v), l1, l2, l3, l4, l5, l6] st H Q = M28 14 [.val (.int v), l1, l2, l3, l4, l5, l6] (.int v :: st) H Q := w_x at_13 rfl
theorem m28_14 : M28 14 ls st H Q = M28 15 ls (.int 2 :: st) H Q := w_con at_14 rfl (by decide)
theorem m28_15 : M28 15 ls (.int y :: .int x :: st) H Q = if x < y then M28 18 ls st H Q else M28 22 ls st H Q := w_icmpN at_15 (i_ge x y) rfl
theorem m28_18 : M28 18 ls st H Q = M28 19 ls (.int 2 :: st) H Q := w_con at_18 rfl (by decide)
theorem m28_19 : M28 19 ls st H Q = M28 34 ls st H Q := w_x at_19 rfl
theorem m28_22 : M28 22 [.val (.int v), l1, l2, l3, l4, l5, l6] st H Q = M28 23 [.val (.int v), l1, l2, l3, l4, l5, l6] (.int v :: st) H Q := w_x at_22 rfl
theorem m28_23 : M28 23 ls st H Q = M28 25 ls (.int 8 :: st) H Q := w_con at_23 rfl (by decide)
theorem m28_25 : M28 25 ls (.int y :: .int x :: st) H Q = if y < x then M28 28 ls st H Q else M28 33 ls st H Q := w_icmpN at_25 (i_le x y) rfl
theorem m28_28 : M28 28 ls st H Q = M28 30 ls (.int 8 :: st) H Q := w_con at_28 rfl (by decide)
theorem m28_30 : M28 30 ls st H Q = M28 34 ls st H Q := w_x at_30 rfl
theorem m28_33 : M28 33 [.val (.int v), l1, l2, l3, l4, l5, l6] st H Q = M28 34 [.val (.int v), l1, l2, l3, l4, l5, l6] (.int v :: st) H Q := w_x at_33 rfl
theorem m28_34u : M28 34 [l0, l1, l2, l3, l4, .unset, l6] ((.int v) :: st) H Q = M28 36 [l0, l1, l2, l3, l4, .val (.int v), l6] st H Q := w_st (i := 5) (p := isI) at_34 rfl rfl rfl rfl rfl rfl
theorem m28_36 : M28 36 [l0, .val (.int v), l2, l3, l4, l5, l6] st H Q = M28 37 [l0, .val (.int v), l2, l3, l4, l5, l6] (.int v :: st) H Q := w_x at_36 rfl
theorem m28_37 : M28 37 ls (.int x :: st) H Q = if x < 0 then M28 40 ls st H Q else M28 44 ls st H Q := w_ifN at_37 (z_ge x) rfl
theorem m28_40 : M28 40 ls st H Q = M28 41 ls (.int 0 :: st) H Q := w_con at_40 rfl (by decide)
theorem m28_41 : M28 41 ls st H Q = M28 54 ls st H Q := w_x at_41 rfl
theorem m28_44 : M28 44 [l0, .val (.int v), l2, l3, l4, l5, l6] st H Q = M28 45 [l0, .val (.int v), l2, l3, l4, l5, l6] (.int v :: st) H Q := w_x at_44 rfl
theorem m28_45 : M28 45 ls st H Q = M28 46 ls (.int 1 :: st) H Q := w_con at_45 rfl (by decide)
theorem m28_46 : M28 46 ls (.int y :: .int x :: st) H Q = if y < x then M28 49 ls st H Q else M28 53 ls st H Q := w_icmpN at_46 (i_le x y) rfl
theorem m28_49 : M28 49 ls st H Q = M28 50 ls (.int 1 :: st) H Q := w_con at_49 rfl (by decide)
theorem m28_50 : M28 50 ls st H Q = M28 54 ls st H Q := w_x at_50 rfl
theorem m28_53 : M28 53 [l0, .val (.int v), l2, l3, l4, l5, l6] st H Q = M28 54 [l0, .val (.int v), l2, l3, l4, l5, l6] (.int v :: st) H Q := w_x at_53 rfl
theorem m28_54u : M28 54 [l0, l1, l2, l3, l4, l5, .unset] ((.int v) :: st) H Q = M28 56 [l0, l1, l2, l3, l4, l5, .val (.int v)] st H Q := w_st (i := 6) (p := isI) at_54 rfl rfl rfl rfl rfl rfl
theorem m28_56 : M28 56 [l0, l1, l2, l3, .val (.ref r), l5, l6] st H Q = M28 58 [l0, l1, l2, l3, .val (.ref r), l5, l6] (.ref r :: st) H Q := w_x at_56 rfl
theorem m28_58 : M28 58 [l0, l1, .val (.int v), l3, l4, l5, l6] st H Q = M28 59 [l0, l1, .val (.int v), l3, l4, l5, l6] (.int v :: st) H Q := w_x at_58 rfl
theorem cr28_12 : vR tables_1 dn y28 12 = some (false, y2, prog_1_method_7_code, 2, (some .int), 1, 116) := vR_of (cR_of (by decide +kernel) rc_2 dn_2 dn_28 (sig := ⟨[.int], some .int⟩) (by decide +kernel) (by decide +kernel) rfl rfl) (by decide +kernel) (by decide +kernel) (by decide +kernel)
theorem m28_59 (a0 : Int32) : M28 59 ls [.int a0, .ref b] (put b pre s A L B post) Q = M2 0 [.val (.ref b), .val (.int a0)] [] (put b pre s A L B post) (fun v H1 => M28 62 ls (v.toList ++ []) H1 Q) := w_virt (as := [.int a0]) (rest := []) (a := b) at_59 cr28_12 put_o rfl rfl (Nat.le_of_ble_eq_true rfl) (by show 2 ≤ 2; omega) rfl
theorem m28_62 : M28 62 ls st H Q = M28 63 ls (.int (-1) :: st) H Q := w_con at_62 rfl (by decide)
theorem m28_63 : M28 63 ls (.int y :: .int x :: st) H Q = if x = y then M28 68 ls st H Q else M28 66 ls st H Q := w_icmp at_63 (i_eq x y) rfl
theorem m28_66 : M28 66 ls st H Q = M28 67 ls (.int 0 :: st) H Q := w_con at_66 rfl (by decide)
theorem m28_67 : M28 67 ls (.int z :: st) H Q = Q (some (.int (nar .boolean z))) H := w_iretN at_67 rfl (by simp)
theorem m28_68 : M28 68 [l0, l1, l2, l3, .val (.ref r), l5, l6] st H Q = M28 70 [l0, l1, l2, l3, .val (.ref r), l5, l6] (.ref r :: st) H Q := w_x at_68 rfl
theorem m28_70 : M28 70 ls st H Q = M28 71 ls (.int 0 :: st) H Q := w_con at_70 rfl (by decide)
theorem cr28_16 : vR tables_1 dn y28 16 = some (false, y3, prog_1_method_9_code, 2, (some .int), 1, 102) := vR_of (cR_of (by decide +kernel) rc_3 dn_3 dn_28 (sig := ⟨[.int], some .int⟩) (by decide +kernel) (by decide +kernel) rfl rfl) (by decide +kernel) (by decide +kernel) (by decide +kernel)
theorem m28_71 (a0 : Int32) : M28 71 ls [.int a0, .ref b] (put b pre s A L B post) Q = M3 0 [.val (.ref b), .val (.int a0)] [] (put b pre s A L B post) (fun v H1 => M28 74 ls (v.toList ++ []) H1 Q) := w_virt (as := [.int a0]) (rest := []) (a := b) at_71 cr28_16 put_o rfl rfl (Nat.le_of_ble_eq_true rfl) (by show 2 ≤ 2; omega) rfl
theorem m28_74 : M28 74 ls (.int x :: st) H Q = if x = 0 then M28 79 ls st H Q else M28 77 ls st H Q := w_if at_74 (z_eq x) rfl
theorem m28_77 : M28 77 ls st H Q = M28 78 ls (.int 0 :: st) H Q := w_con at_77 rfl (by decide)
theorem m28_78 : M28 78 ls (.int z :: st) H Q = Q (some (.int (nar .boolean z))) H := w_iretN at_78 rfl (by simp)
theorem m28_79 : M28 79 [l0, l1, l2, l3, .val (.ref r), l5, l6] st H Q = M28 81 [l0, l1, l2, l3, .val (.ref r), l5, l6] (.ref r :: st) H Q := w_x at_79 rfl
theorem cr28_19 : vR tables_1 dn y28 19 = some (false, y4, prog_1_method_6_code, 1, (some .int), 0, 0) := vR_of (cR_of (by decide +kernel) rc_4 dn_4 dn_28 (sig := ⟨[], some .int⟩) (by decide +kernel) (by decide +kernel) rfl rfl) (by decide +kernel) (by decide +kernel) (by decide +kernel)
theorem m28_81 : M28 81 ls [.ref b] (put b pre s A L B post) Q = M4 0 [.val (.ref b)] [] (put b pre s A L B post) (fun v H1 => M28 84 ls (v.toList ++ []) H1 Q) := w_virt (as := []) (rest := []) (a := b) at_81 cr28_19 put_o rfl rfl (Nat.le_of_ble_eq_true rfl) (by show 1 ≤ 1; omega) rfl
theorem m28_84 : M28 84 ls (.int x :: st) H Q = if x = 0 then M28 89 ls st H Q else M28 87 ls st H Q := w_if at_84 (z_eq x) rfl
theorem m28_87 : M28 87 ls st H Q = M28 88 ls (.int 0 :: st) H Q := w_con at_87 rfl (by decide)
theorem m28_88 : M28 88 ls (.int z :: st) H Q = Q (some (.int (nar .boolean z))) H := w_iretN at_88 rfl (by simp)
theorem m28_89 : M28 89 [l0, l1, l2, l3, .val (.ref r), l5, l6] st H Q = M28 91 [l0, l1, l2, l3, .val (.ref r), l5, l6] (.ref r :: st) H Q := w_x at_89 rfl
theorem m28_91 : M28 91 [l0, l1, .val (.int v), l3, l4, l5, l6] st H Q = M28 92 [l0, l1, .val (.int v), l3, l4, l5, l6] (.int v :: st) H Q := w_x at_91 rfl
theorem m28_92 (a0 : Int32) : M28 92 ls [.int a0, .ref b] (put b pre s A L B post) Q = M2 0 [.val (.ref b), .val (.int a0)] [] (put b pre s A L B post) (fun v H1 => M28 95 ls (v.toList ++ []) H1 Q) := w_virt (as := [.int a0]) (rest := []) (a := b) at_92 cr28_12 put_o rfl rfl (Nat.le_of_ble_eq_true rfl) (by show 2 ≤ 2; omega) rfl
theorem m28_95 : M28 95 ls (.int x :: st) H Q = if x = 0 then M28 100 ls st H Q else M28 98 ls st H Q := w_if at_95 (z_eq x) rfl
theorem m28_98 : M28 98 ls st H Q = M28 99 ls (.int 0 :: st) H Q := w_con at_98 rfl (by decide)
theorem m28_99 : M28 99 ls (.int z :: st) H Q = Q (some (.int (nar .boolean z))) H := w_iretN at_99 rfl (by simp)
theorem m28_100 : M28 100 [l0, l1, l2, l3, .val (.ref r), l5, l6] st H Q = M28 102 [l0, l1, l2, l3, .val (.ref r), l5, l6] (.ref r :: st) H Q := w_x at_100 rfl
theorem m28_102 : M28 102 [l0, l1, l2, .val (.int v), l4, l5, l6] st H Q = M28 103 [l0, l1, l2, .val (.int v), l4, l5, l6] (.int v :: st) H Q := w_x at_102 rfl
theorem cr28_23 : vR tables_1 dn y28 23 = some (false, y25, prog_1_method_8_code, 2, (some .int), 1, 116) := vR_of (cR_of (by decide +kernel) rc_25 dn_25 dn_28 (sig := ⟨[.int], some .int⟩) (by decide +kernel) (by decide +kernel) rfl rfl) (by decide +kernel) (by decide +kernel) (by decide +kernel)
theorem m28_103 (a0 : Int32) : M28 103 ls [.int a0, .ref b] (put b pre s A L B post) Q = M25 0 [.val (.ref b), .val (.int a0)] [] (put b pre s A L B post) (fun v H1 => M28 106 ls (v.toList ++ []) H1 Q) := w_virt (as := [.int a0]) (rest := []) (a := b) at_103 cr28_23 put_o rfl rfl (Nat.le_of_ble_eq_true rfl) (by show 2 ≤ 2; omega) rfl
theorem m28_106 : M28 106 ls (.int x :: st) H Q = if x = 0 then M28 111 ls st H Q else M28 109 ls st H Q := w_if at_106 (z_eq x) rfl
theorem m28_109 : M28 109 ls st H Q = M28 110 ls (.int 0 :: st) H Q := w_con at_109 rfl (by decide)
theorem m28_110 : M28 110 ls (.int z :: st) H Q = Q (some (.int (nar .boolean z))) H := w_iretN at_110 rfl (by simp)
theorem m28_111 : M28 111 [l0, l1, l2, l3, .val (.ref r), l5, l6] st H Q = M28 113 [l0, l1, l2, l3, .val (.ref r), l5, l6] (.ref r :: st) H Q := w_x at_111 rfl
theorem m28_113 : M28 113 ls st H Q = M28 114 ls (.int 0 :: st) H Q := w_con at_113 rfl (by decide)
theorem m28_114 (a0 : Int32) : M28 114 ls [.int a0, .ref b] (put b pre s A L B post) Q = M3 0 [.val (.ref b), .val (.int a0)] [] (put b pre s A L B post) (fun v H1 => M28 117 ls (v.toList ++ []) H1 Q) := w_virt (as := [.int a0]) (rest := []) (a := b) at_114 cr28_16 put_o rfl rfl (Nat.le_of_ble_eq_true rfl) (by show 2 ≤ 2; omega) rfl
theorem m28_117 : M28 117 [l0, l1, .val (.int v), l3, l4, l5, l6] st H Q = M28 118 [l0, l1, .val (.int v), l3, l4, l5, l6] (.int v :: st) H Q := w_x at_117 rfl
theorem m28_118 : M28 118 [l0, l1, l2, l3, l4, .val (.int v), l6] st H Q = M28 120 [l0, l1, l2, l3, l4, .val (.int v), l6] (.int v :: st) H Q := w_x at_118 rfl
theorem m28_120 : M28 120 [l0, l1, l2, l3, l4, l5, .val (.int v)] st H Q = M28 122 [l0, l1, l2, l3, l4, l5, .val (.int v)] (.int v :: st) H Q := w_x at_120 rfl
theorem cr28_26 : sR tables_1 dn y28 26 = some (y27, method_2_code, 4, (some .int), 3, 114) := sR_of (cR_of (by decide +kernel) rc_27 dn_27 dn_28 (sig := ⟨[.int, .int, .int], some .int⟩) (by decide +kernel) (by decide +kernel) rfl rfl) (by decide +kernel)
theorem m28_122 (a0 : Int32) (a1 : Int32) (a2 : Int32) (u0 : Int32) : M28 122 ls [.int a2, .int a1, .int a0, .int u0] H Q = M27 0 [.val (.int a0), .val (.int a1), .val (.int a2), .unset] [] H (fun v H1 => M28 125 ls (v.toList ++ [.int u0]) H1 Q) := w_stat (as := [.int a2, .int a1, .int a0]) (rest := [.int u0]) at_122 cr28_26 rfl (Nat.le_of_ble_eq_true rfl) (by show 3 ≤ 4; omega) rfl
theorem m28_125 : M28 125 ls (.int y :: .int x :: st) H Q = if x = y then M28 130 ls st H Q else M28 128 ls st H Q := w_icmp at_125 (i_eq x y) rfl
theorem m28_128 : M28 128 ls st H Q = M28 129 ls (.int 0 :: st) H Q := w_con at_128 rfl (by decide)
theorem m28_129 : M28 129 ls (.int z :: st) H Q = Q (some (.int (nar .boolean z))) H := w_iretN at_129 rfl (by simp)
theorem m28_130 : M28 130 [l0, l1, l2, l3, .val (.ref r), l5, l6] st H Q = M28 132 [l0, l1, l2, l3, .val (.ref r), l5, l6] (.ref r :: st) H Q := w_x at_130 rfl
theorem m28_132 : M28 132 ls st H Q = M28 133 ls (.int 1 :: st) H Q := w_con at_132 rfl (by decide)
theorem m28_133 (a0 : Int32) : M28 133 ls [.int a0, .ref b] (put b pre s A L B post) Q = M3 0 [.val (.ref b), .val (.int a0)] [] (put b pre s A L B post) (fun v H1 => M28 136 ls (v.toList ++ []) H1 Q) := w_virt (as := [.int a0]) (rest := []) (a := b) at_133 cr28_16 put_o rfl rfl (Nat.le_of_ble_eq_true rfl) (by show 2 ≤ 2; omega) rfl
theorem m28_136 : M28 136 [l0, l1, l2, .val (.int v), l4, l5, l6] st H Q = M28 137 [l0, l1, l2, .val (.int v), l4, l5, l6] (.int v :: st) H Q := w_x at_136 rfl
theorem m28_137 : M28 137 [l0, l1, l2, l3, l4, .val (.int v), l6] st H Q = M28 139 [l0, l1, l2, l3, l4, .val (.int v), l6] (.int v :: st) H Q := w_x at_137 rfl
theorem m28_139 : M28 139 [l0, l1, l2, l3, l4, l5, .val (.int v)] st H Q = M28 141 [l0, l1, l2, l3, l4, l5, .val (.int v)] (.int v :: st) H Q := w_x at_139 rfl
theorem m28_141 (a0 : Int32) (a1 : Int32) (a2 : Int32) (u0 : Int32) : M28 141 ls [.int a2, .int a1, .int a0, .int u0] H Q = M27 0 [.val (.int a0), .val (.int a1), .val (.int a2), .unset] [] H (fun v H1 => M28 144 ls (v.toList ++ [.int u0]) H1 Q) := w_stat (as := [.int a2, .int a1, .int a0]) (rest := [.int u0]) at_141 cr28_26 rfl (Nat.le_of_ble_eq_true rfl) (by show 3 ≤ 4; omega) rfl
theorem m28_144 : M28 144 ls (.int y :: .int x :: st) H Q = if x = y then M28 149 ls st H Q else M28 147 ls st H Q := w_icmp at_144 (i_eq x y) rfl
theorem m28_147 : M28 147 ls st H Q = M28 148 ls (.int 0 :: st) H Q := w_con at_147 rfl (by decide)
theorem m28_148 : M28 148 ls (.int z :: st) H Q = Q (some (.int (nar .boolean z))) H := w_iretN at_148 rfl (by simp)
theorem m28_149 : M28 149 [l0, l1, l2, l3, .val (.ref r), l5, l6] st H Q = M28 151 [l0, l1, l2, l3, .val (.ref r), l5, l6] (.ref r :: st) H Q := w_x at_149 rfl
theorem m28_151 : M28 151 ls st H Q = M28 152 ls (.int 2 :: st) H Q := w_con at_151 rfl (by decide)
theorem m28_152 (a0 : Int32) : M28 152 ls [.int a0, .ref b] (put b pre s A L B post) Q = M3 0 [.val (.ref b), .val (.int a0)] [] (put b pre s A L B post) (fun v H1 => M28 155 ls (v.toList ++ []) H1 Q) := w_virt (as := [.int a0]) (rest := []) (a := b) at_152 cr28_16 put_o rfl rfl (Nat.le_of_ble_eq_true rfl) (by show 2 ≤ 2; omega) rfl
theorem m28_155 : M28 155 ls (.int x :: st) H Q = if x = 0 then M28 158 ls st H Q else M28 162 ls st H Q := w_ifN at_155 (z_ne x) rfl
theorem m28_158 : M28 158 ls st H Q = M28 159 ls (.int 1 :: st) H Q := w_con at_158 rfl (by decide)
theorem m28_159 : M28 159 ls st H Q = M28 163 ls st H Q := w_x at_159 rfl
theorem m28_162 : M28 162 ls st H Q = M28 163 ls (.int 0 :: st) H Q := w_con at_162 rfl (by decide)
theorem m28_163 : M28 163 ls (.int z :: st) H Q = Q (some (.int (nar .boolean z))) H := w_iretN at_163 rfl (by simp)
theorem pf0_7 : pfR tables_1 y0.cls y0.name 7 = some ("MultiplierGen", 0, .array .byte) := by decide +kernel
theorem m0_4a (hH : H.length = b) {vs : List Value} {r : AHeap} (hj : 0 < vs.length) : M0 4 (.val (.ref b) :: [l1, l2, l3, l4]) [] (H ++ (.object "MultiplierGen", vs) :: r) Q = M0 13 (.val (.ref b) :: [l1, l2, l3, l4]) [] (H ++ (.object "MultiplierGen", vs.set 0 (.ref (b + (r.length + 1)))) :: (r ++ [(.array .byte, List.replicate 4096 (.int 0))])) Q := w_iarr (n := 4096) rfl hH (Nat.zero_le _) (show decode kb0 4 = .ok (.aload_n 0, 1) from by decide +kernel) rfl (show decode kb0 5 = .ok (.sipush 4096, 3) from by decide +kernel) (fun _ => rfl) (by decide) (show decode kb0 8 = .ok (.newarray .byte, 2) from by decide +kernel) rfl (by decide +kernel) (by decide) (by decide) rfl (show decode kb0 10 = .ok (.putfield 7, 3) from by decide +kernel) pf0_7 hj
theorem pf0_13 : pfR tables_1 y0.cls y0.name 13 = some ("MultiplierGen", 1, .array .int) := by decide +kernel
theorem m0_13a (hH : H.length = b) {vs : List Value} {r : AHeap} (hj : 1 < vs.length) : M0 13 (.val (.ref b) :: [l1, l2, l3, l4]) [] (H ++ (.object "MultiplierGen", vs) :: r) Q = M0 22 (.val (.ref b) :: [l1, l2, l3, l4]) [] (H ++ (.object "MultiplierGen", vs.set 1 (.ref (b + (r.length + 1)))) :: (r ++ [(.array .int, List.replicate 4096 (.int 0))])) Q := w_iarr (n := 4096) rfl hH (Nat.zero_le _) (show decode kb0 13 = .ok (.aload_n 0, 1) from by decide +kernel) rfl (show decode kb0 14 = .ok (.sipush 4096, 3) from by decide +kernel) (fun _ => rfl) (by decide) (show decode kb0 17 = .ok (.newarray .int, 2) from by decide +kernel) rfl (by decide +kernel) (by decide) (by decide) rfl (show decode kb0 19 = .ok (.putfield 13, 3) from by decide +kernel) pf0_13 hj
theorem pf0_17 : pfR tables_1 y0.cls y0.name 17 = some ("MultiplierGen", 2, .array .int) := by decide +kernel
theorem m0_22a (hH : H.length = b) {vs : List Value} {r : AHeap} (hj : 2 < vs.length) : M0 22 (.val (.ref b) :: [l1, l2, l3, l4]) [] (H ++ (.object "MultiplierGen", vs) :: r) Q = M0 31 (.val (.ref b) :: [l1, l2, l3, l4]) [] (H ++ (.object "MultiplierGen", vs.set 2 (.ref (b + (r.length + 1)))) :: (r ++ [(.array .int, List.replicate 4096 (.int 0))])) Q := w_iarr (n := 4096) rfl hH (Nat.zero_le _) (show decode kb0 22 = .ok (.aload_n 0, 1) from by decide +kernel) rfl (show decode kb0 23 = .ok (.sipush 4096, 3) from by decide +kernel) (fun _ => rfl) (by decide) (show decode kb0 26 = .ok (.newarray .int, 2) from by decide +kernel) rfl (by decide +kernel) (by decide) (by decide) rfl (show decode kb0 28 = .ok (.putfield 17, 3) from by decide +kernel) pf0_17 hj
theorem pf0_20 : pfR tables_1 y0.cls y0.name 20 = some ("MultiplierGen", 3, .array .byte) := by decide +kernel
theorem m0_31a (hH : H.length = b) {vs : List Value} {r : AHeap} (hj : 3 < vs.length) : M0 31 (.val (.ref b) :: [l1, l2, l3, l4]) [] (H ++ (.object "MultiplierGen", vs) :: r) Q = M0 40 (.val (.ref b) :: [l1, l2, l3, l4]) [] (H ++ (.object "MultiplierGen", vs.set 3 (.ref (b + (r.length + 1)))) :: (r ++ [(.array .byte, List.replicate 4096 (.int 0))])) Q := w_iarr (n := 4096) rfl hH (Nat.zero_le _) (show decode kb0 31 = .ok (.aload_n 0, 1) from by decide +kernel) rfl (show decode kb0 32 = .ok (.sipush 4096, 3) from by decide +kernel) (fun _ => rfl) (by decide) (show decode kb0 35 = .ok (.newarray .byte, 2) from by decide +kernel) rfl (by decide +kernel) (by decide) (by decide) rfl (show decode kb0 37 = .ok (.putfield 20, 3) from by decide +kernel) pf0_20 hj
theorem pf0_23 : pfR tables_1 y0.cls y0.name 23 = some ("MultiplierGen", 4, .array .int) := by decide +kernel
theorem m0_40a (hH : H.length = b) {vs : List Value} {r : AHeap} (hj : 4 < vs.length) : M0 40 (.val (.ref b) :: [l1, l2, l3, l4]) [] (H ++ (.object "MultiplierGen", vs) :: r) Q = M0 49 (.val (.ref b) :: [l1, l2, l3, l4]) [] (H ++ (.object "MultiplierGen", vs.set 4 (.ref (b + (r.length + 1)))) :: (r ++ [(.array .int, List.replicate 512 (.int 0))])) Q := w_iarr (n := 512) rfl hH (Nat.zero_le _) (show decode kb0 40 = .ok (.aload_n 0, 1) from by decide +kernel) rfl (show decode kb0 41 = .ok (.sipush 512, 3) from by decide +kernel) (fun _ => rfl) (by decide) (show decode kb0 44 = .ok (.newarray .int, 2) from by decide +kernel) rfl (by decide +kernel) (by decide) (by decide) rfl (show decode kb0 46 = .ok (.putfield 23, 3) from by decide +kernel) pf0_23 hj
theorem pf0_26 : pfR tables_1 y0.cls y0.name 26 = some ("MultiplierGen", 5, .array .int) := by decide +kernel
theorem m0_49a (hH : H.length = b) {vs : List Value} {r : AHeap} (hj : 5 < vs.length) : M0 49 (.val (.ref b) :: [l1, l2, l3, l4]) [] (H ++ (.object "MultiplierGen", vs) :: r) Q = M0 58 (.val (.ref b) :: [l1, l2, l3, l4]) [] (H ++ (.object "MultiplierGen", vs.set 5 (.ref (b + (r.length + 1)))) :: (r ++ [(.array .int, List.replicate 512 (.int 0))])) Q := w_iarr (n := 512) rfl hH (Nat.zero_le _) (show decode kb0 49 = .ok (.aload_n 0, 1) from by decide +kernel) rfl (show decode kb0 50 = .ok (.sipush 512, 3) from by decide +kernel) (fun _ => rfl) (by decide) (show decode kb0 53 = .ok (.newarray .int, 2) from by decide +kernel) rfl (by decide +kernel) (by decide) (by decide) rfl (show decode kb0 55 = .ok (.putfield 26, 3) from by decide +kernel) pf0_26 hj
theorem pf0_29 : pfR tables_1 y0.cls y0.name 29 = some ("MultiplierGen", 6, .array .int) := by decide +kernel
theorem m0_58a (hH : H.length = b) {vs : List Value} {r : AHeap} (hj : 6 < vs.length) : M0 58 (.val (.ref b) :: [l1, l2, l3, l4]) [] (H ++ (.object "MultiplierGen", vs) :: r) Q = M0 66 (.val (.ref b) :: [l1, l2, l3, l4]) [] (H ++ (.object "MultiplierGen", vs.set 6 (.ref (b + (r.length + 1)))) :: (r ++ [(.array .int, List.replicate 16 (.int 0))])) Q := w_iarr (n := 16) rfl hH (Nat.zero_le _) (show decode kb0 58 = .ok (.aload_n 0, 1) from by decide +kernel) rfl (show decode kb0 59 = .ok (.bipush 16, 2) from by decide +kernel) (fun _ => rfl) (by decide) (show decode kb0 61 = .ok (.newarray .int, 2) from by decide +kernel) rfl (by decide +kernel) (by decide) (by decide) rfl (show decode kb0 63 = .ok (.putfield 29, 3) from by decide +kernel) pf0_29 hj
theorem pf0_32 : pfR tables_1 y0.cls y0.name 32 = some ("MultiplierGen", 7, .array .int) := by decide +kernel
theorem m0_66a (hH : H.length = b) {vs : List Value} {r : AHeap} (hj : 7 < vs.length) : M0 66 (.val (.ref b) :: [l1, l2, l3, l4]) [] (H ++ (.object "MultiplierGen", vs) :: r) Q = M0 74 (.val (.ref b) :: [l1, l2, l3, l4]) [] (H ++ (.object "MultiplierGen", vs.set 7 (.ref (b + (r.length + 1)))) :: (r ++ [(.array .int, List.replicate 16 (.int 0))])) Q := w_iarr (n := 16) rfl hH (Nat.zero_le _) (show decode kb0 66 = .ok (.aload_n 0, 1) from by decide +kernel) rfl (show decode kb0 67 = .ok (.bipush 16, 2) from by decide +kernel) (fun _ => rfl) (by decide) (show decode kb0 69 = .ok (.newarray .int, 2) from by decide +kernel) rfl (by decide +kernel) (by decide) (by decide) rfl (show decode kb0 71 = .ok (.putfield 32, 3) from by decide +kernel) pf0_32 hj
theorem pf0_35 : pfR tables_1 y0.cls y0.name 35 = some ("MultiplierGen", 8, .array .int) := by decide +kernel
theorem m0_74a (hH : H.length = b) {vs : List Value} {r : AHeap} (hj : 8 < vs.length) : M0 74 (.val (.ref b) :: [l1, l2, l3, l4]) [] (H ++ (.object "MultiplierGen", vs) :: r) Q = M0 82 (.val (.ref b) :: [l1, l2, l3, l4]) [] (H ++ (.object "MultiplierGen", vs.set 8 (.ref (b + (r.length + 1)))) :: (r ++ [(.array .int, List.replicate 16 (.int 0))])) Q := w_iarr (n := 16) rfl hH (Nat.zero_le _) (show decode kb0 74 = .ok (.aload_n 0, 1) from by decide +kernel) rfl (show decode kb0 75 = .ok (.bipush 16, 2) from by decide +kernel) (fun _ => rfl) (by decide) (show decode kb0 77 = .ok (.newarray .int, 2) from by decide +kernel) rfl (by decide +kernel) (by decide) (by decide) rfl (show decode kb0 79 = .ok (.putfield 35, 3) from by decide +kernel) pf0_35 hj
theorem pf0_38 : pfR tables_1 y0.cls y0.name 38 = some ("MultiplierGen", 9, .array .int) := by decide +kernel
theorem m0_82a (hH : H.length = b) {vs : List Value} {r : AHeap} (hj : 9 < vs.length) : M0 82 (.val (.ref b) :: [l1, l2, l3, l4]) [] (H ++ (.object "MultiplierGen", vs) :: r) Q = M0 90 (.val (.ref b) :: [l1, l2, l3, l4]) [] (H ++ (.object "MultiplierGen", vs.set 9 (.ref (b + (r.length + 1)))) :: (r ++ [(.array .int, List.replicate 16 (.int 0))])) Q := w_iarr (n := 16) rfl hH (Nat.zero_le _) (show decode kb0 82 = .ok (.aload_n 0, 1) from by decide +kernel) rfl (show decode kb0 83 = .ok (.bipush 16, 2) from by decide +kernel) (fun _ => rfl) (by decide) (show decode kb0 85 = .ok (.newarray .int, 2) from by decide +kernel) rfl (by decide +kernel) (by decide) (by decide) rfl (show decode kb0 87 = .ok (.putfield 38, 3) from by decide +kernel) pf0_38 hj
theorem pf0_41 : pfR tables_1 y0.cls y0.name 41 = some ("MultiplierGen", 10, .array .int) := by decide +kernel
theorem m0_90a (hH : H.length = b) {vs : List Value} {r : AHeap} (hj : 10 < vs.length) : M0 90 (.val (.ref b) :: [l1, l2, l3, l4]) [] (H ++ (.object "MultiplierGen", vs) :: r) Q = M0 98 (.val (.ref b) :: [l1, l2, l3, l4]) [] (H ++ (.object "MultiplierGen", vs.set 10 (.ref (b + (r.length + 1)))) :: (r ++ [(.array .int, List.replicate 16 (.int 0))])) Q := w_iarr (n := 16) rfl hH (Nat.zero_le _) (show decode kb0 90 = .ok (.aload_n 0, 1) from by decide +kernel) rfl (show decode kb0 91 = .ok (.bipush 16, 2) from by decide +kernel) (fun _ => rfl) (by decide) (show decode kb0 93 = .ok (.newarray .int, 2) from by decide +kernel) rfl (by decide +kernel) (by decide) (by decide) rfl (show decode kb0 95 = .ok (.putfield 41, 3) from by decide +kernel) pf0_41 hj
theorem pf0_44 : pfR tables_1 y0.cls y0.name 44 = some ("MultiplierGen", 11, .array .int) := by decide +kernel
theorem m0_98a (hH : H.length = b) {vs : List Value} {r : AHeap} (hj : 11 < vs.length) : M0 98 (.val (.ref b) :: [l1, l2, l3, l4]) [] (H ++ (.object "MultiplierGen", vs) :: r) Q = M0 106 (.val (.ref b) :: [l1, l2, l3, l4]) [] (H ++ (.object "MultiplierGen", vs.set 11 (.ref (b + (r.length + 1)))) :: (r ++ [(.array .int, List.replicate 16 (.int 0))])) Q := w_iarr (n := 16) rfl hH (Nat.zero_le _) (show decode kb0 98 = .ok (.aload_n 0, 1) from by decide +kernel) rfl (show decode kb0 99 = .ok (.bipush 16, 2) from by decide +kernel) (fun _ => rfl) (by decide) (show decode kb0 101 = .ok (.newarray .int, 2) from by decide +kernel) rfl (by decide +kernel) (by decide) (by decide) rfl (show decode kb0 103 = .ok (.putfield 44, 3) from by decide +kernel) pf0_44 hj
theorem pf0_47 : pfR tables_1 y0.cls y0.name 47 = some ("MultiplierGen", 12, .array .int) := by decide +kernel
theorem m0_106a (hH : H.length = b) {vs : List Value} {r : AHeap} (hj : 12 < vs.length) : M0 106 (.val (.ref b) :: [l1, l2, l3, l4]) [] (H ++ (.object "MultiplierGen", vs) :: r) Q = M0 114 (.val (.ref b) :: [l1, l2, l3, l4]) [] (H ++ (.object "MultiplierGen", vs.set 12 (.ref (b + (r.length + 1)))) :: (r ++ [(.array .int, List.replicate 8 (.int 0))])) Q := w_iarr (n := 8) rfl hH (Nat.zero_le _) (show decode kb0 106 = .ok (.aload_n 0, 1) from by decide +kernel) rfl (show decode kb0 107 = .ok (.bipush 8, 2) from by decide +kernel) (fun _ => rfl) (by decide) (show decode kb0 109 = .ok (.newarray .int, 2) from by decide +kernel) rfl (by decide +kernel) (by decide) (by decide) rfl (show decode kb0 111 = .ok (.putfield 47, 3) from by decide +kernel) pf0_47 hj
theorem pf0_50 : pfR tables_1 y0.cls y0.name 50 = some ("MultiplierGen", 13, .array .int) := by decide +kernel
theorem m0_114a (hH : H.length = b) {vs : List Value} {r : AHeap} (hj : 13 < vs.length) : M0 114 (.val (.ref b) :: [l1, l2, l3, l4]) [] (H ++ (.object "MultiplierGen", vs) :: r) Q = M0 122 (.val (.ref b) :: [l1, l2, l3, l4]) [] (H ++ (.object "MultiplierGen", vs.set 13 (.ref (b + (r.length + 1)))) :: (r ++ [(.array .int, List.replicate 8 (.int 0))])) Q := w_iarr (n := 8) rfl hH (Nat.zero_le _) (show decode kb0 114 = .ok (.aload_n 0, 1) from by decide +kernel) rfl (show decode kb0 115 = .ok (.bipush 8, 2) from by decide +kernel) (fun _ => rfl) (by decide) (show decode kb0 117 = .ok (.newarray .int, 2) from by decide +kernel) rfl (by decide +kernel) (by decide) (by decide) rfl (show decode kb0 119 = .ok (.putfield 50, 3) from by decide +kernel) pf0_50 hj
def A0 : Nat → List Int32
  | 0 => List.replicate 4096 0
  | 1 => List.replicate 4096 0
  | 2 => List.replicate 4096 0
  | 3 => List.replicate 4096 0
  | 4 => List.replicate 512 0
  | 5 => List.replicate 512 0
  | 6 => List.replicate 16 0
  | 7 => List.replicate 16 0
  | 8 => List.replicate 16 0
  | 9 => List.replicate 16 0
  | 10 => List.replicate 16 0
  | 11 => List.replicate 16 0
  | 12 => List.replicate 8 0
  | 13 => List.replicate 8 0
  | _ => []
def B0 : Nat → List Int64
  | _ => []
theorem A0l_0 : (A0 0).length = 4096 := List.length_replicate
theorem A0g_0 (j : Int32) : getA (A0 0) j = 0 := getA_rep _ _
theorem A0l_1 : (A0 1).length = 4096 := List.length_replicate
theorem A0g_1 (j : Int32) : getA (A0 1) j = 0 := getA_rep _ _
theorem A0l_2 : (A0 2).length = 4096 := List.length_replicate
theorem A0g_2 (j : Int32) : getA (A0 2) j = 0 := getA_rep _ _
theorem A0l_3 : (A0 3).length = 4096 := List.length_replicate
theorem A0g_3 (j : Int32) : getA (A0 3) j = 0 := getA_rep _ _
theorem A0l_4 : (A0 4).length = 512 := List.length_replicate
theorem A0g_4 (j : Int32) : getA (A0 4) j = 0 := getA_rep _ _
theorem A0l_5 : (A0 5).length = 512 := List.length_replicate
theorem A0g_5 (j : Int32) : getA (A0 5) j = 0 := getA_rep _ _
theorem A0l_6 : (A0 6).length = 16 := List.length_replicate
theorem A0g_6 (j : Int32) : getA (A0 6) j = 0 := getA_rep _ _
theorem A0l_7 : (A0 7).length = 16 := List.length_replicate
theorem A0g_7 (j : Int32) : getA (A0 7) j = 0 := getA_rep _ _
theorem A0l_8 : (A0 8).length = 16 := List.length_replicate
theorem A0g_8 (j : Int32) : getA (A0 8) j = 0 := getA_rep _ _
theorem A0l_9 : (A0 9).length = 16 := List.length_replicate
theorem A0g_9 (j : Int32) : getA (A0 9) j = 0 := getA_rep _ _
theorem A0l_10 : (A0 10).length = 16 := List.length_replicate
theorem A0g_10 (j : Int32) : getA (A0 10) j = 0 := getA_rep _ _
theorem A0l_11 : (A0 11).length = 16 := List.length_replicate
theorem A0g_11 (j : Int32) : getA (A0 11) j = 0 := getA_rep _ _
theorem A0l_12 : (A0 12).length = 8 := List.length_replicate
theorem A0g_12 (j : Int32) : getA (A0 12) j = 0 := getA_rep _ _
theorem A0l_13 : (A0 13).length = 8 := List.length_replicate
theorem A0g_13 (j : Int32) : getA (A0 13) j = 0 := getA_rep _ _
theorem own_ctor0 (hb : pre.length = b) : M0 0 (.val (.ref b) :: [l1, l2, l3, l4]) [] (pre ++ [(.object "MultiplierGen", D0)]) Q = M0 122 (.val (.ref b) :: [l1, l2, l3, l4]) [] (put b pre (fun _ => 0) A0 (fun _ => 0) B0 []) Q := by
  rw [m0_0, m0_1, m0_4a hb (by (repeat rw [List.length_set]); exact Nat.le_of_ble_eq_true rfl), m0_13a hb (by (repeat rw [List.length_set]); exact Nat.le_of_ble_eq_true rfl), m0_22a hb (by (repeat rw [List.length_set]); exact Nat.le_of_ble_eq_true rfl), m0_31a hb (by (repeat rw [List.length_set]); exact Nat.le_of_ble_eq_true rfl), m0_40a hb (by (repeat rw [List.length_set]); exact Nat.le_of_ble_eq_true rfl), m0_49a hb (by (repeat rw [List.length_set]); exact Nat.le_of_ble_eq_true rfl), m0_58a hb (by (repeat rw [List.length_set]); exact Nat.le_of_ble_eq_true rfl), m0_66a hb (by (repeat rw [List.length_set]); exact Nat.le_of_ble_eq_true rfl), m0_74a hb (by (repeat rw [List.length_set]); exact Nat.le_of_ble_eq_true rfl), m0_82a hb (by (repeat rw [List.length_set]); exact Nat.le_of_ble_eq_true rfl), m0_90a hb (by (repeat rw [List.length_set]); exact Nat.le_of_ble_eq_true rfl), m0_98a hb (by (repeat rw [List.length_set]); exact Nat.le_of_ble_eq_true rfl), m0_106a hb (by (repeat rw [List.length_set]); exact Nat.le_of_ble_eq_true rfl), m0_114a hb (by (repeat rw [List.length_set]); exact Nat.le_of_ble_eq_true rfl)]
  simp only [put, pad_eq hb, objv, D0, A0, B0, List.map_replicate, List.set_cons_succ, List.set_cons_zero, List.nil_append, List.cons_append, List.length_cons, List.length_nil, List.append_nil]
end Rules
/- methods: 0=MultiplierGen.<init>(IIII)V; 1=MultiplierGen.clamp(III)I; 2=MultiplierGen.setA(I)I; 3=MultiplierGen.getOperand(I)I; 4=MultiplierGen.build()I; 5=MultiplierGen.buildNetlist()V; 6=MultiplierGen.newGate(III)I; 7=MultiplierGen.buildSimple()V; 8=MultiplierGen.bExt(I)I; 9=MultiplierGen.aExt(I)I; 10=MultiplierGen.mkAnd(II)I; 11=MultiplierGen.pushCur(II)V; 12=MultiplierGen.reduceAll()V; 13=MultiplierGen.daddaTarget(I)I; 14=MultiplierGen.reduceStage(I)V; 15=MultiplierGen.reduceColumn(II)V; 16=MultiplierGen.pushNxt(II)V; 17=MultiplierGen.halfAdder(II)V; 18=MultiplierGen.mkXor(II)I; 19=MultiplierGen.fullAdder(II)V; 20=MultiplierGen.mkOr(II)I; 21=MultiplierGen.finalAdder()V; 22=MultiplierGen.sparseCarries()V; 23=MultiplierGen.combineGP(II)V; 24=MultiplierGen.combineG(II)V; 25=MultiplierGen.setB(I)I; 26=MultiplierGen.readPattern(II)I; 27=MultiplierGenL2.read(III)I; 28=MultiplierGenL2.law(IIII)Z -/
def LN (A : Nat → List Int32) : Prop := ∀ i, (A i).length = (A0 i).length
theorem LN_ou {A : Nat → List Int32} {j : Nat} {l : List Int32} (h : LN A) (hl : l.length = (A0 j).length) : LN (ou A j l) := len_ou h hl
theorem in_lt {A : Nat → List Int32} {k : Nat} {j n : Int32} (h : LN A) (hk : ((A0 k).length : Int) = n.toInt) (h0 : ¬ j < 0) (h1 : j < n) : inB j (A k) := inB_lt (by rw [h k]; exact hk) h0 h1
theorem z0 : ((A0 0).length : Int) = (4096 : Int32).toInt := by rw [A0l_0]; rfl
theorem z1 : ((A0 1).length : Int) = (4096 : Int32).toInt := by rw [A0l_1]; rfl
theorem z2 : ((A0 2).length : Int) = (4096 : Int32).toInt := by rw [A0l_2]; rfl
theorem z3 : ((A0 3).length : Int) = (4096 : Int32).toInt := by rw [A0l_3]; rfl
theorem z4 : ((A0 4).length : Int) = (512 : Int32).toInt := by rw [A0l_4]; rfl
theorem z5 : ((A0 5).length : Int) = (512 : Int32).toInt := by rw [A0l_5]; rfl
theorem z6 : ((A0 6).length : Int) = (16 : Int32).toInt := by rw [A0l_6]; rfl
theorem z7 : ((A0 7).length : Int) = (16 : Int32).toInt := by rw [A0l_7]; rfl
theorem z8 : ((A0 8).length : Int) = (16 : Int32).toInt := by rw [A0l_8]; rfl
theorem z9 : ((A0 9).length : Int) = (16 : Int32).toInt := by rw [A0l_9]; rfl
theorem z10 : ((A0 10).length : Int) = (16 : Int32).toInt := by rw [A0l_10]; rfl
theorem z11 : ((A0 11).length : Int) = (16 : Int32).toInt := by rw [A0l_11]; rfl
theorem z12 : ((A0 12).length : Int) = (8 : Int32).toInt := by rw [A0l_12]; rfl
theorem z13 : ((A0 13).length : Int) = (8 : Int32).toInt := by rw [A0l_13]; rfl
theorem i_2 : (2 : Int32).toInt = 2 := rfl
theorem i_3 : (3 : Int32).toInt = 3 := rfl
theorem i_8 : (8 : Int32).toInt = 8 := rfl
theorem i_16 : (16 : Int32).toInt = 16 := rfl
theorem i_32 : (32 : Int32).toInt = 32 := rfl
theorem i_512 : (512 : Int32).toInt = 512 := rfl
theorem i_4096 : (4096 : Int32).toInt = 4096 := rfl
def nd (k : Nat) : Prop := k = 4 ∨ k = 5 ∨ 8 ≤ k
def ND (A : Nat → List Int32) : Prop := ∀ k, nd k → ∀ x ∈ A k, ¬ x = 1
abbrev KI (F : Nat → Int32) (N : Int32) (s : Nat → Int32) (A : Nat → List Int32) : Prop := (∀ i, i ≠ 13 → i ≠ 14 → s i = F i) ∧ s 14 = N ∧ LN A ∧ ND A ∧ 2 ≤ (s 13).toInt ∧ (s 13).toInt ≤ 4096
theorem nd_get {A : Nat → List Int32} {k : Nat} (h : ND A) (hk : nd k) (j : Int32) : ¬ getA (A k) j = 1 := by
  by_cases q : j.toNatClampNeg < (A k).length
  · have e : getA (A k) j = (A k)[j.toNatClampNeg] := by simp [getA, q]
    rw [e]
    exact h k hk _ (List.getElem_mem q)
  · have e : getA (A k) j = 0 := by simp [getA, q]
    rw [e]
    decide
theorem ND_set {A : Nat → List Int32} {k : Nat} {l : List Int32} {j v : Int32} (h : ND A) (hl : nd k → ∀ x ∈ l, ¬ x = 1) (hv : nd k → ¬ v = 1) : ND (ou A k (setA l j v)) := by
  intro i hi x hx
  rw [ou_a] at hx
  by_cases e : i = k
  · rw [if_pos e] at hx
    subst e
    rcases List.mem_or_eq_of_mem_set hx with q | q
    · exact hl hi x q
    · rw [q]; exact hv hi
  · rw [if_neg e] at hx
    exact h i hi x hx
theorem KI_set {F : Nat → Int32} {N : Int32} {s : Nat → Int32} {A : Nat → List Int32} {k : Nat} {l : List Int32} {j v : Int32} (h : KI F N s A) (hl : l = A k) (hv : nd k → ¬ v = 1) : KI F N s (ou A k (setA l j v)) := by
  subst hl
  exact ⟨h.1, h.2.1, LN_ou h.2.2.1 (by rw [setA_len]; exact h.2.2.1 _), ND_set h.2.2.2.1 (fun q => h.2.2.2.1 _ q) hv, h.2.2.2.2⟩
theorem n6 : nd 6 → ∀ v : Int32, ¬ v = 1 := by intro q; unfold nd at q; omega
theorem n7 : nd 7 → ∀ v : Int32, ¬ v = 1 := by intro q; unfold nd at q; omega
theorem n0 {k : Nat} (hk : k < 4) : nd k → ∀ v : Int32, ¬ v = 1 := by intro q; unfold nd at q; omega
theorem ne1 {a : Int32} (h : 2 ≤ a.toInt) : ¬ a = 1 := fun e => by subst e; exact absurd h (by decide)
theorem ix32 {c k : Int32} (c0 : ¬ c < 0) (c1 : c < 16) (k0 : ¬ k < 0) (k1 : k < 32) : ¬ c * 32 + k < 0 ∧ c * 32 + k < 512 := by
  rw [nn_i] at *
  rw [lt_i, i_16] at c1
  rw [lt_i, i_32] at k1
  have e1 : (c * 32).toInt = c.toInt * 32 := by
    have := mul_i (a := c) (b := 32) (by rw [i_32]; omega) (by rw [i_32]; omega)
    rw [this, i_32]
  have e2 : (c * 32 + k).toInt = c.toInt * 32 + k.toInt := by
    have := add_i (a := c * 32) (b := k) (by rw [e1]; omega) (by rw [e1]; omega)
    rw [this, e1]
  rw [lt_i, e2, i_512]
  omega
section Mult
variable {F : Nat → Int32} {N : Int32} {s : Nat → Int32} {A : Nat → List Int32} {L : Nat → Int64} {B : Nat → List Int64} {Q : Option Value → AHeap → Prop}
set_option maxRecDepth 1000000 in
set_option maxHeartbeats 20000000 in
theorem g6 {op x y : Int32} (h : KI F N s A) (hQ : ∀ (v : Int32) s' A', KI F N s' A' → ¬ v = 1 → Q (some (.int v)) (put 0 [] s' A' L B [])) : M6 0 [.val (.ref 0), .val (.int op), .val (.int x), .val (.int y), .unset] [] (put 0 [] s A L B []) Q := by
  have c0 := h.2.2.2.2.1
  have a0 : ¬ s 13 < 0 := by rw [nn_i]; omega
  by_cases a1 : s 13 < 4096
  · have q0 := in_lt h.2.2.1 z0 a0 a1
    have q1 := in_lt h.2.2.1 z1 a0 a1
    have q2 := in_lt h.2.2.1 z2 a0 a1
    have q3 := in_lt h.2.2.1 z3 a0 a1
    have e1 := add1_i (a := s 13) (by omega)
    have a2 := a1
    rw [lt_i, i_4096] at a2
    simp [a0, a1, q0, q1, q2, q3, m6_0, m6_1, m6_4, m6_7, m6_8, m6_11, m6_14, m6_17, m6_18, m6_19, m6_20, m6_23u, m6_25, m6_26, m6_29, m6_31, m6_32, m6_33, m6_34, m6_35, m6_38, m6_40, m6_41, m6_42, m6_43, m6_46, m6_48, m6_49, m6_50, m6_51, m6_54, m6_56, m6_57, m6_58, m6_59, m6_61, m6_62, m6_63, m6_66, m6_68, nb0, nb1, ou_a, Option.toList_some, Option.toList_none, List.nil_append, List.cons_append]
    refine hQ _ _ _ ⟨fun i p q => ?_, ?_, ?_, ?_, ?_, ?_⟩ (ne1 c0)
    · rw [ou_a, if_neg p]; exact h.1 i p q
    · exact h.2.1
    · have h := h.2.2.1
      (repeat refine LN_ou ?_ (by simp only [setA_len]; exact h _)); exact h
    · refine ND_set (ND_set (ND_set (ND_set h.2.2.2.1 (fun q => ?_) (fun q => n0 (by decide) q _)) (fun q => ?_) (fun q => n0 (by decide) q _)) (fun q => ?_) (fun q => n0 (by decide) q _)) (fun q => ?_) (fun q => n0 (by decide) q _) <;> exact h.2.2.2.1 _ q
    · show 2 ≤ (s 13 + 1).toInt; omega
    · show (s 13 + 1).toInt ≤ 4096; omega
  · simp [a0, a1, m6_0, m6_1, m6_4, m6_7, m6_8, m6_11, m6_14, m6_17, m6_18, m6_19, m6_20, m6_23u, m6_25, m6_26, m6_29, m6_31, m6_32, m6_33, m6_34, m6_35, m6_38, m6_40, m6_41, m6_42, m6_43, m6_46, m6_48, m6_49, m6_50, m6_51, m6_54, m6_56, m6_57, m6_58, m6_59, m6_61, m6_62, m6_63, m6_66, m6_68, nb0, nb1, ou_a, Option.toList_some, Option.toList_none, List.nil_append, List.cons_append]
    exact hQ 0 s A h (by decide)
set_option maxRecDepth 1000000 in
set_option maxHeartbeats 20000000 in
theorem g10 {x y : Int32} (h : KI F N s A) (x1 : ¬ x = 1) (y1 : ¬ y = 1) (hQ : ∀ (v : Int32) s' A', KI F N s' A' → ¬ v = 1 → Q (some (.int v)) (put 0 [] s' A' L B [])) : M10 0 [.val (.ref 0), .val (.int x), .val (.int y)] [] (put 0 [] s A L B []) Q := by
  by_cases a1 : x = 0
  · simp [x1, y1, a1, m10_0, m10_1, m10_4, m10_5, m10_8, m10_9, m10_10, m10_11, m10_12, m10_15, m10_16, m10_17, m10_18, m10_19, m10_22, m10_23, m10_24, m10_27, m10_28, m10_29, m10_30, m10_31, m10_32, m10_33, m10_36, nb0, nb1, ou_a, Option.toList_some, Option.toList_none, List.nil_append, List.cons_append]
    exact hQ _ s A h (by decide)
  by_cases a2 : y = 0
  · simp [x1, y1, a1, a2, m10_0, m10_1, m10_4, m10_5, m10_8, m10_9, m10_10, m10_11, m10_12, m10_15, m10_16, m10_17, m10_18, m10_19, m10_22, m10_23, m10_24, m10_27, m10_28, m10_29, m10_30, m10_31, m10_32, m10_33, m10_36, nb0, nb1, ou_a, Option.toList_some, Option.toList_none, List.nil_append, List.cons_append]
    exact hQ _ s A h (by decide)
  by_cases a3 : x = y
  · simp [x1, y1, a1, a2, a3, m10_0, m10_1, m10_4, m10_5, m10_8, m10_9, m10_10, m10_11, m10_12, m10_15, m10_16, m10_17, m10_18, m10_19, m10_22, m10_23, m10_24, m10_27, m10_28, m10_29, m10_30, m10_31, m10_32, m10_33, m10_36, nb0, nb1, ou_a, Option.toList_some, Option.toList_none, List.nil_append, List.cons_append]
    exact hQ _ s A h (by assumption)
  simp [x1, y1, a1, a2, a3, m10_0, m10_1, m10_4, m10_5, m10_8, m10_9, m10_10, m10_11, m10_12, m10_15, m10_16, m10_17, m10_18, m10_19, m10_22, m10_23, m10_24, m10_27, m10_28, m10_29, m10_30, m10_31, m10_32, m10_33, m10_36, nb0, nb1, ou_a, Option.toList_some, Option.toList_none, List.nil_append, List.cons_append]
  refine g6 h (fun v s' A' h' v1 => ?_)
  simp [m10_0, m10_1, m10_4, m10_5, m10_8, m10_9, m10_10, m10_11, m10_12, m10_15, m10_16, m10_17, m10_18, m10_19, m10_22, m10_23, m10_24, m10_27, m10_28, m10_29, m10_30, m10_31, m10_32, m10_33, m10_36, nb0, nb1, ou_a, Option.toList_some, Option.toList_none, List.nil_append, List.cons_append]
  exact hQ v s' A' h' v1
set_option maxRecDepth 1000000 in
set_option maxHeartbeats 20000000 in
theorem g18 {x y : Int32} (h : KI F N s A) (x1 : ¬ x = 1) (y1 : ¬ y = 1) (hQ : ∀ (v : Int32) s' A', KI F N s' A' → ¬ v = 1 → Q (some (.int v)) (put 0 [] s' A' L B [])) : M18 0 [.val (.ref 0), .val (.int x), .val (.int y)] [] (put 0 [] s A L B []) Q := by
  by_cases a1 : x = 0
  · simp [x1, y1, a1, m18_0, m18_1, m18_4, m18_5, m18_6, m18_7, m18_10, m18_11, m18_12, m18_13, m18_14, m18_17, m18_18, m18_19, m18_20, m18_21, m18_24, m18_25, m18_30, m18_31, m18_32, m18_35, m18_36, m18_41, m18_42, m18_44, m18_45, m18_46, m18_49, nb0, nb1, ou_a, Option.toList_some, Option.toList_none, List.nil_append, List.cons_append]
    exact hQ _ s A h (by assumption)
  by_cases a2 : y = 0
  · simp [x1, y1, a1, a2, m18_0, m18_1, m18_4, m18_5, m18_6, m18_7, m18_10, m18_11, m18_12, m18_13, m18_14, m18_17, m18_18, m18_19, m18_20, m18_21, m18_24, m18_25, m18_30, m18_31, m18_32, m18_35, m18_36, m18_41, m18_42, m18_44, m18_45, m18_46, m18_49, nb0, nb1, ou_a, Option.toList_some, Option.toList_none, List.nil_append, List.cons_append]
    exact hQ _ s A h (by assumption)
  by_cases a3 : x = y
  · simp [x1, y1, a1, a2, a3, m18_0, m18_1, m18_4, m18_5, m18_6, m18_7, m18_10, m18_11, m18_12, m18_13, m18_14, m18_17, m18_18, m18_19, m18_20, m18_21, m18_24, m18_25, m18_30, m18_31, m18_32, m18_35, m18_36, m18_41, m18_42, m18_44, m18_45, m18_46, m18_49, nb0, nb1, ou_a, Option.toList_some, Option.toList_none, List.nil_append, List.cons_append]
    exact hQ _ s A h (by decide)
  simp [x1, y1, a1, a2, a3, m18_0, m18_1, m18_4, m18_5, m18_6, m18_7, m18_10, m18_11, m18_12, m18_13, m18_14, m18_17, m18_18, m18_19, m18_20, m18_21, m18_24, m18_25, m18_30, m18_31, m18_32, m18_35, m18_36, m18_41, m18_42, m18_44, m18_45, m18_46, m18_49, nb0, nb1, ou_a, Option.toList_some, Option.toList_none, List.nil_append, List.cons_append]
  refine g6 h (fun v s' A' h' v1 => ?_)
  simp [m18_0, m18_1, m18_4, m18_5, m18_6, m18_7, m18_10, m18_11, m18_12, m18_13, m18_14, m18_17, m18_18, m18_19, m18_20, m18_21, m18_24, m18_25, m18_30, m18_31, m18_32, m18_35, m18_36, m18_41, m18_42, m18_44, m18_45, m18_46, m18_49, nb0, nb1, ou_a, Option.toList_some, Option.toList_none, List.nil_append, List.cons_append]
  exact hQ v s' A' h' v1
set_option maxRecDepth 1000000 in
set_option maxHeartbeats 20000000 in
theorem g20 {x y : Int32} (h : KI F N s A) (x1 : ¬ x = 1) (y1 : ¬ y = 1) (hQ : ∀ (v : Int32) s' A', KI F N s' A' → ¬ v = 1 → Q (some (.int v)) (put 0 [] s' A' L B [])) : M20 0 [.val (.ref 0), .val (.int x), .val (.int y)] [] (put 0 [] s A L B []) Q := by
  by_cases a1 : x = 0
  · simp [x1, y1, a1, m20_0, m20_1, m20_2, m20_5, m20_6, m20_7, m20_10, m20_11, m20_12, m20_13, m20_16, m20_17, m20_18, m20_19, m20_22, m20_23, m20_24, m20_27, m20_28, m20_29, m20_30, m20_31, m20_32, m20_33, m20_36, nb0, nb1, ou_a, Option.toList_some, Option.toList_none, List.nil_append, List.cons_append]
    exact hQ _ s A h (by assumption)
  by_cases a2 : y = 0
  · simp [x1, y1, a1, a2, m20_0, m20_1, m20_2, m20_5, m20_6, m20_7, m20_10, m20_11, m20_12, m20_13, m20_16, m20_17, m20_18, m20_19, m20_22, m20_23, m20_24, m20_27, m20_28, m20_29, m20_30, m20_31, m20_32, m20_33, m20_36, nb0, nb1, ou_a, Option.toList_some, Option.toList_none, List.nil_append, List.cons_append]
    exact hQ _ s A h (by assumption)
  by_cases a3 : x = y
  · simp [x1, y1, a1, a2, a3, m20_0, m20_1, m20_2, m20_5, m20_6, m20_7, m20_10, m20_11, m20_12, m20_13, m20_16, m20_17, m20_18, m20_19, m20_22, m20_23, m20_24, m20_27, m20_28, m20_29, m20_30, m20_31, m20_32, m20_33, m20_36, nb0, nb1, ou_a, Option.toList_some, Option.toList_none, List.nil_append, List.cons_append]
    exact hQ _ s A h (by assumption)
  simp [x1, y1, a1, a2, a3, m20_0, m20_1, m20_2, m20_5, m20_6, m20_7, m20_10, m20_11, m20_12, m20_13, m20_16, m20_17, m20_18, m20_19, m20_22, m20_23, m20_24, m20_27, m20_28, m20_29, m20_30, m20_31, m20_32, m20_33, m20_36, nb0, nb1, ou_a, Option.toList_some, Option.toList_none, List.nil_append, List.cons_append]
  refine g6 h (fun v s' A' h' v1 => ?_)
  simp [m20_0, m20_1, m20_2, m20_5, m20_6, m20_7, m20_10, m20_11, m20_12, m20_13, m20_16, m20_17, m20_18, m20_19, m20_22, m20_23, m20_24, m20_27, m20_28, m20_29, m20_30, m20_31, m20_32, m20_33, m20_36, nb0, nb1, ou_a, Option.toList_some, Option.toList_none, List.nil_append, List.cons_append]
  exact hQ v s' A' h' v1
set_option maxRecDepth 1000000 in
set_option maxHeartbeats 20000000 in
theorem g8 {j : Int32} (h : KI F N s A) (w1 : 2 ≤ (F 4).toInt) (w2 : (F 4).toInt ≤ 8) (hQ : ∀ v : Int32, ¬ v = 1 → Q (some (.int v)) (put 0 [] s A L B [])) : M8 0 [.val (.ref 0), .val (.int j)] [] (put 0 [] s A L B []) Q := by
  have e4 : s 4 = F 4 := h.1 4 (by decide) (by decide)
  by_cases a1 : j < 0
  · simp [a1, m8_0, m8_1, m8_4, m8_5, m8_6, m8_7, m8_8, m8_11, m8_14, m8_15, m8_18, m8_19, m8_20, m8_21, m8_22, m8_25, m8_26, m8_29, m8_30, m8_33, m8_34, m8_37, m8_38, m8_39, m8_40, m8_41, m8_42, nb0, nb1, ou_a, Option.toList_some, Option.toList_none, List.nil_append, List.cons_append]
    exact hQ 0 (by decide)
  by_cases a2 : j < F 4
  · have q := in_lt h.2.2.1 z13 a1 (by rw [lt_i] at *; rw [i_8]; omega)
    simp [a1, a2, e4, q, m8_0, m8_1, m8_4, m8_5, m8_6, m8_7, m8_8, m8_11, m8_14, m8_15, m8_18, m8_19, m8_20, m8_21, m8_22, m8_25, m8_26, m8_29, m8_30, m8_33, m8_34, m8_37, m8_38, m8_39, m8_40, m8_41, m8_42, nb0, nb1, ou_a, Option.toList_some, Option.toList_none, List.nil_append, List.cons_append]
    exact hQ _ (nd_get h.2.2.2.1 (by unfold nd; omega) _)
  by_cases a3 : s 5 = 1
  · have ew := sub_i (a := F 4) (b := 1) (by rw [i_1]; omega) (by rw [i_1]; omega)
    rw [i_1] at ew
    have q : inB (F 4 - 1) (A 13) := in_lt h.2.2.1 z13 (by rw [nn_i]; omega) (by rw [lt_i, i_8]; omega)
    simp [a1, a2, a3, e4, q, m8_0, m8_1, m8_4, m8_5, m8_6, m8_7, m8_8, m8_11, m8_14, m8_15, m8_18, m8_19, m8_20, m8_21, m8_22, m8_25, m8_26, m8_29, m8_30, m8_33, m8_34, m8_37, m8_38, m8_39, m8_40, m8_41, m8_42, nb0, nb1, ou_a, Option.toList_some, Option.toList_none, List.nil_append, List.cons_append]
    exact hQ _ (nd_get h.2.2.2.1 (by unfold nd; omega) _)
  · simp [a1, a2, a3, e4, m8_0, m8_1, m8_4, m8_5, m8_6, m8_7, m8_8, m8_11, m8_14, m8_15, m8_18, m8_19, m8_20, m8_21, m8_22, m8_25, m8_26, m8_29, m8_30, m8_33, m8_34, m8_37, m8_38, m8_39, m8_40, m8_41, m8_42, nb0, nb1, ou_a, Option.toList_some, Option.toList_none, List.nil_append, List.cons_append]
    exact hQ 0 (by decide)
set_option maxRecDepth 1000000 in
set_option maxHeartbeats 20000000 in
theorem g9 {j : Int32} (h : KI F N s A) (w1 : 2 ≤ (F 4).toInt) (w2 : (F 4).toInt ≤ 8) (hQ : ∀ v : Int32, ¬ v = 1 → Q (some (.int v)) (put 0 [] s A L B [])) : M9 0 [.val (.ref 0), .val (.int j)] [] (put 0 [] s A L B []) Q := by
  have e4 : s 4 = F 4 := h.1 4 (by decide) (by decide)
  by_cases a1 : j < 0
  · simp [a1, m9_0, m9_1, m9_4, m9_5, m9_6, m9_7, m9_8, m9_11, m9_14, m9_15, m9_18, m9_19, m9_20, m9_21, m9_22, m9_25, m9_26, m9_29, m9_30, m9_33, m9_34, m9_37, m9_38, m9_39, m9_40, m9_41, m9_42, nb0, nb1, ou_a, Option.toList_some, Option.toList_none, List.nil_append, List.cons_append]
    exact hQ 0 (by decide)
  by_cases a2 : j < F 4
  · have q := in_lt h.2.2.1 z12 a1 (by rw [lt_i] at *; rw [i_8]; omega)
    simp [a1, a2, e4, q, m9_0, m9_1, m9_4, m9_5, m9_6, m9_7, m9_8, m9_11, m9_14, m9_15, m9_18, m9_19, m9_20, m9_21, m9_22, m9_25, m9_26, m9_29, m9_30, m9_33, m9_34, m9_37, m9_38, m9_39, m9_40, m9_41, m9_42, nb0, nb1, ou_a, Option.toList_some, Option.toList_none, List.nil_append, List.cons_append]
    exact hQ _ (nd_get h.2.2.2.1 (by unfold nd; omega) _)
  by_cases a3 : s 5 = 1
  · have ew := sub_i (a := F 4) (b := 1) (by rw [i_1]; omega) (by rw [i_1]; omega)
    rw [i_1] at ew
    have q : inB (F 4 - 1) (A 12) := in_lt h.2.2.1 z12 (by rw [nn_i]; omega) (by rw [lt_i, i_8]; omega)
    simp [a1, a2, a3, e4, q, m9_0, m9_1, m9_4, m9_5, m9_6, m9_7, m9_8, m9_11, m9_14, m9_15, m9_18, m9_19, m9_20, m9_21, m9_22, m9_25, m9_26, m9_29, m9_30, m9_33, m9_34, m9_37, m9_38, m9_39, m9_40, m9_41, m9_42, nb0, nb1, ou_a, Option.toList_some, Option.toList_none, List.nil_append, List.cons_append]
    exact hQ _ (nd_get h.2.2.2.1 (by unfold nd; omega) _)
  · simp [a1, a2, a3, e4, m9_0, m9_1, m9_4, m9_5, m9_6, m9_7, m9_8, m9_11, m9_14, m9_15, m9_18, m9_19, m9_20, m9_21, m9_22, m9_25, m9_26, m9_29, m9_30, m9_33, m9_34, m9_37, m9_38, m9_39, m9_40, m9_41, m9_42, nb0, nb1, ou_a, Option.toList_some, Option.toList_none, List.nil_append, List.cons_append]
    exact hQ 0 (by decide)
set_option maxRecDepth 1000000 in
set_option maxHeartbeats 20000000 in
theorem g11 {c nv : Int32} (h : KI F N s A) (v1 : ¬ nv = 1) (hQ : ∀ s' A', KI F N s' A' → Q none (put 0 [] s' A' L B [])) : M11 0 [.val (.ref 0), .val (.int c), .val (.int nv), .unset] [] (put 0 [] s A L B []) Q := by
  by_cases a0 : nv = 0
  · simp [a0, m11_0, m11_1, m11_4, m11_5, m11_8, m11_9, m11_11, m11_14, m11_15, m11_16, m11_19, m11_20, m11_21u, m11_22, m11_23, m11_26, m11_27, m11_29, m11_32, m11_33, m11_34, m11_37, m11_38, m11_40, m11_41, m11_42, m11_43, m11_44, m11_45, m11_46, m11_49, m11_50, m11_51, m11_52, m11_53, m11_54, nb0, nb1, ou_a, Option.toList_some, Option.toList_none, List.nil_append, List.cons_append]
    exact hQ s A h
  by_cases a1 : c < 0
  · simp [a0, a1, m11_0, m11_1, m11_4, m11_5, m11_8, m11_9, m11_11, m11_14, m11_15, m11_16, m11_19, m11_20, m11_21u, m11_22, m11_23, m11_26, m11_27, m11_29, m11_32, m11_33, m11_34, m11_37, m11_38, m11_40, m11_41, m11_42, m11_43, m11_44, m11_45, m11_46, m11_49, m11_50, m11_51, m11_52, m11_53, m11_54, nb0, nb1, ou_a, Option.toList_some, Option.toList_none, List.nil_append, List.cons_append]
    exact hQ s A h
  by_cases a2 : c < 16
  · have q := in_lt h.2.2.1 z6 a1 a2
    by_cases a3 : getA (A 6) c < 0
    · simp [a0, a1, a2, a3, q, m11_0, m11_1, m11_4, m11_5, m11_8, m11_9, m11_11, m11_14, m11_15, m11_16, m11_19, m11_20, m11_21u, m11_22, m11_23, m11_26, m11_27, m11_29, m11_32, m11_33, m11_34, m11_37, m11_38, m11_40, m11_41, m11_42, m11_43, m11_44, m11_45, m11_46, m11_49, m11_50, m11_51, m11_52, m11_53, m11_54, nb0, nb1, ou_a, Option.toList_some, Option.toList_none, List.nil_append, List.cons_append]
      exact hQ s A h
    by_cases a4 : getA (A 6) c < 32
    · have x := ix32 a1 a2 a3 a4
      have q2 := in_lt h.2.2.1 z4 x.1 x.2
      simp [a0, a1, a2, a3, a4, q, q2, m11_0, m11_1, m11_4, m11_5, m11_8, m11_9, m11_11, m11_14, m11_15, m11_16, m11_19, m11_20, m11_21u, m11_22, m11_23, m11_26, m11_27, m11_29, m11_32, m11_33, m11_34, m11_37, m11_38, m11_40, m11_41, m11_42, m11_43, m11_44, m11_45, m11_46, m11_49, m11_50, m11_51, m11_52, m11_53, m11_54, nb0, nb1, ou_a, Option.toList_some, Option.toList_none, List.nil_append, List.cons_append]
      exact hQ _ _ (KI_set (KI_set h rfl (fun _ => v1)) rfl (fun q => n6 q _))
    · simp [a0, a1, a2, a3, a4, q, m11_0, m11_1, m11_4, m11_5, m11_8, m11_9, m11_11, m11_14, m11_15, m11_16, m11_19, m11_20, m11_21u, m11_22, m11_23, m11_26, m11_27, m11_29, m11_32, m11_33, m11_34, m11_37, m11_38, m11_40, m11_41, m11_42, m11_43, m11_44, m11_45, m11_46, m11_49, m11_50, m11_51, m11_52, m11_53, m11_54, nb0, nb1, ou_a, Option.toList_some, Option.toList_none, List.nil_append, List.cons_append]
      exact hQ s A h
  · simp [a0, a1, a2, m11_0, m11_1, m11_4, m11_5, m11_8, m11_9, m11_11, m11_14, m11_15, m11_16, m11_19, m11_20, m11_21u, m11_22, m11_23, m11_26, m11_27, m11_29, m11_32, m11_33, m11_34, m11_37, m11_38, m11_40, m11_41, m11_42, m11_43, m11_44, m11_45, m11_46, m11_49, m11_50, m11_51, m11_52, m11_53, m11_54, nb0, nb1, ou_a, Option.toList_some, Option.toList_none, List.nil_append, List.cons_append]
    exact hQ s A h
set_option maxRecDepth 1000000 in
set_option maxHeartbeats 20000000 in
theorem g16 {c nv : Int32} (h : KI F N s A) (v1 : ¬ nv = 1) (hQ : ∀ s' A', KI F N s' A' → Q none (put 0 [] s' A' L B [])) : M16 0 [.val (.ref 0), .val (.int c), .val (.int nv), .unset] [] (put 0 [] s A L B []) Q := by
  by_cases a0 : nv = 0
  · simp [a0, m16_0, m16_1, m16_4, m16_5, m16_8, m16_9, m16_11, m16_14, m16_15, m16_16, m16_19, m16_20, m16_21u, m16_22, m16_23, m16_26, m16_27, m16_29, m16_32, m16_33, m16_34, m16_37, m16_38, m16_40, m16_41, m16_42, m16_43, m16_44, m16_45, m16_46, m16_49, m16_50, m16_51, m16_52, m16_53, m16_54, nb0, nb1, ou_a, Option.toList_some, Option.toList_none, List.nil_append, List.cons_append]
    exact hQ s A h
  by_cases a1 : c < 0
  · simp [a0, a1, m16_0, m16_1, m16_4, m16_5, m16_8, m16_9, m16_11, m16_14, m16_15, m16_16, m16_19, m16_20, m16_21u, m16_22, m16_23, m16_26, m16_27, m16_29, m16_32, m16_33, m16_34, m16_37, m16_38, m16_40, m16_41, m16_42, m16_43, m16_44, m16_45, m16_46, m16_49, m16_50, m16_51, m16_52, m16_53, m16_54, nb0, nb1, ou_a, Option.toList_some, Option.toList_none, List.nil_append, List.cons_append]
    exact hQ s A h
  by_cases a2 : c < 16
  · have q := in_lt h.2.2.1 z7 a1 a2
    by_cases a3 : getA (A 7) c < 0
    · simp [a0, a1, a2, a3, q, m16_0, m16_1, m16_4, m16_5, m16_8, m16_9, m16_11, m16_14, m16_15, m16_16, m16_19, m16_20, m16_21u, m16_22, m16_23, m16_26, m16_27, m16_29, m16_32, m16_33, m16_34, m16_37, m16_38, m16_40, m16_41, m16_42, m16_43, m16_44, m16_45, m16_46, m16_49, m16_50, m16_51, m16_52, m16_53, m16_54, nb0, nb1, ou_a, Option.toList_some, Option.toList_none, List.nil_append, List.cons_append]
      exact hQ s A h
    by_cases a4 : getA (A 7) c < 32
    · have x := ix32 a1 a2 a3 a4
      have q2 := in_lt h.2.2.1 z5 x.1 x.2
      simp [a0, a1, a2, a3, a4, q, q2, m16_0, m16_1, m16_4, m16_5, m16_8, m16_9, m16_11, m16_14, m16_15, m16_16, m16_19, m16_20, m16_21u, m16_22, m16_23, m16_26, m16_27, m16_29, m16_32, m16_33, m16_34, m16_37, m16_38, m16_40, m16_41, m16_42, m16_43, m16_44, m16_45, m16_46, m16_49, m16_50, m16_51, m16_52, m16_53, m16_54, nb0, nb1, ou_a, Option.toList_some, Option.toList_none, List.nil_append, List.cons_append]
      exact hQ _ _ (KI_set (KI_set h rfl (fun _ => v1)) rfl (fun q => n7 q _))
    · simp [a0, a1, a2, a3, a4, q, m16_0, m16_1, m16_4, m16_5, m16_8, m16_9, m16_11, m16_14, m16_15, m16_16, m16_19, m16_20, m16_21u, m16_22, m16_23, m16_26, m16_27, m16_29, m16_32, m16_33, m16_34, m16_37, m16_38, m16_40, m16_41, m16_42, m16_43, m16_44, m16_45, m16_46, m16_49, m16_50, m16_51, m16_52, m16_53, m16_54, nb0, nb1, ou_a, Option.toList_some, Option.toList_none, List.nil_append, List.cons_append]
      exact hQ s A h
  · simp [a0, a1, a2, m16_0, m16_1, m16_4, m16_5, m16_8, m16_9, m16_11, m16_14, m16_15, m16_16, m16_19, m16_20, m16_21u, m16_22, m16_23, m16_26, m16_27, m16_29, m16_32, m16_33, m16_34, m16_37, m16_38, m16_40, m16_41, m16_42, m16_43, m16_44, m16_45, m16_46, m16_49, m16_50, m16_51, m16_52, m16_53, m16_54, nb0, nb1, ou_a, Option.toList_some, Option.toList_none, List.nil_append, List.cons_append]
    exact hQ s A h
set_option maxRecDepth 1000000 in
set_option maxHeartbeats 20000000 in
theorem g13a {mh : Int32} (hQ : ∀ v : Int32, Q (some (.int v)) (put 0 [] s A L B [])) : ∀ (n : Nat) (i d : Int32) (k4 : Slot), okS k4 → ¬ i < 0 → i.toInt + n = 16 → M13 4 [.val (.ref 0), .val (.int mh), .val (.int d), .val (.int i), k4] [] (put 0 [] s A L B []) Q := by
  intro n
  induction n with
  | zero =>
    intro i d k4 o4 h0 e
    have hge : ¬ i < 16 := by rw [lt_i, i_16]; omega
    rw [m13_4]
    simp [hge, m13_0, m13_1u, m13_2, m13_3u, m13_5, m13_7, m13_10, m13_11, m13_12, m13_13, m13_14, m13_15u, m13_15i, m13_15r, m13_15g, m13_17, m13_19, m13_20, m13_23, m13_26, m13_28i, m13_29, m13_32, m13_35, m13_36, nb0, nb1, ou_a, Option.toList_some, Option.toList_none, List.nil_append, List.cons_append]
    exact hQ d
  | succ n ih =>
    intro i d k4 o4 h0 e
    have hlt : i < 16 := by rw [lt_i, i_16]; omega
    rw [m13_4]
    by_cases a1 : d + d / 2 < mh
    · simp [hlt, a1, o4, m13_0, m13_1u, m13_2, m13_3u, m13_5, m13_7, m13_10, m13_11, m13_12, m13_13, m13_14, m13_15u, m13_15i, m13_15r, m13_15g, m13_17, m13_19, m13_20, m13_23, m13_26, m13_28i, m13_29, m13_32, m13_35, m13_36, nb0, nb1, ou_a, Option.toList_some, Option.toList_none, List.nil_append, List.cons_append]
      exact ih _ _ _ (okS_i _) (succ_nn h0 (by omega)) (by rw [add1_i (by omega)]; omega)
    · simp [hlt, a1, o4, m13_0, m13_1u, m13_2, m13_3u, m13_5, m13_7, m13_10, m13_11, m13_12, m13_13, m13_14, m13_15u, m13_15i, m13_15r, m13_15g, m13_17, m13_19, m13_20, m13_23, m13_26, m13_28i, m13_29, m13_32, m13_35, m13_36, nb0, nb1, ou_a, Option.toList_some, Option.toList_none, List.nil_append, List.cons_append]
      exact hQ d
theorem g13 {mh : Int32} (hQ : ∀ v : Int32, Q (some (.int v)) (put 0 [] s A L B [])) : M13 0 [.val (.ref 0), .val (.int mh), .unset, .unset, .unset] [] (put 0 [] s A L B []) Q := by
  simp [m13_0, m13_1u, m13_2, m13_3u, m13_5, m13_7, m13_10, m13_11, m13_12, m13_13, m13_14, m13_15u, m13_15i, m13_15r, m13_15g, m13_17, m13_19, m13_20, m13_23, m13_26, m13_28i, m13_29, m13_32, m13_35, m13_36, nb0, nb1, ou_a, Option.toList_some, Option.toList_none, List.nil_append, List.cons_append]
  exact g13a hQ 16 0 2 _ okS_u (by decide) rfl
theorem ixs {c i : Int32} (c0 : ¬ c < 0) (c1 : c < 16) (j0 : 0 ≤ i.toInt) (j1 : i.toInt ≤ 1000) : (c * 32 + i).toInt = c.toInt * 32 + i.toInt := by
  rw [nn_i] at c0
  rw [lt_i, i_16] at c1
  have e1 : (c * 32).toInt = c.toInt * 32 := by
    have := mul_i (a := c) (b := 32) (by rw [i_32]; omega) (by rw [i_32]; omega)
    rw [this, i_32]
  have := add_i (a := c * 32) (b := i) (by rw [e1]; omega) (by rw [e1]; omega)
  rw [this, e1]
set_option maxRecDepth 1000000 in
set_option maxHeartbeats 20000000 in
theorem g17 {c i : Int32} (h : KI F N s A) (c0 : ¬ c < 0) (c1 : c < 16) (j0 : 0 ≤ i.toInt) (j1 : i.toInt ≤ 1000) (hQ : ∀ s' A', KI F N s' A' → Q none (put 0 [] s' A' L B [])) : M17 0 [.val (.ref 0), .val (.int c), .val (.int i), .unset, .unset, .unset, .unset, .unset] [] (put 0 [] s A L B []) Q := by
  have ex := ixs c0 c1 j0 j1
  have w0 := nn_i.mp c0
  have w1 := c1
  rw [lt_i, i_16] at w1
  have a1 : ¬ c * 32 + i < 0 := by rw [nn_i]; omega
  have e1 := add1_i (a := c * 32 + i) (by omega)
  by_cases a2 : c * 32 + i + 1 < 512
  · have a3 := a2
    rw [lt_i, e1, i_512] at a3
    have q1 := in_lt h.2.2.1 z4 a1 (by rw [lt_i, i_512]; omega)
    have q2 := in_lt h.2.2.1 z4 (j := c * 32 + i + 1) (by rw [nn_i]; omega) a2
    have v1 := nd_get h.2.2.2.1 (k := 4) (Or.inl rfl) (c * 32 + i)
    have v2 := nd_get h.2.2.2.1 (k := 4) (Or.inl rfl) (c * 32 + i + 1)
    simp [a1, a2, q1, q2, m17_0, m17_1, m17_3, m17_4, m17_5, m17_6u, m17_7, m17_8, m17_11, m17_12, m17_13, m17_14, m17_17, m17_20, m17_21, m17_22, m17_25, m17_26, m17_27u, m17_29, m17_30, m17_33, m17_34, m17_35, m17_36, m17_37u, m17_39, m17_40, m17_42, m17_44, m17_47u, m17_49, m17_50, m17_52, m17_54, m17_57u, m17_59, m17_60, m17_61, m17_63, m17_66, m17_67, m17_68, m17_69, m17_70, m17_73, m17_76, m17_77, m17_78, m17_79, m17_80, m17_82, m17_85, nb0, nb1, ou_a, Option.toList_some, Option.toList_none, List.nil_append, List.cons_append]
    refine g18 h v1 v2 (fun x s1 A1 h1 x1 => ?_)
    simp [m17_0, m17_1, m17_3, m17_4, m17_5, m17_6u, m17_7, m17_8, m17_11, m17_12, m17_13, m17_14, m17_17, m17_20, m17_21, m17_22, m17_25, m17_26, m17_27u, m17_29, m17_30, m17_33, m17_34, m17_35, m17_36, m17_37u, m17_39, m17_40, m17_42, m17_44, m17_47u, m17_49, m17_50, m17_52, m17_54, m17_57u, m17_59, m17_60, m17_61, m17_63, m17_66, m17_67, m17_68, m17_69, m17_70, m17_73, m17_76, m17_77, m17_78, m17_79, m17_80, m17_82, m17_85, nb0, nb1, ou_a, Option.toList_some, Option.toList_none, List.nil_append, List.cons_append]
    refine g10 h1 v1 v2 (fun y s2 A2 h2 y1 => ?_)
    simp [m17_0, m17_1, m17_3, m17_4, m17_5, m17_6u, m17_7, m17_8, m17_11, m17_12, m17_13, m17_14, m17_17, m17_20, m17_21, m17_22, m17_25, m17_26, m17_27u, m17_29, m17_30, m17_33, m17_34, m17_35, m17_36, m17_37u, m17_39, m17_40, m17_42, m17_44, m17_47u, m17_49, m17_50, m17_52, m17_54, m17_57u, m17_59, m17_60, m17_61, m17_63, m17_66, m17_67, m17_68, m17_69, m17_70, m17_73, m17_76, m17_77, m17_78, m17_79, m17_80, m17_82, m17_85, nb0, nb1, ou_a, Option.toList_some, Option.toList_none, List.nil_append, List.cons_append]
    refine g16 h2 x1 (fun s3 A3 h3 => ?_)
    by_cases b1 : c + 1 < s3 14
    · simp [b1, m17_0, m17_1, m17_3, m17_4, m17_5, m17_6u, m17_7, m17_8, m17_11, m17_12, m17_13, m17_14, m17_17, m17_20, m17_21, m17_22, m17_25, m17_26, m17_27u, m17_29, m17_30, m17_33, m17_34, m17_35, m17_36, m17_37u, m17_39, m17_40, m17_42, m17_44, m17_47u, m17_49, m17_50, m17_52, m17_54, m17_57u, m17_59, m17_60, m17_61, m17_63, m17_66, m17_67, m17_68, m17_69, m17_70, m17_73, m17_76, m17_77, m17_78, m17_79, m17_80, m17_82, m17_85, nb0, nb1, ou_a, Option.toList_some, Option.toList_none, List.nil_append, List.cons_append]
      refine g16 h3 y1 (fun s4 A4 h4 => ?_)
      simp [m17_0, m17_1, m17_3, m17_4, m17_5, m17_6u, m17_7, m17_8, m17_11, m17_12, m17_13, m17_14, m17_17, m17_20, m17_21, m17_22, m17_25, m17_26, m17_27u, m17_29, m17_30, m17_33, m17_34, m17_35, m17_36, m17_37u, m17_39, m17_40, m17_42, m17_44, m17_47u, m17_49, m17_50, m17_52, m17_54, m17_57u, m17_59, m17_60, m17_61, m17_63, m17_66, m17_67, m17_68, m17_69, m17_70, m17_73, m17_76, m17_77, m17_78, m17_79, m17_80, m17_82, m17_85, nb0, nb1, ou_a, Option.toList_some, Option.toList_none, List.nil_append, List.cons_append]
      exact hQ s4 A4 h4
    · simp [b1, m17_0, m17_1, m17_3, m17_4, m17_5, m17_6u, m17_7, m17_8, m17_11, m17_12, m17_13, m17_14, m17_17, m17_20, m17_21, m17_22, m17_25, m17_26, m17_27u, m17_29, m17_30, m17_33, m17_34, m17_35, m17_36, m17_37u, m17_39, m17_40, m17_42, m17_44, m17_47u, m17_49, m17_50, m17_52, m17_54, m17_57u, m17_59, m17_60, m17_61, m17_63, m17_66, m17_67, m17_68, m17_69, m17_70, m17_73, m17_76, m17_77, m17_78, m17_79, m17_80, m17_82, m17_85, nb0, nb1, ou_a, Option.toList_some, Option.toList_none, List.nil_append, List.cons_append]
      exact hQ s3 A3 h3
  · simp [a1, a2, m17_0, m17_1, m17_3, m17_4, m17_5, m17_6u, m17_7, m17_8, m17_11, m17_12, m17_13, m17_14, m17_17, m17_20, m17_21, m17_22, m17_25, m17_26, m17_27u, m17_29, m17_30, m17_33, m17_34, m17_35, m17_36, m17_37u, m17_39, m17_40, m17_42, m17_44, m17_47u, m17_49, m17_50, m17_52, m17_54, m17_57u, m17_59, m17_60, m17_61, m17_63, m17_66, m17_67, m17_68, m17_69, m17_70, m17_73, m17_76, m17_77, m17_78, m17_79, m17_80, m17_82, m17_85, nb0, nb1, ou_a, Option.toList_some, Option.toList_none, List.nil_append, List.cons_append]
    exact hQ s A h
set_option maxRecDepth 1000000 in
set_option maxHeartbeats 20000000 in
theorem g19 {c i : Int32} (h : KI F N s A) (c0 : ¬ c < 0) (c1 : c < 16) (j0 : 0 ≤ i.toInt) (j1 : i.toInt ≤ 1000) (hQ : ∀ s' A', KI F N s' A' → Q none (put 0 [] s' A' L B [])) : M19 0 [.val (.ref 0), .val (.int c), .val (.int i), .unset, .unset, .unset, .unset, .unset, .unset, .unset, .unset, .unset] [] (put 0 [] s A L B []) Q := by
  have ex := ixs c0 c1 j0 j1
  have w0 := nn_i.mp c0
  have w1 := c1
  rw [lt_i, i_16] at w1
  have a1 : ¬ c * 32 + i < 0 := by rw [nn_i]; omega
  have e1 := add1_i (a := c * 32 + i) (by omega)
  have e2 : (c * 32 + i + 2).toInt = (c * 32 + i).toInt + 2 := add_i (by rw [i_2]; omega) (by rw [i_2]; omega)
  by_cases a2 : c * 32 + i + 2 < 512
  · have a3 := a2
    rw [lt_i, e2, i_512] at a3
    have q1 := in_lt h.2.2.1 z4 a1 (by rw [lt_i, i_512]; omega)
    have q2 := in_lt h.2.2.1 z4 (j := c * 32 + i + 1) (by rw [nn_i]; omega) (by rw [lt_i, e1, i_512]; omega)
    have q3 := in_lt h.2.2.1 z4 (j := c * 32 + i + 2) (by rw [nn_i]; omega) a2
    have v1 := nd_get h.2.2.2.1 (k := 4) (Or.inl rfl) (c * 32 + i)
    have v2 := nd_get h.2.2.2.1 (k := 4) (Or.inl rfl) (c * 32 + i + 1)
    have v3 := nd_get h.2.2.2.1 (k := 4) (Or.inl rfl) (c * 32 + i + 2)
    simp [a1, a2, q1, q2, q3, m19_0, m19_1, m19_3, m19_4, m19_5, m19_6u, m19_7, m19_8, m19_11, m19_12, m19_13, m19_14, m19_17, m19_20, m19_21, m19_22, m19_25, m19_26, m19_27u, m19_29, m19_30, m19_33, m19_34, m19_35, m19_36, m19_37u, m19_39, m19_40, m19_43, m19_44, m19_45, m19_46, m19_47u, m19_49, m19_50, m19_52, m19_54, m19_57u, m19_59, m19_60, m19_62, m19_64, m19_67u, m19_69, m19_70, m19_72, m19_74, m19_77u, m19_79, m19_80, m19_82, m19_84, m19_87u, m19_89, m19_90, m19_92, m19_94, m19_97u, m19_99, m19_100, m19_101, m19_103, m19_106, m19_107, m19_108, m19_109, m19_110, m19_113, m19_116, m19_117, m19_118, m19_119, m19_120, m19_122, m19_125, nb0, nb1, ou_a, Option.toList_some, Option.toList_none, List.nil_append, List.cons_append]
    refine g18 h v1 v2 (fun x s1 A1 h1 x1 => ?_)
    simp [m19_0, m19_1, m19_3, m19_4, m19_5, m19_6u, m19_7, m19_8, m19_11, m19_12, m19_13, m19_14, m19_17, m19_20, m19_21, m19_22, m19_25, m19_26, m19_27u, m19_29, m19_30, m19_33, m19_34, m19_35, m19_36, m19_37u, m19_39, m19_40, m19_43, m19_44, m19_45, m19_46, m19_47u, m19_49, m19_50, m19_52, m19_54, m19_57u, m19_59, m19_60, m19_62, m19_64, m19_67u, m19_69, m19_70, m19_72, m19_74, m19_77u, m19_79, m19_80, m19_82, m19_84, m19_87u, m19_89, m19_90, m19_92, m19_94, m19_97u, m19_99, m19_100, m19_101, m19_103, m19_106, m19_107, m19_108, m19_109, m19_110, m19_113, m19_116, m19_117, m19_118, m19_119, m19_120, m19_122, m19_125, nb0, nb1, ou_a, Option.toList_some, Option.toList_none, List.nil_append, List.cons_append]
    refine g18 h1 x1 v3 (fun y s2 A2 h2 y1 => ?_)
    simp [m19_0, m19_1, m19_3, m19_4, m19_5, m19_6u, m19_7, m19_8, m19_11, m19_12, m19_13, m19_14, m19_17, m19_20, m19_21, m19_22, m19_25, m19_26, m19_27u, m19_29, m19_30, m19_33, m19_34, m19_35, m19_36, m19_37u, m19_39, m19_40, m19_43, m19_44, m19_45, m19_46, m19_47u, m19_49, m19_50, m19_52, m19_54, m19_57u, m19_59, m19_60, m19_62, m19_64, m19_67u, m19_69, m19_70, m19_72, m19_74, m19_77u, m19_79, m19_80, m19_82, m19_84, m19_87u, m19_89, m19_90, m19_92, m19_94, m19_97u, m19_99, m19_100, m19_101, m19_103, m19_106, m19_107, m19_108, m19_109, m19_110, m19_113, m19_116, m19_117, m19_118, m19_119, m19_120, m19_122, m19_125, nb0, nb1, ou_a, Option.toList_some, Option.toList_none, List.nil_append, List.cons_append]
    refine g10 h2 v1 v2 (fun t s3 A3 h3 t1 => ?_)
    simp [m19_0, m19_1, m19_3, m19_4, m19_5, m19_6u, m19_7, m19_8, m19_11, m19_12, m19_13, m19_14, m19_17, m19_20, m19_21, m19_22, m19_25, m19_26, m19_27u, m19_29, m19_30, m19_33, m19_34, m19_35, m19_36, m19_37u, m19_39, m19_40, m19_43, m19_44, m19_45, m19_46, m19_47u, m19_49, m19_50, m19_52, m19_54, m19_57u, m19_59, m19_60, m19_62, m19_64, m19_67u, m19_69, m19_70, m19_72, m19_74, m19_77u, m19_79, m19_80, m19_82, m19_84, m19_87u, m19_89, m19_90, m19_92, m19_94, m19_97u, m19_99, m19_100, m19_101, m19_103, m19_106, m19_107, m19_108, m19_109, m19_110, m19_113, m19_116, m19_117, m19_118, m19_119, m19_120, m19_122, m19_125, nb0, nb1, ou_a, Option.toList_some, Option.toList_none, List.nil_append, List.cons_append]
    refine g10 h3 x1 v3 (fun r s4 A4 h4 r1 => ?_)
    simp [m19_0, m19_1, m19_3, m19_4, m19_5, m19_6u, m19_7, m19_8, m19_11, m19_12, m19_13, m19_14, m19_17, m19_20, m19_21, m19_22, m19_25, m19_26, m19_27u, m19_29, m19_30, m19_33, m19_34, m19_35, m19_36, m19_37u, m19_39, m19_40, m19_43, m19_44, m19_45, m19_46, m19_47u, m19_49, m19_50, m19_52, m19_54, m19_57u, m19_59, m19_60, m19_62, m19_64, m19_67u, m19_69, m19_70, m19_72, m19_74, m19_77u, m19_79, m19_80, m19_82, m19_84, m19_87u, m19_89, m19_90, m19_92, m19_94, m19_97u, m19_99, m19_100, m19_101, m19_103, m19_106, m19_107, m19_108, m19_109, m19_110, m19_113, m19_116, m19_117, m19_118, m19_119, m19_120, m19_122, m19_125, nb0, nb1, ou_a, Option.toList_some, Option.toList_none, List.nil_append, List.cons_append]
    refine g20 h4 t1 r1 (fun q s5 A5 h5 p1 => ?_)
    simp [m19_0, m19_1, m19_3, m19_4, m19_5, m19_6u, m19_7, m19_8, m19_11, m19_12, m19_13, m19_14, m19_17, m19_20, m19_21, m19_22, m19_25, m19_26, m19_27u, m19_29, m19_30, m19_33, m19_34, m19_35, m19_36, m19_37u, m19_39, m19_40, m19_43, m19_44, m19_45, m19_46, m19_47u, m19_49, m19_50, m19_52, m19_54, m19_57u, m19_59, m19_60, m19_62, m19_64, m19_67u, m19_69, m19_70, m19_72, m19_74, m19_77u, m19_79, m19_80, m19_82, m19_84, m19_87u, m19_89, m19_90, m19_92, m19_94, m19_97u, m19_99, m19_100, m19_101, m19_103, m19_106, m19_107, m19_108, m19_109, m19_110, m19_113, m19_116, m19_117, m19_118, m19_119, m19_120, m19_122, m19_125, nb0, nb1, ou_a, Option.toList_some, Option.toList_none, List.nil_append, List.cons_append]
    refine g16 h5 y1 (fun s6 A6 h6 => ?_)
    by_cases b1 : c + 1 < s6 14
    · simp [b1, m19_0, m19_1, m19_3, m19_4, m19_5, m19_6u, m19_7, m19_8, m19_11, m19_12, m19_13, m19_14, m19_17, m19_20, m19_21, m19_22, m19_25, m19_26, m19_27u, m19_29, m19_30, m19_33, m19_34, m19_35, m19_36, m19_37u, m19_39, m19_40, m19_43, m19_44, m19_45, m19_46, m19_47u, m19_49, m19_50, m19_52, m19_54, m19_57u, m19_59, m19_60, m19_62, m19_64, m19_67u, m19_69, m19_70, m19_72, m19_74, m19_77u, m19_79, m19_80, m19_82, m19_84, m19_87u, m19_89, m19_90, m19_92, m19_94, m19_97u, m19_99, m19_100, m19_101, m19_103, m19_106, m19_107, m19_108, m19_109, m19_110, m19_113, m19_116, m19_117, m19_118, m19_119, m19_120, m19_122, m19_125, nb0, nb1, ou_a, Option.toList_some, Option.toList_none, List.nil_append, List.cons_append]
      refine g16 h6 p1 (fun s7 A7 h7 => ?_)
      simp [m19_0, m19_1, m19_3, m19_4, m19_5, m19_6u, m19_7, m19_8, m19_11, m19_12, m19_13, m19_14, m19_17, m19_20, m19_21, m19_22, m19_25, m19_26, m19_27u, m19_29, m19_30, m19_33, m19_34, m19_35, m19_36, m19_37u, m19_39, m19_40, m19_43, m19_44, m19_45, m19_46, m19_47u, m19_49, m19_50, m19_52, m19_54, m19_57u, m19_59, m19_60, m19_62, m19_64, m19_67u, m19_69, m19_70, m19_72, m19_74, m19_77u, m19_79, m19_80, m19_82, m19_84, m19_87u, m19_89, m19_90, m19_92, m19_94, m19_97u, m19_99, m19_100, m19_101, m19_103, m19_106, m19_107, m19_108, m19_109, m19_110, m19_113, m19_116, m19_117, m19_118, m19_119, m19_120, m19_122, m19_125, nb0, nb1, ou_a, Option.toList_some, Option.toList_none, List.nil_append, List.cons_append]
      exact hQ s7 A7 h7
    · simp [b1, m19_0, m19_1, m19_3, m19_4, m19_5, m19_6u, m19_7, m19_8, m19_11, m19_12, m19_13, m19_14, m19_17, m19_20, m19_21, m19_22, m19_25, m19_26, m19_27u, m19_29, m19_30, m19_33, m19_34, m19_35, m19_36, m19_37u, m19_39, m19_40, m19_43, m19_44, m19_45, m19_46, m19_47u, m19_49, m19_50, m19_52, m19_54, m19_57u, m19_59, m19_60, m19_62, m19_64, m19_67u, m19_69, m19_70, m19_72, m19_74, m19_77u, m19_79, m19_80, m19_82, m19_84, m19_87u, m19_89, m19_90, m19_92, m19_94, m19_97u, m19_99, m19_100, m19_101, m19_103, m19_106, m19_107, m19_108, m19_109, m19_110, m19_113, m19_116, m19_117, m19_118, m19_119, m19_120, m19_122, m19_125, nb0, nb1, ou_a, Option.toList_some, Option.toList_none, List.nil_append, List.cons_append]
      exact hQ s6 A6 h6
  · simp [a1, a2, m19_0, m19_1, m19_3, m19_4, m19_5, m19_6u, m19_7, m19_8, m19_11, m19_12, m19_13, m19_14, m19_17, m19_20, m19_21, m19_22, m19_25, m19_26, m19_27u, m19_29, m19_30, m19_33, m19_34, m19_35, m19_36, m19_37u, m19_39, m19_40, m19_43, m19_44, m19_45, m19_46, m19_47u, m19_49, m19_50, m19_52, m19_54, m19_57u, m19_59, m19_60, m19_62, m19_64, m19_67u, m19_69, m19_70, m19_72, m19_74, m19_77u, m19_79, m19_80, m19_82, m19_84, m19_87u, m19_89, m19_90, m19_92, m19_94, m19_97u, m19_99, m19_100, m19_101, m19_103, m19_106, m19_107, m19_108, m19_109, m19_110, m19_113, m19_116, m19_117, m19_118, m19_119, m19_120, m19_122, m19_125, nb0, nb1, ou_a, Option.toList_some, Option.toList_none, List.nil_append, List.cons_append]
    exact hQ s A h
set_option maxRecDepth 1000000 in
set_option maxHeartbeats 20000000 in
theorem g15b {c d cn kk : Int32} {k6 k7 : Slot} (c0 : ¬ c < 0) (c1 : c < 16) (n1 : cn.toInt ≤ 32) (hQ : ∀ s' A', KI F N s' A' → Q none (put 0 [] s' A' L B [])) : ∀ (n : Nat) (i : Int32) (s : Nat → Int32) (A : Nat → List Int32), KI F N s A → ¬ i < 0 → i.toInt ≤ 1000 → cn.toInt ≤ i.toInt + n → M15 104 [.val (.ref 0), .val (.int c), .val (.int d), .val (.int cn), .val (.int i), .val (.int kk), k6, k7] [] (put 0 [] s A L B []) Q := by
  intro n
  induction n with
  | zero =>
    intro i s A h h0 e1 e
    have hge : ¬ i < cn := by rw [lt_i]; omega
    rw [m15_104]
    simp [hge, m15_0, m15_1, m15_4, m15_5, m15_6u, m15_7, m15_8, m15_10, m15_13, m15_15i, m15_16, m15_17u, m15_19, m15_20u, m15_24, m15_26, m15_29, m15_30, m15_32, m15_33u, m15_33i, m15_33r, m15_33g, m15_35, m15_36, m15_39, m15_40, m15_41, m15_43, m15_44u, m15_44i, m15_44r, m15_44g, m15_46, m15_48, m15_49, m15_52, m15_55, m15_57, m15_58, m15_61, m15_63, m15_64, m15_65, m15_66, m15_69, m15_70, m15_71, m15_73, m15_76, m15_79, m15_82, m15_84, m15_85, m15_88, m15_89, m15_90, m15_92, m15_95, m15_98, m15_101, m15_106, m15_107, m15_110, m15_111, m15_112, m15_113, m15_116, m15_117, m15_119, m15_120, m15_122, m15_123, m15_124, m15_127, m15_130, m15_133, nb0, nb1, ou_a, Option.toList_some, Option.toList_none, List.nil_append, List.cons_append]
    exact hQ s A h
  | succ n ih =>
    intro i s A h h0 e1 e
    rw [m15_104]
    by_cases a1 : i < cn
    · have a2 : i < 32 := by rw [lt_i] at *; rw [i_32]; omega
      have a3 := a2
      rw [lt_i, i_32] at a3
      have x := ix32 c0 c1 h0 a2
      have q := in_lt h.2.2.1 z4 x.1 x.2
      have v1 := nd_get h.2.2.2.1 (k := 4) (Or.inl rfl) (c * 32 + i)
      simp [a1, q, m15_0, m15_1, m15_4, m15_5, m15_6u, m15_7, m15_8, m15_10, m15_13, m15_15i, m15_16, m15_17u, m15_19, m15_20u, m15_24, m15_26, m15_29, m15_30, m15_32, m15_33u, m15_33i, m15_33r, m15_33g, m15_35, m15_36, m15_39, m15_40, m15_41, m15_43, m15_44u, m15_44i, m15_44r, m15_44g, m15_46, m15_48, m15_49, m15_52, m15_55, m15_57, m15_58, m15_61, m15_63, m15_64, m15_65, m15_66, m15_69, m15_70, m15_71, m15_73, m15_76, m15_79, m15_82, m15_84, m15_85, m15_88, m15_89, m15_90, m15_92, m15_95, m15_98, m15_101, m15_106, m15_107, m15_110, m15_111, m15_112, m15_113, m15_116, m15_117, m15_119, m15_120, m15_122, m15_123, m15_124, m15_127, m15_130, m15_133, nb0, nb1, ou_a, Option.toList_some, Option.toList_none, List.nil_append, List.cons_append]
      refine g16 h v1 (fun s1 A1 h1 => ?_)
      simp [m15_0, m15_1, m15_4, m15_5, m15_6u, m15_7, m15_8, m15_10, m15_13, m15_15i, m15_16, m15_17u, m15_19, m15_20u, m15_24, m15_26, m15_29, m15_30, m15_32, m15_33u, m15_33i, m15_33r, m15_33g, m15_35, m15_36, m15_39, m15_40, m15_41, m15_43, m15_44u, m15_44i, m15_44r, m15_44g, m15_46, m15_48, m15_49, m15_52, m15_55, m15_57, m15_58, m15_61, m15_63, m15_64, m15_65, m15_66, m15_69, m15_70, m15_71, m15_73, m15_76, m15_79, m15_82, m15_84, m15_85, m15_88, m15_89, m15_90, m15_92, m15_95, m15_98, m15_101, m15_106, m15_107, m15_110, m15_111, m15_112, m15_113, m15_116, m15_117, m15_119, m15_120, m15_122, m15_123, m15_124, m15_127, m15_130, m15_133, nb0, nb1, ou_a, Option.toList_some, Option.toList_none, List.nil_append, List.cons_append]
      have ei := add1_i (a := i) (by omega)
      exact ih _ _ _ h1 (succ_nn h0 (by omega)) (by omega) (by omega)
    · simp [a1, m15_0, m15_1, m15_4, m15_5, m15_6u, m15_7, m15_8, m15_10, m15_13, m15_15i, m15_16, m15_17u, m15_19, m15_20u, m15_24, m15_26, m15_29, m15_30, m15_32, m15_33u, m15_33i, m15_33r, m15_33g, m15_35, m15_36, m15_39, m15_40, m15_41, m15_43, m15_44u, m15_44i, m15_44r, m15_44g, m15_46, m15_48, m15_49, m15_52, m15_55, m15_57, m15_58, m15_61, m15_63, m15_64, m15_65, m15_66, m15_69, m15_70, m15_71, m15_73, m15_76, m15_79, m15_82, m15_84, m15_85, m15_88, m15_89, m15_90, m15_92, m15_95, m15_98, m15_101, m15_106, m15_107, m15_110, m15_111, m15_112, m15_113, m15_116, m15_117, m15_119, m15_120, m15_122, m15_123, m15_124, m15_127, m15_130, m15_133, nb0, nb1, ou_a, Option.toList_some, Option.toList_none, List.nil_append, List.cons_append]
      exact hQ s A h
set_option maxRecDepth 1000000 in
set_option maxHeartbeats 20000000 in
theorem g15a {c d cn : Int32} (c0 : ¬ c < 0) (c1 : c < 16) (n1 : cn.toInt ≤ 32) (hQ : ∀ s' A', KI F N s' A' → Q none (put 0 [] s' A' L B [])) : ∀ (n : Nat) (k i : Int32) (k6 k7 : Slot) (s : Nat → Int32) (A : Nat → List Int32), KI F N s A → okS k6 → okS k7 → ¬ i < 0 → i.toInt ≤ 3 * k.toInt → ¬ k < 0 → k.toInt + n = 32 → M15 22 [.val (.ref 0), .val (.int c), .val (.int d), .val (.int cn), .val (.int i), .val (.int k), k6, k7] [] (put 0 [] s A L B []) Q := by
  intro n
  induction n with
  | zero =>
    intro k i k6 k7 s A h o6 o7 g1 g2 h0 e
    have hge : ¬ k < 32 := by rw [lt_i, i_32]; omega
    rw [m15_22]
    simp [hge, m15_0, m15_1, m15_4, m15_5, m15_6u, m15_7, m15_8, m15_10, m15_13, m15_15i, m15_16, m15_17u, m15_19, m15_20u, m15_24, m15_26, m15_29, m15_30, m15_32, m15_33u, m15_33i, m15_33r, m15_33g, m15_35, m15_36, m15_39, m15_40, m15_41, m15_43, m15_44u, m15_44i, m15_44r, m15_44g, m15_46, m15_48, m15_49, m15_52, m15_55, m15_57, m15_58, m15_61, m15_63, m15_64, m15_65, m15_66, m15_69, m15_70, m15_71, m15_73, m15_76, m15_79, m15_82, m15_84, m15_85, m15_88, m15_89, m15_90, m15_92, m15_95, m15_98, m15_101, m15_106, m15_107, m15_110, m15_111, m15_112, m15_113, m15_116, m15_117, m15_119, m15_120, m15_122, m15_123, m15_124, m15_127, m15_130, m15_133, nb0, nb1, ou_a, Option.toList_some, Option.toList_none, List.nil_append, List.cons_append]
    exact g15b c0 c1 n1 hQ 1000 i s A h g1 (by omega) (by have := nn_i.mp g1; omega)
  | succ n ih =>
    intro k i k6 k7 s A h o6 o7 g1 g2 h0 e
    have hlt : k < 32 := by rw [lt_i, i_32]; omega
    have q7 := in_lt h.2.2.1 z7 c0 c1
    have g1' := nn_i.mp g1
    have ek := add1_i (a := k) (by omega)
    have e3 : (i + 3).toInt = i.toInt + 3 := add_i (by rw [i_3]; omega) (by rw [i_3]; omega)
    have e2 : (i + 2).toInt = i.toInt + 2 := add_i (by rw [i_2]; omega) (by rw [i_2]; omega)
    rw [m15_22]
    by_cases a1 : d < getA (A 7) c + (cn - i)
    · by_cases a2 : cn - i < 3
      · by_cases a3 : cn - i < 2
        · simp [hlt, a1, a2, a3, q7, o6, o7, m15_0, m15_1, m15_4, m15_5, m15_6u, m15_7, m15_8, m15_10, m15_13, m15_15i, m15_16, m15_17u, m15_19, m15_20u, m15_24, m15_26, m15_29, m15_30, m15_32, m15_33u, m15_33i, m15_33r, m15_33g, m15_35, m15_36, m15_39, m15_40, m15_41, m15_43, m15_44u, m15_44i, m15_44r, m15_44g, m15_46, m15_48, m15_49, m15_52, m15_55, m15_57, m15_58, m15_61, m15_63, m15_64, m15_65, m15_66, m15_69, m15_70, m15_71, m15_73, m15_76, m15_79, m15_82, m15_84, m15_85, m15_88, m15_89, m15_90, m15_92, m15_95, m15_98, m15_101, m15_106, m15_107, m15_110, m15_111, m15_112, m15_113, m15_116, m15_117, m15_119, m15_120, m15_122, m15_123, m15_124, m15_127, m15_130, m15_133, nb0, nb1, ou_a, Option.toList_some, Option.toList_none, List.nil_append, List.cons_append]
          exact g15b c0 c1 n1 hQ 1000 i s A h g1 (by omega) (by omega)
        · simp [hlt, a1, a2, a3, q7, o6, o7, m15_0, m15_1, m15_4, m15_5, m15_6u, m15_7, m15_8, m15_10, m15_13, m15_15i, m15_16, m15_17u, m15_19, m15_20u, m15_24, m15_26, m15_29, m15_30, m15_32, m15_33u, m15_33i, m15_33r, m15_33g, m15_35, m15_36, m15_39, m15_40, m15_41, m15_43, m15_44u, m15_44i, m15_44r, m15_44g, m15_46, m15_48, m15_49, m15_52, m15_55, m15_57, m15_58, m15_61, m15_63, m15_64, m15_65, m15_66, m15_69, m15_70, m15_71, m15_73, m15_76, m15_79, m15_82, m15_84, m15_85, m15_88, m15_89, m15_90, m15_92, m15_95, m15_98, m15_101, m15_106, m15_107, m15_110, m15_111, m15_112, m15_113, m15_116, m15_117, m15_119, m15_120, m15_122, m15_123, m15_124, m15_127, m15_130, m15_133, nb0, nb1, ou_a, Option.toList_some, Option.toList_none, List.nil_append, List.cons_append]
          refine g17 h c0 c1 g1' (by omega) (fun s1 A1 h1 => ?_)
          simp [m15_0, m15_1, m15_4, m15_5, m15_6u, m15_7, m15_8, m15_10, m15_13, m15_15i, m15_16, m15_17u, m15_19, m15_20u, m15_24, m15_26, m15_29, m15_30, m15_32, m15_33u, m15_33i, m15_33r, m15_33g, m15_35, m15_36, m15_39, m15_40, m15_41, m15_43, m15_44u, m15_44i, m15_44r, m15_44g, m15_46, m15_48, m15_49, m15_52, m15_55, m15_57, m15_58, m15_61, m15_63, m15_64, m15_65, m15_66, m15_69, m15_70, m15_71, m15_73, m15_76, m15_79, m15_82, m15_84, m15_85, m15_88, m15_89, m15_90, m15_92, m15_95, m15_98, m15_101, m15_106, m15_107, m15_110, m15_111, m15_112, m15_113, m15_116, m15_117, m15_119, m15_120, m15_122, m15_123, m15_124, m15_127, m15_130, m15_133, nb0, nb1, ou_a, Option.toList_some, Option.toList_none, List.nil_append, List.cons_append]
          exact ih _ _ _ _ _ _ h1 (okS_i _) (okS_i _) (by rw [nn_i]; omega) (by omega) (succ_nn h0 (by omega)) (by omega)
      · by_cases a4 : getA (A 7) c + (cn - i) < d + 2
        · by_cases a3 : cn - i < 2
          · simp [hlt, a1, a2, a3, a4, q7, o6, o7, m15_0, m15_1, m15_4, m15_5, m15_6u, m15_7, m15_8, m15_10, m15_13, m15_15i, m15_16, m15_17u, m15_19, m15_20u, m15_24, m15_26, m15_29, m15_30, m15_32, m15_33u, m15_33i, m15_33r, m15_33g, m15_35, m15_36, m15_39, m15_40, m15_41, m15_43, m15_44u, m15_44i, m15_44r, m15_44g, m15_46, m15_48, m15_49, m15_52, m15_55, m15_57, m15_58, m15_61, m15_63, m15_64, m15_65, m15_66, m15_69, m15_70, m15_71, m15_73, m15_76, m15_79, m15_82, m15_84, m15_85, m15_88, m15_89, m15_90, m15_92, m15_95, m15_98, m15_101, m15_106, m15_107, m15_110, m15_111, m15_112, m15_113, m15_116, m15_117, m15_119, m15_120, m15_122, m15_123, m15_124, m15_127, m15_130, m15_133, nb0, nb1, ou_a, Option.toList_some, Option.toList_none, List.nil_append, List.cons_append]
            exact g15b c0 c1 n1 hQ 1000 i s A h g1 (by omega) (by omega)
          · simp [hlt, a1, a2, a3, a4, q7, o6, o7, m15_0, m15_1, m15_4, m15_5, m15_6u, m15_7, m15_8, m15_10, m15_13, m15_15i, m15_16, m15_17u, m15_19, m15_20u, m15_24, m15_26, m15_29, m15_30, m15_32, m15_33u, m15_33i, m15_33r, m15_33g, m15_35, m15_36, m15_39, m15_40, m15_41, m15_43, m15_44u, m15_44i, m15_44r, m15_44g, m15_46, m15_48, m15_49, m15_52, m15_55, m15_57, m15_58, m15_61, m15_63, m15_64, m15_65, m15_66, m15_69, m15_70, m15_71, m15_73, m15_76, m15_79, m15_82, m15_84, m15_85, m15_88, m15_89, m15_90, m15_92, m15_95, m15_98, m15_101, m15_106, m15_107, m15_110, m15_111, m15_112, m15_113, m15_116, m15_117, m15_119, m15_120, m15_122, m15_123, m15_124, m15_127, m15_130, m15_133, nb0, nb1, ou_a, Option.toList_some, Option.toList_none, List.nil_append, List.cons_append]
            refine g17 h c0 c1 g1' (by omega) (fun s1 A1 h1 => ?_)
            simp [m15_0, m15_1, m15_4, m15_5, m15_6u, m15_7, m15_8, m15_10, m15_13, m15_15i, m15_16, m15_17u, m15_19, m15_20u, m15_24, m15_26, m15_29, m15_30, m15_32, m15_33u, m15_33i, m15_33r, m15_33g, m15_35, m15_36, m15_39, m15_40, m15_41, m15_43, m15_44u, m15_44i, m15_44r, m15_44g, m15_46, m15_48, m15_49, m15_52, m15_55, m15_57, m15_58, m15_61, m15_63, m15_64, m15_65, m15_66, m15_69, m15_70, m15_71, m15_73, m15_76, m15_79, m15_82, m15_84, m15_85, m15_88, m15_89, m15_90, m15_92, m15_95, m15_98, m15_101, m15_106, m15_107, m15_110, m15_111, m15_112, m15_113, m15_116, m15_117, m15_119, m15_120, m15_122, m15_123, m15_124, m15_127, m15_130, m15_133, nb0, nb1, ou_a, Option.toList_some, Option.toList_none, List.nil_append, List.cons_append]
            exact ih _ _ _ _ _ _ h1 (okS_i _) (okS_i _) (by rw [nn_i]; omega) (by omega) (succ_nn h0 (by omega)) (by omega)
        · simp [hlt, a1, a2, a4, q7, o6, o7, m15_0, m15_1, m15_4, m15_5, m15_6u, m15_7, m15_8, m15_10, m15_13, m15_15i, m15_16, m15_17u, m15_19, m15_20u, m15_24, m15_26, m15_29, m15_30, m15_32, m15_33u, m15_33i, m15_33r, m15_33g, m15_35, m15_36, m15_39, m15_40, m15_41, m15_43, m15_44u, m15_44i, m15_44r, m15_44g, m15_46, m15_48, m15_49, m15_52, m15_55, m15_57, m15_58, m15_61, m15_63, m15_64, m15_65, m15_66, m15_69, m15_70, m15_71, m15_73, m15_76, m15_79, m15_82, m15_84, m15_85, m15_88, m15_89, m15_90, m15_92, m15_95, m15_98, m15_101, m15_106, m15_107, m15_110, m15_111, m15_112, m15_113, m15_116, m15_117, m15_119, m15_120, m15_122, m15_123, m15_124, m15_127, m15_130, m15_133, nb0, nb1, ou_a, Option.toList_some, Option.toList_none, List.nil_append, List.cons_append]
          refine g19 h c0 c1 g1' (by omega) (fun s1 A1 h1 => ?_)
          simp [m15_0, m15_1, m15_4, m15_5, m15_6u, m15_7, m15_8, m15_10, m15_13, m15_15i, m15_16, m15_17u, m15_19, m15_20u, m15_24, m15_26, m15_29, m15_30, m15_32, m15_33u, m15_33i, m15_33r, m15_33g, m15_35, m15_36, m15_39, m15_40, m15_41, m15_43, m15_44u, m15_44i, m15_44r, m15_44g, m15_46, m15_48, m15_49, m15_52, m15_55, m15_57, m15_58, m15_61, m15_63, m15_64, m15_65, m15_66, m15_69, m15_70, m15_71, m15_73, m15_76, m15_79, m15_82, m15_84, m15_85, m15_88, m15_89, m15_90, m15_92, m15_95, m15_98, m15_101, m15_106, m15_107, m15_110, m15_111, m15_112, m15_113, m15_116, m15_117, m15_119, m15_120, m15_122, m15_123, m15_124, m15_127, m15_130, m15_133, nb0, nb1, ou_a, Option.toList_some, Option.toList_none, List.nil_append, List.cons_append]
          exact ih _ _ _ _ _ _ h1 (okS_i _) (okS_i _) (by rw [nn_i]; omega) (by omega) (succ_nn h0 (by omega)) (by omega)
    · simp [hlt, a1, q7, o6, o7, m15_0, m15_1, m15_4, m15_5, m15_6u, m15_7, m15_8, m15_10, m15_13, m15_15i, m15_16, m15_17u, m15_19, m15_20u, m15_24, m15_26, m15_29, m15_30, m15_32, m15_33u, m15_33i, m15_33r, m15_33g, m15_35, m15_36, m15_39, m15_40, m15_41, m15_43, m15_44u, m15_44i, m15_44r, m15_44g, m15_46, m15_48, m15_49, m15_52, m15_55, m15_57, m15_58, m15_61, m15_63, m15_64, m15_65, m15_66, m15_69, m15_70, m15_71, m15_73, m15_76, m15_79, m15_82, m15_84, m15_85, m15_88, m15_89, m15_90, m15_92, m15_95, m15_98, m15_101, m15_106, m15_107, m15_110, m15_111, m15_112, m15_113, m15_116, m15_117, m15_119, m15_120, m15_122, m15_123, m15_124, m15_127, m15_130, m15_133, nb0, nb1, ou_a, Option.toList_some, Option.toList_none, List.nil_append, List.cons_append]
      exact g15b c0 c1 n1 hQ 1000 i s A h g1 (by omega) (by omega)
set_option maxRecDepth 1000000 in
set_option maxHeartbeats 20000000 in
theorem g15 {c d : Int32} (h : KI F N s A) (c0 : ¬ c < 0) (c1 : c < 16) (hQ : ∀ s' A', KI F N s' A' → Q none (put 0 [] s' A' L B [])) : M15 0 [.val (.ref 0), .val (.int c), .val (.int d), .unset, .unset, .unset, .unset, .unset] [] (put 0 [] s A L B []) Q := by
  have q6 := in_lt h.2.2.1 z6 c0 c1
  by_cases a1 : 32 < getA (A 6) c
  · simp [a1, q6, m15_0, m15_1, m15_4, m15_5, m15_6u, m15_7, m15_8, m15_10, m15_13, m15_15i, m15_16, m15_17u, m15_19, m15_20u, m15_24, m15_26, m15_29, m15_30, m15_32, m15_33u, m15_33i, m15_33r, m15_33g, m15_35, m15_36, m15_39, m15_40, m15_41, m15_43, m15_44u, m15_44i, m15_44r, m15_44g, m15_46, m15_48, m15_49, m15_52, m15_55, m15_57, m15_58, m15_61, m15_63, m15_64, m15_65, m15_66, m15_69, m15_70, m15_71, m15_73, m15_76, m15_79, m15_82, m15_84, m15_85, m15_88, m15_89, m15_90, m15_92, m15_95, m15_98, m15_101, m15_106, m15_107, m15_110, m15_111, m15_112, m15_113, m15_116, m15_117, m15_119, m15_120, m15_122, m15_123, m15_124, m15_127, m15_130, m15_133, nb0, nb1, ou_a, Option.toList_some, Option.toList_none, List.nil_append, List.cons_append]
    exact g15a c0 c1 (by decide) hQ 32 0 0 _ _ s A h okS_u okS_u (by decide) (by decide) (by decide) rfl
  · have a2 := a1
    rw [lt_i, i_32] at a2
    simp [a1, q6, m15_0, m15_1, m15_4, m15_5, m15_6u, m15_7, m15_8, m15_10, m15_13, m15_15i, m15_16, m15_17u, m15_19, m15_20u, m15_24, m15_26, m15_29, m15_30, m15_32, m15_33u, m15_33i, m15_33r, m15_33g, m15_35, m15_36, m15_39, m15_40, m15_41, m15_43, m15_44u, m15_44i, m15_44r, m15_44g, m15_46, m15_48, m15_49, m15_52, m15_55, m15_57, m15_58, m15_61, m15_63, m15_64, m15_65, m15_66, m15_69, m15_70, m15_71, m15_73, m15_76, m15_79, m15_82, m15_84, m15_85, m15_88, m15_89, m15_90, m15_92, m15_95, m15_98, m15_101, m15_106, m15_107, m15_110, m15_111, m15_112, m15_113, m15_116, m15_117, m15_119, m15_120, m15_122, m15_123, m15_124, m15_127, m15_130, m15_133, nb0, nb1, ou_a, Option.toList_some, Option.toList_none, List.nil_append, List.cons_append]
    exact g15a c0 c1 (by omega) hQ 32 0 0 _ _ s A h okS_u okS_u (by decide) (by decide) (by decide) rfl
set_option maxRecDepth 1000000 in
set_option maxHeartbeats 20000000 in
theorem g14d {d c cn : Int32} (c0 : ¬ c < 0) (c1 : c < 16) (hQ : ∀ (k4 : Int32) s' A', KI F N s' A' → M14 45 [.val (.ref 0), .val (.int d), .val (.int (c + 1)), .val (.int cn), .val (.int k4)] [] (put 0 [] s' A' L B []) Q) : ∀ (n : Nat) (j : Int32) (s : Nat → Int32) (A : Nat → List Int32), KI F N s A → ¬ j < 0 → j.toInt + n = 32 → M14 68 [.val (.ref 0), .val (.int d), .val (.int c), .val (.int cn), .val (.int j)] [] (put 0 [] s A L B []) Q := by
  intro n
  induction n with
  | zero =>
    intro j s A h h0 e
    have hge : ¬ j < 32 := by rw [lt_i, i_32]; omega
    rw [m14_68]
    by_cases a1 : j < cn <;>
    · simp [hge, a1, m14_0, m14_1u, m14_3, m14_5, m14_8, m14_9, m14_12, m14_13, m14_14, m14_15, m14_18, m14_21, m14_22i, m14_24, m14_25, m14_28, m14_31, m14_32, m14_33, m14_34, m14_37, m14_40, m14_43, m14_44i, m14_46, m14_48, m14_51, m14_52, m14_55, m14_56, m14_57u, m14_57i, m14_57r, m14_57g, m14_58, m14_59, m14_62, m14_63, m14_64, m14_65, m14_66u, m14_66i, m14_66r, m14_66g, m14_70, m14_71, m14_74, m14_76, m14_78, m14_81, m14_82, m14_85, m14_86, m14_88, m14_89, m14_91, m14_92, m14_93, m14_96, m14_97, m14_99, m14_100, m14_102, m14_103, m14_104, m14_105, m14_108, m14_111, m14_114, m14_117, nb0, nb1, ou_a, Option.toList_some, Option.toList_none, List.nil_append, List.cons_append]
      exact hQ _ s A h
  | succ n ih =>
    intro j s A h h0 e
    have hlt : j < 32 := by rw [lt_i, i_32]; omega
    have x := ix32 c0 c1 h0 hlt
    have q4 := in_lt h.2.2.1 z4 x.1 x.2
    have q5 := in_lt h.2.2.1 z5 x.1 x.2
    have v1 := nd_get h.2.2.2.1 (k := 5) (Or.inr (Or.inl rfl)) (c * 32 + j)
    rw [m14_68]
    by_cases a1 : j < cn
    · simp [hlt, a1, q4, q5, m14_0, m14_1u, m14_3, m14_5, m14_8, m14_9, m14_12, m14_13, m14_14, m14_15, m14_18, m14_21, m14_22i, m14_24, m14_25, m14_28, m14_31, m14_32, m14_33, m14_34, m14_37, m14_40, m14_43, m14_44i, m14_46, m14_48, m14_51, m14_52, m14_55, m14_56, m14_57u, m14_57i, m14_57r, m14_57g, m14_58, m14_59, m14_62, m14_63, m14_64, m14_65, m14_66u, m14_66i, m14_66r, m14_66g, m14_70, m14_71, m14_74, m14_76, m14_78, m14_81, m14_82, m14_85, m14_86, m14_88, m14_89, m14_91, m14_92, m14_93, m14_96, m14_97, m14_99, m14_100, m14_102, m14_103, m14_104, m14_105, m14_108, m14_111, m14_114, m14_117, nb0, nb1, ou_a, Option.toList_some, Option.toList_none, List.nil_append, List.cons_append]
      exact ih _ _ _ (KI_set h rfl (fun _ => v1)) (succ_nn h0 (by omega)) (by rw [add1_i (by omega)]; omega)
    · simp [a1, m14_0, m14_1u, m14_3, m14_5, m14_8, m14_9, m14_12, m14_13, m14_14, m14_15, m14_18, m14_21, m14_22i, m14_24, m14_25, m14_28, m14_31, m14_32, m14_33, m14_34, m14_37, m14_40, m14_43, m14_44i, m14_46, m14_48, m14_51, m14_52, m14_55, m14_56, m14_57u, m14_57i, m14_57r, m14_57g, m14_58, m14_59, m14_62, m14_63, m14_64, m14_65, m14_66u, m14_66i, m14_66r, m14_66g, m14_70, m14_71, m14_74, m14_76, m14_78, m14_81, m14_82, m14_85, m14_86, m14_88, m14_89, m14_91, m14_92, m14_93, m14_96, m14_97, m14_99, m14_100, m14_102, m14_103, m14_104, m14_105, m14_108, m14_111, m14_114, m14_117, nb0, nb1, ou_a, Option.toList_some, Option.toList_none, List.nil_append, List.cons_append]
      exact hQ _ s A h
set_option maxRecDepth 1000000 in
set_option maxHeartbeats 20000000 in
theorem g14c {d : Int32} (hQ : ∀ s' A', KI F N s' A' → Q none (put 0 [] s' A' L B [])) : ∀ (n : Nat) (c : Int32) (k3 k4 : Slot) (s : Nat → Int32) (A : Nat → List Int32), KI F N s A → okS k3 → okS k4 → ¬ c < 0 → c.toInt + n = 16 → M14 45 [.val (.ref 0), .val (.int d), .val (.int c), k3, k4] [] (put 0 [] s A L B []) Q := by
  intro n
  induction n with
  | zero =>
    intro c k3 k4 s A h o3 o4 h0 e
    have hge : ¬ c < 16 := by rw [lt_i, i_16]; omega
    rw [m14_45]
    simp [hge, m14_0, m14_1u, m14_3, m14_5, m14_8, m14_9, m14_12, m14_13, m14_14, m14_15, m14_18, m14_21, m14_22i, m14_24, m14_25, m14_28, m14_31, m14_32, m14_33, m14_34, m14_37, m14_40, m14_43, m14_44i, m14_46, m14_48, m14_51, m14_52, m14_55, m14_56, m14_57u, m14_57i, m14_57r, m14_57g, m14_58, m14_59, m14_62, m14_63, m14_64, m14_65, m14_66u, m14_66i, m14_66r, m14_66g, m14_70, m14_71, m14_74, m14_76, m14_78, m14_81, m14_82, m14_85, m14_86, m14_88, m14_89, m14_91, m14_92, m14_93, m14_96, m14_97, m14_99, m14_100, m14_102, m14_103, m14_104, m14_105, m14_108, m14_111, m14_114, m14_117, nb0, nb1, ou_a, Option.toList_some, Option.toList_none, List.nil_append, List.cons_append]
    exact hQ s A h
  | succ n ih =>
    intro c k3 k4 s A h o3 o4 h0 e
    have hlt : c < 16 := by rw [lt_i, i_16]; omega
    have q6 := in_lt h.2.2.1 z6 h0 hlt
    have q7 := in_lt h.2.2.1 z7 h0 hlt
    have n1 := succ_nn h0 (by omega)
    have e1 : (c + 1).toInt + n = 16 := by rw [add1_i (by omega)]; omega
    rw [m14_45]
    simp [hlt, q6, q7, o3, o4, m14_0, m14_1u, m14_3, m14_5, m14_8, m14_9, m14_12, m14_13, m14_14, m14_15, m14_18, m14_21, m14_22i, m14_24, m14_25, m14_28, m14_31, m14_32, m14_33, m14_34, m14_37, m14_40, m14_43, m14_44i, m14_46, m14_48, m14_51, m14_52, m14_55, m14_56, m14_57u, m14_57i, m14_57r, m14_57g, m14_58, m14_59, m14_62, m14_63, m14_64, m14_65, m14_66u, m14_66i, m14_66r, m14_66g, m14_70, m14_71, m14_74, m14_76, m14_78, m14_81, m14_82, m14_85, m14_86, m14_88, m14_89, m14_91, m14_92, m14_93, m14_96, m14_97, m14_99, m14_100, m14_102, m14_103, m14_104, m14_105, m14_108, m14_111, m14_114, m14_117, nb0, nb1, ou_a, Option.toList_some, Option.toList_none, List.nil_append, List.cons_append]
    exact g14d h0 hlt (fun k4 s' A' h' => ih _ _ _ s' A' h' (okS_i _) (okS_i _) n1 e1) 32 0 _ _ (KI_set h rfl (fun q => n6 q _)) (by decide) rfl
set_option maxRecDepth 1000000 in
set_option maxHeartbeats 20000000 in
theorem g14b {d : Int32} (hN : N.toInt ≤ 16) (hQ : ∀ s' A', KI F N s' A' → Q none (put 0 [] s' A' L B [])) : ∀ (n : Nat) (c : Int32) (s : Nat → Int32) (A : Nat → List Int32), KI F N s A → ¬ c < 0 → c.toInt + n = N.toInt → M14 23 [.val (.ref 0), .val (.int d), .val (.int c), .unset, .unset] [] (put 0 [] s A L B []) Q := by
  intro n
  induction n with
  | zero =>
    intro c s A h h0 e
    have e14 := h.2.1
    have hge : ¬ c < N := by rw [lt_i]; omega
    rw [m14_23]
    simp [hge, e14, m14_0, m14_1u, m14_3, m14_5, m14_8, m14_9, m14_12, m14_13, m14_14, m14_15, m14_18, m14_21, m14_22i, m14_24, m14_25, m14_28, m14_31, m14_32, m14_33, m14_34, m14_37, m14_40, m14_43, m14_44i, m14_46, m14_48, m14_51, m14_52, m14_55, m14_56, m14_57u, m14_57i, m14_57r, m14_57g, m14_58, m14_59, m14_62, m14_63, m14_64, m14_65, m14_66u, m14_66i, m14_66r, m14_66g, m14_70, m14_71, m14_74, m14_76, m14_78, m14_81, m14_82, m14_85, m14_86, m14_88, m14_89, m14_91, m14_92, m14_93, m14_96, m14_97, m14_99, m14_100, m14_102, m14_103, m14_104, m14_105, m14_108, m14_111, m14_114, m14_117, nb0, nb1, ou_a, Option.toList_some, Option.toList_none, List.nil_append, List.cons_append]
    exact g14c hQ 16 0 _ _ s A h okS_u okS_u (by decide) rfl
  | succ n ih =>
    intro c s A h h0 e
    have e14 := h.2.1
    have hlt : c < N := by rw [lt_i]; omega
    have h16 : c < 16 := by rw [lt_i, i_16]; omega
    rw [m14_23]
    simp [hlt, e14, m14_0, m14_1u, m14_3, m14_5, m14_8, m14_9, m14_12, m14_13, m14_14, m14_15, m14_18, m14_21, m14_22i, m14_24, m14_25, m14_28, m14_31, m14_32, m14_33, m14_34, m14_37, m14_40, m14_43, m14_44i, m14_46, m14_48, m14_51, m14_52, m14_55, m14_56, m14_57u, m14_57i, m14_57r, m14_57g, m14_58, m14_59, m14_62, m14_63, m14_64, m14_65, m14_66u, m14_66i, m14_66r, m14_66g, m14_70, m14_71, m14_74, m14_76, m14_78, m14_81, m14_82, m14_85, m14_86, m14_88, m14_89, m14_91, m14_92, m14_93, m14_96, m14_97, m14_99, m14_100, m14_102, m14_103, m14_104, m14_105, m14_108, m14_111, m14_114, m14_117, nb0, nb1, ou_a, Option.toList_some, Option.toList_none, List.nil_append, List.cons_append]
    refine g15 h h0 h16 (fun s1 A1 h1 => ?_)
    simp [m14_0, m14_1u, m14_3, m14_5, m14_8, m14_9, m14_12, m14_13, m14_14, m14_15, m14_18, m14_21, m14_22i, m14_24, m14_25, m14_28, m14_31, m14_32, m14_33, m14_34, m14_37, m14_40, m14_43, m14_44i, m14_46, m14_48, m14_51, m14_52, m14_55, m14_56, m14_57u, m14_57i, m14_57r, m14_57g, m14_58, m14_59, m14_62, m14_63, m14_64, m14_65, m14_66u, m14_66i, m14_66r, m14_66g, m14_70, m14_71, m14_74, m14_76, m14_78, m14_81, m14_82, m14_85, m14_86, m14_88, m14_89, m14_91, m14_92, m14_93, m14_96, m14_97, m14_99, m14_100, m14_102, m14_103, m14_104, m14_105, m14_108, m14_111, m14_114, m14_117, nb0, nb1, ou_a, Option.toList_some, Option.toList_none, List.nil_append, List.cons_append]
    exact ih _ _ _ h1 (succ_nn h0 (by omega)) (by rw [add1_i (by omega)]; omega)
set_option maxRecDepth 1000000 in
set_option maxHeartbeats 20000000 in
theorem g14a {d : Int32} (hN0 : 0 ≤ N.toInt) (hN : N.toInt ≤ 16) (hQ : ∀ s' A', KI F N s' A' → Q none (put 0 [] s' A' L B [])) : ∀ (n : Nat) (c : Int32) (s : Nat → Int32) (A : Nat → List Int32), KI F N s A → ¬ c < 0 → c.toInt + n = 16 → M14 2 [.val (.ref 0), .val (.int d), .val (.int c), .unset, .unset] [] (put 0 [] s A L B []) Q := by
  intro n
  induction n with
  | zero =>
    intro c s A h h0 e
    have hge : ¬ c < 16 := by rw [lt_i, i_16]; omega
    rw [m14_2]
    simp [hge, m14_0, m14_1u, m14_3, m14_5, m14_8, m14_9, m14_12, m14_13, m14_14, m14_15, m14_18, m14_21, m14_22i, m14_24, m14_25, m14_28, m14_31, m14_32, m14_33, m14_34, m14_37, m14_40, m14_43, m14_44i, m14_46, m14_48, m14_51, m14_52, m14_55, m14_56, m14_57u, m14_57i, m14_57r, m14_57g, m14_58, m14_59, m14_62, m14_63, m14_64, m14_65, m14_66u, m14_66i, m14_66r, m14_66g, m14_70, m14_71, m14_74, m14_76, m14_78, m14_81, m14_82, m14_85, m14_86, m14_88, m14_89, m14_91, m14_92, m14_93, m14_96, m14_97, m14_99, m14_100, m14_102, m14_103, m14_104, m14_105, m14_108, m14_111, m14_114, m14_117, nb0, nb1, ou_a, Option.toList_some, Option.toList_none, List.nil_append, List.cons_append]
    exact g14b hN hQ N.toInt.toNat 0 s A h (by decide) (by rw [i_0]; omega)
  | succ n ih =>
    intro c s A h h0 e
    have hlt : c < 16 := by rw [lt_i, i_16]; omega
    have q7 := in_lt h.2.2.1 z7 h0 hlt
    rw [m14_2]
    simp [hlt, q7, m14_0, m14_1u, m14_3, m14_5, m14_8, m14_9, m14_12, m14_13, m14_14, m14_15, m14_18, m14_21, m14_22i, m14_24, m14_25, m14_28, m14_31, m14_32, m14_33, m14_34, m14_37, m14_40, m14_43, m14_44i, m14_46, m14_48, m14_51, m14_52, m14_55, m14_56, m14_57u, m14_57i, m14_57r, m14_57g, m14_58, m14_59, m14_62, m14_63, m14_64, m14_65, m14_66u, m14_66i, m14_66r, m14_66g, m14_70, m14_71, m14_74, m14_76, m14_78, m14_81, m14_82, m14_85, m14_86, m14_88, m14_89, m14_91, m14_92, m14_93, m14_96, m14_97, m14_99, m14_100, m14_102, m14_103, m14_104, m14_105, m14_108, m14_111, m14_114, m14_117, nb0, nb1, ou_a, Option.toList_some, Option.toList_none, List.nil_append, List.cons_append]
    exact ih _ _ _ (KI_set h rfl (fun q => n7 q _)) (succ_nn h0 (by omega)) (by rw [add1_i (by omega)]; omega)
theorem g14 {d : Int32} (h : KI F N s A) (hN0 : 0 ≤ N.toInt) (hN : N.toInt ≤ 16) (hQ : ∀ s' A', KI F N s' A' → Q none (put 0 [] s' A' L B [])) : M14 0 [.val (.ref 0), .val (.int d), .unset, .unset, .unset] [] (put 0 [] s A L B []) Q := by
  simp [m14_0, m14_1u, m14_3, m14_5, m14_8, m14_9, m14_12, m14_13, m14_14, m14_15, m14_18, m14_21, m14_22i, m14_24, m14_25, m14_28, m14_31, m14_32, m14_33, m14_34, m14_37, m14_40, m14_43, m14_44i, m14_46, m14_48, m14_51, m14_52, m14_55, m14_56, m14_57u, m14_57i, m14_57r, m14_57g, m14_58, m14_59, m14_62, m14_63, m14_64, m14_65, m14_66u, m14_66i, m14_66r, m14_66g, m14_70, m14_71, m14_74, m14_76, m14_78, m14_81, m14_82, m14_85, m14_86, m14_88, m14_89, m14_91, m14_92, m14_93, m14_96, m14_97, m14_99, m14_100, m14_102, m14_103, m14_104, m14_105, m14_108, m14_111, m14_114, m14_117, nb0, nb1, ou_a, Option.toList_some, Option.toList_none, List.nil_append, List.cons_append]
  exact g14a hN0 hN hQ 16 0 s A h (by decide) rfl
set_option maxRecDepth 1000000 in
set_option maxHeartbeats 20000000 in
theorem g12b {st : Int32} (hN : N.toInt ≤ 16) (h : KI F N s A) (hQ : ∀ mh c : Int32, M12 43 [.val (.ref 0), .val (.int st), .val (.int mh), .val (.int c)] [] (put 0 [] s A L B []) Q) : ∀ (n : Nat) (c mh : Int32), ¬ c < 0 → c.toInt + n = N.toInt → M12 12 [.val (.ref 0), .val (.int st), .val (.int mh), .val (.int c)] [] (put 0 [] s A L B []) Q := by
  have e14 := h.2.1
  intro n
  induction n with
  | zero =>
    intro c mh h0 e
    have hge : ¬ c < N := by rw [lt_i]; omega
    rw [m12_12]
    simp [hge, e14, m12_0, m12_1u, m12_3, m12_5, m12_8, m12_9u, m12_9i, m12_9r, m12_9g, m12_10, m12_11u, m12_11i, m12_11r, m12_11g, m12_13, m12_14, m12_17, m12_20, m12_21, m12_24, m12_25, m12_26, m12_27, m12_30, m12_31, m12_34, m12_35, m12_36i, m12_37, m12_40, m12_44, m12_45, m12_48, m12_49, m12_50, m12_51, m12_54i, m12_55, m12_56, m12_57, m12_60, m12_63, m12_66, nb0, nb1, ou_a, Option.toList_some, Option.toList_none, List.nil_append, List.cons_append]
    exact hQ _ _
  | succ n ih =>
    intro c mh h0 e
    have hlt : c < N := by rw [lt_i]; omega
    have h16 : c < 16 := by rw [lt_i, i_16]; omega
    have q6 := in_lt h.2.2.1 z6 h0 h16
    rw [m12_12]
    by_cases a1 : mh < getA (A 6) c <;>
    · simp [hlt, e14, q6, a1, m12_0, m12_1u, m12_3, m12_5, m12_8, m12_9u, m12_9i, m12_9r, m12_9g, m12_10, m12_11u, m12_11i, m12_11r, m12_11g, m12_13, m12_14, m12_17, m12_20, m12_21, m12_24, m12_25, m12_26, m12_27, m12_30, m12_31, m12_34, m12_35, m12_36i, m12_37, m12_40, m12_43, m12_44, m12_45, m12_48, m12_49, m12_50, m12_51, m12_54i, m12_55, m12_56, m12_57, m12_60, m12_63, m12_66, nb0, nb1, ou_a, Option.toList_some, Option.toList_none, List.nil_append, List.cons_append]
      exact ih _ _ (succ_nn h0 (by omega)) (by rw [add1_i (by omega)]; omega)
set_option maxRecDepth 1000000 in
set_option maxHeartbeats 20000000 in
theorem g12a (hN0 : 0 ≤ N.toInt) (hN : N.toInt ≤ 16) (hQ : ∀ s' A', KI F N s' A' → Q none (put 0 [] s' A' L B [])) : ∀ (n : Nat) (st : Int32) (k2 k3 : Slot) (s : Nat → Int32) (A : Nat → List Int32), KI F N s A → okS k2 → okS k3 → ¬ st < 0 → st.toInt + n = 16 → M12 2 [.val (.ref 0), .val (.int st), k2, k3] [] (put 0 [] s A L B []) Q := by
  intro n
  induction n with
  | zero =>
    intro st k2 k3 s A h o2 o3 h0 e
    have hge : ¬ st < 16 := by rw [lt_i, i_16]; omega
    rw [m12_2]
    simp [hge, m12_0, m12_1u, m12_3, m12_5, m12_8, m12_9u, m12_9i, m12_9r, m12_9g, m12_10, m12_11u, m12_11i, m12_11r, m12_11g, m12_13, m12_14, m12_17, m12_20, m12_21, m12_24, m12_25, m12_26, m12_27, m12_30, m12_31, m12_34, m12_35, m12_36i, m12_37, m12_40, m12_43, m12_44, m12_45, m12_48, m12_49, m12_50, m12_51, m12_54i, m12_55, m12_56, m12_57, m12_60, m12_63, m12_66, nb0, nb1, ou_a, Option.toList_some, Option.toList_none, List.nil_append, List.cons_append]
    exact hQ s A h
  | succ n ih =>
    intro st k2 k3 s A h o2 o3 h0 e
    have hlt : st < 16 := by rw [lt_i, i_16]; omega
    rw [m12_2]
    simp [hlt, o2, o3, m12_0, m12_1u, m12_3, m12_5, m12_8, m12_9u, m12_9i, m12_9r, m12_9g, m12_10, m12_11u, m12_11i, m12_11r, m12_11g, m12_13, m12_14, m12_17, m12_20, m12_21, m12_24, m12_25, m12_26, m12_27, m12_30, m12_31, m12_34, m12_35, m12_36i, m12_37, m12_40, m12_43, m12_44, m12_45, m12_48, m12_49, m12_50, m12_51, m12_54i, m12_55, m12_56, m12_57, m12_60, m12_63, m12_66, nb0, nb1, ou_a, Option.toList_some, Option.toList_none, List.nil_append, List.cons_append]
    refine g12b hN h (fun mh c => ?_) N.toInt.toNat 0 0 (by decide) (by rw [i_0]; omega)
    by_cases a1 : 2 < mh
    · simp [a1, m12_0, m12_1u, m12_3, m12_5, m12_8, m12_9u, m12_9i, m12_9r, m12_9g, m12_10, m12_11u, m12_11i, m12_11r, m12_11g, m12_13, m12_14, m12_17, m12_20, m12_21, m12_24, m12_25, m12_26, m12_27, m12_30, m12_31, m12_34, m12_35, m12_36i, m12_37, m12_40, m12_43, m12_44, m12_45, m12_48, m12_49, m12_50, m12_51, m12_54i, m12_55, m12_56, m12_57, m12_60, m12_63, m12_66, nb0, nb1, ou_a, Option.toList_some, Option.toList_none, List.nil_append, List.cons_append]
      refine g13 (fun d => ?_)
      simp [m12_0, m12_1u, m12_3, m12_5, m12_8, m12_9u, m12_9i, m12_9r, m12_9g, m12_10, m12_11u, m12_11i, m12_11r, m12_11g, m12_13, m12_14, m12_17, m12_20, m12_21, m12_24, m12_25, m12_26, m12_27, m12_30, m12_31, m12_34, m12_35, m12_36i, m12_37, m12_40, m12_43, m12_44, m12_45, m12_48, m12_49, m12_50, m12_51, m12_54i, m12_55, m12_56, m12_57, m12_60, m12_63, m12_66, nb0, nb1, ou_a, Option.toList_some, Option.toList_none, List.nil_append, List.cons_append]
      refine g14 h hN0 hN (fun s1 A1 h1 => ?_)
      simp [m12_0, m12_1u, m12_3, m12_5, m12_8, m12_9u, m12_9i, m12_9r, m12_9g, m12_10, m12_11u, m12_11i, m12_11r, m12_11g, m12_13, m12_14, m12_17, m12_20, m12_21, m12_24, m12_25, m12_26, m12_27, m12_30, m12_31, m12_34, m12_35, m12_36i, m12_37, m12_40, m12_43, m12_44, m12_45, m12_48, m12_49, m12_50, m12_51, m12_54i, m12_55, m12_56, m12_57, m12_60, m12_63, m12_66, nb0, nb1, ou_a, Option.toList_some, Option.toList_none, List.nil_append, List.cons_append]
      exact ih _ _ _ _ _ h1 (okS_i _) (okS_i _) (succ_nn h0 (by omega)) (by rw [add1_i (by omega)]; omega)
    · simp [a1, m12_0, m12_1u, m12_3, m12_5, m12_8, m12_9u, m12_9i, m12_9r, m12_9g, m12_10, m12_11u, m12_11i, m12_11r, m12_11g, m12_13, m12_14, m12_17, m12_20, m12_21, m12_24, m12_25, m12_26, m12_27, m12_30, m12_31, m12_34, m12_35, m12_36i, m12_37, m12_40, m12_43, m12_44, m12_45, m12_48, m12_49, m12_50, m12_51, m12_54i, m12_55, m12_56, m12_57, m12_60, m12_63, m12_66, nb0, nb1, ou_a, Option.toList_some, Option.toList_none, List.nil_append, List.cons_append]
      exact hQ s A h
theorem g12 (h : KI F N s A) (hN0 : 0 ≤ N.toInt) (hN : N.toInt ≤ 16) (hQ : ∀ s' A', KI F N s' A' → Q none (put 0 [] s' A' L B [])) : M12 0 [.val (.ref 0), .unset, .unset, .unset] [] (put 0 [] s A L B []) Q := by
  simp [m12_0, m12_1u, m12_3, m12_5, m12_8, m12_9u, m12_9i, m12_9r, m12_9g, m12_10, m12_11u, m12_11i, m12_11r, m12_11g, m12_13, m12_14, m12_17, m12_20, m12_21, m12_24, m12_25, m12_26, m12_27, m12_30, m12_31, m12_34, m12_35, m12_36i, m12_37, m12_40, m12_43, m12_44, m12_45, m12_48, m12_49, m12_50, m12_51, m12_54i, m12_55, m12_56, m12_57, m12_60, m12_63, m12_66, nb0, nb1, ou_a, Option.toList_some, Option.toList_none, List.nil_append, List.cons_append]
  exact g12a hN0 hN hQ 16 0 _ _ s A h okS_u okS_u (by decide) rfl
set_option maxRecDepth 1000000 in
set_option maxHeartbeats 20000000 in
theorem g7b {i bi : Int32} (w1 : 2 ≤ (F 4).toInt) (w2 : (F 4).toInt ≤ 8) (hN0 : 0 ≤ N.toInt) (hN : N.toInt ≤ 16) (b1 : ¬ bi = 1) (h0 : 0 ≤ i.toInt) (hi : i.toInt < N.toInt) (hQ : ∀ (j k4 k5 : Slot) s' A', okS j → okS k4 → okS k5 → KI F N s' A' → M7 66 [.val (.ref 0), .val (.int i), .val (.int bi), j, k4, k5] [] (put 0 [] s' A' L B []) Q) : ∀ (n : Nat) (j : Int32) (k4 k5 : Slot) (s : Nat → Int32) (A : Nat → List Int32), KI F N s A → okS k4 → okS k5 → ¬ j < 0 → j.toInt + n = N.toInt - i.toInt → M7 25 [.val (.ref 0), .val (.int i), .val (.int bi), .val (.int j), k4, k5] [] (put 0 [] s A L B []) Q := by
  have es := sub_i (a := N) (b := i) (by omega) (by omega)
  intro n
  induction n with
  | zero =>
    intro j k4 k5 s A h o4 o5 j0 e
    have e14 := h.2.1
    have hge : ¬ j < N - i := by rw [lt_i]; omega
    rw [m7_25]
    simp [hge, e14, m7_0, m7_1u, m7_3, m7_4, m7_7, m7_10, m7_11, m7_12, m7_15u, m7_15i, m7_15r, m7_15g, m7_16, m7_17, m7_20, m7_23, m7_24u, m7_24i, m7_24r, m7_24g, m7_26, m7_27, m7_30, m7_31, m7_32, m7_35, m7_36, m7_37, m7_40u, m7_40i, m7_40r, m7_40g, m7_42, m7_43, m7_45, m7_46, m7_49u, m7_49i, m7_49r, m7_49g, m7_51, m7_52, m7_53, m7_54, m7_55, m7_57, m7_60, m7_63, m7_69, m7_72, nb0, nb1, ou_a, Option.toList_some, Option.toList_none, List.nil_append, List.cons_append]
    exact hQ _ _ _ s A (okS_i _) o4 o5 h
  | succ n ih =>
    intro j k4 k5 s A h o4 o5 j0 e
    have e14 := h.2.1
    have hlt : j < N - i := by rw [lt_i]; omega
    rw [m7_25]
    simp [hlt, e14, m7_0, m7_1u, m7_3, m7_4, m7_7, m7_10, m7_11, m7_12, m7_15u, m7_15i, m7_15r, m7_15g, m7_16, m7_17, m7_20, m7_23, m7_24u, m7_24i, m7_24r, m7_24g, m7_26, m7_27, m7_30, m7_31, m7_32, m7_35, m7_36, m7_37, m7_40u, m7_40i, m7_40r, m7_40g, m7_42, m7_43, m7_45, m7_46, m7_49u, m7_49i, m7_49r, m7_49g, m7_51, m7_52, m7_53, m7_54, m7_55, m7_57, m7_60, m7_63, m7_66, m7_69, m7_72, nb0, nb1, ou_a, Option.toList_some, Option.toList_none, List.nil_append, List.cons_append]
    refine g9 h w1 w2 (fun a a1 => ?_)
    simp [o4, m7_0, m7_1u, m7_3, m7_4, m7_7, m7_10, m7_11, m7_12, m7_15u, m7_15i, m7_15r, m7_15g, m7_16, m7_17, m7_20, m7_23, m7_24u, m7_24i, m7_24r, m7_24g, m7_26, m7_27, m7_30, m7_31, m7_32, m7_35, m7_36, m7_37, m7_40u, m7_40i, m7_40r, m7_40g, m7_42, m7_43, m7_45, m7_46, m7_49u, m7_49i, m7_49r, m7_49g, m7_51, m7_52, m7_53, m7_54, m7_55, m7_57, m7_60, m7_63, m7_66, m7_69, m7_72, nb0, nb1, ou_a, Option.toList_some, Option.toList_none, List.nil_append, List.cons_append]
    refine g10 h a1 b1 (fun v s1 A1 h1 v1 => ?_)
    simp [o5, m7_0, m7_1u, m7_3, m7_4, m7_7, m7_10, m7_11, m7_12, m7_15u, m7_15i, m7_15r, m7_15g, m7_16, m7_17, m7_20, m7_23, m7_24u, m7_24i, m7_24r, m7_24g, m7_26, m7_27, m7_30, m7_31, m7_32, m7_35, m7_36, m7_37, m7_40u, m7_40i, m7_40r, m7_40g, m7_42, m7_43, m7_45, m7_46, m7_49u, m7_49i, m7_49r, m7_49g, m7_51, m7_52, m7_53, m7_54, m7_55, m7_57, m7_60, m7_63, m7_66, m7_69, m7_72, nb0, nb1, ou_a, Option.toList_some, Option.toList_none, List.nil_append, List.cons_append]
    refine g11 h1 v1 (fun s2 A2 h2 => ?_)
    simp [m7_0, m7_1u, m7_3, m7_4, m7_7, m7_10, m7_11, m7_12, m7_15u, m7_15i, m7_15r, m7_15g, m7_16, m7_17, m7_20, m7_23, m7_24u, m7_24i, m7_24r, m7_24g, m7_26, m7_27, m7_30, m7_31, m7_32, m7_35, m7_36, m7_37, m7_40u, m7_40i, m7_40r, m7_40g, m7_42, m7_43, m7_45, m7_46, m7_49u, m7_49i, m7_49r, m7_49g, m7_51, m7_52, m7_53, m7_54, m7_55, m7_57, m7_60, m7_63, m7_66, m7_69, m7_72, nb0, nb1, ou_a, Option.toList_some, Option.toList_none, List.nil_append, List.cons_append]
    exact ih _ _ _ _ _ h2 (okS_i _) (okS_i _) (succ_nn j0 (by omega)) (by rw [add1_i (by omega)]; omega)
set_option maxRecDepth 1000000 in
set_option maxHeartbeats 20000000 in
theorem g7a (w1 : 2 ≤ (F 4).toInt) (w2 : (F 4).toInt ≤ 8) (hN0 : 0 ≤ N.toInt) (hN : N.toInt ≤ 16) (hQ : ∀ s' A', KI F N s' A' → Q none (put 0 [] s' A' L B [])) : ∀ (n : Nat) (i : Int32) (k2 k3 k4 k5 : Slot) (s : Nat → Int32) (A : Nat → List Int32), KI F N s A → okS k2 → okS k3 → okS k4 → okS k5 → ¬ i < 0 → i.toInt + n = N.toInt → M7 2 [.val (.ref 0), .val (.int i), k2, k3, k4, k5] [] (put 0 [] s A L B []) Q := by
  intro n
  induction n with
  | zero =>
    intro i k2 k3 k4 k5 s A h o2 o3 o4 o5 h0 e
    have e14 := h.2.1
    have hge : ¬ i < N := by rw [lt_i]; omega
    rw [m7_2]
    simp [hge, e14, m7_0, m7_1u, m7_3, m7_4, m7_7, m7_10, m7_11, m7_12, m7_15u, m7_15i, m7_15r, m7_15g, m7_16, m7_17, m7_20, m7_23, m7_24u, m7_24i, m7_24r, m7_24g, m7_26, m7_27, m7_30, m7_31, m7_32, m7_35, m7_36, m7_37, m7_40u, m7_40i, m7_40r, m7_40g, m7_42, m7_43, m7_45, m7_46, m7_49u, m7_49i, m7_49r, m7_49g, m7_51, m7_52, m7_53, m7_54, m7_55, m7_57, m7_60, m7_63, m7_66, m7_69, m7_72, nb0, nb1, ou_a, Option.toList_some, Option.toList_none, List.nil_append, List.cons_append]
    exact hQ s A h
  | succ n ih =>
    intro i k2 k3 k4 k5 s A h o2 o3 o4 o5 h0 e
    have e14 := h.2.1
    have hlt : i < N := by rw [lt_i]; omega
    have n1 := succ_nn h0 (by omega)
    have e1 : (i + 1).toInt + n = N.toInt := by rw [add1_i (by omega)]; omega
    have h0' := nn_i.mp h0
    rw [m7_2]
    simp [hlt, e14, m7_0, m7_1u, m7_3, m7_4, m7_7, m7_10, m7_11, m7_12, m7_15u, m7_15i, m7_15r, m7_15g, m7_16, m7_17, m7_20, m7_23, m7_24u, m7_24i, m7_24r, m7_24g, m7_26, m7_27, m7_30, m7_31, m7_32, m7_35, m7_36, m7_37, m7_40u, m7_40i, m7_40r, m7_40g, m7_42, m7_43, m7_45, m7_46, m7_49u, m7_49i, m7_49r, m7_49g, m7_51, m7_52, m7_53, m7_54, m7_55, m7_57, m7_60, m7_63, m7_66, m7_69, m7_72, nb0, nb1, ou_a, Option.toList_some, Option.toList_none, List.nil_append, List.cons_append]
    refine g8 h w1 w2 (fun bi b1 => ?_)
    by_cases a1 : bi = 0
    · simp [a1, o2, m7_0, m7_1u, m7_3, m7_4, m7_7, m7_10, m7_11, m7_12, m7_15u, m7_15i, m7_15r, m7_15g, m7_16, m7_17, m7_20, m7_23, m7_24u, m7_24i, m7_24r, m7_24g, m7_26, m7_27, m7_30, m7_31, m7_32, m7_35, m7_36, m7_37, m7_40u, m7_40i, m7_40r, m7_40g, m7_42, m7_43, m7_45, m7_46, m7_49u, m7_49i, m7_49r, m7_49g, m7_51, m7_52, m7_53, m7_54, m7_55, m7_57, m7_60, m7_63, m7_66, m7_69, m7_72, nb0, nb1, ou_a, Option.toList_some, Option.toList_none, List.nil_append, List.cons_append]
      exact ih _ _ _ _ _ _ _ h (okS_i _) o3 o4 o5 n1 e1
    · simp [a1, o2, o3, m7_0, m7_1u, m7_3, m7_4, m7_7, m7_10, m7_11, m7_12, m7_15u, m7_15i, m7_15r, m7_15g, m7_16, m7_17, m7_20, m7_23, m7_24u, m7_24i, m7_24r, m7_24g, m7_26, m7_27, m7_30, m7_31, m7_32, m7_35, m7_36, m7_37, m7_40u, m7_40i, m7_40r, m7_40g, m7_42, m7_43, m7_45, m7_46, m7_49u, m7_49i, m7_49r, m7_49g, m7_51, m7_52, m7_53, m7_54, m7_55, m7_57, m7_60, m7_63, m7_66, m7_69, m7_72, nb0, nb1, ou_a, Option.toList_some, Option.toList_none, List.nil_append, List.cons_append]
      refine g7b w1 w2 hN0 hN b1 h0' (by omega) (fun j k4 k5 s' A' p3 p4 p5 h' => ?_) (N.toInt - i.toInt).toNat 0 _ _ s A h o4 o5 (by decide) (by rw [i_0]; omega)
      simp [m7_0, m7_1u, m7_3, m7_4, m7_7, m7_10, m7_11, m7_12, m7_15u, m7_15i, m7_15r, m7_15g, m7_16, m7_17, m7_20, m7_23, m7_24u, m7_24i, m7_24r, m7_24g, m7_26, m7_27, m7_30, m7_31, m7_32, m7_35, m7_36, m7_37, m7_40u, m7_40i, m7_40r, m7_40g, m7_42, m7_43, m7_45, m7_46, m7_49u, m7_49i, m7_49r, m7_49g, m7_51, m7_52, m7_53, m7_54, m7_55, m7_57, m7_60, m7_63, m7_66, m7_69, m7_72, nb0, nb1, ou_a, Option.toList_some, Option.toList_none, List.nil_append, List.cons_append]
      exact ih _ _ _ _ _ _ _ h' (okS_i _) p3 p4 p5 n1 e1
theorem g7 (h : KI F N s A) (w1 : 2 ≤ (F 4).toInt) (w2 : (F 4).toInt ≤ 8) (hN0 : 0 ≤ N.toInt) (hN : N.toInt ≤ 16) (hQ : ∀ s' A', KI F N s' A' → Q none (put 0 [] s' A' L B [])) : M7 0 [.val (.ref 0), .unset, .unset, .unset, .unset, .unset] [] (put 0 [] s A L B []) Q := by
  simp [m7_0, m7_1u, m7_3, m7_4, m7_7, m7_10, m7_11, m7_12, m7_15u, m7_15i, m7_15r, m7_15g, m7_16, m7_17, m7_20, m7_23, m7_24u, m7_24i, m7_24r, m7_24g, m7_26, m7_27, m7_30, m7_31, m7_32, m7_35, m7_36, m7_37, m7_40u, m7_40i, m7_40r, m7_40g, m7_42, m7_43, m7_45, m7_46, m7_49u, m7_49i, m7_49r, m7_49g, m7_51, m7_52, m7_53, m7_54, m7_55, m7_57, m7_60, m7_63, m7_66, m7_69, m7_72, nb0, nb1, ou_a, Option.toList_some, Option.toList_none, List.nil_append, List.cons_append]
  exact g7a w1 w2 hN0 hN hQ N.toInt.toNat 0 _ _ _ _ s A h okS_u okS_u okS_u okS_u (by decide) (by rw [i_0]; omega)
set_option maxRecDepth 1000000 in
set_option maxHeartbeats 20000000 in
theorem g24 {i j : Int32} (h : KI F N s A) (i0 : ¬ i < 0) (i1 : i < 16) (j0 : ¬ j < 0) (j1 : j < 16) (hQ : ∀ s' A', KI F N s' A' → Q none (put 0 [] s' A' L B [])) : M24 0 [.val (.ref 0), .val (.int i), .val (.int j), .unset] [] (put 0 [] s A L B []) Q := by
  have q9 := in_lt h.2.2.1 z9 i0 i1
  have q8j := in_lt h.2.2.1 z8 j0 j1
  have q8i := in_lt h.2.2.1 z8 i0 i1
  simp [q9, q8j, m24_0, m24_1, m24_2, m24_5, m24_6, m24_7, m24_8, m24_11, m24_12, m24_13, m24_16u, m24_17, m24_18, m24_21, m24_22, m24_23, m24_24, m24_27, m24_28, m24_29, m24_30, m24_33, m24_34, nb0, nb1, ou_a, Option.toList_some, Option.toList_none, List.nil_append, List.cons_append]
  refine g10 h (nd_get h.2.2.2.1 (by unfold nd; omega) _) (nd_get h.2.2.2.1 (by unfold nd; omega) _) (fun v s1 A1 h1 v1 => ?_)
  have r8i := in_lt h1.2.2.1 z8 i0 i1
  simp [r8i, m24_0, m24_1, m24_2, m24_5, m24_6, m24_7, m24_8, m24_11, m24_12, m24_13, m24_16u, m24_17, m24_18, m24_21, m24_22, m24_23, m24_24, m24_27, m24_28, m24_29, m24_30, m24_33, m24_34, nb0, nb1, ou_a, Option.toList_some, Option.toList_none, List.nil_append, List.cons_append]
  refine g20 h1 (nd_get h1.2.2.2.1 (by unfold nd; omega) _) v1 (fun x s2 A2 h2 x1 => ?_)
  have t8i := in_lt h2.2.2.1 z8 i0 i1
  simp [t8i, m24_0, m24_1, m24_2, m24_5, m24_6, m24_7, m24_8, m24_11, m24_12, m24_13, m24_16u, m24_17, m24_18, m24_21, m24_22, m24_23, m24_24, m24_27, m24_28, m24_29, m24_30, m24_33, m24_34, nb0, nb1, ou_a, Option.toList_some, Option.toList_none, List.nil_append, List.cons_append]
  exact hQ _ _ (KI_set h2 rfl (fun _ => x1))
theorem g23 {i j : Int32} (h : KI F N s A) (i0 : ¬ i < 0) (i1 : i < 16) (j0 : ¬ j < 0) (j1 : j < 16) (hQ : ∀ s' A', KI F N s' A' → Q none (put 0 [] s' A' L B [])) : M23 0 [.val (.ref 0), .val (.int i), .val (.int j)] [] (put 0 [] s A L B []) Q := by
  simp [m23_0, m23_1, m23_2, m23_3, m23_6, m23_7, m23_10, m23_11, m23_12, m23_13, m23_16, m23_17, m23_18, m23_19, m23_22, m23_23, m23_24, m23_27, m23_28, nb0, nb1, ou_a, Option.toList_some, Option.toList_none, List.nil_append, List.cons_append]
  refine g24 h i0 i1 j0 j1 (fun s1 A1 h1 => ?_)
  have r9i := in_lt h1.2.2.1 z9 i0 i1
  have r9j := in_lt h1.2.2.1 z9 j0 j1
  simp [r9i, r9j, m23_0, m23_1, m23_2, m23_3, m23_6, m23_7, m23_10, m23_11, m23_12, m23_13, m23_16, m23_17, m23_18, m23_19, m23_22, m23_23, m23_24, m23_27, m23_28, nb0, nb1, ou_a, Option.toList_some, Option.toList_none, List.nil_append, List.cons_append]
  refine g10 h1 (nd_get h1.2.2.2.1 (by unfold nd; omega) _) (nd_get h1.2.2.2.1 (by unfold nd; omega) _) (fun v s2 A2 h2 v1 => ?_)
  have t9 := in_lt h2.2.2.1 z9 i0 i1
  simp [t9, m23_0, m23_1, m23_2, m23_3, m23_6, m23_7, m23_10, m23_11, m23_12, m23_13, m23_16, m23_17, m23_18, m23_19, m23_22, m23_23, m23_24, m23_27, m23_28, nb0, nb1, ou_a, Option.toList_some, Option.toList_none, List.nil_append, List.cons_append]
  exact hQ _ _ (KI_set h2 rfl (fun _ => v1))
set_option maxRecDepth 1000000 in
set_option maxHeartbeats 20000000 in
theorem g22c {k2 k3 : Slot} (hN : N.toInt ≤ 16) (hQ : ∀ s' A', KI F N s' A' → Q none (put 0 [] s' A' L B [])) : ∀ (n : Nat) (i : Int32) (s : Nat → Int32) (A : Nat → List Int32), KI F N s A → 1 ≤ i.toInt → i.toInt ≤ 100 → N.toInt ≤ i.toInt + n → M22 82 [.val (.ref 0), .val (.int i), k2, k3] [] (put 0 [] s A L B []) Q := by
  intro n
  induction n with
  | zero =>
    intro i s A h h0 h1 e
    have e14 := h.2.1
    have hge : ¬ i < N := by rw [lt_i]; omega
    rw [m22_82]
    simp [hge, e14, m22_0, m22_1u, m22_3, m22_4, m22_7, m22_10, m22_11, m22_12, m22_13, m22_14, m22_15, m22_18, m22_21, m22_24, m22_25i, m22_27, m22_28, m22_31, m22_32, m22_33, m22_34u, m22_34i, m22_34r, m22_34g, m22_35, m22_36, m22_37, m22_40, m22_43, m22_46, m22_47, m22_50, m22_51, m22_52u, m22_52i, m22_52r, m22_52g, m22_54, m22_55, m22_56, m22_57, m22_60, m22_61, m22_62, m22_63, m22_64, m22_65, m22_68, m22_71, m22_74, m22_77, m22_80, m22_81i, m22_83, m22_84, m22_87, m22_90, m22_91, m22_92, m22_93, m22_94, m22_95, m22_98, m22_101, m22_104, nb0, nb1, ou_a, Option.toList_some, Option.toList_none, List.nil_append, List.cons_append]
    exact hQ s A h
  | succ n ih =>
    intro i s A h h0 h1 e
    have e14 := h.2.1
    rw [m22_82]
    by_cases a1 : i < N
    · have a2 := a1
      rw [lt_i] at a2
      have e1 := sub_i (a := i) (b := 1) (by rw [i_1]; omega) (by rw [i_1]; omega)
      rw [i_1] at e1
      have e2 : (i + 2).toInt = i.toInt + 2 := add_i (by rw [i_2]; omega) (by rw [i_2]; omega)
      simp [a1, e14, m22_0, m22_1u, m22_3, m22_4, m22_7, m22_10, m22_11, m22_12, m22_13, m22_14, m22_15, m22_18, m22_21, m22_24, m22_25i, m22_27, m22_28, m22_31, m22_32, m22_33, m22_34u, m22_34i, m22_34r, m22_34g, m22_35, m22_36, m22_37, m22_40, m22_43, m22_46, m22_47, m22_50, m22_51, m22_52u, m22_52i, m22_52r, m22_52g, m22_54, m22_55, m22_56, m22_57, m22_60, m22_61, m22_62, m22_63, m22_64, m22_65, m22_68, m22_71, m22_74, m22_77, m22_80, m22_81i, m22_83, m22_84, m22_87, m22_90, m22_91, m22_92, m22_93, m22_94, m22_95, m22_98, m22_101, m22_104, nb0, nb1, ou_a, Option.toList_some, Option.toList_none, List.nil_append, List.cons_append]
      refine g24 h (by rw [nn_i]; omega) (by rw [lt_i, i_16]; omega) (by rw [nn_i]; omega) (by rw [lt_i, i_16]; omega) (fun s1 A1 h1 => ?_)
      simp [m22_0, m22_1u, m22_3, m22_4, m22_7, m22_10, m22_11, m22_12, m22_13, m22_14, m22_15, m22_18, m22_21, m22_24, m22_25i, m22_27, m22_28, m22_31, m22_32, m22_33, m22_34u, m22_34i, m22_34r, m22_34g, m22_35, m22_36, m22_37, m22_40, m22_43, m22_46, m22_47, m22_50, m22_51, m22_52u, m22_52i, m22_52r, m22_52g, m22_54, m22_55, m22_56, m22_57, m22_60, m22_61, m22_62, m22_63, m22_64, m22_65, m22_68, m22_71, m22_74, m22_77, m22_80, m22_81i, m22_83, m22_84, m22_87, m22_90, m22_91, m22_92, m22_93, m22_94, m22_95, m22_98, m22_101, m22_104, nb0, nb1, ou_a, Option.toList_some, Option.toList_none, List.nil_append, List.cons_append]
      exact ih _ _ _ h1 (by omega) (by omega) (by omega)
    · simp [a1, e14, m22_0, m22_1u, m22_3, m22_4, m22_7, m22_10, m22_11, m22_12, m22_13, m22_14, m22_15, m22_18, m22_21, m22_24, m22_25i, m22_27, m22_28, m22_31, m22_32, m22_33, m22_34u, m22_34i, m22_34r, m22_34g, m22_35, m22_36, m22_37, m22_40, m22_43, m22_46, m22_47, m22_50, m22_51, m22_52u, m22_52i, m22_52r, m22_52g, m22_54, m22_55, m22_56, m22_57, m22_60, m22_61, m22_62, m22_63, m22_64, m22_65, m22_68, m22_71, m22_74, m22_77, m22_80, m22_81i, m22_83, m22_84, m22_87, m22_90, m22_91, m22_92, m22_93, m22_94, m22_95, m22_98, m22_101, m22_104, nb0, nb1, ou_a, Option.toList_some, Option.toList_none, List.nil_append, List.cons_append]
      exact hQ s A h
set_option maxRecDepth 1000000 in
set_option maxHeartbeats 20000000 in
theorem g22b {st d : Int32} (hN : N.toInt ≤ 16) (d0 : 1 ≤ d.toInt) (d1 : d.toInt ≤ 8) (hQ : ∀ (j : Int32) s' A', KI F N s' A' → M22 74 [.val (.ref 0), .val (.int st), .val (.int d), .val (.int j)] [] (put 0 [] s' A' L B []) Q) : ∀ (n : Nat) (j : Int32) (s : Nat → Int32) (A : Nat → List Int32), KI F N s A → -10 ≤ j.toInt → j.toInt < 16 → j.toInt ≤ n → M22 53 [.val (.ref 0), .val (.int st), .val (.int d), .val (.int j)] [] (put 0 [] s A L B []) Q := by
  intro n
  induction n with
  | zero =>
    intro j s A h h0 h1 e
    have e1 := sub_i (a := j) (b := d) (by omega) (by omega)
    have a1 : j - d < 1 := by rw [lt_i, i_1]; omega
    rw [m22_53]
    simp [a1, m22_0, m22_1u, m22_3, m22_4, m22_7, m22_10, m22_11, m22_12, m22_13, m22_14, m22_15, m22_18, m22_21, m22_24, m22_25i, m22_27, m22_28, m22_31, m22_32, m22_33, m22_34u, m22_34i, m22_34r, m22_34g, m22_35, m22_36, m22_37, m22_40, m22_43, m22_46, m22_47, m22_50, m22_51, m22_52u, m22_52i, m22_52r, m22_52g, m22_54, m22_55, m22_56, m22_57, m22_60, m22_61, m22_62, m22_63, m22_64, m22_65, m22_68, m22_71, m22_77, m22_80, m22_81i, m22_83, m22_84, m22_87, m22_90, m22_91, m22_92, m22_93, m22_94, m22_95, m22_98, m22_101, m22_104, nb0, nb1, ou_a, Option.toList_some, Option.toList_none, List.nil_append, List.cons_append]
    exact hQ j s A h
  | succ n ih =>
    intro j s A h h0 h1 e
    have e1 := sub_i (a := j) (b := d) (by omega) (by omega)
    rw [m22_53]
    by_cases a1 : j - d < 1
    · simp [a1, m22_0, m22_1u, m22_3, m22_4, m22_7, m22_10, m22_11, m22_12, m22_13, m22_14, m22_15, m22_18, m22_21, m22_24, m22_25i, m22_27, m22_28, m22_31, m22_32, m22_33, m22_34u, m22_34i, m22_34r, m22_34g, m22_35, m22_36, m22_37, m22_40, m22_43, m22_46, m22_47, m22_50, m22_51, m22_52u, m22_52i, m22_52r, m22_52g, m22_54, m22_55, m22_56, m22_57, m22_60, m22_61, m22_62, m22_63, m22_64, m22_65, m22_68, m22_71, m22_77, m22_80, m22_81i, m22_83, m22_84, m22_87, m22_90, m22_91, m22_92, m22_93, m22_94, m22_95, m22_98, m22_101, m22_104, nb0, nb1, ou_a, Option.toList_some, Option.toList_none, List.nil_append, List.cons_append]
      exact hQ j s A h
    · have a2 := a1
      rw [lt_i, i_1] at a2
      have e2 : (j + -2).toInt = j.toInt - 2 := by
        have := add_i (a := j) (b := -2) (by show _ ≤ j.toInt + -2; omega) (by show j.toInt + -2 < _; omega)
        rw [this]; show j.toInt + -2 = _; omega
      simp [a1, m22_0, m22_1u, m22_3, m22_4, m22_7, m22_10, m22_11, m22_12, m22_13, m22_14, m22_15, m22_18, m22_21, m22_24, m22_25i, m22_27, m22_28, m22_31, m22_32, m22_33, m22_34u, m22_34i, m22_34r, m22_34g, m22_35, m22_36, m22_37, m22_40, m22_43, m22_46, m22_47, m22_50, m22_51, m22_52u, m22_52i, m22_52r, m22_52g, m22_54, m22_55, m22_56, m22_57, m22_60, m22_61, m22_62, m22_63, m22_64, m22_65, m22_68, m22_71, m22_74, m22_77, m22_80, m22_81i, m22_83, m22_84, m22_87, m22_90, m22_91, m22_92, m22_93, m22_94, m22_95, m22_98, m22_101, m22_104, nb0, nb1, ou_a, Option.toList_some, Option.toList_none, List.nil_append, List.cons_append]
      refine g23 h (by rw [nn_i]; omega) (by rw [lt_i, i_16]; omega) (by rw [nn_i]; omega) (by rw [lt_i, i_16]; omega) (fun s1 A1 h1 => ?_)
      simp [m22_0, m22_1u, m22_3, m22_4, m22_7, m22_10, m22_11, m22_12, m22_13, m22_14, m22_15, m22_18, m22_21, m22_24, m22_25i, m22_27, m22_28, m22_31, m22_32, m22_33, m22_34u, m22_34i, m22_34r, m22_34g, m22_35, m22_36, m22_37, m22_40, m22_43, m22_46, m22_47, m22_50, m22_51, m22_52u, m22_52i, m22_52r, m22_52g, m22_54, m22_55, m22_56, m22_57, m22_60, m22_61, m22_62, m22_63, m22_64, m22_65, m22_68, m22_71, m22_74, m22_77, m22_80, m22_81i, m22_83, m22_84, m22_87, m22_90, m22_91, m22_92, m22_93, m22_94, m22_95, m22_98, m22_101, m22_104, nb0, nb1, ou_a, Option.toList_some, Option.toList_none, List.nil_append, List.cons_append]
      exact ih _ _ _ h1 (by omega) (by omega) (by omega)
theorem sh0 : (2 : Int32) <<< ((0 : Int32) &&& 31) = 2 := by decide
theorem sh1 : (2 : Int32) <<< ((1 : Int32) &&& 31) = 4 := by decide
theorem sh2 : (2 : Int32) <<< ((2 : Int32) &&& 31) = 8 := by decide
set_option maxRecDepth 1000000 in
set_option maxHeartbeats 20000000 in
theorem g22e {k2 k3 : Slot} (h : KI F N s A) (hN : N.toInt ≤ 16) (hQ : ∀ s' A', KI F N s' A' → Q none (put 0 [] s' A' L B [])) : M22 26 [.val (.ref 0), .val (.int 3), k2, k3] [] (put 0 [] s A L B []) Q := by
  rw [m22_26]
  simp [m22_0, m22_1u, m22_3, m22_4, m22_7, m22_10, m22_11, m22_12, m22_13, m22_14, m22_15, m22_18, m22_21, m22_24, m22_25i, m22_27, m22_28, m22_31, m22_32, m22_33, m22_34u, m22_34i, m22_34r, m22_34g, m22_35, m22_36, m22_37, m22_40, m22_43, m22_46, m22_47, m22_50, m22_51, m22_52u, m22_52i, m22_52r, m22_52g, m22_54, m22_55, m22_56, m22_57, m22_60, m22_61, m22_62, m22_63, m22_64, m22_65, m22_68, m22_71, m22_74, m22_77, m22_80, m22_81i, m22_83, m22_84, m22_87, m22_90, m22_91, m22_92, m22_93, m22_94, m22_95, m22_98, m22_101, m22_104, nb0, nb1, ou_a, Option.toList_some, Option.toList_none, List.nil_append, List.cons_append]
  exact g22c hN hQ 16 2 s A h (by decide) (by decide) (by show N.toInt ≤ 2 + 16; omega)
set_option maxRecDepth 1000000 in
set_option maxHeartbeats 20000000 in
theorem g22s2 {k2 k3 : Slot} (o2 : okS k2) (o3 : okS k3) (h : KI F N s A) (hN0 : 4 ≤ N.toInt) (hN : N.toInt ≤ 16) (hQ : ∀ s' A', KI F N s' A' → Q none (put 0 [] s' A' L B [])) : M22 26 [.val (.ref 0), .val (.int 2), k2, k3] [] (put 0 [] s A L B []) Q := by
  have e14 := h.2.1
  have eN := sub_i (a := N) (b := 1) (by rw [i_1]; omega) (by rw [i_1]; omega)
  rw [i_1] at eN
  rw [m22_26]
  by_cases a1 : 8 < N
  · simp [a1, e14, o2, o3, sh2, m22_0, m22_1u, m22_3, m22_4, m22_7, m22_10, m22_11, m22_12, m22_13, m22_14, m22_15, m22_18, m22_21, m22_24, m22_25i, m22_27, m22_28, m22_31, m22_32, m22_33, m22_34u, m22_34i, m22_34r, m22_34g, m22_35, m22_36, m22_37, m22_40, m22_43, m22_46, m22_47, m22_50, m22_51, m22_52u, m22_52i, m22_52r, m22_52g, m22_54, m22_55, m22_56, m22_57, m22_60, m22_61, m22_62, m22_63, m22_64, m22_65, m22_68, m22_71, m22_74, m22_77, m22_80, m22_81i, m22_83, m22_84, m22_87, m22_90, m22_91, m22_92, m22_93, m22_94, m22_95, m22_98, m22_101, m22_104, nb0, nb1, ou_a, Option.toList_some, Option.toList_none, List.nil_append, List.cons_append]
    refine g22b hN (by decide) (by decide) (fun j s' A' h' => ?_) 16 _ s A h (by omega) (by omega) (by show (N - 1).toInt ≤ 16; omega)
    simp [m22_0, m22_1u, m22_3, m22_4, m22_7, m22_10, m22_11, m22_12, m22_13, m22_14, m22_15, m22_18, m22_21, m22_24, m22_25i, m22_27, m22_28, m22_31, m22_32, m22_33, m22_34u, m22_34i, m22_34r, m22_34g, m22_35, m22_36, m22_37, m22_40, m22_43, m22_46, m22_47, m22_50, m22_51, m22_52u, m22_52i, m22_52r, m22_52g, m22_54, m22_55, m22_56, m22_57, m22_60, m22_61, m22_62, m22_63, m22_64, m22_65, m22_68, m22_71, m22_74, m22_77, m22_80, m22_81i, m22_83, m22_84, m22_87, m22_90, m22_91, m22_92, m22_93, m22_94, m22_95, m22_98, m22_101, m22_104, nb0, nb1, ou_a, Option.toList_some, Option.toList_none, List.nil_append, List.cons_append]
    exact g22e h' hN hQ
  · simp [a1, e14, o2, sh2, m22_0, m22_1u, m22_3, m22_4, m22_7, m22_10, m22_11, m22_12, m22_13, m22_14, m22_15, m22_18, m22_21, m22_24, m22_25i, m22_27, m22_28, m22_31, m22_32, m22_33, m22_34u, m22_34i, m22_34r, m22_34g, m22_35, m22_36, m22_37, m22_40, m22_43, m22_46, m22_47, m22_50, m22_51, m22_52u, m22_52i, m22_52r, m22_52g, m22_54, m22_55, m22_56, m22_57, m22_60, m22_61, m22_62, m22_63, m22_64, m22_65, m22_68, m22_71, m22_74, m22_77, m22_80, m22_81i, m22_83, m22_84, m22_87, m22_90, m22_91, m22_92, m22_93, m22_94, m22_95, m22_98, m22_101, m22_104, nb0, nb1, ou_a, Option.toList_some, Option.toList_none, List.nil_append, List.cons_append]
    exact g22c hN hQ 16 2 s A h (by decide) (by decide) (by show N.toInt ≤ 2 + 16; omega)
set_option maxRecDepth 1000000 in
set_option maxHeartbeats 20000000 in
theorem g22s1 {k2 k3 : Slot} (o2 : okS k2) (o3 : okS k3) (h : KI F N s A) (hN0 : 4 ≤ N.toInt) (hN : N.toInt ≤ 16) (hQ : ∀ s' A', KI F N s' A' → Q none (put 0 [] s' A' L B [])) : M22 26 [.val (.ref 0), .val (.int 1), k2, k3] [] (put 0 [] s A L B []) Q := by
  have e14 := h.2.1
  have eN := sub_i (a := N) (b := 1) (by rw [i_1]; omega) (by rw [i_1]; omega)
  rw [i_1] at eN
  rw [m22_26]
  by_cases a1 : 4 < N
  · simp [a1, e14, o2, o3, sh1, m22_0, m22_1u, m22_3, m22_4, m22_7, m22_10, m22_11, m22_12, m22_13, m22_14, m22_15, m22_18, m22_21, m22_24, m22_25i, m22_27, m22_28, m22_31, m22_32, m22_33, m22_34u, m22_34i, m22_34r, m22_34g, m22_35, m22_36, m22_37, m22_40, m22_43, m22_46, m22_47, m22_50, m22_51, m22_52u, m22_52i, m22_52r, m22_52g, m22_54, m22_55, m22_56, m22_57, m22_60, m22_61, m22_62, m22_63, m22_64, m22_65, m22_68, m22_71, m22_74, m22_77, m22_80, m22_81i, m22_83, m22_84, m22_87, m22_90, m22_91, m22_92, m22_93, m22_94, m22_95, m22_98, m22_101, m22_104, nb0, nb1, ou_a, Option.toList_some, Option.toList_none, List.nil_append, List.cons_append]
    refine g22b hN (by decide) (by decide) (fun j s' A' h' => ?_) 16 _ s A h (by omega) (by omega) (by show (N - 1).toInt ≤ 16; omega)
    simp [m22_0, m22_1u, m22_3, m22_4, m22_7, m22_10, m22_11, m22_12, m22_13, m22_14, m22_15, m22_18, m22_21, m22_24, m22_25i, m22_27, m22_28, m22_31, m22_32, m22_33, m22_34u, m22_34i, m22_34r, m22_34g, m22_35, m22_36, m22_37, m22_40, m22_43, m22_46, m22_47, m22_50, m22_51, m22_52u, m22_52i, m22_52r, m22_52g, m22_54, m22_55, m22_56, m22_57, m22_60, m22_61, m22_62, m22_63, m22_64, m22_65, m22_68, m22_71, m22_74, m22_77, m22_80, m22_81i, m22_83, m22_84, m22_87, m22_90, m22_91, m22_92, m22_93, m22_94, m22_95, m22_98, m22_101, m22_104, nb0, nb1, ou_a, Option.toList_some, Option.toList_none, List.nil_append, List.cons_append]
    exact g22s2 (okS_i _) (okS_i _) h' hN0 hN hQ
  · simp [a1, e14, o2, sh1, m22_0, m22_1u, m22_3, m22_4, m22_7, m22_10, m22_11, m22_12, m22_13, m22_14, m22_15, m22_18, m22_21, m22_24, m22_25i, m22_27, m22_28, m22_31, m22_32, m22_33, m22_34u, m22_34i, m22_34r, m22_34g, m22_35, m22_36, m22_37, m22_40, m22_43, m22_46, m22_47, m22_50, m22_51, m22_52u, m22_52i, m22_52r, m22_52g, m22_54, m22_55, m22_56, m22_57, m22_60, m22_61, m22_62, m22_63, m22_64, m22_65, m22_68, m22_71, m22_74, m22_77, m22_80, m22_81i, m22_83, m22_84, m22_87, m22_90, m22_91, m22_92, m22_93, m22_94, m22_95, m22_98, m22_101, m22_104, nb0, nb1, ou_a, Option.toList_some, Option.toList_none, List.nil_append, List.cons_append]
    exact g22c hN hQ 16 2 s A h (by decide) (by decide) (by show N.toInt ≤ 2 + 16; omega)
set_option maxRecDepth 1000000 in
set_option maxHeartbeats 20000000 in
theorem g22s0 {k2 k3 : Slot} (o2 : okS k2) (o3 : okS k3) (h : KI F N s A) (hN0 : 4 ≤ N.toInt) (hN : N.toInt ≤ 16) (hQ : ∀ s' A', KI F N s' A' → Q none (put 0 [] s' A' L B [])) : M22 26 [.val (.ref 0), .val (.int 0), k2, k3] [] (put 0 [] s A L B []) Q := by
  have e14 := h.2.1
  have eN := sub_i (a := N) (b := 1) (by rw [i_1]; omega) (by rw [i_1]; omega)
  rw [i_1] at eN
  rw [m22_26]
  by_cases a1 : 2 < N
  · simp [a1, e14, o2, o3, sh0, m22_0, m22_1u, m22_3, m22_4, m22_7, m22_10, m22_11, m22_12, m22_13, m22_14, m22_15, m22_18, m22_21, m22_24, m22_25i, m22_27, m22_28, m22_31, m22_32, m22_33, m22_34u, m22_34i, m22_34r, m22_34g, m22_35, m22_36, m22_37, m22_40, m22_43, m22_46, m22_47, m22_50, m22_51, m22_52u, m22_52i, m22_52r, m22_52g, m22_54, m22_55, m22_56, m22_57, m22_60, m22_61, m22_62, m22_63, m22_64, m22_65, m22_68, m22_71, m22_74, m22_77, m22_80, m22_81i, m22_83, m22_84, m22_87, m22_90, m22_91, m22_92, m22_93, m22_94, m22_95, m22_98, m22_101, m22_104, nb0, nb1, ou_a, Option.toList_some, Option.toList_none, List.nil_append, List.cons_append]
    refine g22b hN (by decide) (by decide) (fun j s' A' h' => ?_) 16 _ s A h (by omega) (by omega) (by show (N - 1).toInt ≤ 16; omega)
    simp [m22_0, m22_1u, m22_3, m22_4, m22_7, m22_10, m22_11, m22_12, m22_13, m22_14, m22_15, m22_18, m22_21, m22_24, m22_25i, m22_27, m22_28, m22_31, m22_32, m22_33, m22_34u, m22_34i, m22_34r, m22_34g, m22_35, m22_36, m22_37, m22_40, m22_43, m22_46, m22_47, m22_50, m22_51, m22_52u, m22_52i, m22_52r, m22_52g, m22_54, m22_55, m22_56, m22_57, m22_60, m22_61, m22_62, m22_63, m22_64, m22_65, m22_68, m22_71, m22_74, m22_77, m22_80, m22_81i, m22_83, m22_84, m22_87, m22_90, m22_91, m22_92, m22_93, m22_94, m22_95, m22_98, m22_101, m22_104, nb0, nb1, ou_a, Option.toList_some, Option.toList_none, List.nil_append, List.cons_append]
    exact g22s1 (okS_i _) (okS_i _) h' hN0 hN hQ
  · simp [a1, e14, o2, sh0, m22_0, m22_1u, m22_3, m22_4, m22_7, m22_10, m22_11, m22_12, m22_13, m22_14, m22_15, m22_18, m22_21, m22_24, m22_25i, m22_27, m22_28, m22_31, m22_32, m22_33, m22_34u, m22_34i, m22_34r, m22_34g, m22_35, m22_36, m22_37, m22_40, m22_43, m22_46, m22_47, m22_50, m22_51, m22_52u, m22_52i, m22_52r, m22_52g, m22_54, m22_55, m22_56, m22_57, m22_60, m22_61, m22_62, m22_63, m22_64, m22_65, m22_68, m22_71, m22_74, m22_77, m22_80, m22_81i, m22_83, m22_84, m22_87, m22_90, m22_91, m22_92, m22_93, m22_94, m22_95, m22_98, m22_101, m22_104, nb0, nb1, ou_a, Option.toList_some, Option.toList_none, List.nil_append, List.cons_append]
    exact g22c hN hQ 16 2 s A h (by decide) (by decide) (by show N.toInt ≤ 2 + 16; omega)
set_option maxRecDepth 1000000 in
set_option maxHeartbeats 20000000 in
theorem g22a (hN0 : 4 ≤ N.toInt) (hN : N.toInt ≤ 16) (hQ : ∀ s' A', KI F N s' A' → Q none (put 0 [] s' A' L B [])) : ∀ (n : Nat) (i : Int32) (s : Nat → Int32) (A : Nat → List Int32), KI F N s A → 1 ≤ i.toInt → i.toInt ≤ 100 → N.toInt ≤ i.toInt + n → M22 2 [.val (.ref 0), .val (.int i), .unset, .unset] [] (put 0 [] s A L B []) Q := by
  intro n
  induction n with
  | zero =>
    intro i s A h h0 h1 e
    have e14 := h.2.1
    have hge : ¬ i < N := by rw [lt_i]; omega
    rw [m22_2]
    simp [hge, e14, m22_0, m22_1u, m22_3, m22_4, m22_7, m22_10, m22_11, m22_12, m22_13, m22_14, m22_15, m22_18, m22_21, m22_24, m22_25i, m22_27, m22_28, m22_31, m22_32, m22_33, m22_34u, m22_34i, m22_34r, m22_34g, m22_35, m22_36, m22_37, m22_40, m22_43, m22_46, m22_47, m22_50, m22_51, m22_52u, m22_52i, m22_52r, m22_52g, m22_54, m22_55, m22_56, m22_57, m22_60, m22_61, m22_62, m22_63, m22_64, m22_65, m22_68, m22_71, m22_74, m22_77, m22_80, m22_81i, m22_83, m22_84, m22_87, m22_90, m22_91, m22_92, m22_93, m22_94, m22_95, m22_98, m22_101, m22_104, nb0, nb1, ou_a, Option.toList_some, Option.toList_none, List.nil_append, List.cons_append]
    exact g22s0 okS_u okS_u h hN0 hN hQ
  | succ n ih =>
    intro i s A h h0 h1 e
    have e14 := h.2.1
    rw [m22_2]
    by_cases a1 : i < N
    · have a2 := a1
      rw [lt_i] at a2
      have e1 := sub_i (a := i) (b := 1) (by rw [i_1]; omega) (by rw [i_1]; omega)
      rw [i_1] at e1
      have e2 : (i + 2).toInt = i.toInt + 2 := add_i (by rw [i_2]; omega) (by rw [i_2]; omega)
      simp [a1, e14, m22_0, m22_1u, m22_3, m22_4, m22_7, m22_10, m22_11, m22_12, m22_13, m22_14, m22_15, m22_18, m22_21, m22_24, m22_25i, m22_27, m22_28, m22_31, m22_32, m22_33, m22_34u, m22_34i, m22_34r, m22_34g, m22_35, m22_36, m22_37, m22_40, m22_43, m22_46, m22_47, m22_50, m22_51, m22_52u, m22_52i, m22_52r, m22_52g, m22_54, m22_55, m22_56, m22_57, m22_60, m22_61, m22_62, m22_63, m22_64, m22_65, m22_68, m22_71, m22_74, m22_77, m22_80, m22_81i, m22_83, m22_84, m22_87, m22_90, m22_91, m22_92, m22_93, m22_94, m22_95, m22_98, m22_101, m22_104, nb0, nb1, ou_a, Option.toList_some, Option.toList_none, List.nil_append, List.cons_append]
      refine g23 h (by rw [nn_i]; omega) (by rw [lt_i, i_16]; omega) (by rw [nn_i]; omega) (by rw [lt_i, i_16]; omega) (fun s1 A1 h1 => ?_)
      simp [m22_0, m22_1u, m22_3, m22_4, m22_7, m22_10, m22_11, m22_12, m22_13, m22_14, m22_15, m22_18, m22_21, m22_24, m22_25i, m22_27, m22_28, m22_31, m22_32, m22_33, m22_34u, m22_34i, m22_34r, m22_34g, m22_35, m22_36, m22_37, m22_40, m22_43, m22_46, m22_47, m22_50, m22_51, m22_52u, m22_52i, m22_52r, m22_52g, m22_54, m22_55, m22_56, m22_57, m22_60, m22_61, m22_62, m22_63, m22_64, m22_65, m22_68, m22_71, m22_74, m22_77, m22_80, m22_81i, m22_83, m22_84, m22_87, m22_90, m22_91, m22_92, m22_93, m22_94, m22_95, m22_98, m22_101, m22_104, nb0, nb1, ou_a, Option.toList_some, Option.toList_none, List.nil_append, List.cons_append]
      exact ih _ _ _ h1 (by omega) (by omega) (by omega)
    · simp [a1, e14, m22_0, m22_1u, m22_3, m22_4, m22_7, m22_10, m22_11, m22_12, m22_13, m22_14, m22_15, m22_18, m22_21, m22_24, m22_25i, m22_27, m22_28, m22_31, m22_32, m22_33, m22_34u, m22_34i, m22_34r, m22_34g, m22_35, m22_36, m22_37, m22_40, m22_43, m22_46, m22_47, m22_50, m22_51, m22_52u, m22_52i, m22_52r, m22_52g, m22_54, m22_55, m22_56, m22_57, m22_60, m22_61, m22_62, m22_63, m22_64, m22_65, m22_68, m22_71, m22_74, m22_77, m22_80, m22_81i, m22_83, m22_84, m22_87, m22_90, m22_91, m22_92, m22_93, m22_94, m22_95, m22_98, m22_101, m22_104, nb0, nb1, ou_a, Option.toList_some, Option.toList_none, List.nil_append, List.cons_append]
      exact g22s0 okS_u okS_u h hN0 hN hQ
theorem g22 (h : KI F N s A) (hN0 : 4 ≤ N.toInt) (hN : N.toInt ≤ 16) (hQ : ∀ s' A', KI F N s' A' → Q none (put 0 [] s' A' L B [])) : M22 0 [.val (.ref 0), .unset, .unset, .unset] [] (put 0 [] s A L B []) Q := by
  simp [m22_0, m22_1u, m22_3, m22_4, m22_7, m22_10, m22_11, m22_12, m22_13, m22_14, m22_15, m22_18, m22_21, m22_24, m22_25i, m22_27, m22_28, m22_31, m22_32, m22_33, m22_34u, m22_34i, m22_34r, m22_34g, m22_35, m22_36, m22_37, m22_40, m22_43, m22_46, m22_47, m22_50, m22_51, m22_52u, m22_52i, m22_52r, m22_52g, m22_54, m22_55, m22_56, m22_57, m22_60, m22_61, m22_62, m22_63, m22_64, m22_65, m22_68, m22_71, m22_74, m22_77, m22_80, m22_81i, m22_83, m22_84, m22_87, m22_90, m22_91, m22_92, m22_93, m22_94, m22_95, m22_98, m22_101, m22_104, nb0, nb1, ou_a, Option.toList_some, Option.toList_none, List.nil_append, List.cons_append]
  exact g22a hN0 hN hQ 16 1 s A h (by decide) (by decide) (by show N.toInt ≤ 1 + 16; omega)
set_option maxRecDepth 1000000 in
set_option maxHeartbeats 20000000 in
theorem g21b {k2 k3 k4 : Slot} (hN : N.toInt ≤ 16) (hQ : ∀ s' A', KI F N s' A' → Q none (put 0 [] s' A' L B [])) : ∀ (n : Nat) (i : Int32) (s : Nat → Int32) (A : Nat → List Int32), KI F N s A → 1 ≤ i.toInt → i.toInt + n = N.toInt → M21 150 [.val (.ref 0), .val (.int i), k2, k3, k4] [] (put 0 [] s A L B []) Q := by
  intro n
  induction n with
  | zero =>
    intro i s A h h0 e
    have e14 := h.2.1
    have hge : ¬ i < N := by rw [lt_i]; omega
    rw [m21_150]
    simp [hge, e14, m21_0, m21_1u, m21_3, m21_4, m21_7, m21_10, m21_11, m21_14, m21_15, m21_16, m21_17, m21_20, m21_21, m21_24, m21_25, m21_27, m21_28, m21_29, m21_32, m21_33u, m21_33i, m21_33r, m21_33g, m21_34, m21_35, m21_38, m21_39, m21_40, m21_41, m21_44, m21_45, m21_48, m21_49, m21_51, m21_52, m21_53, m21_54, m21_55, m21_58, m21_59u, m21_59i, m21_59r, m21_59g, m21_60, m21_61, m21_64, m21_65, m21_66, m21_67, m21_68, m21_71, m21_72, m21_73, m21_74, m21_75, m21_78u, m21_78i, m21_78r, m21_78g, m21_80, m21_81, m21_84, m21_85, m21_87, m21_88, m21_89, m21_92, m21_93, m21_95, m21_96, m21_99, m21_102, m21_103, m21_106, m21_107, m21_110, m21_117, m21_118, m21_121, m21_122, m21_125, m21_132, m21_133, m21_136, m21_137, m21_140, m21_141, m21_142, m21_145, m21_146, m21_147, m21_148, m21_149i, m21_151, m21_152, m21_155, m21_158, m21_159, m21_162, m21_163, m21_164, m21_165, m21_168, m21_169, m21_170, m21_171, m21_174, m21_175, m21_176, m21_177, m21_178, m21_181, m21_182, m21_185, m21_188, nb0, nb1, ou_a, Option.toList_some, Option.toList_none, List.nil_append, List.cons_append]
    exact hQ s A h
  | succ n ih =>
    intro i s A h h0 e
    have e14 := h.2.1
    have hlt : i < N := by rw [lt_i]; omega
    have e1 := sub_i (a := i) (b := 1) (by rw [i_1]; omega) (by rw [i_1]; omega)
    rw [i_1] at e1
    have p0 : ¬ i < 0 := by rw [nn_i]; omega
    have p1 : i < 16 := by rw [lt_i, i_16]; omega
    have q10 := in_lt h.2.2.1 z10 p0 p1
    have q8 := in_lt h.2.2.1 z8 (j := i - 1) (by rw [nn_i]; omega) (by rw [lt_i, i_16]; omega)
    rw [m21_150]
    simp [hlt, e14, q10, q8, m21_0, m21_1u, m21_3, m21_4, m21_7, m21_10, m21_11, m21_14, m21_15, m21_16, m21_17, m21_20, m21_21, m21_24, m21_25, m21_27, m21_28, m21_29, m21_32, m21_33u, m21_33i, m21_33r, m21_33g, m21_34, m21_35, m21_38, m21_39, m21_40, m21_41, m21_44, m21_45, m21_48, m21_49, m21_51, m21_52, m21_53, m21_54, m21_55, m21_58, m21_59u, m21_59i, m21_59r, m21_59g, m21_60, m21_61, m21_64, m21_65, m21_66, m21_67, m21_68, m21_71, m21_72, m21_73, m21_74, m21_75, m21_78u, m21_78i, m21_78r, m21_78g, m21_80, m21_81, m21_84, m21_85, m21_87, m21_88, m21_89, m21_92, m21_93, m21_95, m21_96, m21_99, m21_102, m21_103, m21_106, m21_107, m21_110, m21_117, m21_118, m21_121, m21_122, m21_125, m21_132, m21_133, m21_136, m21_137, m21_140, m21_141, m21_142, m21_145, m21_146, m21_147, m21_148, m21_149i, m21_151, m21_152, m21_155, m21_158, m21_159, m21_162, m21_163, m21_164, m21_165, m21_168, m21_169, m21_170, m21_171, m21_174, m21_175, m21_176, m21_177, m21_178, m21_181, m21_182, m21_185, m21_188, nb0, nb1, ou_a, Option.toList_some, Option.toList_none, List.nil_append, List.cons_append]
    refine g18 h (nd_get h.2.2.2.1 (by unfold nd; omega) _) (nd_get h.2.2.2.1 (by unfold nd; omega) _) (fun v s1 A1 h1 v1 => ?_)
    have q11 := in_lt h1.2.2.1 z11 p0 p1
    simp [q11, m21_0, m21_1u, m21_3, m21_4, m21_7, m21_10, m21_11, m21_14, m21_15, m21_16, m21_17, m21_20, m21_21, m21_24, m21_25, m21_27, m21_28, m21_29, m21_32, m21_33u, m21_33i, m21_33r, m21_33g, m21_34, m21_35, m21_38, m21_39, m21_40, m21_41, m21_44, m21_45, m21_48, m21_49, m21_51, m21_52, m21_53, m21_54, m21_55, m21_58, m21_59u, m21_59i, m21_59r, m21_59g, m21_60, m21_61, m21_64, m21_65, m21_66, m21_67, m21_68, m21_71, m21_72, m21_73, m21_74, m21_75, m21_78u, m21_78i, m21_78r, m21_78g, m21_80, m21_81, m21_84, m21_85, m21_87, m21_88, m21_89, m21_92, m21_93, m21_95, m21_96, m21_99, m21_102, m21_103, m21_106, m21_107, m21_110, m21_117, m21_118, m21_121, m21_122, m21_125, m21_132, m21_133, m21_136, m21_137, m21_140, m21_141, m21_142, m21_145, m21_146, m21_147, m21_148, m21_149i, m21_151, m21_152, m21_155, m21_158, m21_159, m21_162, m21_163, m21_164, m21_165, m21_168, m21_169, m21_170, m21_171, m21_174, m21_175, m21_176, m21_177, m21_178, m21_181, m21_182, m21_185, m21_188, nb0, nb1, ou_a, Option.toList_some, Option.toList_none, List.nil_append, List.cons_append]
    exact ih _ _ _ (KI_set h1 rfl (fun _ => v1)) (by rw [add1_i (by omega)]; omega) (by rw [add1_i (by omega)]; omega)
set_option maxRecDepth 1000000 in
set_option maxHeartbeats 20000000 in
theorem g21a (hN0 : 4 ≤ N.toInt) (hN : N.toInt ≤ 16) (ha : F 7 = 0) (hQ : ∀ s' A', KI F N s' A' → Q none (put 0 [] s' A' L B [])) : ∀ (n : Nat) (i : Int32) (k2 k3 k4 : Slot) (s : Nat → Int32) (A : Nat → List Int32), KI F N s A → okS k2 → okS k3 → okS k4 → ¬ i < 0 → i.toInt + n = N.toInt → M21 2 [.val (.ref 0), .val (.int i), k2, k3, k4] [] (put 0 [] s A L B []) Q := by
  intro n
  induction n with
  | zero =>
    intro i k2 k3 k4 s A h o2 o3 o4 h0 e
    have e14 := h.2.1
    have e7 : s 7 = 0 := (h.1 7 (by decide) (by decide)).trans ha
    have hge : ¬ i < N := by rw [lt_i]; omega
    rw [m21_2]
    simp [hge, e14, e7, m21_0, m21_1u, m21_3, m21_4, m21_7, m21_10, m21_11, m21_14, m21_15, m21_16, m21_17, m21_20, m21_21, m21_24, m21_25, m21_27, m21_28, m21_29, m21_32, m21_33u, m21_33i, m21_33r, m21_33g, m21_34, m21_35, m21_38, m21_39, m21_40, m21_41, m21_44, m21_45, m21_48, m21_49, m21_51, m21_52, m21_53, m21_54, m21_55, m21_58, m21_59u, m21_59i, m21_59r, m21_59g, m21_60, m21_61, m21_64, m21_65, m21_66, m21_67, m21_68, m21_71, m21_72, m21_73, m21_74, m21_75, m21_78u, m21_78i, m21_78r, m21_78g, m21_80, m21_81, m21_84, m21_85, m21_87, m21_88, m21_89, m21_92, m21_93, m21_95, m21_96, m21_99, m21_102, m21_103, m21_106, m21_107, m21_110, m21_117, m21_118, m21_121, m21_122, m21_125, m21_132, m21_133, m21_136, m21_137, m21_140, m21_141, m21_142, m21_145, m21_146, m21_147, m21_148, m21_149i, m21_151, m21_152, m21_155, m21_158, m21_159, m21_162, m21_163, m21_164, m21_165, m21_168, m21_169, m21_170, m21_171, m21_174, m21_175, m21_176, m21_177, m21_178, m21_181, m21_182, m21_185, m21_188, nb0, nb1, ou_a, Option.toList_some, Option.toList_none, List.nil_append, List.cons_append]
    refine g22 h hN0 hN (fun s1 A1 h1 => ?_)
    have q10 : inB 0 (A1 10) := in_lt h1.2.2.1 z10 (by decide) (by decide)
    have q11 : inB 0 (A1 11) := in_lt h1.2.2.1 z11 (by decide) (by decide)
    simp [q10, q11, m21_0, m21_1u, m21_3, m21_4, m21_7, m21_10, m21_11, m21_14, m21_15, m21_16, m21_17, m21_20, m21_21, m21_24, m21_25, m21_27, m21_28, m21_29, m21_32, m21_33u, m21_33i, m21_33r, m21_33g, m21_34, m21_35, m21_38, m21_39, m21_40, m21_41, m21_44, m21_45, m21_48, m21_49, m21_51, m21_52, m21_53, m21_54, m21_55, m21_58, m21_59u, m21_59i, m21_59r, m21_59g, m21_60, m21_61, m21_64, m21_65, m21_66, m21_67, m21_68, m21_71, m21_72, m21_73, m21_74, m21_75, m21_78u, m21_78i, m21_78r, m21_78g, m21_80, m21_81, m21_84, m21_85, m21_87, m21_88, m21_89, m21_92, m21_93, m21_95, m21_96, m21_99, m21_102, m21_103, m21_106, m21_107, m21_110, m21_117, m21_118, m21_121, m21_122, m21_125, m21_132, m21_133, m21_136, m21_137, m21_140, m21_141, m21_142, m21_145, m21_146, m21_147, m21_148, m21_149i, m21_151, m21_152, m21_155, m21_158, m21_159, m21_162, m21_163, m21_164, m21_165, m21_168, m21_169, m21_170, m21_171, m21_174, m21_175, m21_176, m21_177, m21_178, m21_181, m21_182, m21_185, m21_188, nb0, nb1, ou_a, Option.toList_some, Option.toList_none, List.nil_append, List.cons_append]
    exact g21b hN hQ (N.toInt - 1).toNat 1 _ _ (KI_set h1 rfl (fun _ => nd_get h1.2.2.2.1 (by unfold nd; omega) _)) (by decide) (by rw [i_1]; omega)
  | succ n ih =>
    intro i k2 k3 k4 s A h o2 o3 o4 h0 e
    have e14 := h.2.1
    have hlt : i < N := by rw [lt_i]; omega
    have p1 : i < 16 := by rw [lt_i, i_16]; omega
    have n1 := succ_nn h0 (by omega)
    have e1 : (i + 1).toInt + n = N.toInt := by rw [add1_i (by omega)]; omega
    have q6 := in_lt h.2.2.1 z6 h0 p1
    have x0 := ix32 h0 p1 (k := 0) (by decide) (by decide)
    rw [Int32.add_zero] at x0
    have x1 := ix32 h0 p1 (k := 1) (by decide) (by decide)
    have q4 := in_lt h.2.2.1 z4 x0.1 x0.2
    have q41 := in_lt h.2.2.1 z4 x1.1 x1.2
    have y0 := nd_get h.2.2.2.1 (k := 4) (Or.inl rfl) (i * 32)
    have y1 := nd_get h.2.2.2.1 (k := 4) (Or.inl rfl) (i * 32 + 1)
    have fin : ∀ (x y : Int32), ¬ x = 1 → ¬ y = 1 → M21 60 [.val (.ref 0), .val (.int i), .val (.int x), .val (.int y), k4] [] (put 0 [] s A L B []) Q := by
      intro x y hx hy
      simp [m21_0, m21_1u, m21_3, m21_4, m21_7, m21_10, m21_11, m21_14, m21_15, m21_16, m21_17, m21_20, m21_21, m21_24, m21_25, m21_27, m21_28, m21_29, m21_32, m21_33u, m21_33i, m21_33r, m21_33g, m21_34, m21_35, m21_38, m21_39, m21_40, m21_41, m21_44, m21_45, m21_48, m21_49, m21_51, m21_52, m21_53, m21_54, m21_55, m21_58, m21_59u, m21_59i, m21_59r, m21_59g, m21_60, m21_61, m21_64, m21_65, m21_66, m21_67, m21_68, m21_71, m21_72, m21_73, m21_74, m21_75, m21_78u, m21_78i, m21_78r, m21_78g, m21_80, m21_81, m21_84, m21_85, m21_87, m21_88, m21_89, m21_92, m21_93, m21_95, m21_96, m21_99, m21_102, m21_103, m21_106, m21_107, m21_110, m21_117, m21_118, m21_121, m21_122, m21_125, m21_132, m21_133, m21_136, m21_137, m21_140, m21_141, m21_142, m21_145, m21_146, m21_147, m21_148, m21_149i, m21_151, m21_152, m21_155, m21_158, m21_159, m21_162, m21_163, m21_164, m21_165, m21_168, m21_169, m21_170, m21_171, m21_174, m21_175, m21_176, m21_177, m21_178, m21_181, m21_182, m21_185, m21_188, nb0, nb1, ou_a, Option.toList_some, Option.toList_none, List.nil_append, List.cons_append]
      refine g10 h hx hy (fun v s1 A1 h1 v1 => ?_)
      have r8 := in_lt h1.2.2.1 z8 h0 p1
      simp [r8, m21_0, m21_1u, m21_3, m21_4, m21_7, m21_10, m21_11, m21_14, m21_15, m21_16, m21_17, m21_20, m21_21, m21_24, m21_25, m21_27, m21_28, m21_29, m21_32, m21_33u, m21_33i, m21_33r, m21_33g, m21_34, m21_35, m21_38, m21_39, m21_40, m21_41, m21_44, m21_45, m21_48, m21_49, m21_51, m21_52, m21_53, m21_54, m21_55, m21_58, m21_59u, m21_59i, m21_59r, m21_59g, m21_60, m21_61, m21_64, m21_65, m21_66, m21_67, m21_68, m21_71, m21_72, m21_73, m21_74, m21_75, m21_78u, m21_78i, m21_78r, m21_78g, m21_80, m21_81, m21_84, m21_85, m21_87, m21_88, m21_89, m21_92, m21_93, m21_95, m21_96, m21_99, m21_102, m21_103, m21_106, m21_107, m21_110, m21_117, m21_118, m21_121, m21_122, m21_125, m21_132, m21_133, m21_136, m21_137, m21_140, m21_141, m21_142, m21_145, m21_146, m21_147, m21_148, m21_149i, m21_151, m21_152, m21_155, m21_158, m21_159, m21_162, m21_163, m21_164, m21_165, m21_168, m21_169, m21_170, m21_171, m21_174, m21_175, m21_176, m21_177, m21_178, m21_181, m21_182, m21_185, m21_188, nb0, nb1, ou_a, Option.toList_some, Option.toList_none, List.nil_append, List.cons_append]
      refine g18 (KI_set h1 rfl (fun _ => v1)) hx hy (fun u s2 A2 h2 u1 => ?_)
      have r9 := in_lt h2.2.2.1 z9 h0 p1
      have r10 := in_lt h2.2.2.1 z10 h0 p1
      simp [r9, r10, o4, m21_0, m21_1u, m21_3, m21_4, m21_7, m21_10, m21_11, m21_14, m21_15, m21_16, m21_17, m21_20, m21_21, m21_24, m21_25, m21_27, m21_28, m21_29, m21_32, m21_33u, m21_33i, m21_33r, m21_33g, m21_34, m21_35, m21_38, m21_39, m21_40, m21_41, m21_44, m21_45, m21_48, m21_49, m21_51, m21_52, m21_53, m21_54, m21_55, m21_58, m21_59u, m21_59i, m21_59r, m21_59g, m21_60, m21_61, m21_64, m21_65, m21_66, m21_67, m21_68, m21_71, m21_72, m21_73, m21_74, m21_75, m21_78u, m21_78i, m21_78r, m21_78g, m21_80, m21_81, m21_84, m21_85, m21_87, m21_88, m21_89, m21_92, m21_93, m21_95, m21_96, m21_99, m21_102, m21_103, m21_106, m21_107, m21_110, m21_117, m21_118, m21_121, m21_122, m21_125, m21_132, m21_133, m21_136, m21_137, m21_140, m21_141, m21_142, m21_145, m21_146, m21_147, m21_148, m21_149i, m21_151, m21_152, m21_155, m21_158, m21_159, m21_162, m21_163, m21_164, m21_165, m21_168, m21_169, m21_170, m21_171, m21_174, m21_175, m21_176, m21_177, m21_178, m21_181, m21_182, m21_185, m21_188, nb0, nb1, ou_a, Option.toList_some, Option.toList_none, List.nil_append, List.cons_append]
      exact ih _ _ _ _ _ _ (KI_set (KI_set h2 rfl (fun _ => u1)) rfl (fun _ => u1)) (okS_i _) (okS_i _) (okS_i _) n1 e1
    rw [m21_2]
    by_cases a1 : getA (A 6) i < 1
    · by_cases a2 : getA (A 6) i < 2
      · simp [hlt, e14, q6, a1, a2, o2, o3, m21_0, m21_1u, m21_3, m21_4, m21_7, m21_10, m21_11, m21_14, m21_15, m21_16, m21_17, m21_20, m21_21, m21_24, m21_25, m21_27, m21_28, m21_29, m21_32, m21_33u, m21_33i, m21_33r, m21_33g, m21_34, m21_35, m21_38, m21_39, m21_40, m21_41, m21_44, m21_45, m21_48, m21_49, m21_51, m21_52, m21_53, m21_54, m21_55, m21_58, m21_59u, m21_59i, m21_59r, m21_59g, m21_61, m21_64, m21_65, m21_66, m21_67, m21_68, m21_71, m21_72, m21_73, m21_74, m21_75, m21_78u, m21_78i, m21_78r, m21_78g, m21_80, m21_81, m21_84, m21_85, m21_87, m21_88, m21_89, m21_92, m21_93, m21_95, m21_96, m21_99, m21_102, m21_103, m21_106, m21_107, m21_110, m21_117, m21_118, m21_121, m21_122, m21_125, m21_132, m21_133, m21_136, m21_137, m21_140, m21_141, m21_142, m21_145, m21_146, m21_147, m21_148, m21_149i, m21_151, m21_152, m21_155, m21_158, m21_159, m21_162, m21_163, m21_164, m21_165, m21_168, m21_169, m21_170, m21_171, m21_174, m21_175, m21_176, m21_177, m21_178, m21_181, m21_182, m21_185, m21_188, nb0, nb1, ou_a, Option.toList_some, Option.toList_none, List.nil_append, List.cons_append]
        exact fin 0 0 (by decide) (by decide)
      · simp [hlt, e14, q6, q41, a1, a2, o2, o3, m21_0, m21_1u, m21_3, m21_4, m21_7, m21_10, m21_11, m21_14, m21_15, m21_16, m21_17, m21_20, m21_21, m21_24, m21_25, m21_27, m21_28, m21_29, m21_32, m21_33u, m21_33i, m21_33r, m21_33g, m21_34, m21_35, m21_38, m21_39, m21_40, m21_41, m21_44, m21_45, m21_48, m21_49, m21_51, m21_52, m21_53, m21_54, m21_55, m21_58, m21_59u, m21_59i, m21_59r, m21_59g, m21_61, m21_64, m21_65, m21_66, m21_67, m21_68, m21_71, m21_72, m21_73, m21_74, m21_75, m21_78u, m21_78i, m21_78r, m21_78g, m21_80, m21_81, m21_84, m21_85, m21_87, m21_88, m21_89, m21_92, m21_93, m21_95, m21_96, m21_99, m21_102, m21_103, m21_106, m21_107, m21_110, m21_117, m21_118, m21_121, m21_122, m21_125, m21_132, m21_133, m21_136, m21_137, m21_140, m21_141, m21_142, m21_145, m21_146, m21_147, m21_148, m21_149i, m21_151, m21_152, m21_155, m21_158, m21_159, m21_162, m21_163, m21_164, m21_165, m21_168, m21_169, m21_170, m21_171, m21_174, m21_175, m21_176, m21_177, m21_178, m21_181, m21_182, m21_185, m21_188, nb0, nb1, ou_a, Option.toList_some, Option.toList_none, List.nil_append, List.cons_append]
        exact fin 0 _ (by decide) y1
    · by_cases a2 : getA (A 6) i < 2
      · simp [hlt, e14, q6, q4, a1, a2, o2, o3, m21_0, m21_1u, m21_3, m21_4, m21_7, m21_10, m21_11, m21_14, m21_15, m21_16, m21_17, m21_20, m21_21, m21_24, m21_25, m21_27, m21_28, m21_29, m21_32, m21_33u, m21_33i, m21_33r, m21_33g, m21_34, m21_35, m21_38, m21_39, m21_40, m21_41, m21_44, m21_45, m21_48, m21_49, m21_51, m21_52, m21_53, m21_54, m21_55, m21_58, m21_59u, m21_59i, m21_59r, m21_59g, m21_61, m21_64, m21_65, m21_66, m21_67, m21_68, m21_71, m21_72, m21_73, m21_74, m21_75, m21_78u, m21_78i, m21_78r, m21_78g, m21_80, m21_81, m21_84, m21_85, m21_87, m21_88, m21_89, m21_92, m21_93, m21_95, m21_96, m21_99, m21_102, m21_103, m21_106, m21_107, m21_110, m21_117, m21_118, m21_121, m21_122, m21_125, m21_132, m21_133, m21_136, m21_137, m21_140, m21_141, m21_142, m21_145, m21_146, m21_147, m21_148, m21_149i, m21_151, m21_152, m21_155, m21_158, m21_159, m21_162, m21_163, m21_164, m21_165, m21_168, m21_169, m21_170, m21_171, m21_174, m21_175, m21_176, m21_177, m21_178, m21_181, m21_182, m21_185, m21_188, nb0, nb1, ou_a, Option.toList_some, Option.toList_none, List.nil_append, List.cons_append]
        exact fin _ 0 y0 (by decide)
      · simp [hlt, e14, q6, q4, q41, a1, a2, o2, o3, m21_0, m21_1u, m21_3, m21_4, m21_7, m21_10, m21_11, m21_14, m21_15, m21_16, m21_17, m21_20, m21_21, m21_24, m21_25, m21_27, m21_28, m21_29, m21_32, m21_33u, m21_33i, m21_33r, m21_33g, m21_34, m21_35, m21_38, m21_39, m21_40, m21_41, m21_44, m21_45, m21_48, m21_49, m21_51, m21_52, m21_53, m21_54, m21_55, m21_58, m21_59u, m21_59i, m21_59r, m21_59g, m21_61, m21_64, m21_65, m21_66, m21_67, m21_68, m21_71, m21_72, m21_73, m21_74, m21_75, m21_78u, m21_78i, m21_78r, m21_78g, m21_80, m21_81, m21_84, m21_85, m21_87, m21_88, m21_89, m21_92, m21_93, m21_95, m21_96, m21_99, m21_102, m21_103, m21_106, m21_107, m21_110, m21_117, m21_118, m21_121, m21_122, m21_125, m21_132, m21_133, m21_136, m21_137, m21_140, m21_141, m21_142, m21_145, m21_146, m21_147, m21_148, m21_149i, m21_151, m21_152, m21_155, m21_158, m21_159, m21_162, m21_163, m21_164, m21_165, m21_168, m21_169, m21_170, m21_171, m21_174, m21_175, m21_176, m21_177, m21_178, m21_181, m21_182, m21_185, m21_188, nb0, nb1, ou_a, Option.toList_some, Option.toList_none, List.nil_append, List.cons_append]
        exact fin _ _ y0 y1
theorem g21 (h : KI F N s A) (hN0 : 4 ≤ N.toInt) (hN : N.toInt ≤ 16) (ha : F 7 = 0) (hQ : ∀ s' A', KI F N s' A' → Q none (put 0 [] s' A' L B [])) : M21 0 [.val (.ref 0), .unset, .unset, .unset, .unset] [] (put 0 [] s A L B []) Q := by
  simp [m21_0, m21_1u, m21_3, m21_4, m21_7, m21_10, m21_11, m21_14, m21_15, m21_16, m21_17, m21_20, m21_21, m21_24, m21_25, m21_27, m21_28, m21_29, m21_32, m21_33u, m21_33i, m21_33r, m21_33g, m21_34, m21_35, m21_38, m21_39, m21_40, m21_41, m21_44, m21_45, m21_48, m21_49, m21_51, m21_52, m21_53, m21_54, m21_55, m21_58, m21_59u, m21_59i, m21_59r, m21_59g, m21_60, m21_61, m21_64, m21_65, m21_66, m21_67, m21_68, m21_71, m21_72, m21_73, m21_74, m21_75, m21_78u, m21_78i, m21_78r, m21_78g, m21_80, m21_81, m21_84, m21_85, m21_87, m21_88, m21_89, m21_92, m21_93, m21_95, m21_96, m21_99, m21_102, m21_103, m21_106, m21_107, m21_110, m21_117, m21_118, m21_121, m21_122, m21_125, m21_132, m21_133, m21_136, m21_137, m21_140, m21_141, m21_142, m21_145, m21_146, m21_147, m21_148, m21_149i, m21_151, m21_152, m21_155, m21_158, m21_159, m21_162, m21_163, m21_164, m21_165, m21_168, m21_169, m21_170, m21_171, m21_174, m21_175, m21_176, m21_177, m21_178, m21_181, m21_182, m21_185, m21_188, nb0, nb1, ou_a, Option.toList_some, Option.toList_none, List.nil_append, List.cons_append]
  exact g21a hN0 hN ha hQ N.toInt.toNat 0 _ _ _ s A h okS_u okS_u okS_u (by decide) (by rw [i_0]; omega)
set_option maxRecDepth 1000000 in
set_option maxHeartbeats 20000000 in
theorem g5c (h : KI F N s A) {i : Int32} (w1 : 2 ≤ (F 4).toInt) (w2 : (F 4).toInt ≤ 8) (hN0 : 0 ≤ N.toInt) (hN : N.toInt ≤ 16) (hN4 : 4 ≤ N.toInt) (hb : F 6 = 0) (ha : F 7 = 0) (hQ : ∀ s' A', KI F N s' A' → Q none (put 0 [] s' A' L B [])) : M5 101 [.val (.ref 0), .val (.int i), .unset] [] (put 0 [] s A L B []) Q := by
  have e6 : s 6 = 0 := (h.1 6 (by decide) (by decide)).trans hb
  simp [e6, m5_0, m5_1, m5_2, m5_5, m5_6, m5_7, m5_8, m5_9, m5_12, m5_13, m5_14, m5_15, m5_16, m5_17, m5_20, m5_21, m5_22u, m5_24, m5_25, m5_28, m5_31, m5_32, m5_35, m5_36, m5_37, m5_38, m5_39, m5_40, m5_43, m5_44, m5_45, m5_48, m5_49, m5_50, m5_51, m5_52, m5_53, m5_56, m5_57, m5_60, m5_63, m5_64, m5_65, m5_66, m5_69, m5_70, m5_73, m5_74i, m5_76, m5_78, m5_81, m5_82, m5_85, m5_86, m5_87, m5_88, m5_89, m5_92, m5_93, m5_94, m5_95, m5_98, m5_101, m5_102, m5_105, m5_106, m5_109, m5_110, m5_113, m5_114, m5_115, m5_116, m5_117i, m5_118, m5_119u, m5_120, m5_121, m5_122, m5_125, m5_126, m5_136, m5_139, m5_140, m5_143, m5_144, m5_147, m5_148, m5_151, nb0, nb1, ou_a, Option.toList_some, Option.toList_none, List.nil_append, List.cons_append]
  refine g7 h w1 w2 hN0 hN (fun s1 A1 h1 => ?_)
  simp [m5_0, m5_1, m5_2, m5_5, m5_6, m5_7, m5_8, m5_9, m5_12, m5_13, m5_14, m5_15, m5_16, m5_17, m5_20, m5_21, m5_22u, m5_24, m5_25, m5_28, m5_31, m5_32, m5_35, m5_36, m5_37, m5_38, m5_39, m5_40, m5_43, m5_44, m5_45, m5_48, m5_49, m5_50, m5_51, m5_52, m5_53, m5_56, m5_57, m5_60, m5_63, m5_64, m5_65, m5_66, m5_69, m5_70, m5_73, m5_74i, m5_76, m5_78, m5_81, m5_82, m5_85, m5_86, m5_87, m5_88, m5_89, m5_92, m5_93, m5_94, m5_95, m5_98, m5_101, m5_102, m5_105, m5_106, m5_109, m5_110, m5_113, m5_114, m5_115, m5_116, m5_117i, m5_118, m5_119u, m5_120, m5_121, m5_122, m5_125, m5_126, m5_136, m5_139, m5_140, m5_143, m5_144, m5_147, m5_148, m5_151, nb0, nb1, ou_a, Option.toList_some, Option.toList_none, List.nil_append, List.cons_append]
  refine g12 h1 hN0 hN (fun s2 A2 h2 => ?_)
  simp [m5_0, m5_1, m5_2, m5_5, m5_6, m5_7, m5_8, m5_9, m5_12, m5_13, m5_14, m5_15, m5_16, m5_17, m5_20, m5_21, m5_22u, m5_24, m5_25, m5_28, m5_31, m5_32, m5_35, m5_36, m5_37, m5_38, m5_39, m5_40, m5_43, m5_44, m5_45, m5_48, m5_49, m5_50, m5_51, m5_52, m5_53, m5_56, m5_57, m5_60, m5_63, m5_64, m5_65, m5_66, m5_69, m5_70, m5_73, m5_74i, m5_76, m5_78, m5_81, m5_82, m5_85, m5_86, m5_87, m5_88, m5_89, m5_92, m5_93, m5_94, m5_95, m5_98, m5_101, m5_102, m5_105, m5_106, m5_109, m5_110, m5_113, m5_114, m5_115, m5_116, m5_117i, m5_118, m5_119u, m5_120, m5_121, m5_122, m5_125, m5_126, m5_136, m5_139, m5_140, m5_143, m5_144, m5_147, m5_148, m5_151, nb0, nb1, ou_a, Option.toList_some, Option.toList_none, List.nil_append, List.cons_append]
  refine g21 h2 hN4 hN ha (fun s3 A3 h3 => ?_)
  simp [m5_0, m5_1, m5_2, m5_5, m5_6, m5_7, m5_8, m5_9, m5_12, m5_13, m5_14, m5_15, m5_16, m5_17, m5_20, m5_21, m5_22u, m5_24, m5_25, m5_28, m5_31, m5_32, m5_35, m5_36, m5_37, m5_38, m5_39, m5_40, m5_43, m5_44, m5_45, m5_48, m5_49, m5_50, m5_51, m5_52, m5_53, m5_56, m5_57, m5_60, m5_63, m5_64, m5_65, m5_66, m5_69, m5_70, m5_73, m5_74i, m5_76, m5_78, m5_81, m5_82, m5_85, m5_86, m5_87, m5_88, m5_89, m5_92, m5_93, m5_94, m5_95, m5_98, m5_101, m5_102, m5_105, m5_106, m5_109, m5_110, m5_113, m5_114, m5_115, m5_116, m5_117i, m5_118, m5_119u, m5_120, m5_121, m5_122, m5_125, m5_126, m5_136, m5_139, m5_140, m5_143, m5_144, m5_147, m5_148, m5_151, nb0, nb1, ou_a, Option.toList_some, Option.toList_none, List.nil_append, List.cons_append]
  exact hQ s3 A3 h3
set_option maxRecDepth 1000000 in
set_option maxHeartbeats 20000000 in
theorem g5b (w1 : 2 ≤ (F 4).toInt) (w2 : (F 4).toInt ≤ 8) (hN0 : 0 ≤ N.toInt) (hN : N.toInt ≤ 16) (hN4 : 4 ≤ N.toInt) (hb : F 6 = 0) (ha : F 7 = 0) (hQ : ∀ s' A', KI F N s' A' → Q none (put 0 [] s' A' L B [])) : ∀ (n : Nat) (c : Int32) (s : Nat → Int32) (A : Nat → List Int32), KI F N s A → ¬ c < 0 → c.toInt + n = 16 → M5 75 [.val (.ref 0), .val (.int c), .unset] [] (put 0 [] s A L B []) Q := by
  intro n
  induction n with
  | zero =>
    intro c s A h h0 e
    have hge : ¬ c < 16 := by rw [lt_i, i_16]; omega
    rw [m5_75]
    simp [hge, m5_0, m5_1, m5_2, m5_5, m5_6, m5_7, m5_8, m5_9, m5_12, m5_13, m5_14, m5_15, m5_16, m5_17, m5_20, m5_21, m5_22u, m5_24, m5_25, m5_28, m5_31, m5_32, m5_35, m5_36, m5_37, m5_38, m5_39, m5_40, m5_43, m5_44, m5_45, m5_48, m5_49, m5_50, m5_51, m5_52, m5_53, m5_56, m5_57, m5_60, m5_63, m5_64, m5_65, m5_66, m5_69, m5_70, m5_73, m5_74i, m5_76, m5_78, m5_81, m5_82, m5_85, m5_86, m5_87, m5_88, m5_89, m5_92, m5_93, m5_94, m5_95, m5_98, m5_102, m5_105, m5_106, m5_109, m5_110, m5_113, m5_114, m5_115, m5_116, m5_117i, m5_118, m5_119u, m5_120, m5_121, m5_122, m5_125, m5_126, m5_136, m5_139, m5_140, m5_143, m5_144, m5_147, m5_148, m5_151, nb0, nb1, ou_a, Option.toList_some, Option.toList_none, List.nil_append, List.cons_append]
    exact g5c h w1 w2 hN0 hN hN4 hb ha hQ
  | succ n ih =>
    intro c s A h h0 e
    have hlt : c < 16 := by rw [lt_i, i_16]; omega
    have q6 := in_lt h.2.2.1 z6 h0 hlt
    have q7 := in_lt h.2.2.1 z7 h0 hlt
    rw [m5_75]
    simp [hlt, q6, q7, m5_0, m5_1, m5_2, m5_5, m5_6, m5_7, m5_8, m5_9, m5_12, m5_13, m5_14, m5_15, m5_16, m5_17, m5_20, m5_21, m5_22u, m5_24, m5_25, m5_28, m5_31, m5_32, m5_35, m5_36, m5_37, m5_38, m5_39, m5_40, m5_43, m5_44, m5_45, m5_48, m5_49, m5_50, m5_51, m5_52, m5_53, m5_56, m5_57, m5_60, m5_63, m5_64, m5_65, m5_66, m5_69, m5_70, m5_73, m5_74i, m5_76, m5_78, m5_81, m5_82, m5_85, m5_86, m5_87, m5_88, m5_89, m5_92, m5_93, m5_94, m5_95, m5_98, m5_101, m5_102, m5_105, m5_106, m5_109, m5_110, m5_113, m5_114, m5_115, m5_116, m5_117i, m5_118, m5_119u, m5_120, m5_121, m5_122, m5_125, m5_126, m5_136, m5_139, m5_140, m5_143, m5_144, m5_147, m5_148, m5_151, nb0, nb1, ou_a, Option.toList_some, Option.toList_none, List.nil_append, List.cons_append]
    exact ih _ _ _ (KI_set (KI_set h rfl (fun q => n6 q _)) rfl (fun q => n7 q _)) (succ_nn h0 (by omega)) (by rw [add1_i (by omega)]; omega)
set_option maxRecDepth 1000000 in
set_option maxHeartbeats 20000000 in
theorem g5a {M : Int32} (w1 : 2 ≤ (F 4).toInt) (w2 : (F 4).toInt ≤ 8) (hb : F 6 = 0) (ha : F 7 = 0) (hQ : ∀ s' A', KI F (2 * F 4) s' A' → Q none (put 0 [] s' A' L B [])) : ∀ (n : Nat) (i : Int32) (s : Nat → Int32) (A : Nat → List Int32), KI F M s A → ¬ i < 0 → i.toInt + n = (F 4).toInt → M5 23 [.val (.ref 0), .val (.int i), .unset] [] (put 0 [] s A L B []) Q := by
  have eN : (2 * F 4).toInt = 2 * (F 4).toInt := by
    have := mul_i (a := 2) (b := F 4) (by rw [i_2]; omega) (by rw [i_2]; omega)
    rw [this, i_2]
  intro n
  induction n with
  | zero =>
    intro i s A h h0 e
    have e4 : s 4 = F 4 := h.1 4 (by decide) (by decide)
    have hge : ¬ i < F 4 := by rw [lt_i]; omega
    rw [m5_23]
    simp [hge, e4, m5_0, m5_1, m5_2, m5_5, m5_6, m5_7, m5_8, m5_9, m5_12, m5_13, m5_14, m5_15, m5_16, m5_17, m5_20, m5_21, m5_22u, m5_24, m5_25, m5_28, m5_31, m5_32, m5_35, m5_36, m5_37, m5_38, m5_39, m5_40, m5_43, m5_44, m5_45, m5_48, m5_49, m5_50, m5_51, m5_52, m5_53, m5_56, m5_57, m5_60, m5_63, m5_64, m5_65, m5_66, m5_69, m5_70, m5_73, m5_74i, m5_76, m5_78, m5_81, m5_82, m5_85, m5_86, m5_87, m5_88, m5_89, m5_92, m5_93, m5_94, m5_95, m5_98, m5_101, m5_102, m5_105, m5_106, m5_109, m5_110, m5_113, m5_114, m5_115, m5_116, m5_117i, m5_118, m5_119u, m5_120, m5_121, m5_122, m5_125, m5_126, m5_136, m5_139, m5_140, m5_143, m5_144, m5_147, m5_148, m5_151, nb0, nb1, ou_a, Option.toList_some, Option.toList_none, List.nil_append, List.cons_append]
    refine g5b w1 w2 (by omega) (by omega) (by omega) hb ha hQ 16 0 _ _ ⟨fun i p q => ?_, rfl, h.2.2⟩ (by decide) rfl
    rw [ou_a, if_neg q]
    exact h.1 i p q
  | succ n ih =>
    intro i s A h h0 e
    have e4 : s 4 = F 4 := h.1 4 (by decide) (by decide)
    have hlt : i < F 4 := by rw [lt_i]; omega
    have i8 : i < 8 := by rw [lt_i, i_8]; omega
    rw [m5_23]
    simp [hlt, e4, m5_0, m5_1, m5_2, m5_5, m5_6, m5_7, m5_8, m5_9, m5_12, m5_13, m5_14, m5_15, m5_16, m5_17, m5_20, m5_21, m5_22u, m5_24, m5_25, m5_28, m5_31, m5_32, m5_35, m5_36, m5_37, m5_38, m5_39, m5_40, m5_43, m5_44, m5_45, m5_48, m5_49, m5_50, m5_51, m5_52, m5_53, m5_56, m5_57, m5_60, m5_63, m5_64, m5_65, m5_66, m5_69, m5_70, m5_73, m5_74i, m5_76, m5_78, m5_81, m5_82, m5_85, m5_86, m5_87, m5_88, m5_89, m5_92, m5_93, m5_94, m5_95, m5_98, m5_101, m5_102, m5_105, m5_106, m5_109, m5_110, m5_113, m5_114, m5_115, m5_116, m5_117i, m5_118, m5_119u, m5_120, m5_121, m5_122, m5_125, m5_126, m5_136, m5_139, m5_140, m5_143, m5_144, m5_147, m5_148, m5_151, nb0, nb1, ou_a, Option.toList_some, Option.toList_none, List.nil_append, List.cons_append]
    refine g6 h (fun v s1 A1 h1 v1 => ?_)
    have q12 := in_lt h1.2.2.1 z12 h0 i8
    simp [q12, m5_0, m5_1, m5_2, m5_5, m5_6, m5_7, m5_8, m5_9, m5_12, m5_13, m5_14, m5_15, m5_16, m5_17, m5_20, m5_21, m5_22u, m5_24, m5_25, m5_28, m5_31, m5_32, m5_35, m5_36, m5_37, m5_38, m5_39, m5_40, m5_43, m5_44, m5_45, m5_48, m5_49, m5_50, m5_51, m5_52, m5_53, m5_56, m5_57, m5_60, m5_63, m5_64, m5_65, m5_66, m5_69, m5_70, m5_73, m5_74i, m5_76, m5_78, m5_81, m5_82, m5_85, m5_86, m5_87, m5_88, m5_89, m5_92, m5_93, m5_94, m5_95, m5_98, m5_101, m5_102, m5_105, m5_106, m5_109, m5_110, m5_113, m5_114, m5_115, m5_116, m5_117i, m5_118, m5_119u, m5_120, m5_121, m5_122, m5_125, m5_126, m5_136, m5_139, m5_140, m5_143, m5_144, m5_147, m5_148, m5_151, nb0, nb1, ou_a, Option.toList_some, Option.toList_none, List.nil_append, List.cons_append]
    refine g6 (KI_set h1 rfl (fun _ => v1)) (fun u s2 A2 h2 u1 => ?_)
    have q13 := in_lt h2.2.2.1 z13 h0 i8
    simp [q13, m5_0, m5_1, m5_2, m5_5, m5_6, m5_7, m5_8, m5_9, m5_12, m5_13, m5_14, m5_15, m5_16, m5_17, m5_20, m5_21, m5_22u, m5_24, m5_25, m5_28, m5_31, m5_32, m5_35, m5_36, m5_37, m5_38, m5_39, m5_40, m5_43, m5_44, m5_45, m5_48, m5_49, m5_50, m5_51, m5_52, m5_53, m5_56, m5_57, m5_60, m5_63, m5_64, m5_65, m5_66, m5_69, m5_70, m5_73, m5_74i, m5_76, m5_78, m5_81, m5_82, m5_85, m5_86, m5_87, m5_88, m5_89, m5_92, m5_93, m5_94, m5_95, m5_98, m5_101, m5_102, m5_105, m5_106, m5_109, m5_110, m5_113, m5_114, m5_115, m5_116, m5_117i, m5_118, m5_119u, m5_120, m5_121, m5_122, m5_125, m5_126, m5_136, m5_139, m5_140, m5_143, m5_144, m5_147, m5_148, m5_151, nb0, nb1, ou_a, Option.toList_some, Option.toList_none, List.nil_append, List.cons_append]
    exact ih _ _ _ (KI_set h2 rfl (fun _ => u1)) (succ_nn h0 (by omega)) (by rw [add1_i (by omega)]; omega)
theorem ND0 (k : Nat) (x : Int32) (hx : x ∈ A0 k) : x = 0 := by
  unfold A0 at hx
  split at hx <;> first | exact List.eq_of_mem_replicate hx | simp at hx
set_option maxRecDepth 1000000 in
set_option maxHeartbeats 20000000 in
theorem g5 (w1 : 2 ≤ (F 4).toInt) (w2 : (F 4).toInt ≤ 8) (hb : F 6 = 0) (ha : F 7 = 0) (hF : ∀ i, i ≠ 13 → i ≠ 14 → s i = F i) (hQ : ∀ s' A', KI F (2 * F 4) s' A' → Q none (put 0 [] s' A' L B [])) : M5 0 [.val (.ref 0), .unset, .unset] [] (put 0 [] s A0 L B []) Q := by
  simp [m5_0, m5_1, m5_2, m5_5, m5_6, m5_7, m5_8, m5_9, m5_12, m5_13, m5_14, m5_15, m5_16, m5_17, m5_20, m5_21, m5_22u, m5_24, m5_25, m5_28, m5_31, m5_32, m5_35, m5_36, m5_37, m5_38, m5_39, m5_40, m5_43, m5_44, m5_45, m5_48, m5_49, m5_50, m5_51, m5_52, m5_53, m5_56, m5_57, m5_60, m5_63, m5_64, m5_65, m5_66, m5_69, m5_70, m5_73, m5_74i, m5_76, m5_78, m5_81, m5_82, m5_85, m5_86, m5_87, m5_88, m5_89, m5_92, m5_93, m5_94, m5_95, m5_98, m5_101, m5_102, m5_105, m5_106, m5_109, m5_110, m5_113, m5_114, m5_115, m5_116, m5_117i, m5_118, m5_119u, m5_120, m5_121, m5_122, m5_125, m5_126, m5_136, m5_139, m5_140, m5_143, m5_144, m5_147, m5_148, m5_151, nb0, nb1, ou_a, Option.toList_some, Option.toList_none, List.nil_append, List.cons_append, m6_0, m6_1, m6_4, m6_7, m6_8, m6_11, m6_14, m6_17, m6_18, m6_19, m6_20, m6_23u, m6_25, m6_26, m6_29, m6_31, m6_32, m6_33, m6_34, m6_35, m6_38, m6_40, m6_41, m6_42, m6_43, m6_46, m6_48, m6_49, m6_50, m6_51, m6_54, m6_56, m6_57, m6_58, m6_59, m6_61, m6_62, m6_63, m6_66, m6_68, getA_set2, setA_len, inB_iff, A0g_0, A0g_1, A0g_2, A0g_3, A0g_4, A0g_5, A0g_6, A0g_7, A0g_8, A0g_9, A0g_10, A0g_11, A0g_12, A0g_13, A0l_0, A0l_1, A0l_2, A0l_3, A0l_4, A0l_5, A0l_6, A0l_7, A0l_8, A0l_9, A0l_10, A0l_11, A0l_12, A0l_13]
  refine g5a w1 w2 hb ha hQ (F 4).toInt.toNat 0 _ _ (M := s 14) ⟨fun i p q => ?_, ?_, ?_, ?_, ?_, ?_⟩ (by decide) (by rw [i_0]; omega)
  · simp only [ou_a, if_neg p]
    exact hF i p q
  · simp [ou_a]
  · exact (by (repeat refine len_ou ?_ (by simp only [setA_len])); exact fun _ => rfl)
  · intro k hk x hx
    unfold nd at hk
    simp only [ou_a, if_neg (show ¬ k = 0 by omega), if_neg (show ¬ k = 1 by omega), if_neg (show ¬ k = 2 by omega), if_neg (show ¬ k = 3 by omega)] at hx
    rw [ND0 k x hx]
    decide
  · simp [ou_a]
  · simp [ou_a]
end Mult
theorem own_l0 : (1 : Int32) &&& 31 = 1 := by decide +kernel
theorem own_l1 : (1 : Int32) <<< 1 = 2 := by decide +kernel
theorem own_l2 : (1 : Int32) <<< 2 = 4 := by decide +kernel
theorem own_l3 : (1 : Int32) <<< 3 = 8 := by decide +kernel
theorem own_l4 : (1 : Int32) <<< 4 = 16 := by decide +kernel
theorem own_l5 : (1 : Int32) <<< 5 = 32 := by decide +kernel
theorem own_l6 : (1 : Int32) <<< 6 = 64 := by decide +kernel
theorem own_l7 : (1 : Int32) <<< 7 = 128 := by decide +kernel
theorem own_l8 : (1 : Int32) <<< 8 = 256 := by decide +kernel
theorem own_l9 : (2 : Int32) &&& 31 = 2 := by decide +kernel
theorem own_l10 : (3 : Int32) &&& 31 = 3 := by decide +kernel
theorem own_l11 : (4 : Int32) &&& 31 = 4 := by decide +kernel
theorem own_l12 : (5 : Int32) &&& 31 = 5 := by decide +kernel
theorem own_l13 : (6 : Int32) &&& 31 = 6 := by decide +kernel
theorem own_l14 : (7 : Int32) &&& 31 = 7 := by decide +kernel
theorem own_l15 : (8 : Int32) &&& 31 = 8 := by decide +kernel
theorem bw2 (x : Int32) : (x &&& 3 < 2 ∧ (x &&& 3) >>> 1 &&& 1 = 0) ∨ (¬ x &&& 3 < 2 ∧ (x &&& 3) >>> 1 &&& 1 = 1) := by
  have b := and_bd x 3 (by decide)
  have c : (x &&& 3).toInt ≤ 3 := b.2
  obtain ⟨k, hk, e⟩ := rng (n := 4) b.1 (by omega)
  rw [e]
  have q : ∀ k : Fin 4, (Int32.ofNat k.val < 2 ∧ Int32.ofNat k.val >>> 1 &&& 1 = 0) ∨ (¬ Int32.ofNat k.val < 2 ∧ Int32.ofNat k.val >>> 1 &&& 1 = 1) := by decide +kernel
  exact q ⟨k, hk⟩
theorem bw3 (x : Int32) : (x &&& 7 < 4 ∧ (x &&& 7) >>> 2 &&& 1 = 0) ∨ (¬ x &&& 7 < 4 ∧ (x &&& 7) >>> 2 &&& 1 = 1) := by
  have b := and_bd x 7 (by decide)
  have c : (x &&& 7).toInt ≤ 7 := b.2
  obtain ⟨k, hk, e⟩ := rng (n := 8) b.1 (by omega)
  rw [e]
  have q : ∀ k : Fin 8, (Int32.ofNat k.val < 4 ∧ Int32.ofNat k.val >>> 2 &&& 1 = 0) ∨ (¬ Int32.ofNat k.val < 4 ∧ Int32.ofNat k.val >>> 2 &&& 1 = 1) := by decide +kernel
  exact q ⟨k, hk⟩
theorem bw4 (x : Int32) : (x &&& 15 < 8 ∧ (x &&& 15) >>> 3 &&& 1 = 0) ∨ (¬ x &&& 15 < 8 ∧ (x &&& 15) >>> 3 &&& 1 = 1) := by
  have b := and_bd x 15 (by decide)
  have c : (x &&& 15).toInt ≤ 15 := b.2
  obtain ⟨k, hk, e⟩ := rng (n := 16) b.1 (by omega)
  rw [e]
  have q : ∀ k : Fin 16, (Int32.ofNat k.val < 8 ∧ Int32.ofNat k.val >>> 3 &&& 1 = 0) ∨ (¬ Int32.ofNat k.val < 8 ∧ Int32.ofNat k.val >>> 3 &&& 1 = 1) := by decide +kernel
  exact q ⟨k, hk⟩
theorem bw5 (x : Int32) : (x &&& 31 < 16 ∧ (x &&& 31) >>> 4 &&& 1 = 0) ∨ (¬ x &&& 31 < 16 ∧ (x &&& 31) >>> 4 &&& 1 = 1) := by
  have b := and_bd x 31 (by decide)
  have c : (x &&& 31).toInt ≤ 31 := b.2
  obtain ⟨k, hk, e⟩ := rng (n := 32) b.1 (by omega)
  rw [e]
  have q : ∀ k : Fin 32, (Int32.ofNat k.val < 16 ∧ Int32.ofNat k.val >>> 4 &&& 1 = 0) ∨ (¬ Int32.ofNat k.val < 16 ∧ Int32.ofNat k.val >>> 4 &&& 1 = 1) := by decide +kernel
  exact q ⟨k, hk⟩
theorem bw6 (x : Int32) : (x &&& 63 < 32 ∧ (x &&& 63) >>> 5 &&& 1 = 0) ∨ (¬ x &&& 63 < 32 ∧ (x &&& 63) >>> 5 &&& 1 = 1) := by
  have b := and_bd x 63 (by decide)
  have c : (x &&& 63).toInt ≤ 63 := b.2
  obtain ⟨k, hk, e⟩ := rng (n := 64) b.1 (by omega)
  rw [e]
  have q : ∀ k : Fin 64, (Int32.ofNat k.val < 32 ∧ Int32.ofNat k.val >>> 5 &&& 1 = 0) ∨ (¬ Int32.ofNat k.val < 32 ∧ Int32.ofNat k.val >>> 5 &&& 1 = 1) := by decide +kernel
  exact q ⟨k, hk⟩
theorem bw7 (x : Int32) : (x &&& 127 < 64 ∧ (x &&& 127) >>> 6 &&& 1 = 0) ∨ (¬ x &&& 127 < 64 ∧ (x &&& 127) >>> 6 &&& 1 = 1) := by
  have b := and_bd x 127 (by decide)
  have c : (x &&& 127).toInt ≤ 127 := b.2
  obtain ⟨k, hk, e⟩ := rng (n := 128) b.1 (by omega)
  rw [e]
  have q : ∀ k : Fin 128, (Int32.ofNat k.val < 64 ∧ Int32.ofNat k.val >>> 6 &&& 1 = 0) ∨ (¬ Int32.ofNat k.val < 64 ∧ Int32.ofNat k.val >>> 6 &&& 1 = 1) := by decide +kernel
  exact q ⟨k, hk⟩
theorem bw8 (x : Int32) : (x &&& 255 < 128 ∧ (x &&& 255) >>> 7 &&& 1 = 0) ∨ (¬ x &&& 255 < 128 ∧ (x &&& 255) >>> 7 &&& 1 = 1) := by
  have b := and_bd x 255 (by decide)
  have c : (x &&& 255).toInt ≤ 255 := b.2
  obtain ⟨k, hk, e⟩ := rng (n := 256) b.1 (by omega)
  rw [e]
  have q : ∀ k : Fin 256, (Int32.ofNat k.val < 128 ∧ Int32.ofNat k.val >>> 7 &&& 1 = 0) ∨ (¬ Int32.ofNat k.val < 128 ∧ Int32.ofNat k.val >>> 7 &&& 1 = 1) := by decide +kernel
  exact q ⟨k, hk⟩
theorem own_fin (s' : Nat → Int32) (A' : Nat → List Int32) (L' : Nat → Int64) (B' : Nat → List Int64) (hl : ∀ i, (A' i).length = (A0 i).length) : (some (Value.int 1) : Option Value) = some (.int 1) ∧ (put 0 [] s' A' L' B' []).length - ([] : AHeap).length ≤ 40 ∧ tot tables_1 (put 0 [] s' A' L' B' []) - tot tables_1 [] ≤ 35200 := by
  refine ⟨rfl, ?_, ?_⟩ <;> simp only [hl, put_len, put_tot, pad_0, tot_nil, List.length_nil, List.length_cons, A0l_0, A0l_1, A0l_2, A0l_3, A0l_4, A0l_5, A0l_6, A0l_7, A0l_8, A0l_9, A0l_10, A0l_11, A0l_12, A0l_13] <;> omega
theorem rg8 {w : Int32} (w1 : 2 ≤ w.toInt) (w2 : w.toInt ≤ 8) : w = 2 ∨ w = 3 ∨ w = 4 ∨ w = 5 ∨ w = 6 ∨ w = 7 ∨ w = 8 := by
  obtain ⟨k, hk, e⟩ := rng (x := w) (n := 9) (by omega) (by omega)
  have hk' : k = 0 ∨ k = 1 ∨ k = 2 ∨ k = 3 ∨ k = 4 ∨ k = 5 ∨ k = 6 ∨ k = 7 ∨ k = 8 := by omega
  rcases hk' with rfl | rfl | rfl | rfl | rfl | rfl | rfl | rfl | rfl
  · rw [e] at w1; exact absurd w1 (by decide)
  · rw [e] at w1; exact absurd w1 (by decide)
  all_goals rw [e]; decide
set_option maxRecDepth 1000000 in
set_option maxHeartbeats 20000000 in
theorem own_e2_0 {L : Nat → Int64} {B : Nat → List Int64} {Q : Option Value → AHeap → Prop} (i0 i1 i2 i3 : Int32) (s : Nat → Int32) (A : Nat → List Int32) (h8 : s 8 = 1) (h4 : s 4 = 2) (h5 : s 5 = 0) (hl : LN A) (hQ : ∀ s', Q (some (.int 1)) (put 0 [] s' A L B [])) : M28 89 [.val (.int i0), .val (.int i1), .val (.int i2), .val (.int i3), .val (.ref 0), .val (.int 2), .val (.int 0)] [] (put 0 [] s A L B []) Q := by
  simp [h8, h4, h5, own_l0, own_l1, own_l2, own_l3, own_l4, own_l5, own_l6, own_l7, own_l8, own_l9, own_l10, own_l11, own_l12, own_l13, own_l14, own_l15, m28_56, m28_58, m28_59, m28_62, m28_63, m28_66, m28_67, m28_68, m28_70, m28_71, m28_74, m28_77, m28_78, m28_79, m28_81, m28_84, m28_87, m28_88, m28_89, m28_91, m28_92, m28_95, m28_98, m28_99, m28_100, m28_102, m28_103, m28_106, m28_109, m28_110, m28_111, m28_113, m28_114, m28_117, m28_118, m28_120, m28_122, m28_125, m28_128, m28_129, m28_130, m28_132, m28_133, m28_136, m28_137, m28_139, m28_141, m28_144, m28_147, m28_148, m28_149, m28_151, m28_152, m28_155, m28_158, m28_159, m28_162, m28_163, m2_0, m2_1, m2_4, m2_7, m2_8, m2_9, m2_10, m2_11, m2_12, m2_13, m2_16, m2_17, m2_18, m2_19, m2_20, m2_23, m2_24, m3_0, m3_1, m3_4, m3_7, m3_8, m3_9, m3_10, m3_13, m3_14, m3_15, m3_18, m3_19, m3_22, m3_25, m3_26, m3_27, m3_28, m3_31, m3_32, m3_33, m3_36, m3_37, m3_40, m3_43, m3_44, m3_45, m25_0, m25_1, m25_4, m25_7, m25_8, m25_9, m25_10, m25_11, m25_12, m25_13, m25_16, m25_17, m25_18, m25_19, m25_20, m25_23, m25_24, m26_0, m26_1, m26_4, m26_5, m26_8, m26_9, m26_10, m26_11, m26_12, m26_13, m26_14, m26_15, m26_16, m26_19, m26_20, m26_21, m26_22, m26_23, m26_24, m26_25, m26_26, m27_0, m27_1, m27_2, m27_3, m27_4, m27_5, m27_6, m27_7u, m27_8, m27_9, m27_10, m27_13, m27_14, m27_15, m27_16, m27_17, m27_18, m27_19, m27_22, m27_23, m27_24, m27_25, m27_26, m27_27, m27_28, m27_29, nb0, nb1, ou_a, Option.toList_some, Option.toList_none, List.nil_append, List.cons_append]
  exact hQ _
set_option maxRecDepth 1000000 in
set_option maxHeartbeats 20000000 in
theorem own_e2_1 {L : Nat → Int64} {B : Nat → List Int64} {Q : Option Value → AHeap → Prop} (i0 i1 i2 i3 : Int32) (s : Nat → Int32) (A : Nat → List Int32) (h8 : s 8 = 1) (h4 : s 4 = 2) (h5 : s 5 = 1) (hl : LN A) (hQ : ∀ s', Q (some (.int 1)) (put 0 [] s' A L B [])) : M28 89 [.val (.int i0), .val (.int i1), .val (.int i2), .val (.int i3), .val (.ref 0), .val (.int 2), .val (.int 1)] [] (put 0 [] s A L B []) Q := by
  rcases bw2 i2 with ⟨a1, a2⟩ | ⟨a1, a2⟩ <;> rcases bw2 i3 with ⟨b1, b2⟩ | ⟨b1, b2⟩ <;>
  · simp [a1, a2, b1, b2, h8, h4, h5, own_l0, own_l1, own_l2, own_l3, own_l4, own_l5, own_l6, own_l7, own_l8, own_l9, own_l10, own_l11, own_l12, own_l13, own_l14, own_l15, m28_56, m28_58, m28_59, m28_62, m28_63, m28_66, m28_67, m28_68, m28_70, m28_71, m28_74, m28_77, m28_78, m28_79, m28_81, m28_84, m28_87, m28_88, m28_89, m28_91, m28_92, m28_95, m28_98, m28_99, m28_100, m28_102, m28_103, m28_106, m28_109, m28_110, m28_111, m28_113, m28_114, m28_117, m28_118, m28_120, m28_122, m28_125, m28_128, m28_129, m28_130, m28_132, m28_133, m28_136, m28_137, m28_139, m28_141, m28_144, m28_147, m28_148, m28_149, m28_151, m28_152, m28_155, m28_158, m28_159, m28_162, m28_163, m2_0, m2_1, m2_4, m2_7, m2_8, m2_9, m2_10, m2_11, m2_12, m2_13, m2_16, m2_17, m2_18, m2_19, m2_20, m2_23, m2_24, m3_0, m3_1, m3_4, m3_7, m3_8, m3_9, m3_10, m3_13, m3_14, m3_15, m3_18, m3_19, m3_22, m3_25, m3_26, m3_27, m3_28, m3_31, m3_32, m3_33, m3_36, m3_37, m3_40, m3_43, m3_44, m3_45, m25_0, m25_1, m25_4, m25_7, m25_8, m25_9, m25_10, m25_11, m25_12, m25_13, m25_16, m25_17, m25_18, m25_19, m25_20, m25_23, m25_24, m26_0, m26_1, m26_4, m26_5, m26_8, m26_9, m26_10, m26_11, m26_12, m26_13, m26_14, m26_15, m26_16, m26_19, m26_20, m26_21, m26_22, m26_23, m26_24, m26_25, m26_26, m27_0, m27_1, m27_2, m27_3, m27_4, m27_5, m27_6, m27_7u, m27_8, m27_9, m27_10, m27_13, m27_14, m27_15, m27_16, m27_17, m27_18, m27_19, m27_22, m27_23, m27_24, m27_25, m27_26, m27_27, m27_28, m27_29, nb0, nb1, ou_a, Option.toList_some, Option.toList_none, List.nil_append, List.cons_append]
    exact hQ _
set_option maxRecDepth 1000000 in
set_option maxHeartbeats 20000000 in
theorem own_e3_0 {L : Nat → Int64} {B : Nat → List Int64} {Q : Option Value → AHeap → Prop} (i0 i1 i2 i3 : Int32) (s : Nat → Int32) (A : Nat → List Int32) (h8 : s 8 = 1) (h4 : s 4 = 3) (h5 : s 5 = 0) (hl : LN A) (hQ : ∀ s', Q (some (.int 1)) (put 0 [] s' A L B [])) : M28 89 [.val (.int i0), .val (.int i1), .val (.int i2), .val (.int i3), .val (.ref 0), .val (.int 3), .val (.int 0)] [] (put 0 [] s A L B []) Q := by
  simp [h8, h4, h5, own_l0, own_l1, own_l2, own_l3, own_l4, own_l5, own_l6, own_l7, own_l8, own_l9, own_l10, own_l11, own_l12, own_l13, own_l14, own_l15, m28_56, m28_58, m28_59, m28_62, m28_63, m28_66, m28_67, m28_68, m28_70, m28_71, m28_74, m28_77, m28_78, m28_79, m28_81, m28_84, m28_87, m28_88, m28_89, m28_91, m28_92, m28_95, m28_98, m28_99, m28_100, m28_102, m28_103, m28_106, m28_109, m28_110, m28_111, m28_113, m28_114, m28_117, m28_118, m28_120, m28_122, m28_125, m28_128, m28_129, m28_130, m28_132, m28_133, m28_136, m28_137, m28_139, m28_141, m28_144, m28_147, m28_148, m28_149, m28_151, m28_152, m28_155, m28_158, m28_159, m28_162, m28_163, m2_0, m2_1, m2_4, m2_7, m2_8, m2_9, m2_10, m2_11, m2_12, m2_13, m2_16, m2_17, m2_18, m2_19, m2_20, m2_23, m2_24, m3_0, m3_1, m3_4, m3_7, m3_8, m3_9, m3_10, m3_13, m3_14, m3_15, m3_18, m3_19, m3_22, m3_25, m3_26, m3_27, m3_28, m3_31, m3_32, m3_33, m3_36, m3_37, m3_40, m3_43, m3_44, m3_45, m25_0, m25_1, m25_4, m25_7, m25_8, m25_9, m25_10, m25_11, m25_12, m25_13, m25_16, m25_17, m25_18, m25_19, m25_20, m25_23, m25_24, m26_0, m26_1, m26_4, m26_5, m26_8, m26_9, m26_10, m26_11, m26_12, m26_13, m26_14, m26_15, m26_16, m26_19, m26_20, m26_21, m26_22, m26_23, m26_24, m26_25, m26_26, m27_0, m27_1, m27_2, m27_3, m27_4, m27_5, m27_6, m27_7u, m27_8, m27_9, m27_10, m27_13, m27_14, m27_15, m27_16, m27_17, m27_18, m27_19, m27_22, m27_23, m27_24, m27_25, m27_26, m27_27, m27_28, m27_29, nb0, nb1, ou_a, Option.toList_some, Option.toList_none, List.nil_append, List.cons_append]
  exact hQ _
set_option maxRecDepth 1000000 in
set_option maxHeartbeats 20000000 in
theorem own_e3_1 {L : Nat → Int64} {B : Nat → List Int64} {Q : Option Value → AHeap → Prop} (i0 i1 i2 i3 : Int32) (s : Nat → Int32) (A : Nat → List Int32) (h8 : s 8 = 1) (h4 : s 4 = 3) (h5 : s 5 = 1) (hl : LN A) (hQ : ∀ s', Q (some (.int 1)) (put 0 [] s' A L B [])) : M28 89 [.val (.int i0), .val (.int i1), .val (.int i2), .val (.int i3), .val (.ref 0), .val (.int 3), .val (.int 1)] [] (put 0 [] s A L B []) Q := by
  rcases bw3 i2 with ⟨a1, a2⟩ | ⟨a1, a2⟩ <;> rcases bw3 i3 with ⟨b1, b2⟩ | ⟨b1, b2⟩ <;>
  · simp [a1, a2, b1, b2, h8, h4, h5, own_l0, own_l1, own_l2, own_l3, own_l4, own_l5, own_l6, own_l7, own_l8, own_l9, own_l10, own_l11, own_l12, own_l13, own_l14, own_l15, m28_56, m28_58, m28_59, m28_62, m28_63, m28_66, m28_67, m28_68, m28_70, m28_71, m28_74, m28_77, m28_78, m28_79, m28_81, m28_84, m28_87, m28_88, m28_89, m28_91, m28_92, m28_95, m28_98, m28_99, m28_100, m28_102, m28_103, m28_106, m28_109, m28_110, m28_111, m28_113, m28_114, m28_117, m28_118, m28_120, m28_122, m28_125, m28_128, m28_129, m28_130, m28_132, m28_133, m28_136, m28_137, m28_139, m28_141, m28_144, m28_147, m28_148, m28_149, m28_151, m28_152, m28_155, m28_158, m28_159, m28_162, m28_163, m2_0, m2_1, m2_4, m2_7, m2_8, m2_9, m2_10, m2_11, m2_12, m2_13, m2_16, m2_17, m2_18, m2_19, m2_20, m2_23, m2_24, m3_0, m3_1, m3_4, m3_7, m3_8, m3_9, m3_10, m3_13, m3_14, m3_15, m3_18, m3_19, m3_22, m3_25, m3_26, m3_27, m3_28, m3_31, m3_32, m3_33, m3_36, m3_37, m3_40, m3_43, m3_44, m3_45, m25_0, m25_1, m25_4, m25_7, m25_8, m25_9, m25_10, m25_11, m25_12, m25_13, m25_16, m25_17, m25_18, m25_19, m25_20, m25_23, m25_24, m26_0, m26_1, m26_4, m26_5, m26_8, m26_9, m26_10, m26_11, m26_12, m26_13, m26_14, m26_15, m26_16, m26_19, m26_20, m26_21, m26_22, m26_23, m26_24, m26_25, m26_26, m27_0, m27_1, m27_2, m27_3, m27_4, m27_5, m27_6, m27_7u, m27_8, m27_9, m27_10, m27_13, m27_14, m27_15, m27_16, m27_17, m27_18, m27_19, m27_22, m27_23, m27_24, m27_25, m27_26, m27_27, m27_28, m27_29, nb0, nb1, ou_a, Option.toList_some, Option.toList_none, List.nil_append, List.cons_append]
    exact hQ _
set_option maxRecDepth 1000000 in
set_option maxHeartbeats 20000000 in
theorem own_e4_0 {L : Nat → Int64} {B : Nat → List Int64} {Q : Option Value → AHeap → Prop} (i0 i1 i2 i3 : Int32) (s : Nat → Int32) (A : Nat → List Int32) (h8 : s 8 = 1) (h4 : s 4 = 4) (h5 : s 5 = 0) (hl : LN A) (hQ : ∀ s', Q (some (.int 1)) (put 0 [] s' A L B [])) : M28 89 [.val (.int i0), .val (.int i1), .val (.int i2), .val (.int i3), .val (.ref 0), .val (.int 4), .val (.int 0)] [] (put 0 [] s A L B []) Q := by
  simp [h8, h4, h5, own_l0, own_l1, own_l2, own_l3, own_l4, own_l5, own_l6, own_l7, own_l8, own_l9, own_l10, own_l11, own_l12, own_l13, own_l14, own_l15, m28_56, m28_58, m28_59, m28_62, m28_63, m28_66, m28_67, m28_68, m28_70, m28_71, m28_74, m28_77, m28_78, m28_79, m28_81, m28_84, m28_87, m28_88, m28_89, m28_91, m28_92, m28_95, m28_98, m28_99, m28_100, m28_102, m28_103, m28_106, m28_109, m28_110, m28_111, m28_113, m28_114, m28_117, m28_118, m28_120, m28_122, m28_125, m28_128, m28_129, m28_130, m28_132, m28_133, m28_136, m28_137, m28_139, m28_141, m28_144, m28_147, m28_148, m28_149, m28_151, m28_152, m28_155, m28_158, m28_159, m28_162, m28_163, m2_0, m2_1, m2_4, m2_7, m2_8, m2_9, m2_10, m2_11, m2_12, m2_13, m2_16, m2_17, m2_18, m2_19, m2_20, m2_23, m2_24, m3_0, m3_1, m3_4, m3_7, m3_8, m3_9, m3_10, m3_13, m3_14, m3_15, m3_18, m3_19, m3_22, m3_25, m3_26, m3_27, m3_28, m3_31, m3_32, m3_33, m3_36, m3_37, m3_40, m3_43, m3_44, m3_45, m25_0, m25_1, m25_4, m25_7, m25_8, m25_9, m25_10, m25_11, m25_12, m25_13, m25_16, m25_17, m25_18, m25_19, m25_20, m25_23, m25_24, m26_0, m26_1, m26_4, m26_5, m26_8, m26_9, m26_10, m26_11, m26_12, m26_13, m26_14, m26_15, m26_16, m26_19, m26_20, m26_21, m26_22, m26_23, m26_24, m26_25, m26_26, m27_0, m27_1, m27_2, m27_3, m27_4, m27_5, m27_6, m27_7u, m27_8, m27_9, m27_10, m27_13, m27_14, m27_15, m27_16, m27_17, m27_18, m27_19, m27_22, m27_23, m27_24, m27_25, m27_26, m27_27, m27_28, m27_29, nb0, nb1, ou_a, Option.toList_some, Option.toList_none, List.nil_append, List.cons_append]
  exact hQ _
set_option maxRecDepth 1000000 in
set_option maxHeartbeats 20000000 in
theorem own_e4_1 {L : Nat → Int64} {B : Nat → List Int64} {Q : Option Value → AHeap → Prop} (i0 i1 i2 i3 : Int32) (s : Nat → Int32) (A : Nat → List Int32) (h8 : s 8 = 1) (h4 : s 4 = 4) (h5 : s 5 = 1) (hl : LN A) (hQ : ∀ s', Q (some (.int 1)) (put 0 [] s' A L B [])) : M28 89 [.val (.int i0), .val (.int i1), .val (.int i2), .val (.int i3), .val (.ref 0), .val (.int 4), .val (.int 1)] [] (put 0 [] s A L B []) Q := by
  rcases bw4 i2 with ⟨a1, a2⟩ | ⟨a1, a2⟩ <;> rcases bw4 i3 with ⟨b1, b2⟩ | ⟨b1, b2⟩ <;>
  · simp [a1, a2, b1, b2, h8, h4, h5, own_l0, own_l1, own_l2, own_l3, own_l4, own_l5, own_l6, own_l7, own_l8, own_l9, own_l10, own_l11, own_l12, own_l13, own_l14, own_l15, m28_56, m28_58, m28_59, m28_62, m28_63, m28_66, m28_67, m28_68, m28_70, m28_71, m28_74, m28_77, m28_78, m28_79, m28_81, m28_84, m28_87, m28_88, m28_89, m28_91, m28_92, m28_95, m28_98, m28_99, m28_100, m28_102, m28_103, m28_106, m28_109, m28_110, m28_111, m28_113, m28_114, m28_117, m28_118, m28_120, m28_122, m28_125, m28_128, m28_129, m28_130, m28_132, m28_133, m28_136, m28_137, m28_139, m28_141, m28_144, m28_147, m28_148, m28_149, m28_151, m28_152, m28_155, m28_158, m28_159, m28_162, m28_163, m2_0, m2_1, m2_4, m2_7, m2_8, m2_9, m2_10, m2_11, m2_12, m2_13, m2_16, m2_17, m2_18, m2_19, m2_20, m2_23, m2_24, m3_0, m3_1, m3_4, m3_7, m3_8, m3_9, m3_10, m3_13, m3_14, m3_15, m3_18, m3_19, m3_22, m3_25, m3_26, m3_27, m3_28, m3_31, m3_32, m3_33, m3_36, m3_37, m3_40, m3_43, m3_44, m3_45, m25_0, m25_1, m25_4, m25_7, m25_8, m25_9, m25_10, m25_11, m25_12, m25_13, m25_16, m25_17, m25_18, m25_19, m25_20, m25_23, m25_24, m26_0, m26_1, m26_4, m26_5, m26_8, m26_9, m26_10, m26_11, m26_12, m26_13, m26_14, m26_15, m26_16, m26_19, m26_20, m26_21, m26_22, m26_23, m26_24, m26_25, m26_26, m27_0, m27_1, m27_2, m27_3, m27_4, m27_5, m27_6, m27_7u, m27_8, m27_9, m27_10, m27_13, m27_14, m27_15, m27_16, m27_17, m27_18, m27_19, m27_22, m27_23, m27_24, m27_25, m27_26, m27_27, m27_28, m27_29, nb0, nb1, ou_a, Option.toList_some, Option.toList_none, List.nil_append, List.cons_append]
    exact hQ _
set_option maxRecDepth 1000000 in
set_option maxHeartbeats 20000000 in
theorem own_e5_0 {L : Nat → Int64} {B : Nat → List Int64} {Q : Option Value → AHeap → Prop} (i0 i1 i2 i3 : Int32) (s : Nat → Int32) (A : Nat → List Int32) (h8 : s 8 = 1) (h4 : s 4 = 5) (h5 : s 5 = 0) (hl : LN A) (hQ : ∀ s', Q (some (.int 1)) (put 0 [] s' A L B [])) : M28 89 [.val (.int i0), .val (.int i1), .val (.int i2), .val (.int i3), .val (.ref 0), .val (.int 5), .val (.int 0)] [] (put 0 [] s A L B []) Q := by
  simp [h8, h4, h5, own_l0, own_l1, own_l2, own_l3, own_l4, own_l5, own_l6, own_l7, own_l8, own_l9, own_l10, own_l11, own_l12, own_l13, own_l14, own_l15, m28_56, m28_58, m28_59, m28_62, m28_63, m28_66, m28_67, m28_68, m28_70, m28_71, m28_74, m28_77, m28_78, m28_79, m28_81, m28_84, m28_87, m28_88, m28_89, m28_91, m28_92, m28_95, m28_98, m28_99, m28_100, m28_102, m28_103, m28_106, m28_109, m28_110, m28_111, m28_113, m28_114, m28_117, m28_118, m28_120, m28_122, m28_125, m28_128, m28_129, m28_130, m28_132, m28_133, m28_136, m28_137, m28_139, m28_141, m28_144, m28_147, m28_148, m28_149, m28_151, m28_152, m28_155, m28_158, m28_159, m28_162, m28_163, m2_0, m2_1, m2_4, m2_7, m2_8, m2_9, m2_10, m2_11, m2_12, m2_13, m2_16, m2_17, m2_18, m2_19, m2_20, m2_23, m2_24, m3_0, m3_1, m3_4, m3_7, m3_8, m3_9, m3_10, m3_13, m3_14, m3_15, m3_18, m3_19, m3_22, m3_25, m3_26, m3_27, m3_28, m3_31, m3_32, m3_33, m3_36, m3_37, m3_40, m3_43, m3_44, m3_45, m25_0, m25_1, m25_4, m25_7, m25_8, m25_9, m25_10, m25_11, m25_12, m25_13, m25_16, m25_17, m25_18, m25_19, m25_20, m25_23, m25_24, m26_0, m26_1, m26_4, m26_5, m26_8, m26_9, m26_10, m26_11, m26_12, m26_13, m26_14, m26_15, m26_16, m26_19, m26_20, m26_21, m26_22, m26_23, m26_24, m26_25, m26_26, m27_0, m27_1, m27_2, m27_3, m27_4, m27_5, m27_6, m27_7u, m27_8, m27_9, m27_10, m27_13, m27_14, m27_15, m27_16, m27_17, m27_18, m27_19, m27_22, m27_23, m27_24, m27_25, m27_26, m27_27, m27_28, m27_29, nb0, nb1, ou_a, Option.toList_some, Option.toList_none, List.nil_append, List.cons_append]
  exact hQ _
set_option maxRecDepth 1000000 in
set_option maxHeartbeats 20000000 in
theorem own_e5_1 {L : Nat → Int64} {B : Nat → List Int64} {Q : Option Value → AHeap → Prop} (i0 i1 i2 i3 : Int32) (s : Nat → Int32) (A : Nat → List Int32) (h8 : s 8 = 1) (h4 : s 4 = 5) (h5 : s 5 = 1) (hl : LN A) (hQ : ∀ s', Q (some (.int 1)) (put 0 [] s' A L B [])) : M28 89 [.val (.int i0), .val (.int i1), .val (.int i2), .val (.int i3), .val (.ref 0), .val (.int 5), .val (.int 1)] [] (put 0 [] s A L B []) Q := by
  rcases bw5 i2 with ⟨a1, a2⟩ | ⟨a1, a2⟩ <;> rcases bw5 i3 with ⟨b1, b2⟩ | ⟨b1, b2⟩ <;>
  · simp [a1, a2, b1, b2, h8, h4, h5, own_l0, own_l1, own_l2, own_l3, own_l4, own_l5, own_l6, own_l7, own_l8, own_l9, own_l10, own_l11, own_l12, own_l13, own_l14, own_l15, m28_56, m28_58, m28_59, m28_62, m28_63, m28_66, m28_67, m28_68, m28_70, m28_71, m28_74, m28_77, m28_78, m28_79, m28_81, m28_84, m28_87, m28_88, m28_89, m28_91, m28_92, m28_95, m28_98, m28_99, m28_100, m28_102, m28_103, m28_106, m28_109, m28_110, m28_111, m28_113, m28_114, m28_117, m28_118, m28_120, m28_122, m28_125, m28_128, m28_129, m28_130, m28_132, m28_133, m28_136, m28_137, m28_139, m28_141, m28_144, m28_147, m28_148, m28_149, m28_151, m28_152, m28_155, m28_158, m28_159, m28_162, m28_163, m2_0, m2_1, m2_4, m2_7, m2_8, m2_9, m2_10, m2_11, m2_12, m2_13, m2_16, m2_17, m2_18, m2_19, m2_20, m2_23, m2_24, m3_0, m3_1, m3_4, m3_7, m3_8, m3_9, m3_10, m3_13, m3_14, m3_15, m3_18, m3_19, m3_22, m3_25, m3_26, m3_27, m3_28, m3_31, m3_32, m3_33, m3_36, m3_37, m3_40, m3_43, m3_44, m3_45, m25_0, m25_1, m25_4, m25_7, m25_8, m25_9, m25_10, m25_11, m25_12, m25_13, m25_16, m25_17, m25_18, m25_19, m25_20, m25_23, m25_24, m26_0, m26_1, m26_4, m26_5, m26_8, m26_9, m26_10, m26_11, m26_12, m26_13, m26_14, m26_15, m26_16, m26_19, m26_20, m26_21, m26_22, m26_23, m26_24, m26_25, m26_26, m27_0, m27_1, m27_2, m27_3, m27_4, m27_5, m27_6, m27_7u, m27_8, m27_9, m27_10, m27_13, m27_14, m27_15, m27_16, m27_17, m27_18, m27_19, m27_22, m27_23, m27_24, m27_25, m27_26, m27_27, m27_28, m27_29, nb0, nb1, ou_a, Option.toList_some, Option.toList_none, List.nil_append, List.cons_append]
    exact hQ _
set_option maxRecDepth 1000000 in
set_option maxHeartbeats 20000000 in
theorem own_e6_0 {L : Nat → Int64} {B : Nat → List Int64} {Q : Option Value → AHeap → Prop} (i0 i1 i2 i3 : Int32) (s : Nat → Int32) (A : Nat → List Int32) (h8 : s 8 = 1) (h4 : s 4 = 6) (h5 : s 5 = 0) (hl : LN A) (hQ : ∀ s', Q (some (.int 1)) (put 0 [] s' A L B [])) : M28 89 [.val (.int i0), .val (.int i1), .val (.int i2), .val (.int i3), .val (.ref 0), .val (.int 6), .val (.int 0)] [] (put 0 [] s A L B []) Q := by
  simp [h8, h4, h5, own_l0, own_l1, own_l2, own_l3, own_l4, own_l5, own_l6, own_l7, own_l8, own_l9, own_l10, own_l11, own_l12, own_l13, own_l14, own_l15, m28_56, m28_58, m28_59, m28_62, m28_63, m28_66, m28_67, m28_68, m28_70, m28_71, m28_74, m28_77, m28_78, m28_79, m28_81, m28_84, m28_87, m28_88, m28_89, m28_91, m28_92, m28_95, m28_98, m28_99, m28_100, m28_102, m28_103, m28_106, m28_109, m28_110, m28_111, m28_113, m28_114, m28_117, m28_118, m28_120, m28_122, m28_125, m28_128, m28_129, m28_130, m28_132, m28_133, m28_136, m28_137, m28_139, m28_141, m28_144, m28_147, m28_148, m28_149, m28_151, m28_152, m28_155, m28_158, m28_159, m28_162, m28_163, m2_0, m2_1, m2_4, m2_7, m2_8, m2_9, m2_10, m2_11, m2_12, m2_13, m2_16, m2_17, m2_18, m2_19, m2_20, m2_23, m2_24, m3_0, m3_1, m3_4, m3_7, m3_8, m3_9, m3_10, m3_13, m3_14, m3_15, m3_18, m3_19, m3_22, m3_25, m3_26, m3_27, m3_28, m3_31, m3_32, m3_33, m3_36, m3_37, m3_40, m3_43, m3_44, m3_45, m25_0, m25_1, m25_4, m25_7, m25_8, m25_9, m25_10, m25_11, m25_12, m25_13, m25_16, m25_17, m25_18, m25_19, m25_20, m25_23, m25_24, m26_0, m26_1, m26_4, m26_5, m26_8, m26_9, m26_10, m26_11, m26_12, m26_13, m26_14, m26_15, m26_16, m26_19, m26_20, m26_21, m26_22, m26_23, m26_24, m26_25, m26_26, m27_0, m27_1, m27_2, m27_3, m27_4, m27_5, m27_6, m27_7u, m27_8, m27_9, m27_10, m27_13, m27_14, m27_15, m27_16, m27_17, m27_18, m27_19, m27_22, m27_23, m27_24, m27_25, m27_26, m27_27, m27_28, m27_29, nb0, nb1, ou_a, Option.toList_some, Option.toList_none, List.nil_append, List.cons_append]
  exact hQ _
set_option maxRecDepth 1000000 in
set_option maxHeartbeats 20000000 in
theorem own_e6_1 {L : Nat → Int64} {B : Nat → List Int64} {Q : Option Value → AHeap → Prop} (i0 i1 i2 i3 : Int32) (s : Nat → Int32) (A : Nat → List Int32) (h8 : s 8 = 1) (h4 : s 4 = 6) (h5 : s 5 = 1) (hl : LN A) (hQ : ∀ s', Q (some (.int 1)) (put 0 [] s' A L B [])) : M28 89 [.val (.int i0), .val (.int i1), .val (.int i2), .val (.int i3), .val (.ref 0), .val (.int 6), .val (.int 1)] [] (put 0 [] s A L B []) Q := by
  rcases bw6 i2 with ⟨a1, a2⟩ | ⟨a1, a2⟩ <;> rcases bw6 i3 with ⟨b1, b2⟩ | ⟨b1, b2⟩ <;>
  · simp [a1, a2, b1, b2, h8, h4, h5, own_l0, own_l1, own_l2, own_l3, own_l4, own_l5, own_l6, own_l7, own_l8, own_l9, own_l10, own_l11, own_l12, own_l13, own_l14, own_l15, m28_56, m28_58, m28_59, m28_62, m28_63, m28_66, m28_67, m28_68, m28_70, m28_71, m28_74, m28_77, m28_78, m28_79, m28_81, m28_84, m28_87, m28_88, m28_89, m28_91, m28_92, m28_95, m28_98, m28_99, m28_100, m28_102, m28_103, m28_106, m28_109, m28_110, m28_111, m28_113, m28_114, m28_117, m28_118, m28_120, m28_122, m28_125, m28_128, m28_129, m28_130, m28_132, m28_133, m28_136, m28_137, m28_139, m28_141, m28_144, m28_147, m28_148, m28_149, m28_151, m28_152, m28_155, m28_158, m28_159, m28_162, m28_163, m2_0, m2_1, m2_4, m2_7, m2_8, m2_9, m2_10, m2_11, m2_12, m2_13, m2_16, m2_17, m2_18, m2_19, m2_20, m2_23, m2_24, m3_0, m3_1, m3_4, m3_7, m3_8, m3_9, m3_10, m3_13, m3_14, m3_15, m3_18, m3_19, m3_22, m3_25, m3_26, m3_27, m3_28, m3_31, m3_32, m3_33, m3_36, m3_37, m3_40, m3_43, m3_44, m3_45, m25_0, m25_1, m25_4, m25_7, m25_8, m25_9, m25_10, m25_11, m25_12, m25_13, m25_16, m25_17, m25_18, m25_19, m25_20, m25_23, m25_24, m26_0, m26_1, m26_4, m26_5, m26_8, m26_9, m26_10, m26_11, m26_12, m26_13, m26_14, m26_15, m26_16, m26_19, m26_20, m26_21, m26_22, m26_23, m26_24, m26_25, m26_26, m27_0, m27_1, m27_2, m27_3, m27_4, m27_5, m27_6, m27_7u, m27_8, m27_9, m27_10, m27_13, m27_14, m27_15, m27_16, m27_17, m27_18, m27_19, m27_22, m27_23, m27_24, m27_25, m27_26, m27_27, m27_28, m27_29, nb0, nb1, ou_a, Option.toList_some, Option.toList_none, List.nil_append, List.cons_append]
    exact hQ _
set_option maxRecDepth 1000000 in
set_option maxHeartbeats 20000000 in
theorem own_e7_0 {L : Nat → Int64} {B : Nat → List Int64} {Q : Option Value → AHeap → Prop} (i0 i1 i2 i3 : Int32) (s : Nat → Int32) (A : Nat → List Int32) (h8 : s 8 = 1) (h4 : s 4 = 7) (h5 : s 5 = 0) (hl : LN A) (hQ : ∀ s', Q (some (.int 1)) (put 0 [] s' A L B [])) : M28 89 [.val (.int i0), .val (.int i1), .val (.int i2), .val (.int i3), .val (.ref 0), .val (.int 7), .val (.int 0)] [] (put 0 [] s A L B []) Q := by
  simp [h8, h4, h5, own_l0, own_l1, own_l2, own_l3, own_l4, own_l5, own_l6, own_l7, own_l8, own_l9, own_l10, own_l11, own_l12, own_l13, own_l14, own_l15, m28_56, m28_58, m28_59, m28_62, m28_63, m28_66, m28_67, m28_68, m28_70, m28_71, m28_74, m28_77, m28_78, m28_79, m28_81, m28_84, m28_87, m28_88, m28_89, m28_91, m28_92, m28_95, m28_98, m28_99, m28_100, m28_102, m28_103, m28_106, m28_109, m28_110, m28_111, m28_113, m28_114, m28_117, m28_118, m28_120, m28_122, m28_125, m28_128, m28_129, m28_130, m28_132, m28_133, m28_136, m28_137, m28_139, m28_141, m28_144, m28_147, m28_148, m28_149, m28_151, m28_152, m28_155, m28_158, m28_159, m28_162, m28_163, m2_0, m2_1, m2_4, m2_7, m2_8, m2_9, m2_10, m2_11, m2_12, m2_13, m2_16, m2_17, m2_18, m2_19, m2_20, m2_23, m2_24, m3_0, m3_1, m3_4, m3_7, m3_8, m3_9, m3_10, m3_13, m3_14, m3_15, m3_18, m3_19, m3_22, m3_25, m3_26, m3_27, m3_28, m3_31, m3_32, m3_33, m3_36, m3_37, m3_40, m3_43, m3_44, m3_45, m25_0, m25_1, m25_4, m25_7, m25_8, m25_9, m25_10, m25_11, m25_12, m25_13, m25_16, m25_17, m25_18, m25_19, m25_20, m25_23, m25_24, m26_0, m26_1, m26_4, m26_5, m26_8, m26_9, m26_10, m26_11, m26_12, m26_13, m26_14, m26_15, m26_16, m26_19, m26_20, m26_21, m26_22, m26_23, m26_24, m26_25, m26_26, m27_0, m27_1, m27_2, m27_3, m27_4, m27_5, m27_6, m27_7u, m27_8, m27_9, m27_10, m27_13, m27_14, m27_15, m27_16, m27_17, m27_18, m27_19, m27_22, m27_23, m27_24, m27_25, m27_26, m27_27, m27_28, m27_29, nb0, nb1, ou_a, Option.toList_some, Option.toList_none, List.nil_append, List.cons_append]
  exact hQ _
set_option maxRecDepth 1000000 in
set_option maxHeartbeats 20000000 in
theorem own_e7_1 {L : Nat → Int64} {B : Nat → List Int64} {Q : Option Value → AHeap → Prop} (i0 i1 i2 i3 : Int32) (s : Nat → Int32) (A : Nat → List Int32) (h8 : s 8 = 1) (h4 : s 4 = 7) (h5 : s 5 = 1) (hl : LN A) (hQ : ∀ s', Q (some (.int 1)) (put 0 [] s' A L B [])) : M28 89 [.val (.int i0), .val (.int i1), .val (.int i2), .val (.int i3), .val (.ref 0), .val (.int 7), .val (.int 1)] [] (put 0 [] s A L B []) Q := by
  rcases bw7 i2 with ⟨a1, a2⟩ | ⟨a1, a2⟩ <;> rcases bw7 i3 with ⟨b1, b2⟩ | ⟨b1, b2⟩ <;>
  · simp [a1, a2, b1, b2, h8, h4, h5, own_l0, own_l1, own_l2, own_l3, own_l4, own_l5, own_l6, own_l7, own_l8, own_l9, own_l10, own_l11, own_l12, own_l13, own_l14, own_l15, m28_56, m28_58, m28_59, m28_62, m28_63, m28_66, m28_67, m28_68, m28_70, m28_71, m28_74, m28_77, m28_78, m28_79, m28_81, m28_84, m28_87, m28_88, m28_89, m28_91, m28_92, m28_95, m28_98, m28_99, m28_100, m28_102, m28_103, m28_106, m28_109, m28_110, m28_111, m28_113, m28_114, m28_117, m28_118, m28_120, m28_122, m28_125, m28_128, m28_129, m28_130, m28_132, m28_133, m28_136, m28_137, m28_139, m28_141, m28_144, m28_147, m28_148, m28_149, m28_151, m28_152, m28_155, m28_158, m28_159, m28_162, m28_163, m2_0, m2_1, m2_4, m2_7, m2_8, m2_9, m2_10, m2_11, m2_12, m2_13, m2_16, m2_17, m2_18, m2_19, m2_20, m2_23, m2_24, m3_0, m3_1, m3_4, m3_7, m3_8, m3_9, m3_10, m3_13, m3_14, m3_15, m3_18, m3_19, m3_22, m3_25, m3_26, m3_27, m3_28, m3_31, m3_32, m3_33, m3_36, m3_37, m3_40, m3_43, m3_44, m3_45, m25_0, m25_1, m25_4, m25_7, m25_8, m25_9, m25_10, m25_11, m25_12, m25_13, m25_16, m25_17, m25_18, m25_19, m25_20, m25_23, m25_24, m26_0, m26_1, m26_4, m26_5, m26_8, m26_9, m26_10, m26_11, m26_12, m26_13, m26_14, m26_15, m26_16, m26_19, m26_20, m26_21, m26_22, m26_23, m26_24, m26_25, m26_26, m27_0, m27_1, m27_2, m27_3, m27_4, m27_5, m27_6, m27_7u, m27_8, m27_9, m27_10, m27_13, m27_14, m27_15, m27_16, m27_17, m27_18, m27_19, m27_22, m27_23, m27_24, m27_25, m27_26, m27_27, m27_28, m27_29, nb0, nb1, ou_a, Option.toList_some, Option.toList_none, List.nil_append, List.cons_append]
    exact hQ _
set_option maxRecDepth 1000000 in
set_option maxHeartbeats 20000000 in
theorem own_e8_0 {L : Nat → Int64} {B : Nat → List Int64} {Q : Option Value → AHeap → Prop} (i0 i1 i2 i3 : Int32) (s : Nat → Int32) (A : Nat → List Int32) (h8 : s 8 = 1) (h4 : s 4 = 8) (h5 : s 5 = 0) (hl : LN A) (hQ : ∀ s', Q (some (.int 1)) (put 0 [] s' A L B [])) : M28 89 [.val (.int i0), .val (.int i1), .val (.int i2), .val (.int i3), .val (.ref 0), .val (.int 8), .val (.int 0)] [] (put 0 [] s A L B []) Q := by
  simp [h8, h4, h5, own_l0, own_l1, own_l2, own_l3, own_l4, own_l5, own_l6, own_l7, own_l8, own_l9, own_l10, own_l11, own_l12, own_l13, own_l14, own_l15, m28_56, m28_58, m28_59, m28_62, m28_63, m28_66, m28_67, m28_68, m28_70, m28_71, m28_74, m28_77, m28_78, m28_79, m28_81, m28_84, m28_87, m28_88, m28_89, m28_91, m28_92, m28_95, m28_98, m28_99, m28_100, m28_102, m28_103, m28_106, m28_109, m28_110, m28_111, m28_113, m28_114, m28_117, m28_118, m28_120, m28_122, m28_125, m28_128, m28_129, m28_130, m28_132, m28_133, m28_136, m28_137, m28_139, m28_141, m28_144, m28_147, m28_148, m28_149, m28_151, m28_152, m28_155, m28_158, m28_159, m28_162, m28_163, m2_0, m2_1, m2_4, m2_7, m2_8, m2_9, m2_10, m2_11, m2_12, m2_13, m2_16, m2_17, m2_18, m2_19, m2_20, m2_23, m2_24, m3_0, m3_1, m3_4, m3_7, m3_8, m3_9, m3_10, m3_13, m3_14, m3_15, m3_18, m3_19, m3_22, m3_25, m3_26, m3_27, m3_28, m3_31, m3_32, m3_33, m3_36, m3_37, m3_40, m3_43, m3_44, m3_45, m25_0, m25_1, m25_4, m25_7, m25_8, m25_9, m25_10, m25_11, m25_12, m25_13, m25_16, m25_17, m25_18, m25_19, m25_20, m25_23, m25_24, m26_0, m26_1, m26_4, m26_5, m26_8, m26_9, m26_10, m26_11, m26_12, m26_13, m26_14, m26_15, m26_16, m26_19, m26_20, m26_21, m26_22, m26_23, m26_24, m26_25, m26_26, m27_0, m27_1, m27_2, m27_3, m27_4, m27_5, m27_6, m27_7u, m27_8, m27_9, m27_10, m27_13, m27_14, m27_15, m27_16, m27_17, m27_18, m27_19, m27_22, m27_23, m27_24, m27_25, m27_26, m27_27, m27_28, m27_29, nb0, nb1, ou_a, Option.toList_some, Option.toList_none, List.nil_append, List.cons_append]
  exact hQ _
set_option maxRecDepth 1000000 in
set_option maxHeartbeats 20000000 in
theorem own_e8_1 {L : Nat → Int64} {B : Nat → List Int64} {Q : Option Value → AHeap → Prop} (i0 i1 i2 i3 : Int32) (s : Nat → Int32) (A : Nat → List Int32) (h8 : s 8 = 1) (h4 : s 4 = 8) (h5 : s 5 = 1) (hl : LN A) (hQ : ∀ s', Q (some (.int 1)) (put 0 [] s' A L B [])) : M28 89 [.val (.int i0), .val (.int i1), .val (.int i2), .val (.int i3), .val (.ref 0), .val (.int 8), .val (.int 1)] [] (put 0 [] s A L B []) Q := by
  rcases bw8 i2 with ⟨a1, a2⟩ | ⟨a1, a2⟩ <;> rcases bw8 i3 with ⟨b1, b2⟩ | ⟨b1, b2⟩ <;>
  · simp [a1, a2, b1, b2, h8, h4, h5, own_l0, own_l1, own_l2, own_l3, own_l4, own_l5, own_l6, own_l7, own_l8, own_l9, own_l10, own_l11, own_l12, own_l13, own_l14, own_l15, m28_56, m28_58, m28_59, m28_62, m28_63, m28_66, m28_67, m28_68, m28_70, m28_71, m28_74, m28_77, m28_78, m28_79, m28_81, m28_84, m28_87, m28_88, m28_89, m28_91, m28_92, m28_95, m28_98, m28_99, m28_100, m28_102, m28_103, m28_106, m28_109, m28_110, m28_111, m28_113, m28_114, m28_117, m28_118, m28_120, m28_122, m28_125, m28_128, m28_129, m28_130, m28_132, m28_133, m28_136, m28_137, m28_139, m28_141, m28_144, m28_147, m28_148, m28_149, m28_151, m28_152, m28_155, m28_158, m28_159, m28_162, m28_163, m2_0, m2_1, m2_4, m2_7, m2_8, m2_9, m2_10, m2_11, m2_12, m2_13, m2_16, m2_17, m2_18, m2_19, m2_20, m2_23, m2_24, m3_0, m3_1, m3_4, m3_7, m3_8, m3_9, m3_10, m3_13, m3_14, m3_15, m3_18, m3_19, m3_22, m3_25, m3_26, m3_27, m3_28, m3_31, m3_32, m3_33, m3_36, m3_37, m3_40, m3_43, m3_44, m3_45, m25_0, m25_1, m25_4, m25_7, m25_8, m25_9, m25_10, m25_11, m25_12, m25_13, m25_16, m25_17, m25_18, m25_19, m25_20, m25_23, m25_24, m26_0, m26_1, m26_4, m26_5, m26_8, m26_9, m26_10, m26_11, m26_12, m26_13, m26_14, m26_15, m26_16, m26_19, m26_20, m26_21, m26_22, m26_23, m26_24, m26_25, m26_26, m27_0, m27_1, m27_2, m27_3, m27_4, m27_5, m27_6, m27_7u, m27_8, m27_9, m27_10, m27_13, m27_14, m27_15, m27_16, m27_17, m27_18, m27_19, m27_22, m27_23, m27_24, m27_25, m27_26, m27_27, m27_28, m27_29, nb0, nb1, ou_a, Option.toList_some, Option.toList_none, List.nil_append, List.cons_append]
    exact hQ _
set_option maxRecDepth 1000000 in
set_option maxHeartbeats 20000000 in
theorem own_rest {L : Nat → Int64} {B : Nat → List Int64} {Q : Option Value → AHeap → Prop} (i0 i1 i2 i3 w m : Int32) (w1 : 2 ≤ w.toInt) (w2 : w.toInt ≤ 8) (hm : m = 0 ∨ m = 1) (s : Nat → Int32) (h0 : s 0 = w) (h1 : s 1 = m) (h2 : s 2 = 0) (h3 : s 3 = 0) (h8 : s 8 = 0) (hQ : ∀ s' A', LN A' → Q (some (.int 1)) (put 0 [] s' A' L B [])) :
    M28 56 [.val (.int i0), .val (.int i1), .val (.int i2), .val (.int i3), .val (.ref 0), .val (.int w), .val (.int m)] [] (put 0 [] s A0 L B []) Q := by
  simp [h8, m28_56, m28_58, m28_59, m28_62, m28_63, m28_66, m28_67, m28_68, m28_70, m28_71, m28_74, m28_77, m28_78, m28_79, m28_81, m28_84, m28_87, m28_88, m2_0, m2_1, m2_4, m2_7, m2_8, m2_9, m2_10, m2_11, m2_12, m2_13, m2_16, m2_17, m2_18, m2_19, m2_20, m2_23, m2_24, m3_0, m3_1, m3_4, m3_7, m3_8, m3_9, m3_10, m3_13, m3_14, m3_15, m3_18, m3_19, m3_22, m3_25, m3_26, m3_27, m3_28, m3_31, m3_32, m3_33, m3_36, m3_37, m3_40, m3_43, m3_44, m3_45, m4_0, m4_1, m4_2, m4_5, m4_8, m4_9, m4_10, m4_13, m4_16, m4_17, m4_18, m4_21, m4_24, m4_25, m4_26, m4_29, m4_32, m4_33, m4_36, m4_37, m4_38, m4_41, m4_42, m4_43, m4_46, m4_47, m4_48, m4_51, m4_52, m4_53, m4_56, m4_57, m4_58, m4_61, m4_62, h0, h1, h2, h3, nb0, nb1, ou_a, Option.toList_some, Option.toList_none, List.nil_append, List.cons_append]
  refine g5 (F := ou (ou (ou (ou s 4 w) 5 m) 6 0) 7 0) w1 w2 rfl rfl (fun _ _ _ => rfl) (fun s' A' h' => ?_)
  simp [m28_84, m28_87, m28_88, m4_0, m4_1, m4_2, m4_5, m4_8, m4_9, m4_10, m4_13, m4_16, m4_17, m4_18, m4_21, m4_24, m4_25, m4_26, m4_29, m4_32, m4_33, m4_36, m4_37, m4_38, m4_41, m4_42, m4_43, m4_46, m4_47, m4_48, m4_51, m4_52, m4_53, m4_56, m4_57, m4_58, m4_61, m4_62, nb0, nb1, ou_a, Option.toList_some, Option.toList_none, List.nil_append, List.cons_append]
  have e4 : s' 4 = w := h'.1 4 (by decide) (by decide)
  have e5 : s' 5 = m := h'.1 5 (by decide) (by decide)
  rcases hm with rfl | rfl <;> rcases rg8 w1 w2 with rfl | rfl | rfl | rfl | rfl | rfl | rfl
  · exact own_e2_0 _ _ _ _ _ _ (by simp [ou_a]) (by simp [ou_a, e4]) (by simp [ou_a, e5]) h'.2.2.1 (fun s2 => hQ s2 A' h'.2.2.1)
  · exact own_e3_0 _ _ _ _ _ _ (by simp [ou_a]) (by simp [ou_a, e4]) (by simp [ou_a, e5]) h'.2.2.1 (fun s2 => hQ s2 A' h'.2.2.1)
  · exact own_e4_0 _ _ _ _ _ _ (by simp [ou_a]) (by simp [ou_a, e4]) (by simp [ou_a, e5]) h'.2.2.1 (fun s2 => hQ s2 A' h'.2.2.1)
  · exact own_e5_0 _ _ _ _ _ _ (by simp [ou_a]) (by simp [ou_a, e4]) (by simp [ou_a, e5]) h'.2.2.1 (fun s2 => hQ s2 A' h'.2.2.1)
  · exact own_e6_0 _ _ _ _ _ _ (by simp [ou_a]) (by simp [ou_a, e4]) (by simp [ou_a, e5]) h'.2.2.1 (fun s2 => hQ s2 A' h'.2.2.1)
  · exact own_e7_0 _ _ _ _ _ _ (by simp [ou_a]) (by simp [ou_a, e4]) (by simp [ou_a, e5]) h'.2.2.1 (fun s2 => hQ s2 A' h'.2.2.1)
  · exact own_e8_0 _ _ _ _ _ _ (by simp [ou_a]) (by simp [ou_a, e4]) (by simp [ou_a, e5]) h'.2.2.1 (fun s2 => hQ s2 A' h'.2.2.1)
  · exact own_e2_1 _ _ _ _ _ _ (by simp [ou_a]) (by simp [ou_a, e4]) (by simp [ou_a, e5]) h'.2.2.1 (fun s2 => hQ s2 A' h'.2.2.1)
  · exact own_e3_1 _ _ _ _ _ _ (by simp [ou_a]) (by simp [ou_a, e4]) (by simp [ou_a, e5]) h'.2.2.1 (fun s2 => hQ s2 A' h'.2.2.1)
  · exact own_e4_1 _ _ _ _ _ _ (by simp [ou_a]) (by simp [ou_a, e4]) (by simp [ou_a, e5]) h'.2.2.1 (fun s2 => hQ s2 A' h'.2.2.1)
  · exact own_e5_1 _ _ _ _ _ _ (by simp [ou_a]) (by simp [ou_a, e4]) (by simp [ou_a, e5]) h'.2.2.1 (fun s2 => hQ s2 A' h'.2.2.1)
  · exact own_e6_1 _ _ _ _ _ _ (by simp [ou_a]) (by simp [ou_a, e4]) (by simp [ou_a, e5]) h'.2.2.1 (fun s2 => hQ s2 A' h'.2.2.1)
  · exact own_e7_1 _ _ _ _ _ _ (by simp [ou_a]) (by simp [ou_a, e4]) (by simp [ou_a, e5]) h'.2.2.1 (fun s2 => hQ s2 A' h'.2.2.1)
  · exact own_e8_1 _ _ _ _ _ _ (by simp [ou_a]) (by simp [ou_a, e4]) (by simp [ou_a, e5]) h'.2.2.1 (fun s2 => hQ s2 A' h'.2.2.1)
set_option maxRecDepth 1000000 in
set_option maxHeartbeats 20000000 in
theorem own_gen (i0 : Int32) (i1 : Int32) (i2 : Int32) (i3 : Int32) {Q : Option Value → AHeap → Prop} (hQ : ∀ s' A' L' B', LN A' → Q (some (.int 1)) (put 0 [] s' A' L' B' [])) : M28 0 [.val (.int i0), .val (.int i1), .val (.int i2), .val (.int i3), .unset, .unset, .unset] [] [] Q := by
  rw [m28_0, m28_3, m28_4, m28_5, m28_6, m28_7, m28_8, own_ctor0 rfl]
  by_cases a1 : i0 < 2
  · by_cases b1 : i1 < 0
    · simp [a1, b1, m0_0, m0_1, m0_4, m0_5, m0_13, m0_14, m0_22, m0_23, m0_31, m0_32, m0_40, m0_41, m0_49, m0_50, m0_58, m0_59, m0_66, m0_67, m0_74, m0_75, m0_82, m0_83, m0_90, m0_91, m0_98, m0_99, m0_106, m0_107, m0_114, m0_115, m0_122, m0_123, m0_124, m0_125, m0_126, m0_128, m0_131, m0_134, m0_135, m0_136, m0_137, m0_138, m0_139, m0_142, m0_145, m0_146, m0_147, m0_148, m0_149, m0_150, m0_153, m0_156, m0_157, m0_158, m0_160, m0_161, m0_162, m0_165, m0_168, m0_169, m0_170, m0_173, m0_174, m0_175, m0_178, m0_179, m0_180, m0_183, m0_184, m0_185, m0_188, m0_189, m0_190, m0_193, m0_194, m0_195, m0_198, m1_0, m1_1, m1_2, m1_5, m1_6, m1_7, m1_8, m1_9, m1_12, m1_13, m1_14, m1_15, m28_11u, m28_13, m28_14, m28_15, m28_18, m28_19, m28_22, m28_23, m28_25, m28_28, m28_30, m28_33, m28_34u, m28_36, m28_37, m28_40, m28_41, m28_44, m28_45, m28_46, m28_49, m28_50, m28_53, m28_54u, nb0, nb1, ou_a, Option.toList_some, Option.toList_none, List.nil_append, List.cons_append]
      exact own_rest _ _ _ _ 2 0 (by decide) (by decide) (Or.inl rfl) _ (by simp [ou_a]) (by simp [ou_a]) (by simp [ou_a]) (by simp [ou_a]) (by simp [ou_a]) (fun s' A' h' => hQ s' A' _ _ h')
    by_cases b2 : 1 < i1
    · simp [a1, b1, b2, m0_0, m0_1, m0_4, m0_5, m0_13, m0_14, m0_22, m0_23, m0_31, m0_32, m0_40, m0_41, m0_49, m0_50, m0_58, m0_59, m0_66, m0_67, m0_74, m0_75, m0_82, m0_83, m0_90, m0_91, m0_98, m0_99, m0_106, m0_107, m0_114, m0_115, m0_122, m0_123, m0_124, m0_125, m0_126, m0_128, m0_131, m0_134, m0_135, m0_136, m0_137, m0_138, m0_139, m0_142, m0_145, m0_146, m0_147, m0_148, m0_149, m0_150, m0_153, m0_156, m0_157, m0_158, m0_160, m0_161, m0_162, m0_165, m0_168, m0_169, m0_170, m0_173, m0_174, m0_175, m0_178, m0_179, m0_180, m0_183, m0_184, m0_185, m0_188, m0_189, m0_190, m0_193, m0_194, m0_195, m0_198, m1_0, m1_1, m1_2, m1_5, m1_6, m1_7, m1_8, m1_9, m1_12, m1_13, m1_14, m1_15, m28_11u, m28_13, m28_14, m28_15, m28_18, m28_19, m28_22, m28_23, m28_25, m28_28, m28_30, m28_33, m28_34u, m28_36, m28_37, m28_40, m28_41, m28_44, m28_45, m28_46, m28_49, m28_50, m28_53, m28_54u, nb0, nb1, ou_a, Option.toList_some, Option.toList_none, List.nil_append, List.cons_append]
      exact own_rest _ _ _ _ 2 1 (by decide) (by decide) (Or.inr rfl) _ (by simp [ou_a]) (by simp [ou_a]) (by simp [ou_a]) (by simp [ou_a]) (by simp [ou_a]) (fun s' A' h' => hQ s' A' _ _ h')
    have b3 : i1 = 0 ∨ i1 = 1 := by
      have e1 : (1 : Int32).toInt = 1 := rfl
      have c1 := nn_i.mp b1
      have c2 := b2
      rw [lt_i, e1] at c2
      have c3 : i1.toInt = 0 ∨ i1.toInt = 1 := by omega
      rcases c3 with q | q
      · exact Or.inl (Int32.toInt_inj.mp q)
      · exact Or.inr (Int32.toInt_inj.mp q)
    simp [a1, b1, b2, m0_0, m0_1, m0_4, m0_5, m0_13, m0_14, m0_22, m0_23, m0_31, m0_32, m0_40, m0_41, m0_49, m0_50, m0_58, m0_59, m0_66, m0_67, m0_74, m0_75, m0_82, m0_83, m0_90, m0_91, m0_98, m0_99, m0_106, m0_107, m0_114, m0_115, m0_122, m0_123, m0_124, m0_125, m0_126, m0_128, m0_131, m0_134, m0_135, m0_136, m0_137, m0_138, m0_139, m0_142, m0_145, m0_146, m0_147, m0_148, m0_149, m0_150, m0_153, m0_156, m0_157, m0_158, m0_160, m0_161, m0_162, m0_165, m0_168, m0_169, m0_170, m0_173, m0_174, m0_175, m0_178, m0_179, m0_180, m0_183, m0_184, m0_185, m0_188, m0_189, m0_190, m0_193, m0_194, m0_195, m0_198, m1_0, m1_1, m1_2, m1_5, m1_6, m1_7, m1_8, m1_9, m1_12, m1_13, m1_14, m1_15, m28_11u, m28_13, m28_14, m28_15, m28_18, m28_19, m28_22, m28_23, m28_25, m28_28, m28_30, m28_33, m28_34u, m28_36, m28_37, m28_40, m28_41, m28_44, m28_45, m28_46, m28_49, m28_50, m28_53, m28_54u, nb0, nb1, ou_a, Option.toList_some, Option.toList_none, List.nil_append, List.cons_append]
    exact own_rest _ _ _ _ 2 i1 (by decide) (by decide) b3 _ (by simp [ou_a]) (by simp [ou_a]) (by simp [ou_a]) (by simp [ou_a]) (by simp [ou_a]) (fun s' A' h' => hQ s' A' _ _ h')
  by_cases a2 : 8 < i0
  · by_cases b1 : i1 < 0
    · simp [a1, a2, b1, m0_0, m0_1, m0_4, m0_5, m0_13, m0_14, m0_22, m0_23, m0_31, m0_32, m0_40, m0_41, m0_49, m0_50, m0_58, m0_59, m0_66, m0_67, m0_74, m0_75, m0_82, m0_83, m0_90, m0_91, m0_98, m0_99, m0_106, m0_107, m0_114, m0_115, m0_122, m0_123, m0_124, m0_125, m0_126, m0_128, m0_131, m0_134, m0_135, m0_136, m0_137, m0_138, m0_139, m0_142, m0_145, m0_146, m0_147, m0_148, m0_149, m0_150, m0_153, m0_156, m0_157, m0_158, m0_160, m0_161, m0_162, m0_165, m0_168, m0_169, m0_170, m0_173, m0_174, m0_175, m0_178, m0_179, m0_180, m0_183, m0_184, m0_185, m0_188, m0_189, m0_190, m0_193, m0_194, m0_195, m0_198, m1_0, m1_1, m1_2, m1_5, m1_6, m1_7, m1_8, m1_9, m1_12, m1_13, m1_14, m1_15, m28_11u, m28_13, m28_14, m28_15, m28_18, m28_19, m28_22, m28_23, m28_25, m28_28, m28_30, m28_33, m28_34u, m28_36, m28_37, m28_40, m28_41, m28_44, m28_45, m28_46, m28_49, m28_50, m28_53, m28_54u, nb0, nb1, ou_a, Option.toList_some, Option.toList_none, List.nil_append, List.cons_append]
      exact own_rest _ _ _ _ 8 0 (by decide) (by decide) (Or.inl rfl) _ (by simp [ou_a]) (by simp [ou_a]) (by simp [ou_a]) (by simp [ou_a]) (by simp [ou_a]) (fun s' A' h' => hQ s' A' _ _ h')
    by_cases b2 : 1 < i1
    · simp [a1, a2, b1, b2, m0_0, m0_1, m0_4, m0_5, m0_13, m0_14, m0_22, m0_23, m0_31, m0_32, m0_40, m0_41, m0_49, m0_50, m0_58, m0_59, m0_66, m0_67, m0_74, m0_75, m0_82, m0_83, m0_90, m0_91, m0_98, m0_99, m0_106, m0_107, m0_114, m0_115, m0_122, m0_123, m0_124, m0_125, m0_126, m0_128, m0_131, m0_134, m0_135, m0_136, m0_137, m0_138, m0_139, m0_142, m0_145, m0_146, m0_147, m0_148, m0_149, m0_150, m0_153, m0_156, m0_157, m0_158, m0_160, m0_161, m0_162, m0_165, m0_168, m0_169, m0_170, m0_173, m0_174, m0_175, m0_178, m0_179, m0_180, m0_183, m0_184, m0_185, m0_188, m0_189, m0_190, m0_193, m0_194, m0_195, m0_198, m1_0, m1_1, m1_2, m1_5, m1_6, m1_7, m1_8, m1_9, m1_12, m1_13, m1_14, m1_15, m28_11u, m28_13, m28_14, m28_15, m28_18, m28_19, m28_22, m28_23, m28_25, m28_28, m28_30, m28_33, m28_34u, m28_36, m28_37, m28_40, m28_41, m28_44, m28_45, m28_46, m28_49, m28_50, m28_53, m28_54u, nb0, nb1, ou_a, Option.toList_some, Option.toList_none, List.nil_append, List.cons_append]
      exact own_rest _ _ _ _ 8 1 (by decide) (by decide) (Or.inr rfl) _ (by simp [ou_a]) (by simp [ou_a]) (by simp [ou_a]) (by simp [ou_a]) (by simp [ou_a]) (fun s' A' h' => hQ s' A' _ _ h')
    have b3 : i1 = 0 ∨ i1 = 1 := by
      have e1 : (1 : Int32).toInt = 1 := rfl
      have c1 := nn_i.mp b1
      have c2 := b2
      rw [lt_i, e1] at c2
      have c3 : i1.toInt = 0 ∨ i1.toInt = 1 := by omega
      rcases c3 with q | q
      · exact Or.inl (Int32.toInt_inj.mp q)
      · exact Or.inr (Int32.toInt_inj.mp q)
    simp [a1, a2, b1, b2, m0_0, m0_1, m0_4, m0_5, m0_13, m0_14, m0_22, m0_23, m0_31, m0_32, m0_40, m0_41, m0_49, m0_50, m0_58, m0_59, m0_66, m0_67, m0_74, m0_75, m0_82, m0_83, m0_90, m0_91, m0_98, m0_99, m0_106, m0_107, m0_114, m0_115, m0_122, m0_123, m0_124, m0_125, m0_126, m0_128, m0_131, m0_134, m0_135, m0_136, m0_137, m0_138, m0_139, m0_142, m0_145, m0_146, m0_147, m0_148, m0_149, m0_150, m0_153, m0_156, m0_157, m0_158, m0_160, m0_161, m0_162, m0_165, m0_168, m0_169, m0_170, m0_173, m0_174, m0_175, m0_178, m0_179, m0_180, m0_183, m0_184, m0_185, m0_188, m0_189, m0_190, m0_193, m0_194, m0_195, m0_198, m1_0, m1_1, m1_2, m1_5, m1_6, m1_7, m1_8, m1_9, m1_12, m1_13, m1_14, m1_15, m28_11u, m28_13, m28_14, m28_15, m28_18, m28_19, m28_22, m28_23, m28_25, m28_28, m28_30, m28_33, m28_34u, m28_36, m28_37, m28_40, m28_41, m28_44, m28_45, m28_46, m28_49, m28_50, m28_53, m28_54u, nb0, nb1, ou_a, Option.toList_some, Option.toList_none, List.nil_append, List.cons_append]
    exact own_rest _ _ _ _ 8 i1 (by decide) (by decide) b3 _ (by simp [ou_a]) (by simp [ou_a]) (by simp [ou_a]) (by simp [ou_a]) (by simp [ou_a]) (fun s' A' h' => hQ s' A' _ _ h')
  have a3 : 2 ≤ i0.toInt := by have := a1; rw [lt_i, i_2] at this; omega
  have a4 : i0.toInt ≤ 8 := by have := a2; rw [lt_i, i_8] at this; omega
  by_cases b1 : i1 < 0
  · simp [a1, a2, b1, m0_0, m0_1, m0_4, m0_5, m0_13, m0_14, m0_22, m0_23, m0_31, m0_32, m0_40, m0_41, m0_49, m0_50, m0_58, m0_59, m0_66, m0_67, m0_74, m0_75, m0_82, m0_83, m0_90, m0_91, m0_98, m0_99, m0_106, m0_107, m0_114, m0_115, m0_122, m0_123, m0_124, m0_125, m0_126, m0_128, m0_131, m0_134, m0_135, m0_136, m0_137, m0_138, m0_139, m0_142, m0_145, m0_146, m0_147, m0_148, m0_149, m0_150, m0_153, m0_156, m0_157, m0_158, m0_160, m0_161, m0_162, m0_165, m0_168, m0_169, m0_170, m0_173, m0_174, m0_175, m0_178, m0_179, m0_180, m0_183, m0_184, m0_185, m0_188, m0_189, m0_190, m0_193, m0_194, m0_195, m0_198, m1_0, m1_1, m1_2, m1_5, m1_6, m1_7, m1_8, m1_9, m1_12, m1_13, m1_14, m1_15, m28_11u, m28_13, m28_14, m28_15, m28_18, m28_19, m28_22, m28_23, m28_25, m28_28, m28_30, m28_33, m28_34u, m28_36, m28_37, m28_40, m28_41, m28_44, m28_45, m28_46, m28_49, m28_50, m28_53, m28_54u, nb0, nb1, ou_a, Option.toList_some, Option.toList_none, List.nil_append, List.cons_append]
    exact own_rest _ _ _ _ i0 0 a3 a4 (Or.inl rfl) _ (by simp [ou_a]) (by simp [ou_a]) (by simp [ou_a]) (by simp [ou_a]) (by simp [ou_a]) (fun s' A' h' => hQ s' A' _ _ h')
  by_cases b2 : 1 < i1
  · simp [a1, a2, b1, b2, m0_0, m0_1, m0_4, m0_5, m0_13, m0_14, m0_22, m0_23, m0_31, m0_32, m0_40, m0_41, m0_49, m0_50, m0_58, m0_59, m0_66, m0_67, m0_74, m0_75, m0_82, m0_83, m0_90, m0_91, m0_98, m0_99, m0_106, m0_107, m0_114, m0_115, m0_122, m0_123, m0_124, m0_125, m0_126, m0_128, m0_131, m0_134, m0_135, m0_136, m0_137, m0_138, m0_139, m0_142, m0_145, m0_146, m0_147, m0_148, m0_149, m0_150, m0_153, m0_156, m0_157, m0_158, m0_160, m0_161, m0_162, m0_165, m0_168, m0_169, m0_170, m0_173, m0_174, m0_175, m0_178, m0_179, m0_180, m0_183, m0_184, m0_185, m0_188, m0_189, m0_190, m0_193, m0_194, m0_195, m0_198, m1_0, m1_1, m1_2, m1_5, m1_6, m1_7, m1_8, m1_9, m1_12, m1_13, m1_14, m1_15, m28_11u, m28_13, m28_14, m28_15, m28_18, m28_19, m28_22, m28_23, m28_25, m28_28, m28_30, m28_33, m28_34u, m28_36, m28_37, m28_40, m28_41, m28_44, m28_45, m28_46, m28_49, m28_50, m28_53, m28_54u, nb0, nb1, ou_a, Option.toList_some, Option.toList_none, List.nil_append, List.cons_append]
    exact own_rest _ _ _ _ i0 1 a3 a4 (Or.inr rfl) _ (by simp [ou_a]) (by simp [ou_a]) (by simp [ou_a]) (by simp [ou_a]) (by simp [ou_a]) (fun s' A' h' => hQ s' A' _ _ h')
  have b3 : i1 = 0 ∨ i1 = 1 := by
    have e1 : (1 : Int32).toInt = 1 := rfl
    have c1 := nn_i.mp b1
    have c2 := b2
    rw [lt_i, e1] at c2
    have c3 : i1.toInt = 0 ∨ i1.toInt = 1 := by omega
    rcases c3 with q | q
    · exact Or.inl (Int32.toInt_inj.mp q)
    · exact Or.inr (Int32.toInt_inj.mp q)
  simp [a1, a2, b1, b2, m0_0, m0_1, m0_4, m0_5, m0_13, m0_14, m0_22, m0_23, m0_31, m0_32, m0_40, m0_41, m0_49, m0_50, m0_58, m0_59, m0_66, m0_67, m0_74, m0_75, m0_82, m0_83, m0_90, m0_91, m0_98, m0_99, m0_106, m0_107, m0_114, m0_115, m0_122, m0_123, m0_124, m0_125, m0_126, m0_128, m0_131, m0_134, m0_135, m0_136, m0_137, m0_138, m0_139, m0_142, m0_145, m0_146, m0_147, m0_148, m0_149, m0_150, m0_153, m0_156, m0_157, m0_158, m0_160, m0_161, m0_162, m0_165, m0_168, m0_169, m0_170, m0_173, m0_174, m0_175, m0_178, m0_179, m0_180, m0_183, m0_184, m0_185, m0_188, m0_189, m0_190, m0_193, m0_194, m0_195, m0_198, m1_0, m1_1, m1_2, m1_5, m1_6, m1_7, m1_8, m1_9, m1_12, m1_13, m1_14, m1_15, m28_11u, m28_13, m28_14, m28_15, m28_18, m28_19, m28_22, m28_23, m28_25, m28_28, m28_30, m28_33, m28_34u, m28_36, m28_37, m28_40, m28_41, m28_44, m28_45, m28_46, m28_49, m28_50, m28_53, m28_54u, nb0, nb1, ou_a, Option.toList_some, Option.toList_none, List.nil_append, List.cons_append]
  exact own_rest _ _ _ _ i0 i1 a3 a4 b3 _ (by simp [ou_a]) (by simp [ou_a]) (by simp [ou_a]) (by simp [ou_a]) (by simp [ou_a]) (fun s' A' h' => hQ s' A' _ _ h')
set_option maxRecDepth 1000000 in
set_option maxHeartbeats 20000000 in
theorem own_law (i0 : Int32) (i1 : Int32) (i2 : Int32) (i3 : Int32) : W tables_1 dn 0 x code ret 0 (entry [.int i0, .int i1, .int i2, .int i3] maxLocals) [] [] (fun v H1 => v = some (.int 1) ∧ H1.length - ([] : AHeap).length ≤ 40 ∧ tot tables_1 H1 - tot tables_1 [] ≤ 35200) := by
  show M28 0 [.val (.int i0), .val (.int i1), .val (.int i2), .val (.int i3), .unset, .unset, .unset] [] [] _
  exact own_gen _ _ _ _ (fun s' A' L' B' h' => own_fin s' A' L' B' h')
theorem own_dn : ∀ f' l', dnOf dn x = some (f', l') → f' ≤ room_1.frames ∧ l' ≤ room_1.locals := by
  have h : dnOf dn x = some (8, 129) := by decide +kernel
  intro f' l' q; rw [h] at q; cases q; decide
theorem own_pn : Jvm.plainName x.cls = true := by first | (simp [Jvm.plainName, overriddenIn, x]; done) | decide +kernel
theorem own_rm (l : Launch) (Z : State) (a0 : Array Value) (hw : ∀ d ∈ tables_1, d.before a0 Z = true) (i0 : Int32) (i1 : Int32) (i2 : Int32) (i3 : Int32) (h : Heap) :
    MetFree l x (head1 (Jvm.Cond.code x code maxLocals ret :: tables_1) room_1) (fun a U => a = #[.int i0, .int i1, .int i2, .int i3] ∧ Z.Warmed39 U.vm ∧ U.heap = h) (fun _ _ _ _ _ => True) (fun _ U o U' => ∃ w L, o = .returned w ∧ (w = some (.int 1) ∧ Fr h.size L) ∧ FrameEnd U o U' L 40 35200) :=
  law_of (as := [.int i0, .int i1, .int i2, .int i3]) (mx := maxLocals) (f := room_1.frames) (lc := room_1.locals) hw l tables_1 own_pn (by show 4 ≤ 7; omega) (own_law i0 i1 i2 i3) own_dn (Sim.empty Z tables_1 h)
set_option maxRecDepth 65536 in
set_option maxHeartbeats 40000000 in
theorem comes_1 {Post : Tables → Env → Array Value → State → Outcome → State → Prop} (hpost : ∀ tb e args s v u, (limb_1_1.after args s (.returned v) u = true ∧ limb_1_2.after args s (.returned v) u = true ∧ True) → FrameEnd s (.returned v) u (Jvm.fieldLocs frame_1_writes args s ++ Jvm.arrayLocs frame_1_arrays args s ++ Jvm.staticLocs frame_1_statics s) 40 35200 → Post tb e args s (.returned v) u) :
    ArmFor flags0 classFile x code maxLocals ret World_1 tables_1 room_1 Calls_1 rest_1 Pre_1 Post := by
  intro l hfl _ _ p e ha hc hk s m args below hf hA hF happ hP
  obtain ⟨hcalls, hrest, hpre⟩ := hP
  obtain ⟨-, -, -, hnamed, -, -, -, hat⟩ := (Spec.applies_iff hf).mp happ
  obtain ⟨hg, hn⟩ := and_e (Cond.before_iff.mp (show (Jvm.Cond.and given_1 narrow_1).before args s = true from hpre))
  obtain ⟨g0, t0⟩ := and_e hg
  obtain ⟨q0, t1⟩ := and_e t0
  obtain ⟨q1, t2⟩ := and_e t1
  obtain ⟨q2, t3⟩ := and_e t2
  have q3 := t3
  obtain ⟨w0, w1, w2, w3, rfl⟩ : ∃ w0 w1 w2 w3 : Value, args = #[w0, w1, w2, w3] := by
    have hs : args.size = 4 := by simpa [Cond.value, given_1] using g0
    obtain ⟨L⟩ := args
    match L, hs with
    | [w0, w1, w2, w3], _ => exact ⟨w0, w1, w2, w3, rfl⟩
  have hw := fun d (hd : d ∈ tables_1) => atoms_spec (ws := Jvm.Cond.code x code maxLocals ret :: tables_1) hat d (List.mem_cons_of_mem _ hd)
  obtain ⟨i0, ei0⟩ := is_v q0
  obtain rfl : w0 = (.int i0) := Option.some.inj ei0
  obtain ⟨i1, ei1⟩ := is_v q1
  obtain rfl : w1 = (.int i1) := Option.some.inj ei1
  obtain ⟨i2, ei2⟩ := is_v q2
  obtain rfl : w2 = (.int i2) := Option.some.inj ei2
  obtain ⟨i3, ei3⟩ := is_v q3
  obtain rfl : w3 = (.int i3) := Option.some.inj ei3
  obtain ⟨n, o, h1, h2, h3, _, L, rfl, ⟨rfl, N⟩, hq⟩ := own_rm l s _ hw i0 i1 i2 i3 s.heap p e ha hc hk s m _ below hf ((Spec.applies_iff_loose hf).mp happ).1 ⟨rfl, State.Warmed39.refl s, rfl⟩ trivial
  exact ⟨n, _, h1, h2, h3, hpost _ _ _ _ _ _ ⟨Cond.after_iff.mpr rfl, Cond.after_iff.mpr (eq_i res_at (Term.int_eval (1)) rfl), trivial⟩ ⟨hq.1, hq.2.1, (hq.2.2.sift fun y hy => Or.inr (N y hy)).mono (by decide) (by decide)⟩⟩
theorem main_1_1 : Claimed_1_1 := comes_1 fun _ _ _ _ _ _ h hF => ⟨h.1, hF⟩
theorem main_1_2 : Claimed_1_2 := comes_1 fun _ _ _ _ _ _ h hF => ⟨h.2.1, hF⟩
end Jvm.Pilot.@@N@@
namespace Jvm.Pilot.@@N@@
open Jvm Jvm.ClassFile Sem Op Lib Jvm.Free Jvm.Stand Jvm.Pilot.@@N@@.Jvm.D
/-! MADE BY PROGRAM (witnessworld.py) out of the Statement's table words and the real class files: 9 classes; the members and pool entries that the words name. The judged class is class 1, her method 2. -/
namespace start1
open Jvm.ClassFile
def u (s : String) : CpInfo := .utf8 (stringToUtf16 s)
/-- a pool by its gaps: so many unusable entries, then the entry; so many at the end -/
def gap : Nat → List CpInfo → List CpInfo
  | 0, r => r
  | n + 1, r => .unusable :: gap n r
def poolList (es : List (Nat × CpInfo)) (last : Nat) : List CpInfo := es.foldr (fun e r => gap e.1 (e.2 :: r)) (gap last [])
def pool (es : List (Nat × CpInfo)) (last : Nat) : Array CpInfo := ⟨poolList es last⟩
def fileOf (pool : Array CpInfo) (this : Nat) (attrs : Array Attribute := #[]) (ms : Array MethodInfo := #[]) (fl : Nat := 33) (sup : Nat := 0) (ifs : Array Nat := #[]) (fds : Array FieldInfo := #[]) : ClassFile where
  minorVersion := 0
  majorVersion := 65
  constantPool := pool
  accessFlags := fl
  thisClass := this
  superClass := sup
  interfaces := ifs
  fields := fds
  methods := ms
  attributes := attrs
def plain (name : String) (sup : Option ClassId) : Class where
  name := name
  kind := .ordinary
  loader := none
  accessFlags := 33
  super := sup
  interfaces := #[]
  cf := none
  fields := #[]
  methods := #[]
  instanceTypes := #[]
  staticTypes := #[]
  resolved := #[]
  callSites := []
  init := .initialized
  statics := none
  mirror := none

def pool0 : Array CpInfo := pool [(5, u "<init>"), (0, u "()V"), (1, .class_ 10), (1, u "java/lang/Object")] 113

def k0c0 : Code := { maxStack := 0, maxLocals := 1, code := object_method_1_code, exceptionTable := #[], attributes := #[] }
def k0m0 : Method := { name := "<init>", desc := "()V", sig := { parameters := [], returnType := none }, accessFlags := 1, code := some k0c0 }
/-- java/lang/Object -/
def k0 : Class := { plain "java/lang/Object" none with
  accessFlags := 33
  interfaces := #[]
  cf := some (fileOf pool0 8 #[] #[{ accessFlags := 1, nameIndex := 5, descriptorIndex := 6, attributes := #[] }] 33 0 #[] #[])
  fields := #[]
  methods := #[k0m0]
  instanceTypes := #[]
  staticTypes := #[]
  resolved := Array.replicate 124 none
  statics := none }

def pool1 : Array CpInfo := pool [(2, .class_ 4), (1, u "java/lang/Object"), (0, u "<init>"), (0, u "()V"), (0, .class_ 8), (0, u "MultiplierGen"), (0, .methodref 7 10), (0, .nameAndType 5 11), (0, u "(IIII)V"), (0, .methodref 7 13), (0, .nameAndType 14 15), (0, u "setA"), (0, u "(I)I"), (0, .methodref 7 17), (0, .nameAndType 18 15), (0, u "getOperand"), (0, .methodref 7 20), (0, .nameAndType 21 22), (0, u "build"), (0, u "()I"), (0, .methodref 7 24), (0, .nameAndType 25 15), (0, u "setB"), (0, .methodref 27 28), (0, .class_ 29), (0, .nameAndType 30 31), (0, u "MultiplierGenL2"), (0, u "read"), (0, u "(III)I"), (3, u "law"), (0, u "(IIII)Z")] 2

def k1m0 : Method := { name := "<init>", desc := "()V", sig := { parameters := [], returnType := none }, accessFlags := 1, code := none }
def k1c1 : Code := { maxStack := 4, maxLocals := 4, code := method_2_code, exceptionTable := #[], attributes := #[] }
def k1m1 : Method := { name := "read", desc := "(III)I", sig := { parameters := [.int, .int, .int], returnType := some .int }, accessFlags := 10, code := some k1c1 }
def k1c2 : Code := { maxStack := 6, maxLocals := 7, code := code, exceptionTable := #[], attributes := #[] }
def k1m2 : Method := { name := "law", desc := "(IIII)Z", sig := { parameters := [.int, .int, .int, .int], returnType := some .boolean }, accessFlags := 9, code := some k1c2 }
/-- MultiplierGenL2 -/
def k1 : Class := { plain "MultiplierGenL2" (some 0) with
  accessFlags := 33
  interfaces := #[]
  cf := some (fileOf pool1 27 #[] #[{ accessFlags := 1, nameIndex := 5, descriptorIndex := 6, attributes := #[] }, { accessFlags := 10, nameIndex := 30, descriptorIndex := 31, attributes := #[] }, { accessFlags := 9, nameIndex := 35, descriptorIndex := 36, attributes := #[] }] 33 2 #[] #[])
  fields := #[]
  methods := #[k1m0, k1m1, k1m2]
  instanceTypes := #[]
  staticTypes := #[]
  resolved := Array.replicate 39 none
  statics := none }

def pool2 : Array CpInfo := pool [(1, .methodref 2 3), (0, .class_ 4), (0, .nameAndType 5 6), (0, u "java/lang/Object"), (0, u "<init>"), (0, u "()V"), (0, .fieldref 8 9), (0, .class_ 10), (0, .nameAndType 11 12), (0, u "MultiplierGen"), (0, u "gOp"), (0, u "[B"), (0, .fieldref 8 14), (0, .nameAndType 15 16), (0, u "gIn1"), (0, u "[I"), (0, .fieldref 8 18), (0, .nameAndType 19 16), (0, u "gIn2"), (0, .fieldref 8 21), (0, .nameAndType 22 12), (0, u "gVal"), (0, .fieldref 8 24), (0, .nameAndType 25 16), (0, u "colCur"), (0, .fieldref 8 27), (0, .nameAndType 28 16), (0, u "colNxt"), (0, .fieldref 8 30), (0, .nameAndType 31 16), (0, u "cntCur"), (0, .fieldref 8 33), (0, .nameAndType 34 16), (0, u "cntNxt"), (0, .fieldref 8 36), (0, .nameAndType 37 16), (0, u "gen"), (0, .fieldref 8 39), (0, .nameAndType 40 16), (0, u "prop"), (0, .fieldref 8 42), (0, .nameAndType 43 16), (0, u "pOrig"), (0, .fieldref 8 45), (0, .nameAndType 46 16), (0, u "outNode"), (0, .fieldref 8 48), (0, .nameAndType 49 16), (0, u "aNode"), (0, .fieldref 8 51), (0, .nameAndType 52 16), (0, u "bNode"), (0, .methodref 8 54), (0, .nameAndType 55 56), (0, u "clamp"), (0, u "(III)I"), (0, .fieldref 8 58), (0, .nameAndType 59 60), (0, u "pWidth"), (0, u "I"), (0, .fieldref 8 62), (0, .nameAndType 63 60), (0, u "pMode"), (0, .fieldref 8 65), (0, .nameAndType 66 60), (0, u "pBooth"), (0, .fieldref 8 68), (0, .nameAndType 69 60), (0, u "pAdder"), (0, .fieldref 8 71), (0, .nameAndType 72 73), (0, u "built"), (0, u "Z"), (0, .fieldref 8 75), (0, .nameAndType 76 60), (0, u "regA"), (0, .fieldref 8 78), (0, .nameAndType 79 60), (0, u "regB"), (0, .fieldref 8 81), (0, .nameAndType 82 60), (0, u "lastOut"), (0, .fieldref 8 84), (0, .nameAndType 85 60), (0, u "evalCount"), (0, .fieldref 8 87), (0, .nameAndType 88 89), (0, u "acc"), (0, u "J"), (0, .fieldref 8 91), (0, .nameAndType 92 60), (0, u "bWidth"), (0, .fieldref 8 94), (0, .nameAndType 95 60), (0, u "bMode"), (0, .fieldref 8 97), (0, .nameAndType 98 60), (0, u "bBooth"), (0, .fieldref 8 100), (0, .nameAndType 101 60), (0, u "bAdder"), (0, .methodref 8 103), (0, .nameAndType 104 6), (0, u "buildNetlist"), (0, .methodref 8 106), (0, .nameAndType 107 108), (0, u "readPattern"), (0, u "(II)I"), (6, u "()I"), (0, .fieldref 8 117), (0, .nameAndType 118 60), (0, u "gCount"), (0, .methodref 8 120), (0, .nameAndType 121 56), (0, u "newGate"), (3, u "(I)I"), (0, .fieldref 8 127), (0, .nameAndType 128 60), (0, u "nOut"), (3, u "(I)V"), (0, .methodref 8 134), (0, .nameAndType 135 6), (0, u "buildSimple"), (0, .methodref 8 137), (0, .nameAndType 138 6), (0, u "reduceAll"), (0, .methodref 8 140), (0, .nameAndType 141 6), (0, u "finalAdder"), (0, .methodref 8 143), (0, .nameAndType 144 125), (0, u "bExt"), (0, .methodref 8 146), (0, .nameAndType 147 125), (0, u "aExt"), (0, .methodref 8 149), (0, .nameAndType 150 108), (0, u "mkAnd"), (0, .methodref 8 152), (0, .nameAndType 153 154), (0, u "pushCur"), (0, u "(II)V"), (0, .methodref 8 156), (0, .nameAndType 157 108), (0, u "mkXor"), (0, .methodref 8 159), (0, .nameAndType 160 108), (0, u "mkOr"), (0, .methodref 8 162), (0, .nameAndType 163 125), (0, u "daddaTarget"), (0, .methodref 8 165), (0, .nameAndType 166 132), (0, u "reduceStage"), (0, .methodref 8 168), (0, .nameAndType 169 154), (0, u "reduceColumn"), (0, .methodref 8 171), (0, .nameAndType 172 154), (0, u "fullAdder"), (0, .methodref 8 174), (0, .nameAndType 175 154), (0, u "halfAdder"), (0, .methodref 8 177), (0, .nameAndType 178 154), (0, u "pushNxt"), (6, .methodref 8 186), (0, .nameAndType 187 6), (0, u "sparseCarries"), (0, .methodref 8 189), (0, .nameAndType 190 154), (0, u "combineG"), (0, .methodref 8 192), (0, .nameAndType 193 154), (0, u "combineGP"), (3, u "OK"), (2, u "ERR_NOT_BUILT"), (1, u "ERR_RANGE"), (1, u "MODE_UNSIGNED"), (0, u "MODE_SIGNED"), (1, u "ADDER_SPARSE"), (0, u "ADDER_LOG"), (0, u "ADDER_RIPPLE"), (1, u "MIN_WIDTH"), (0, u "MAX_WIDTH"), (1, u "(IIII)V"), (7, u "build"), (0, u "setA"), (0, u "setB"), (0, u "getOperand")] 10

def k2c0 : Code := { maxStack := 5, maxLocals := 5, code := prog_1_method_1_code, exceptionTable := #[], attributes := #[] }
def k2m0 : Method := { name := "<init>", desc := "(IIII)V", sig := { parameters := [.int, .int, .int, .int], returnType := none }, accessFlags := 1, code := some k2c0 }
def k2c1 : Code := { maxStack := 2, maxLocals := 1, code := prog_1_method_6_code, exceptionTable := #[], attributes := #[] }
def k2m1 : Method := { name := "build", desc := "()I", sig := { parameters := [], returnType := some .int }, accessFlags := 1, code := some k2c1 }
def k2c2 : Code := { maxStack := 4, maxLocals := 2, code := prog_1_method_7_code, exceptionTable := #[], attributes := #[] }
def k2m2 : Method := { name := "setA", desc := "(I)I", sig := { parameters := [.int], returnType := some .int }, accessFlags := 1, code := some k2c2 }
def k2c3 : Code := { maxStack := 4, maxLocals := 2, code := prog_1_method_8_code, exceptionTable := #[], attributes := #[] }
def k2m3 : Method := { name := "setB", desc := "(I)I", sig := { parameters := [.int], returnType := some .int }, accessFlags := 1, code := some k2c3 }
def k2c4 : Code := { maxStack := 3, maxLocals := 2, code := prog_1_method_9_code, exceptionTable := #[], attributes := #[] }
def k2m4 : Method := { name := "getOperand", desc := "(I)I", sig := { parameters := [.int], returnType := some .int }, accessFlags := 1, code := some k2c4 }
def k2c5 : Code := { maxStack := 2, maxLocals := 4, code := prog_1_method_18_code, exceptionTable := #[], attributes := #[] }
def k2m5 : Method := { name := "clamp", desc := "(III)I", sig := { parameters := [.int, .int, .int], returnType := some .int }, accessFlags := 2, code := some k2c5 }
def k2c6 : Code := { maxStack := 3, maxLocals := 3, code := prog_1_method_19_code, exceptionTable := #[], attributes := #[] }
def k2m6 : Method := { name := "readPattern", desc := "(II)I", sig := { parameters := [.int, .int], returnType := some .int }, accessFlags := 2, code := some k2c6 }
def k2c7 : Code := { maxStack := 3, maxLocals := 5, code := prog_1_method_20_code, exceptionTable := #[], attributes := #[] }
def k2m7 : Method := { name := "newGate", desc := "(III)I", sig := { parameters := [.int, .int, .int], returnType := some .int }, accessFlags := 2, code := some k2c7 }
def k2c8 : Code := { maxStack := 4, maxLocals := 3, code := prog_1_method_22_code, exceptionTable := #[], attributes := #[] }
def k2m8 : Method := { name := "mkAnd", desc := "(II)I", sig := { parameters := [.int, .int], returnType := some .int }, accessFlags := 2, code := some k2c8 }
def k2c9 : Code := { maxStack := 4, maxLocals := 3, code := prog_1_method_23_code, exceptionTable := #[], attributes := #[] }
def k2m9 : Method := { name := "mkOr", desc := "(II)I", sig := { parameters := [.int, .int], returnType := some .int }, accessFlags := 2, code := some k2c9 }
def k2c10 : Code := { maxStack := 4, maxLocals := 3, code := prog_1_method_24_code, exceptionTable := #[], attributes := #[] }
def k2m10 : Method := { name := "mkXor", desc := "(II)I", sig := { parameters := [.int, .int], returnType := some .int }, accessFlags := 2, code := some k2c10 }
def k2c11 : Code := { maxStack := 3, maxLocals := 2, code := prog_1_method_25_code, exceptionTable := #[], attributes := #[] }
def k2m11 : Method := { name := "aExt", desc := "(I)I", sig := { parameters := [.int], returnType := some .int }, accessFlags := 2, code := some k2c11 }
def k2c12 : Code := { maxStack := 3, maxLocals := 2, code := prog_1_method_26_code, exceptionTable := #[], attributes := #[] }
def k2m12 : Method := { name := "bExt", desc := "(I)I", sig := { parameters := [.int], returnType := some .int }, accessFlags := 2, code := some k2c12 }
def k2c13 : Code := { maxStack := 4, maxLocals := 4, code := prog_1_method_27_code, exceptionTable := #[], attributes := #[] }
def k2m13 : Method := { name := "pushCur", desc := "(II)V", sig := { parameters := [.int, .int], returnType := none }, accessFlags := 2, code := some k2c13 }
def k2c14 : Code := { maxStack := 4, maxLocals := 4, code := prog_1_method_28_code, exceptionTable := #[], attributes := #[] }
def k2m14 : Method := { name := "pushNxt", desc := "(II)V", sig := { parameters := [.int, .int], returnType := none }, accessFlags := 2, code := some k2c14 }
def k2c15 : Code := { maxStack := 6, maxLocals := 3, code := prog_1_method_29_code, exceptionTable := #[], attributes := #[] }
def k2m15 : Method := { name := "buildNetlist", desc := "()V", sig := { parameters := [], returnType := none }, accessFlags := 2, code := some k2c15 }
def k2c16 : Code := { maxStack := 3, maxLocals := 6, code := prog_1_method_30_code, exceptionTable := #[], attributes := #[] }
def k2m16 : Method := { name := "buildSimple", desc := "()V", sig := { parameters := [], returnType := none }, accessFlags := 2, code := some k2c16 }
def k2c17 : Code := { maxStack := 2, maxLocals := 4, code := prog_1_method_32_code, exceptionTable := #[], attributes := #[] }
def k2m17 : Method := { name := "reduceAll", desc := "()V", sig := { parameters := [], returnType := none }, accessFlags := 2, code := some k2c17 }
def k2c18 : Code := { maxStack := 3, maxLocals := 5, code := prog_1_method_33_code, exceptionTable := #[], attributes := #[] }
def k2m18 : Method := { name := "daddaTarget", desc := "(I)I", sig := { parameters := [.int], returnType := some .int }, accessFlags := 2, code := some k2c18 }
def k2c19 : Code := { maxStack := 5, maxLocals := 5, code := prog_1_method_34_code, exceptionTable := #[], attributes := #[] }
def k2m19 : Method := { name := "reduceStage", desc := "(I)V", sig := { parameters := [.int], returnType := none }, accessFlags := 2, code := some k2c19 }
def k2c20 : Code := { maxStack := 5, maxLocals := 8, code := prog_1_method_35_code, exceptionTable := #[], attributes := #[] }
def k2m20 : Method := { name := "reduceColumn", desc := "(II)V", sig := { parameters := [.int, .int], returnType := none }, accessFlags := 2, code := some k2c20 }
def k2c21 : Code := { maxStack := 3, maxLocals := 12, code := prog_1_method_36_code, exceptionTable := #[], attributes := #[] }
def k2m21 : Method := { name := "fullAdder", desc := "(II)V", sig := { parameters := [.int, .int], returnType := none }, accessFlags := 2, code := some k2c21 }
def k2c22 : Code := { maxStack := 3, maxLocals := 8, code := prog_1_method_37_code, exceptionTable := #[], attributes := #[] }
def k2m22 : Method := { name := "halfAdder", desc := "(II)V", sig := { parameters := [.int, .int], returnType := none }, accessFlags := 2, code := some k2c22 }
def k2c23 : Code := { maxStack := 7, maxLocals := 5, code := prog_1_method_38_code, exceptionTable := #[], attributes := #[] }
def k2m23 : Method := { name := "finalAdder", desc := "()V", sig := { parameters := [], returnType := none }, accessFlags := 2, code := some k2c23 }
def k2c24 : Code := { maxStack := 5, maxLocals := 4, code := prog_1_method_39_code, exceptionTable := #[], attributes := #[] }
def k2m24 : Method := { name := "combineG", desc := "(II)V", sig := { parameters := [.int, .int], returnType := none }, accessFlags := 2, code := some k2c24 }
def k2c25 : Code := { maxStack := 6, maxLocals := 3, code := prog_1_method_40_code, exceptionTable := #[], attributes := #[] }
def k2m25 : Method := { name := "combineGP", desc := "(II)V", sig := { parameters := [.int, .int], returnType := none }, accessFlags := 2, code := some k2c25 }
def k2c26 : Code := { maxStack := 4, maxLocals := 4, code := prog_1_method_43_code, exceptionTable := #[], attributes := #[] }
def k2m26 : Method := { name := "sparseCarries", desc := "()V", sig := { parameters := [], returnType := none }, accessFlags := 2, code := some k2c26 }
/-- MultiplierGen -/
def k2 : Class := { plain "MultiplierGen" (some 0) with
  accessFlags := 49
  interfaces := #[]
  cf := some (fileOf pool2 8 #[] #[{ accessFlags := 1, nameIndex := 5, descriptorIndex := 214, attributes := #[] }, { accessFlags := 1, nameIndex := 222, descriptorIndex := 115, attributes := #[] }, { accessFlags := 1, nameIndex := 223, descriptorIndex := 125, attributes := #[] }, { accessFlags := 1, nameIndex := 224, descriptorIndex := 125, attributes := #[] }, { accessFlags := 1, nameIndex := 225, descriptorIndex := 125, attributes := #[] }, { accessFlags := 2, nameIndex := 55, descriptorIndex := 56, attributes := #[] }, { accessFlags := 2, nameIndex := 107, descriptorIndex := 108, attributes := #[] }, { accessFlags := 2, nameIndex := 121, descriptorIndex := 56, attributes := #[] }, { accessFlags := 2, nameIndex := 150, descriptorIndex := 108, attributes := #[] }, { accessFlags := 2, nameIndex := 160, descriptorIndex := 108, attributes := #[] }, { accessFlags := 2, nameIndex := 157, descriptorIndex := 108, attributes := #[] }, { accessFlags := 2, nameIndex := 147, descriptorIndex := 125, attributes := #[] }, { accessFlags := 2, nameIndex := 144, descriptorIndex := 125, attributes := #[] }, { accessFlags := 2, nameIndex := 153, descriptorIndex := 154, attributes := #[] }, { accessFlags := 2, nameIndex := 178, descriptorIndex := 154, attributes := #[] }, { accessFlags := 2, nameIndex := 104, descriptorIndex := 6, attributes := #[] }, { accessFlags := 2, nameIndex := 135, descriptorIndex := 6, attributes := #[] }, { accessFlags := 2, nameIndex := 138, descriptorIndex := 6, attributes := #[] }, { accessFlags := 2, nameIndex := 163, descriptorIndex := 125, attributes := #[] }, { accessFlags := 2, nameIndex := 166, descriptorIndex := 132, attributes := #[] }, { accessFlags := 2, nameIndex := 169, descriptorIndex := 154, attributes := #[] }, { accessFlags := 2, nameIndex := 172, descriptorIndex := 154, attributes := #[] }, { accessFlags := 2, nameIndex := 175, descriptorIndex := 154, attributes := #[] }, { accessFlags := 2, nameIndex := 141, descriptorIndex := 6, attributes := #[] }, { accessFlags := 2, nameIndex := 190, descriptorIndex := 154, attributes := #[] }, { accessFlags := 2, nameIndex := 193, descriptorIndex := 154, attributes := #[] }, { accessFlags := 2, nameIndex := 187, descriptorIndex := 6, attributes := #[] }] 49 2 #[] #[{ accessFlags := 25, nameIndex := 197, descriptorIndex := 60, attributes := #[] }, { accessFlags := 25, nameIndex := 200, descriptorIndex := 60, attributes := #[] }, { accessFlags := 25, nameIndex := 202, descriptorIndex := 60, attributes := #[] }, { accessFlags := 25, nameIndex := 204, descriptorIndex := 60, attributes := #[] }, { accessFlags := 25, nameIndex := 205, descriptorIndex := 60, attributes := #[] }, { accessFlags := 25, nameIndex := 207, descriptorIndex := 60, attributes := #[] }, { accessFlags := 25, nameIndex := 208, descriptorIndex := 60, attributes := #[] }, { accessFlags := 25, nameIndex := 209, descriptorIndex := 60, attributes := #[] }, { accessFlags := 25, nameIndex := 211, descriptorIndex := 60, attributes := #[] }, { accessFlags := 25, nameIndex := 212, descriptorIndex := 60, attributes := #[] }, { accessFlags := 2, nameIndex := 59, descriptorIndex := 60, attributes := #[] }, { accessFlags := 2, nameIndex := 63, descriptorIndex := 60, attributes := #[] }, { accessFlags := 2, nameIndex := 66, descriptorIndex := 60, attributes := #[] }, { accessFlags := 2, nameIndex := 69, descriptorIndex := 60, attributes := #[] }, { accessFlags := 2, nameIndex := 92, descriptorIndex := 60, attributes := #[] }, { accessFlags := 2, nameIndex := 95, descriptorIndex := 60, attributes := #[] }, { accessFlags := 2, nameIndex := 98, descriptorIndex := 60, attributes := #[] }, { accessFlags := 2, nameIndex := 101, descriptorIndex := 60, attributes := #[] }, { accessFlags := 2, nameIndex := 72, descriptorIndex := 73, attributes := #[] }, { accessFlags := 2, nameIndex := 76, descriptorIndex := 60, attributes := #[] }, { accessFlags := 2, nameIndex := 79, descriptorIndex := 60, attributes := #[] }, { accessFlags := 2, nameIndex := 82, descriptorIndex := 60, attributes := #[] }, { accessFlags := 2, nameIndex := 85, descriptorIndex := 60, attributes := #[] }, { accessFlags := 2, nameIndex := 88, descriptorIndex := 89, attributes := #[] }, { accessFlags := 2, nameIndex := 11, descriptorIndex := 12, attributes := #[] }, { accessFlags := 2, nameIndex := 15, descriptorIndex := 16, attributes := #[] }, { accessFlags := 2, nameIndex := 19, descriptorIndex := 16, attributes := #[] }, { accessFlags := 2, nameIndex := 22, descriptorIndex := 12, attributes := #[] }, { accessFlags := 2, nameIndex := 118, descriptorIndex := 60, attributes := #[] }, { accessFlags := 2, nameIndex := 25, descriptorIndex := 16, attributes := #[] }, { accessFlags := 2, nameIndex := 28, descriptorIndex := 16, attributes := #[] }, { accessFlags := 2, nameIndex := 31, descriptorIndex := 16, attributes := #[] }, { accessFlags := 2, nameIndex := 34, descriptorIndex := 16, attributes := #[] }, { accessFlags := 2, nameIndex := 37, descriptorIndex := 16, attributes := #[] }, { accessFlags := 2, nameIndex := 40, descriptorIndex := 16, attributes := #[] }, { accessFlags := 2, nameIndex := 43, descriptorIndex := 16, attributes := #[] }, { accessFlags := 2, nameIndex := 46, descriptorIndex := 16, attributes := #[] }, { accessFlags := 2, nameIndex := 49, descriptorIndex := 16, attributes := #[] }, { accessFlags := 2, nameIndex := 52, descriptorIndex := 16, attributes := #[] }, { accessFlags := 2, nameIndex := 128, descriptorIndex := 60, attributes := #[] }])
  fields := #[{ name := "OK", type := .int, accessFlags := 25, slot := 0, constantValue := 0 }, { name := "ERR_NOT_BUILT", type := .int, accessFlags := 25, slot := 1, constantValue := 0 }, { name := "ERR_RANGE", type := .int, accessFlags := 25, slot := 2, constantValue := 0 }, { name := "MODE_UNSIGNED", type := .int, accessFlags := 25, slot := 3, constantValue := 0 }, { name := "MODE_SIGNED", type := .int, accessFlags := 25, slot := 4, constantValue := 0 }, { name := "ADDER_SPARSE", type := .int, accessFlags := 25, slot := 5, constantValue := 0 }, { name := "ADDER_LOG", type := .int, accessFlags := 25, slot := 6, constantValue := 0 }, { name := "ADDER_RIPPLE", type := .int, accessFlags := 25, slot := 7, constantValue := 0 }, { name := "MIN_WIDTH", type := .int, accessFlags := 25, slot := 8, constantValue := 0 }, { name := "MAX_WIDTH", type := .int, accessFlags := 25, slot := 9, constantValue := 0 }, { name := "pWidth", type := .int, accessFlags := 2, slot := 0, constantValue := 0 }, { name := "pMode", type := .int, accessFlags := 2, slot := 1, constantValue := 0 }, { name := "pBooth", type := .int, accessFlags := 2, slot := 2, constantValue := 0 }, { name := "pAdder", type := .int, accessFlags := 2, slot := 3, constantValue := 0 }, { name := "bWidth", type := .int, accessFlags := 2, slot := 4, constantValue := 0 }, { name := "bMode", type := .int, accessFlags := 2, slot := 5, constantValue := 0 }, { name := "bBooth", type := .int, accessFlags := 2, slot := 6, constantValue := 0 }, { name := "bAdder", type := .int, accessFlags := 2, slot := 7, constantValue := 0 }, { name := "built", type := .boolean, accessFlags := 2, slot := 8, constantValue := 0 }, { name := "regA", type := .int, accessFlags := 2, slot := 9, constantValue := 0 }, { name := "regB", type := .int, accessFlags := 2, slot := 10, constantValue := 0 }, { name := "lastOut", type := .int, accessFlags := 2, slot := 11, constantValue := 0 }, { name := "evalCount", type := .int, accessFlags := 2, slot := 12, constantValue := 0 }, { name := "acc", type := .long, accessFlags := 2, slot := 13, constantValue := 0 }, { name := "gOp", type := (.array .byte), accessFlags := 2, slot := 14, constantValue := 0 }, { name := "gIn1", type := (.array .int), accessFlags := 2, slot := 15, constantValue := 0 }, { name := "gIn2", type := (.array .int), accessFlags := 2, slot := 16, constantValue := 0 }, { name := "gVal", type := (.array .byte), accessFlags := 2, slot := 17, constantValue := 0 }, { name := "gCount", type := .int, accessFlags := 2, slot := 18, constantValue := 0 }, { name := "colCur", type := (.array .int), accessFlags := 2, slot := 19, constantValue := 0 }, { name := "colNxt", type := (.array .int), accessFlags := 2, slot := 20, constantValue := 0 }, { name := "cntCur", type := (.array .int), accessFlags := 2, slot := 21, constantValue := 0 }, { name := "cntNxt", type := (.array .int), accessFlags := 2, slot := 22, constantValue := 0 }, { name := "gen", type := (.array .int), accessFlags := 2, slot := 23, constantValue := 0 }, { name := "prop", type := (.array .int), accessFlags := 2, slot := 24, constantValue := 0 }, { name := "pOrig", type := (.array .int), accessFlags := 2, slot := 25, constantValue := 0 }, { name := "outNode", type := (.array .int), accessFlags := 2, slot := 26, constantValue := 0 }, { name := "aNode", type := (.array .int), accessFlags := 2, slot := 27, constantValue := 0 }, { name := "bNode", type := (.array .int), accessFlags := 2, slot := 28, constantValue := 0 }, { name := "nOut", type := .int, accessFlags := 2, slot := 29, constantValue := 0 }]
  methods := #[k2m0, k2m1, k2m2, k2m3, k2m4, k2m5, k2m6, k2m7, k2m8, k2m9, k2m10, k2m11, k2m12, k2m13, k2m14, k2m15, k2m16, k2m17, k2m18, k2m19, k2m20, k2m21, k2m22, k2m23, k2m24, k2m25, k2m26]
  instanceTypes := #[.int, .int, .int, .int, .int, .int, .int, .int, .boolean, .int, .int, .int, .int, .long, (.array .byte), (.array .int), (.array .int), (.array .byte), .int, (.array .int), (.array .int), (.array .int), (.array .int), (.array .int), (.array .int), (.array .int), (.array .int), (.array .int), (.array .int), .int]
  staticTypes := #[.int, .int, .int, .int, .int, .int, .int, .int, .int, .int]
  resolved := Array.replicate 236 none
  statics := none }

def pool3 : Array CpInfo := pool [(1, u "java/lang/Cloneable"), (0, .class_ 1), (0, u "java/lang/Object"), (0, .class_ 3)] 3

/-- java/lang/Cloneable -/
def k3 : Class := { plain "java/lang/Cloneable" (some 0) with
  accessFlags := 1537
  interfaces := #[]
  cf := some (fileOf pool3 2 #[] #[] 1537 4 #[] #[])
  fields := #[]
  methods := #[]
  instanceTypes := #[]
  staticTypes := #[]
  resolved := Array.replicate 8 none
  statics := none }

def pool4 : Array CpInfo := pool [(1, u "java/io/Serializable"), (0, .class_ 1), (0, u "java/lang/Object"), (0, .class_ 3)] 3

/-- java/io/Serializable -/
def k4 : Class := { plain "java/io/Serializable" (some 0) with
  accessFlags := 1537
  interfaces := #[]
  cf := some (fileOf pool4 2 #[] #[] 1537 4 #[] #[])
  fields := #[]
  methods := #[]
  instanceTypes := #[]
  staticTypes := #[]
  resolved := Array.replicate 8 none
  statics := none }

/-- the primitive byte -/
def k5 : Class := { plain "byte" none with kind := .primitive 'B', accessFlags := 0x411 }
/-- [B -/
def k6 : Class := { plain "[B" (some 0) with kind := .array 5 .byte, interfaces := #[3, 4], accessFlags := 1041 }

/-- the primitive int -/
def k7 : Class := { plain "int" none with kind := .primitive 'I', accessFlags := 0x411 }
/-- [I -/
def k8 : Class := { plain "[I" (some 0) with kind := .array 7 .int, interfaces := #[3, 4], accessFlags := 1041 }

def heap : Heap := #[]
def classes : Array Class := #[k0, k1, k2, k3, k4, k5, k6, k7, k8]
def interned : List (Array UInt16 × Addr) := []
def slotsUsed : Nat := 0
def theMethod : MethodId := ⟨1, 2⟩
def args0 : Array Value := #[.int 5, .int 1, .int 77, .int 3]
def aboutOver (below : List Frame) : State where
  vm := { classes := classes, interned := interned.toArray }
  heap := heap
  slotsUsed := slotsUsed
  threads := #[{ frames := .invoking theMethod args0 :: below }]
def below0 : List Frame := [.native { method := ⟨0, 0⟩, args := #[] }]
def about1 : State := aboutOver below0
def p0 : Program := .bare "" "" ""
def e0 : Env := launch0.env 0 0 0
theorem w_frames : about1.frames = Frame.invoking theMethod args0 :: below0 := rfl
set_option maxRecDepth 65536 in
theorem w_args : argsFit about1.vm theMethod args0 = true := by decide +kernel
set_option maxRecDepth 65536 in
theorem w_heap : heapFits about1 = true := by decide +kernel
set_option maxRecDepth 65536 in
theorem w_runnable : about1.curStatus? = some .runnable := by decide +kernel
set_option maxRecDepth 65536 in
theorem w_alone : about1.alone = true := by decide +kernel
set_option maxRecDepth 65536 in
theorem w_named : about1.methodNamed? x = some theMethod := by decide +kernel
set_option maxRecDepth 65536 in
theorem w_hears : about1.hears theMethod below0 = true := by decide +kernel
set_option maxRecDepth 65536 in
theorem w_ripe : about1.ripe theMethod args0 below0 = true := by decide +kernel
theorem w_running : about1.status = .running := rfl
set_option maxRecDepth 65536 in
theorem w_room : about1.hasRoom e0.platform room_1 = true :=
  launch0.hasRoom_least _ room_1 (by decide +kernel) (by decide +kernel) (by decide +kernel) (by decide +kernel) (by decide +kernel) (by decide +kernel)
theorem allAtoms_all (ts : List Jvm.Cond) (a : Array Jvm.Value) (st : Jvm.State) : (allAtoms ts).before a st = ts.all (fun c => c.before a st) := by
  induction ts with
  | nil => rfl
  | cons c t ih =>
    show (Jvm.Cond.and c (allAtoms t)).before a st = _
    rw [Jvm.Cond.before_and, ih, List.all_cons]
def words1 : List Jvm.Cond := Jvm.Cond.code x code maxLocals ret :: tables_1
/-- a 'code' word, met by the world's own term for the bytes: nothing is compared byte by byte -/
theorem code_word {y : MethodName} {bytes : ByteArray} {mx : Nat} {rt : Option FieldType} {a : Array Value} {s : State} {m : MethodId} {meth : Method} {c : Code} (h1 : s.methodNamed? y = some m) (h2 : s.vm.method? m = some meth) (h3 : meth.code = some c) (h4 : c.code = bytes)
    (h5 : (c.maxLocals == mx && c.exceptionTable.isEmpty && decide (c.maxStack ≤ mostOperands) && decide (meth.sig.returnType = rt) && !meth.locks && decide (parseMethodDescriptor y.desc = some meth.sig)) = true) : (Jvm.Cond.code y bytes mx rt).before a s = true := by
  simp only [Bool.and_eq_true, beq_iff_eq, Bool.not_eq_true', decide_eq_true_eq] at h5
  obtain ⟨⟨⟨⟨⟨g1, g2⟩, g3⟩, g4⟩, g5⟩, g6⟩ := h5
  simp [Cond.before, Cond.holds, Cond.value, h1, h2, h3, h4, g1, g2, g3, g4, g5, g6]
def isCode : Jvm.Cond → Bool
  | .code _ _ _ _ => true
  | _ => false
theorem all_split {L : List Jvm.Cond} {P : Jvm.Cond → Bool} (h1 : L.all (fun c => isCode c || P c) = true) (h2 : ∀ c ∈ L.filter isCode, P c = true) : L.all P = true := by
  refine List.all_eq_true.mpr fun c hc => ?_
  have h := List.all_eq_true.mp h1 c hc
  rcases Bool.eq_false_or_eq_true (isCode c) with hi | hi
  · exact h2 c (List.mem_filter.mpr ⟨hc, hi⟩)
  · simpa [hi] using h
set_option maxRecDepth 65536 in
theorem w_c0 : (Jvm.Cond.code x code maxLocals ret).before args0 about1 = true := code_word (m := ⟨1, 2⟩) (meth := k1m2) (c := k1c2) (by decide +kernel) rfl rfl rfl (by decide +kernel)
set_option maxRecDepth 65536 in
theorem w_c1 : (Jvm.Cond.code ({ cls := "MultiplierGen", name := "<init>", desc := "(IIII)V" } : Jvm.MethodName) prog_1_method_1_code (5 : Nat) (Option.none : Option Jvm.ClassFile.FieldType)).before args0 about1 = true := code_word (m := ⟨2, 0⟩) (meth := k2m0) (c := k2c0) (by decide +kernel) rfl rfl rfl (by decide +kernel)
set_option maxRecDepth 65536 in
theorem w_c2 : (Jvm.Cond.code ({ cls := "java/lang/Object", name := "<init>", desc := "()V" } : Jvm.MethodName) object_method_1_code (1 : Nat) (Option.none : Option Jvm.ClassFile.FieldType)).before args0 about1 = true := code_word (m := ⟨0, 0⟩) (meth := k0m0) (c := k0c0) (by decide +kernel) rfl rfl rfl (by decide +kernel)
set_option maxRecDepth 65536 in
theorem w_c3 : (Jvm.Cond.code ({ cls := "MultiplierGen", name := "clamp", desc := "(III)I" } : Jvm.MethodName) prog_1_method_18_code (4 : Nat) (Option.some Jvm.ClassFile.FieldType.int)).before args0 about1 = true := code_word (m := ⟨2, 5⟩) (meth := k2m5) (c := k2c5) (by decide +kernel) rfl rfl rfl (by decide +kernel)
set_option maxRecDepth 65536 in
theorem w_c4 : (Jvm.Cond.code ({ cls := "MultiplierGen", name := "setA", desc := "(I)I" } : Jvm.MethodName) prog_1_method_7_code (2 : Nat) (Option.some Jvm.ClassFile.FieldType.int)).before args0 about1 = true := code_word (m := ⟨2, 2⟩) (meth := k2m2) (c := k2c2) (by decide +kernel) rfl rfl rfl (by decide +kernel)
set_option maxRecDepth 65536 in
theorem w_c5 : (Jvm.Cond.code ({ cls := "MultiplierGen", name := "getOperand", desc := "(I)I" } : Jvm.MethodName) prog_1_method_9_code (2 : Nat) (Option.some Jvm.ClassFile.FieldType.int)).before args0 about1 = true := code_word (m := ⟨2, 4⟩) (meth := k2m4) (c := k2c4) (by decide +kernel) rfl rfl rfl (by decide +kernel)
set_option maxRecDepth 65536 in
theorem w_c6 : (Jvm.Cond.code ({ cls := "MultiplierGen", name := "build", desc := "()I" } : Jvm.MethodName) prog_1_method_6_code (1 : Nat) (Option.some Jvm.ClassFile.FieldType.int)).before args0 about1 = true := code_word (m := ⟨2, 1⟩) (meth := k2m1) (c := k2c1) (by decide +kernel) rfl rfl rfl (by decide +kernel)
set_option maxRecDepth 65536 in
theorem w_c7 : (Jvm.Cond.code ({ cls := "MultiplierGen", name := "buildNetlist", desc := "()V" } : Jvm.MethodName) prog_1_method_29_code (3 : Nat) (Option.none : Option Jvm.ClassFile.FieldType)).before args0 about1 = true := code_word (m := ⟨2, 15⟩) (meth := k2m15) (c := k2c15) (by decide +kernel) rfl rfl rfl (by decide +kernel)
set_option maxRecDepth 65536 in
theorem w_c8 : (Jvm.Cond.code ({ cls := "MultiplierGen", name := "newGate", desc := "(III)I" } : Jvm.MethodName) prog_1_method_20_code (5 : Nat) (Option.some Jvm.ClassFile.FieldType.int)).before args0 about1 = true := code_word (m := ⟨2, 7⟩) (meth := k2m7) (c := k2c7) (by decide +kernel) rfl rfl rfl (by decide +kernel)
set_option maxRecDepth 65536 in
theorem w_c9 : (Jvm.Cond.code ({ cls := "MultiplierGen", name := "buildSimple", desc := "()V" } : Jvm.MethodName) prog_1_method_30_code (6 : Nat) (Option.none : Option Jvm.ClassFile.FieldType)).before args0 about1 = true := code_word (m := ⟨2, 16⟩) (meth := k2m16) (c := k2c16) (by decide +kernel) rfl rfl rfl (by decide +kernel)
set_option maxRecDepth 65536 in
theorem w_c10 : (Jvm.Cond.code ({ cls := "MultiplierGen", name := "bExt", desc := "(I)I" } : Jvm.MethodName) prog_1_method_26_code (2 : Nat) (Option.some Jvm.ClassFile.FieldType.int)).before args0 about1 = true := code_word (m := ⟨2, 12⟩) (meth := k2m12) (c := k2c12) (by decide +kernel) rfl rfl rfl (by decide +kernel)
set_option maxRecDepth 65536 in
theorem w_c11 : (Jvm.Cond.code ({ cls := "MultiplierGen", name := "aExt", desc := "(I)I" } : Jvm.MethodName) prog_1_method_25_code (2 : Nat) (Option.some Jvm.ClassFile.FieldType.int)).before args0 about1 = true := code_word (m := ⟨2, 11⟩) (meth := k2m11) (c := k2c11) (by decide +kernel) rfl rfl rfl (by decide +kernel)
set_option maxRecDepth 65536 in
theorem w_c12 : (Jvm.Cond.code ({ cls := "MultiplierGen", name := "mkAnd", desc := "(II)I" } : Jvm.MethodName) prog_1_method_22_code (3 : Nat) (Option.some Jvm.ClassFile.FieldType.int)).before args0 about1 = true := code_word (m := ⟨2, 8⟩) (meth := k2m8) (c := k2c8) (by decide +kernel) rfl rfl rfl (by decide +kernel)
set_option maxRecDepth 65536 in
theorem w_c13 : (Jvm.Cond.code ({ cls := "MultiplierGen", name := "pushCur", desc := "(II)V" } : Jvm.MethodName) prog_1_method_27_code (4 : Nat) (Option.none : Option Jvm.ClassFile.FieldType)).before args0 about1 = true := code_word (m := ⟨2, 13⟩) (meth := k2m13) (c := k2c13) (by decide +kernel) rfl rfl rfl (by decide +kernel)
set_option maxRecDepth 65536 in
theorem w_c14 : (Jvm.Cond.code ({ cls := "MultiplierGen", name := "reduceAll", desc := "()V" } : Jvm.MethodName) prog_1_method_32_code (4 : Nat) (Option.none : Option Jvm.ClassFile.FieldType)).before args0 about1 = true := code_word (m := ⟨2, 17⟩) (meth := k2m17) (c := k2c17) (by decide +kernel) rfl rfl rfl (by decide +kernel)
set_option maxRecDepth 65536 in
theorem w_c15 : (Jvm.Cond.code ({ cls := "MultiplierGen", name := "daddaTarget", desc := "(I)I" } : Jvm.MethodName) prog_1_method_33_code (5 : Nat) (Option.some Jvm.ClassFile.FieldType.int)).before args0 about1 = true := code_word (m := ⟨2, 18⟩) (meth := k2m18) (c := k2c18) (by decide +kernel) rfl rfl rfl (by decide +kernel)
set_option maxRecDepth 65536 in
theorem w_c16 : (Jvm.Cond.code ({ cls := "MultiplierGen", name := "reduceStage", desc := "(I)V" } : Jvm.MethodName) prog_1_method_34_code (5 : Nat) (Option.none : Option Jvm.ClassFile.FieldType)).before args0 about1 = true := code_word (m := ⟨2, 19⟩) (meth := k2m19) (c := k2c19) (by decide +kernel) rfl rfl rfl (by decide +kernel)
set_option maxRecDepth 65536 in
theorem w_c17 : (Jvm.Cond.code ({ cls := "MultiplierGen", name := "reduceColumn", desc := "(II)V" } : Jvm.MethodName) prog_1_method_35_code (8 : Nat) (Option.none : Option Jvm.ClassFile.FieldType)).before args0 about1 = true := code_word (m := ⟨2, 20⟩) (meth := k2m20) (c := k2c20) (by decide +kernel) rfl rfl rfl (by decide +kernel)
set_option maxRecDepth 65536 in
theorem w_c18 : (Jvm.Cond.code ({ cls := "MultiplierGen", name := "pushNxt", desc := "(II)V" } : Jvm.MethodName) prog_1_method_28_code (4 : Nat) (Option.none : Option Jvm.ClassFile.FieldType)).before args0 about1 = true := code_word (m := ⟨2, 14⟩) (meth := k2m14) (c := k2c14) (by decide +kernel) rfl rfl rfl (by decide +kernel)
set_option maxRecDepth 65536 in
theorem w_c19 : (Jvm.Cond.code ({ cls := "MultiplierGen", name := "halfAdder", desc := "(II)V" } : Jvm.MethodName) prog_1_method_37_code (8 : Nat) (Option.none : Option Jvm.ClassFile.FieldType)).before args0 about1 = true := code_word (m := ⟨2, 22⟩) (meth := k2m22) (c := k2c22) (by decide +kernel) rfl rfl rfl (by decide +kernel)
set_option maxRecDepth 65536 in
theorem w_c20 : (Jvm.Cond.code ({ cls := "MultiplierGen", name := "mkXor", desc := "(II)I" } : Jvm.MethodName) prog_1_method_24_code (3 : Nat) (Option.some Jvm.ClassFile.FieldType.int)).before args0 about1 = true := code_word (m := ⟨2, 10⟩) (meth := k2m10) (c := k2c10) (by decide +kernel) rfl rfl rfl (by decide +kernel)
set_option maxRecDepth 65536 in
theorem w_c21 : (Jvm.Cond.code ({ cls := "MultiplierGen", name := "fullAdder", desc := "(II)V" } : Jvm.MethodName) prog_1_method_36_code (12 : Nat) (Option.none : Option Jvm.ClassFile.FieldType)).before args0 about1 = true := code_word (m := ⟨2, 21⟩) (meth := k2m21) (c := k2c21) (by decide +kernel) rfl rfl rfl (by decide +kernel)
set_option maxRecDepth 65536 in
theorem w_c22 : (Jvm.Cond.code ({ cls := "MultiplierGen", name := "mkOr", desc := "(II)I" } : Jvm.MethodName) prog_1_method_23_code (3 : Nat) (Option.some Jvm.ClassFile.FieldType.int)).before args0 about1 = true := code_word (m := ⟨2, 9⟩) (meth := k2m9) (c := k2c9) (by decide +kernel) rfl rfl rfl (by decide +kernel)
set_option maxRecDepth 65536 in
theorem w_c23 : (Jvm.Cond.code ({ cls := "MultiplierGen", name := "finalAdder", desc := "()V" } : Jvm.MethodName) prog_1_method_38_code (5 : Nat) (Option.none : Option Jvm.ClassFile.FieldType)).before args0 about1 = true := code_word (m := ⟨2, 23⟩) (meth := k2m23) (c := k2c23) (by decide +kernel) rfl rfl rfl (by decide +kernel)
set_option maxRecDepth 65536 in
theorem w_c24 : (Jvm.Cond.code ({ cls := "MultiplierGen", name := "sparseCarries", desc := "()V" } : Jvm.MethodName) prog_1_method_43_code (4 : Nat) (Option.none : Option Jvm.ClassFile.FieldType)).before args0 about1 = true := code_word (m := ⟨2, 26⟩) (meth := k2m26) (c := k2c26) (by decide +kernel) rfl rfl rfl (by decide +kernel)
set_option maxRecDepth 65536 in
theorem w_c25 : (Jvm.Cond.code ({ cls := "MultiplierGen", name := "combineGP", desc := "(II)V" } : Jvm.MethodName) prog_1_method_40_code (3 : Nat) (Option.none : Option Jvm.ClassFile.FieldType)).before args0 about1 = true := code_word (m := ⟨2, 25⟩) (meth := k2m25) (c := k2c25) (by decide +kernel) rfl rfl rfl (by decide +kernel)
set_option maxRecDepth 65536 in
theorem w_c26 : (Jvm.Cond.code ({ cls := "MultiplierGen", name := "combineG", desc := "(II)V" } : Jvm.MethodName) prog_1_method_39_code (4 : Nat) (Option.none : Option Jvm.ClassFile.FieldType)).before args0 about1 = true := code_word (m := ⟨2, 24⟩) (meth := k2m24) (c := k2c24) (by decide +kernel) rfl rfl rfl (by decide +kernel)
set_option maxRecDepth 65536 in
theorem w_c27 : (Jvm.Cond.code ({ cls := "MultiplierGen", name := "setB", desc := "(I)I" } : Jvm.MethodName) prog_1_method_8_code (2 : Nat) (Option.some Jvm.ClassFile.FieldType.int)).before args0 about1 = true := code_word (m := ⟨2, 3⟩) (meth := k2m3) (c := k2c3) (by decide +kernel) rfl rfl rfl (by decide +kernel)
set_option maxRecDepth 65536 in
theorem w_c28 : (Jvm.Cond.code ({ cls := "MultiplierGen", name := "readPattern", desc := "(II)I" } : Jvm.MethodName) prog_1_method_19_code (3 : Nat) (Option.some Jvm.ClassFile.FieldType.int)).before args0 about1 = true := code_word (m := ⟨2, 6⟩) (meth := k2m6) (c := k2c6) (by decide +kernel) rfl rfl rfl (by decide +kernel)
set_option maxRecDepth 65536 in
theorem w_c29 : (Jvm.Cond.code ({ cls := "MultiplierGenL2", name := "read", desc := "(III)I" } : Jvm.MethodName) method_2_code (4 : Nat) (Option.some Jvm.ClassFile.FieldType.int)).before args0 about1 = true := code_word (m := ⟨1, 1⟩) (meth := k1m1) (c := k1c1) (by decide +kernel) rfl rfl rfl (by decide +kernel)
def codes1 : List Jvm.Cond := [Jvm.Cond.code x code maxLocals ret, Jvm.Cond.code ({ cls := "MultiplierGen", name := "<init>", desc := "(IIII)V" } : Jvm.MethodName) prog_1_method_1_code (5 : Nat) (Option.none : Option Jvm.ClassFile.FieldType), Jvm.Cond.code ({ cls := "java/lang/Object", name := "<init>", desc := "()V" } : Jvm.MethodName) object_method_1_code (1 : Nat) (Option.none : Option Jvm.ClassFile.FieldType), Jvm.Cond.code ({ cls := "MultiplierGen", name := "clamp", desc := "(III)I" } : Jvm.MethodName) prog_1_method_18_code (4 : Nat) (Option.some Jvm.ClassFile.FieldType.int), Jvm.Cond.code ({ cls := "MultiplierGen", name := "setA", desc := "(I)I" } : Jvm.MethodName) prog_1_method_7_code (2 : Nat) (Option.some Jvm.ClassFile.FieldType.int), Jvm.Cond.code ({ cls := "MultiplierGen", name := "getOperand", desc := "(I)I" } : Jvm.MethodName) prog_1_method_9_code (2 : Nat) (Option.some Jvm.ClassFile.FieldType.int), Jvm.Cond.code ({ cls := "MultiplierGen", name := "build", desc := "()I" } : Jvm.MethodName) prog_1_method_6_code (1 : Nat) (Option.some Jvm.ClassFile.FieldType.int), Jvm.Cond.code ({ cls := "MultiplierGen", name := "buildNetlist", desc := "()V" } : Jvm.MethodName) prog_1_method_29_code (3 : Nat) (Option.none : Option Jvm.ClassFile.FieldType), Jvm.Cond.code ({ cls := "MultiplierGen", name := "newGate", desc := "(III)I" } : Jvm.MethodName) prog_1_method_20_code (5 : Nat) (Option.some Jvm.ClassFile.FieldType.int), Jvm.Cond.code ({ cls := "MultiplierGen", name := "buildSimple", desc := "()V" } : Jvm.MethodName) prog_1_method_30_code (6 : Nat) (Option.none : Option Jvm.ClassFile.FieldType), Jvm.Cond.code ({ cls := "MultiplierGen", name := "bExt", desc := "(I)I" } : Jvm.MethodName) prog_1_method_26_code (2 : Nat) (Option.some Jvm.ClassFile.FieldType.int), Jvm.Cond.code ({ cls := "MultiplierGen", name := "aExt", desc := "(I)I" } : Jvm.MethodName) prog_1_method_25_code (2 : Nat) (Option.some Jvm.ClassFile.FieldType.int), Jvm.Cond.code ({ cls := "MultiplierGen", name := "mkAnd", desc := "(II)I" } : Jvm.MethodName) prog_1_method_22_code (3 : Nat) (Option.some Jvm.ClassFile.FieldType.int), Jvm.Cond.code ({ cls := "MultiplierGen", name := "pushCur", desc := "(II)V" } : Jvm.MethodName) prog_1_method_27_code (4 : Nat) (Option.none : Option Jvm.ClassFile.FieldType), Jvm.Cond.code ({ cls := "MultiplierGen", name := "reduceAll", desc := "()V" } : Jvm.MethodName) prog_1_method_32_code (4 : Nat) (Option.none : Option Jvm.ClassFile.FieldType), Jvm.Cond.code ({ cls := "MultiplierGen", name := "daddaTarget", desc := "(I)I" } : Jvm.MethodName) prog_1_method_33_code (5 : Nat) (Option.some Jvm.ClassFile.FieldType.int), Jvm.Cond.code ({ cls := "MultiplierGen", name := "reduceStage", desc := "(I)V" } : Jvm.MethodName) prog_1_method_34_code (5 : Nat) (Option.none : Option Jvm.ClassFile.FieldType), Jvm.Cond.code ({ cls := "MultiplierGen", name := "reduceColumn", desc := "(II)V" } : Jvm.MethodName) prog_1_method_35_code (8 : Nat) (Option.none : Option Jvm.ClassFile.FieldType), Jvm.Cond.code ({ cls := "MultiplierGen", name := "pushNxt", desc := "(II)V" } : Jvm.MethodName) prog_1_method_28_code (4 : Nat) (Option.none : Option Jvm.ClassFile.FieldType), Jvm.Cond.code ({ cls := "MultiplierGen", name := "halfAdder", desc := "(II)V" } : Jvm.MethodName) prog_1_method_37_code (8 : Nat) (Option.none : Option Jvm.ClassFile.FieldType), Jvm.Cond.code ({ cls := "MultiplierGen", name := "mkXor", desc := "(II)I" } : Jvm.MethodName) prog_1_method_24_code (3 : Nat) (Option.some Jvm.ClassFile.FieldType.int), Jvm.Cond.code ({ cls := "MultiplierGen", name := "fullAdder", desc := "(II)V" } : Jvm.MethodName) prog_1_method_36_code (12 : Nat) (Option.none : Option Jvm.ClassFile.FieldType), Jvm.Cond.code ({ cls := "MultiplierGen", name := "mkOr", desc := "(II)I" } : Jvm.MethodName) prog_1_method_23_code (3 : Nat) (Option.some Jvm.ClassFile.FieldType.int), Jvm.Cond.code ({ cls := "MultiplierGen", name := "finalAdder", desc := "()V" } : Jvm.MethodName) prog_1_method_38_code (5 : Nat) (Option.none : Option Jvm.ClassFile.FieldType), Jvm.Cond.code ({ cls := "MultiplierGen", name := "sparseCarries", desc := "()V" } : Jvm.MethodName) prog_1_method_43_code (4 : Nat) (Option.none : Option Jvm.ClassFile.FieldType), Jvm.Cond.code ({ cls := "MultiplierGen", name := "combineGP", desc := "(II)V" } : Jvm.MethodName) prog_1_method_40_code (3 : Nat) (Option.none : Option Jvm.ClassFile.FieldType), Jvm.Cond.code ({ cls := "MultiplierGen", name := "combineG", desc := "(II)V" } : Jvm.MethodName) prog_1_method_39_code (4 : Nat) (Option.none : Option Jvm.ClassFile.FieldType), Jvm.Cond.code ({ cls := "MultiplierGen", name := "setB", desc := "(I)I" } : Jvm.MethodName) prog_1_method_8_code (2 : Nat) (Option.some Jvm.ClassFile.FieldType.int), Jvm.Cond.code ({ cls := "MultiplierGen", name := "readPattern", desc := "(II)I" } : Jvm.MethodName) prog_1_method_19_code (3 : Nat) (Option.some Jvm.ClassFile.FieldType.int), Jvm.Cond.code ({ cls := "MultiplierGenL2", name := "read", desc := "(III)I" } : Jvm.MethodName) method_2_code (4 : Nat) (Option.some Jvm.ClassFile.FieldType.int)]
set_option maxRecDepth 65536 in
theorem codes_eq : words1.filter isCode = codes1 := rfl
theorem w_codes : ∀ c ∈ words1.filter isCode, c.before args0 about1 = true := by
  rw [codes_eq]
  intro c hc
  simp only [codes1, List.mem_cons, List.not_mem_nil, or_false] at hc
  rcases hc with rfl | rfl | rfl | rfl | rfl | rfl | rfl | rfl | rfl | rfl | rfl | rfl | rfl | rfl | rfl | rfl | rfl | rfl | rfl | rfl | rfl | rfl | rfl | rfl | rfl | rfl | rfl | rfl | rfl | rfl
  · exact w_c0
  · exact w_c1
  · exact w_c2
  · exact w_c3
  · exact w_c4
  · exact w_c5
  · exact w_c6
  · exact w_c7
  · exact w_c8
  · exact w_c9
  · exact w_c10
  · exact w_c11
  · exact w_c12
  · exact w_c13
  · exact w_c14
  · exact w_c15
  · exact w_c16
  · exact w_c17
  · exact w_c18
  · exact w_c19
  · exact w_c20
  · exact w_c21
  · exact w_c22
  · exact w_c23
  · exact w_c24
  · exact w_c25
  · exact w_c26
  · exact w_c27
  · exact w_c28
  · exact w_c29
set_option maxRecDepth 65536 in
theorem w_t1 : (words1.take 24).all (fun c => isCode c || c.before args0 about1) = true := by decide +kernel
set_option maxRecDepth 65536 in
theorem w_t2 : ((words1.drop 24).take 24).all (fun c => isCode c || c.before args0 about1) = true := by decide +kernel
set_option maxRecDepth 65536 in
theorem w_t3 : (((words1.drop 24).drop 24).take 24).all (fun c => isCode c || c.before args0 about1) = true := by decide +kernel
set_option maxRecDepth 65536 in
theorem w_t4 : ((((words1.drop 24).drop 24).drop 24).take 24).all (fun c => isCode c || c.before args0 about1) = true := by decide +kernel
set_option maxRecDepth 65536 in
theorem w_t5 : (((((words1.drop 24).drop 24).drop 24).drop 24).take 24).all (fun c => isCode c || c.before args0 about1) = true := by decide +kernel
set_option maxRecDepth 65536 in
theorem w_t6 : ((((((words1.drop 24).drop 24).drop 24).drop 24).drop 24).take 24).all (fun c => isCode c || c.before args0 about1) = true := by decide +kernel
set_option maxRecDepth 65536 in
theorem w_t7 : (((((((words1.drop 24).drop 24).drop 24).drop 24).drop 24).drop 24).take 24).all (fun c => isCode c || c.before args0 about1) = true := by decide +kernel
set_option maxRecDepth 65536 in
theorem w_t8 : (((((((words1.drop 24).drop 24).drop 24).drop 24).drop 24).drop 24).drop 24).all (fun c => isCode c || c.before args0 about1) = true := by decide +kernel
theorem w_tables : (allAtoms (Jvm.Cond.code x code maxLocals ret :: tables_1)).before args0 about1 = true := by
  rw [allAtoms_all]
  show words1.all (fun c => c.before args0 about1) = true
  refine all_split ?_ w_codes
  rw [← List.take_append_drop 24 words1, List.all_append, w_t1, ← List.take_append_drop 24 (words1.drop 24), List.all_append, w_t2, ← List.take_append_drop 24 ((words1.drop 24).drop 24), List.all_append, w_t3, ← List.take_append_drop 24 (((words1.drop 24).drop 24).drop 24), List.all_append, w_t4, ← List.take_append_drop 24 ((((words1.drop 24).drop 24).drop 24).drop 24), List.all_append, w_t5, ← List.take_append_drop 24 (((((words1.drop 24).drop 24).drop 24).drop 24).drop 24), List.all_append, w_t6, ← List.take_append_drop 24 ((((((words1.drop 24).drop 24).drop 24).drop 24).drop 24).drop 24), List.all_append, w_t7, w_t8]
  rfl
set_option maxRecDepth 65536 in
theorem w_case : (Jvm.Cond.and given_1 narrow_1).before args0 about1 = true := by decide +kernel
theorem w_applies : (headSpec (Jvm.Cond.code x code maxLocals ret :: tables_1) room_1).applies x e0.platform about1 = true :=
  (Spec.applies_iff w_frames).mpr ⟨w_running, w_runnable, w_alone, w_named, w_hears, w_ripe, w_room, w_tables⟩
theorem atStart : AtStart classFile x code maxLocals ret World_1 tables_1 room_1 Calls_1 rest_1 Pre_1 launch0 p0 e0 about1 theMethod args0 below0 :=
  ⟨lists_1, trivial, launch0.admits_env _ _ _, launch0.least_env, fairChoices_fair.cas, fairChoices_fair.clock, w_frames, w_args, w_heap, w_applies, trivial, trivial, w_case⟩
end start1
theorem witness_1 : WitnessClaimed_1 := ⟨start1.p0, start1.e0, start1.about1, start1.theMethod, start1.args0, start1.below0, start1.atStart⟩
end Jvm.Pilot.@@N@@
