import JvmDerived
import JvmDerived.Pilot.@@N@@Statement
import JvmDerived.Pilot.@@N@@Code
set_option linter.unusedVariables false
set_option linter.unusedSimpArgs false
namespace Jvm.Own
open Sem ClassFile Op Lib Jvm.Stand Jvm.Free Jvm.LawKit Jvm.RoadKit
/-! OWN 1: words of the sheet, resolved -/
abbrev AHeap := List (FieldType × List Value)
abbrev Ws := List Jvm.Cond
def rFld (ws : Ws) (own : String) (i : Nat) : Option (String × String × String) :=
  ws.findSome? fun d => match d with
    | .fieldLink o j C n t => if o = own ∧ j = i then some (C, n, t) else none
    | _ => none
def rCls (ws : Ws) (own : String) (i : Nat) : Option String :=
  ws.findSome? fun d => match d with
    | .classLink o j C => if o = own ∧ j = i then some C else none
    | _ => none
def rMth (ws : Ws) (own : String) (i : Nat) : Option MethodName :=
  ws.findSome? fun d => match d with
    | .methodLink o j y => if o = own ∧ j = i then some y else none
    | _ => none
def rCon (ws : Ws) (own : String) (i : Nat) : Option Int32 :=
  ws.findSome? fun d => match d with
    | .constant o j v => if o = own ∧ j = i then some v else none
    | _ => none
def rConL (ws : Ws) (own : String) (i : Nat) : Option Int64 :=
  ws.findSome? fun d => match d with
    | .constantLong o j v => if o = own ∧ j = i then some v else none
    | _ => none
def rInst (ws : Ws) (C : String) : Option Nat :=
  ws.findSome? fun d => match d with
    | .instantiable c n => if c = C then some n else none
    | _ => none
def rCode (ws : Ws) (y : MethodName) : Option (ByteArray × Nat × Option FieldType) :=
  ws.findSome? fun d => match d with
    | .code z b m r => if z = y then some (b, m, r) else none
    | _ => none
def hasInit (ws : Ws) (C : String) : Bool := ws.any fun d => match d with | .initialized c => c == C | _ => false
def hasArr (ws : Ws) (t : FieldType) : Bool := ws.any fun d => match d with | .arrayClass c => decide (c = t) | _ => false
def hasStat (ws : Ws) (y : MethodName) : Bool := ws.any fun d => match d with | .static z => decide (z = y) | _ => false
def hasIM (ws : Ws) (y : MethodName) : Bool := ws.any fun d => match d with | .instanceMethod z => decide (z = y) | _ => false
def hasPriv (ws : Ws) (y : MethodName) : Bool := ws.any fun d => match d with | .privateMethod z => decide (z = y) | _ => false
def hasDecl (ws : Ws) (y : MethodName) : Bool := ws.any fun d => match d with | .declares z => decide (z = y) | _ => false
def hasSel (ws : Ws) (y : MethodName) : Bool := ws.any fun d => match d with | .selects c z z' => decide (c = y.cls ∧ z = y ∧ z' = y) | _ => false
def hasLays (ws : Ws) (C n t : String) : Bool := ws.any fun d => match d with | .lays c o n' t' => decide (c = C ∧ o = C ∧ n' = n ∧ t' = t) | _ => false
def hasLaysF (ws : Ws) (C n t : String) : Bool := ws.any fun d => match d with | .laysFinal c o n' t' => decide (c = C ∧ o = C ∧ n' = n ∧ t' = t) | _ => false
def layE (C : String) : Jvm.Cond → Option (String × String)
  | .lays c o n t => if c = C ∧ o = C ∧ (parseFieldDescriptor t).isSome = true then some (n, t) else none
  | .laysFinal c o n t => if c = C ∧ o = C ∧ (parseFieldDescriptor t).isSome = true then some (n, t) else none
  | _ => none
def olay (ws : Ws) (C : String) : List (String × String) := ws.filterMap (layE C)
def idx (x : String × String) : List (String × String) → Option Nat
  | [] => none
  | y :: r => if y = x then some 0 else (idx x r).map (· + 1)
def fidx (ws : Ws) (C n t : String) : Option Nat := idx (n, t) (olay ws C)
def gfR (ws : Ws) (own : String) (i : Nat) : Option (String × Nat) :=
  match rFld ws own i with
  | some (C, n, t) => (fidx ws C n t).map fun j => (C, j)
  | none => none
def pfR (ws : Ws) (own mn : String) (i : Nat) : Option (String × Nat × FieldType) :=
  match rFld ws own i with
  | some (C, n, t) =>
    match fidx ws C n t, parseFieldDescriptor t with
    | some j, some ty => if (hasLays ws C n t || (hasLaysF ws C n t && own == C && mn == "<init>")) && (rInst ws C).isSome && (olay ws C).all (fun q => q.1 != n || q.2 == t) then some (C, j, ty) else none
    | _, _ => none
  | none => none
section Res
variable {ws : Ws} {own C n t : String} {i : Nat} {y : MethodName}
theorem rFld_mem (h : rFld ws own i = some (C, n, t)) : Jvm.Cond.fieldLink own i C n t ∈ ws := by
  obtain ⟨d, hd, e⟩ := List.exists_of_findSome?_eq_some h
  split at e
  · split at e
    · rename_i q; obtain ⟨rfl, rfl⟩ := q; cases e; exact hd
    · cases e
  · cases e
theorem rCls_mem (h : rCls ws own i = some C) : Jvm.Cond.classLink own i C ∈ ws := by
  obtain ⟨d, hd, e⟩ := List.exists_of_findSome?_eq_some h
  split at e
  · split at e
    · rename_i q; obtain ⟨rfl, rfl⟩ := q; cases e; exact hd
    · cases e
  · cases e
theorem rMth_mem (h : rMth ws own i = some y) : Jvm.Cond.methodLink own i y ∈ ws := by
  obtain ⟨d, hd, e⟩ := List.exists_of_findSome?_eq_some h
  split at e
  · split at e
    · rename_i q; obtain ⟨rfl, rfl⟩ := q; cases e; exact hd
    · cases e
  · cases e
theorem rCon_mem {v : Int32} (h : rCon ws own i = some v) : Jvm.Cond.constant own i v ∈ ws := by
  obtain ⟨d, hd, e⟩ := List.exists_of_findSome?_eq_some h
  split at e
  · split at e
    · rename_i q; obtain ⟨rfl, rfl⟩ := q; cases e; exact hd
    · cases e
  · cases e
theorem rConL_mem {v : Int64} (h : rConL ws own i = some v) : Jvm.Cond.constantLong own i v ∈ ws := by
  obtain ⟨d, hd, e⟩ := List.exists_of_findSome?_eq_some h
  split at e
  · split at e
    · rename_i q; obtain ⟨rfl, rfl⟩ := q; cases e; exact hd
    · cases e
  · cases e
theorem rInst_mem {k : Nat} (h : rInst ws C = some k) : Jvm.Cond.instantiable C k ∈ ws := by
  obtain ⟨d, hd, e⟩ := List.exists_of_findSome?_eq_some h
  split at e
  · split at e
    · rename_i q; subst q; cases e; exact hd
    · cases e
  · cases e
theorem rCode_mem {b : ByteArray} {k : Nat} {r : Option FieldType} (h : rCode ws y = some (b, k, r)) : Jvm.Cond.code y b k r ∈ ws := by
  obtain ⟨d, hd, e⟩ := List.exists_of_findSome?_eq_some h
  split at e
  · split at e
    · rename_i q; subst q; cases e; exact hd
    · cases e
  · cases e
theorem hasInit_mem (h : hasInit ws C = true) : Jvm.Cond.initialized C ∈ ws := by
  obtain ⟨d, hd, e⟩ := List.any_eq_true.mp h
  split at e
  · rw [beq_iff_eq] at e; subst e; exact hd
  · cases e
theorem hasArr_mem {ty : FieldType} (h : hasArr ws ty = true) : Jvm.Cond.arrayClass ty ∈ ws := by
  obtain ⟨d, hd, e⟩ := List.any_eq_true.mp h
  split at e
  · have e := of_decide_eq_true e; subst e; exact hd
  · cases e
theorem hasStat_mem (h : hasStat ws y = true) : Jvm.Cond.static y ∈ ws := by
  obtain ⟨d, hd, e⟩ := List.any_eq_true.mp h
  split at e
  · have e := of_decide_eq_true e; subst e; exact hd
  · cases e
theorem hasIM_mem (h : hasIM ws y = true) : Jvm.Cond.instanceMethod y ∈ ws := by
  obtain ⟨d, hd, e⟩ := List.any_eq_true.mp h
  split at e
  · have e := of_decide_eq_true e; subst e; exact hd
  · cases e
theorem hasPriv_mem (h : hasPriv ws y = true) : Jvm.Cond.privateMethod y ∈ ws := by
  obtain ⟨d, hd, e⟩ := List.any_eq_true.mp h
  split at e
  · have e := of_decide_eq_true e; subst e; exact hd
  · cases e
theorem hasDecl_mem (h : hasDecl ws y = true) : Jvm.Cond.declares y ∈ ws := by
  obtain ⟨d, hd, e⟩ := List.any_eq_true.mp h
  split at e
  · have e := of_decide_eq_true e; subst e; exact hd
  · cases e
theorem hasSel_mem (h : hasSel ws y = true) : Jvm.Cond.selects y.cls y y ∈ ws := by
  obtain ⟨d, hd, e⟩ := List.any_eq_true.mp h
  split at e
  · obtain ⟨rfl, rfl, rfl⟩ := of_decide_eq_true e; exact hd
  · cases e
theorem hasLays_mem (h : hasLays ws C n t = true) : Jvm.Cond.lays C C n t ∈ ws := by
  obtain ⟨d, hd, e⟩ := List.any_eq_true.mp h
  split at e
  · obtain ⟨rfl, rfl, rfl, rfl⟩ := of_decide_eq_true e; exact hd
  · cases e
theorem hasLaysF_mem (h : hasLaysF ws C n t = true) : Jvm.Cond.laysFinal C C n t ∈ ws := by
  obtain ⟨d, hd, e⟩ := List.any_eq_true.mp h
  split at e
  · obtain ⟨rfl, rfl, rfl, rfl⟩ := of_decide_eq_true e; exact hd
  · cases e
theorem lay_mem (h : (n, t) ∈ olay ws C) : (Jvm.Cond.lays C C n t ∈ ws ∨ Jvm.Cond.laysFinal C C n t ∈ ws) ∧ ∃ ty, parseFieldDescriptor t = some ty := by
  obtain ⟨d, hd, e⟩ := List.mem_filterMap.mp h
  unfold layE at e
  split at e
  · split at e
    · rename_i q; obtain ⟨rfl, rfl, q⟩ := q; cases e; exact ⟨Or.inl hd, Option.isSome_iff_exists.mp q⟩
    · cases e
  · split at e
    · rename_i q; obtain ⟨rfl, rfl, q⟩ := q; cases e; exact ⟨Or.inr hd, Option.isSome_iff_exists.mp q⟩
    · cases e
  · cases e
theorem idx_get {x : String × String} : ∀ {l : List (String × String)} {j : Nat}, idx x l = some j → l[j]? = some x
  | [], _, h => by cases h
  | y :: r, j, h => by
    unfold idx at h
    split at h
    · rename_i q; cases h; simp [q]
    · obtain ⟨j', h', rfl⟩ := Option.map_eq_some_iff.mp h
      simpa using idx_get h'
theorem fidx_mem {j : Nat} (h : fidx ws C n t = some j) : (n, t) ∈ olay ws C := List.mem_of_getElem? (idx_get h)
theorem fidx_inj {n' t' : String} {j : Nat} (h : fidx ws C n t = some j) (h' : fidx ws C n' t' = some j) : n = n' ∧ t = t' := by
  have := (idx_get h).symm.trans (idx_get h')
  simpa using this
theorem gfR_some {j : Nat} (h : gfR ws own i = some (C, j)) : ∃ n t, rFld ws own i = some (C, n, t) ∧ fidx ws C n t = some j := by
  unfold gfR at h
  split at h
  · rename_i C' n' t' q
    obtain ⟨j', h', e⟩ := Option.map_eq_some_iff.mp h
    cases e; exact ⟨_, _, q, h'⟩
  · cases h
theorem pfR_some {mn : String} {j : Nat} {ty : FieldType} (h : pfR ws own mn i = some (C, j, ty)) : ∃ n t, rFld ws own i = some (C, n, t) ∧ fidx ws C n t = some j ∧ parseFieldDescriptor t = some ty ∧
    (Jvm.Cond.lays C C n t ∈ ws ∨ (Jvm.Cond.laysFinal C C n t ∈ ws ∧ own = C ∧ mn = "<init>")) ∧ (∃ k, Jvm.Cond.instantiable C k ∈ ws) ∧ ∀ n' t', (n', t') ∈ olay ws C → n' ≠ n ∨ t' = t := by
  unfold pfR at h
  split at h
  · rename_i C' n' t' q
    split at h
    · rename_i j' ty' q1 q2
      split at h
      · rename_i g
        cases h
        simp only [Bool.and_eq_true, Bool.or_eq_true, beq_iff_eq, List.all_eq_true, bne_iff_ne, ne_eq] at g
        obtain ⟨⟨g1, g2⟩, g3⟩ := g
        obtain ⟨k, hk⟩ := Option.isSome_iff_exists.mp g2
        refine ⟨n', t', q, q1, q2, ?_, ⟨k, rInst_mem hk⟩, fun a b hab => g3 (a, b) hab⟩
        rcases g1 with g1 | ⟨⟨g1, g4⟩, g5⟩
        · exact Or.inl (hasLays_mem g1)
        · exact Or.inr ⟨hasLaysF_mem g1, g4, g5⟩
      · cases h
    · cases h
  · cases h
end Res
end Jvm.Own
namespace Jvm.Own
open Sem ClassFile Op Lib Jvm.Stand Jvm.Free Jvm.LawKit Jvm.RoadKit
/-! OWN 2: the abstract machine -/
abbrev XR := Option (Nat × List Slot × List Value)
def chk {α : Type} (a b : Nat) (x : Option α) : Option α := if a = b then x else none
def isI : Value → Bool | .int _ => true | _ => false
def isL : Value → Bool | .long _ => true | _ => false
def stl (ls : List Slot) (i : Nat) (v : Value) : Option (List Slot) := (storeLocals ls.toArray i v).map Array.toList
def ldV (p : Value → Bool) (nx i : Nat) (ls : List Slot) (st : List Value) : XR :=
  match ls[i]? with
  | some (.val v) => if p v = true then some (nx, ls, v :: st) else none
  | _ => none
def stV (p : Value → Bool) (nx i : Nat) (ls : List Slot) : List Value → XR
  | v :: r => if p v = true then (stl ls i v).map fun l' => (nx, l', r) else none
  | [] => none
def b2 (f : Int32 → Int32 → Int32) (nx : Nat) (ls : List Slot) : List Value → XR
  | .int y :: .int x :: r => some (nx, ls, .int (f x y) :: r)
  | _ => none
def d2 (f : Int32 → Int32 → Int32) (nx : Nat) (ls : List Slot) : List Value → XR
  | .int y :: .int x :: r => if y = 0 then none else some (nx, ls, .int (f x y) :: r)
  | _ => none
def u1 (f : Int32 → Int32) (nx : Nat) (ls : List Slot) : List Value → XR
  | .int x :: r => some (nx, ls, .int (f x) :: r)
  | _ => none
def l2 (f : Int64 → Int64 → Int64) (nx : Nat) (ls : List Slot) : List Value → XR
  | .long y :: .long x :: r => some (nx, ls, .long (f x y) :: r)
  | _ => none
def lsh (f : Int64 → Int32 → Int64) (nx : Nat) (ls : List Slot) : List Value → XR
  | .int y :: .long x :: r => some (nx, ls, .long (f x y) :: r)
  | _ => none
def jmp (pc : Nat) (o : Int) : Option Nat := if 0 ≤ (pc : Int) + o then some ((pc : Int) + o).toNat else none
def br (c : Bool) (pc : Nat) (o : Int) (ls : List Slot) (r : List Value) : XR :=
  if c = true then (jmp pc o).map fun q => (q, ls, r) else some (pc + 3, ls, r)
def sw (pc : Nat) (dflt low high : Int) (offs : Array Int) (ls : List Slot) : List Value → XR
  | .int i :: r => if i.toInt < low ∨ i.toInt > high then (jmp pc dflt).map fun q => (q, ls, r) else
      match offs[(i.toInt - low).toNat]? with
      | some o => (jmp pc o).map fun q => (q, ls, r)
      | none => none
  | _ => none
def xstep (ins : Instr) (len pc : Nat) (ls : List Slot) (st : List Value) : XR :=
  match ins with
  | .aload_n i => chk len 1 (ldV Value.isRef (pc + 1) i.val ls st)
  | .aload i => chk len 2 (ldV Value.isRef (pc + 2) i ls st)
  | .iload_n i => chk len 1 (ldV isI (pc + 1) i.val ls st)
  | .iload i => chk len 2 (ldV isI (pc + 2) i ls st)
  | .lload_n i => chk len 1 (ldV isL (pc + 1) i.val ls st)
  | .lload i => chk len 2 (ldV isL (pc + 2) i ls st)
  | .astore_n i => chk len 1 (stV Value.isRef (pc + 1) i.val ls st)
  | .astore i => chk len 2 (stV Value.isRef (pc + 2) i ls st)
  | .istore_n i => chk len 1 (stV isI (pc + 1) i.val ls st)
  | .istore i => chk len 2 (stV isI (pc + 2) i ls st)
  | .lstore_n i => chk len 1 (stV isL (pc + 1) i.val ls st)
  | .lstore i => chk len 2 (stV isL (pc + 2) i ls st)
  | .iconst i => chk len 1 (some (pc + 1, ls, .int (Int32.ofInt i) :: st))
  | .bipush i => chk len 2 (some (pc + 2, ls, .int (Int8.ofInt i).toInt32 :: st))
  | .sipush i => chk len 3 (some (pc + 3, ls, .int (Int16.ofInt i).toInt32 :: st))
  | .lconst i => chk len 1 (some (pc + 1, ls, .long (Int64.ofNat i) :: st))
  | .iadd => chk len 1 (b2 (fun x y => x + y) (pc + 1) ls st)
  | .isub => chk len 1 (b2 (fun x y => x - y) (pc + 1) ls st)
  | .imul => chk len 1 (b2 (fun x y => x * y) (pc + 1) ls st)
  | .iand => chk len 1 (b2 (fun x y => x &&& y) (pc + 1) ls st)
  | .ior => chk len 1 (b2 (fun x y => x ||| y) (pc + 1) ls st)
  | .ixor => chk len 1 (b2 (fun x y => x ^^^ y) (pc + 1) ls st)
  | .ishl => chk len 1 (b2 (fun x y => x <<< (y &&& 31)) (pc + 1) ls st)
  | .ishr => chk len 1 (b2 (fun x y => x >>> (y &&& 31)) (pc + 1) ls st)
  | .iushr => chk len 1 (b2 XT.ushr (pc + 1) ls st)
  | .idiv => chk len 1 (d2 (fun x y => x / y) (pc + 1) ls st)
  | .irem => chk len 1 (d2 (fun x y => x % y) (pc + 1) ls st)
  | .ineg => chk len 1 (u1 (fun x => -x) (pc + 1) ls st)
  | .i2b => chk len 1 (u1 (fun x => x.toInt8.toInt32) (pc + 1) ls st)
  | .i2c => chk len 1 (u1 (fun x => x.toUInt32.toUInt16.toUInt32.toInt32) (pc + 1) ls st)
  | .ladd => chk len 1 (l2 (fun x y => x + y) (pc + 1) ls st)
  | .lsub => chk len 1 (l2 (fun x y => x - y) (pc + 1) ls st)
  | .lmul => chk len 1 (l2 (fun x y => x * y) (pc + 1) ls st)
  | .land => chk len 1 (l2 (fun x y => x &&& y) (pc + 1) ls st)
  | .lor => chk len 1 (l2 (fun x y => x ||| y) (pc + 1) ls st)
  | .lxor => chk len 1 (l2 (fun x y => x ^^^ y) (pc + 1) ls st)
  | .lshl => chk len 1 (lsh (fun x y => x <<< (y.toInt64 &&& 63)) (pc + 1) ls st)
  | .lshr => chk len 1 (lsh (fun x y => x >>> (y.toInt64 &&& 63)) (pc + 1) ls st)
  | .lushr => chk len 1 (lsh XT.ushrL (pc + 1) ls st)
  | .lneg => chk len 1 (match st with | .long x :: r => some (pc + 1, ls, .long (-x) :: r) | _ => none)
  | .i2l => chk len 1 (match st with | .int x :: r => some (pc + 1, ls, .long x.toInt64 :: r) | _ => none)
  | .l2i => chk len 1 (match st with | .long x :: r => some (pc + 1, ls, .int x.toInt32 :: r) | _ => none)
  | .lcmp => chk len 1 (match st with | .long y :: .long x :: r => some (pc + 1, ls, .int (XT.cmpL x y) :: r) | _ => none)
  | .iinc i cst => chk len 3 (match ls[i]? with | some (.val (.int x)) => (stl ls i (.int (x + Int32.ofInt cst))).map fun l' => (pc + 3, l', st) | _ => none)
  | .dup => chk len 1 (match st with | x :: r => if x.category = 1 then some (pc + 1, ls, x :: x :: r) else none | _ => none)
  | .dup2 => chk len 1 (match st with
      | .long x :: r => some (pc + 1, ls, .long x :: .long x :: r)
      | x :: y :: r => if x.category = 1 ∧ y.category = 1 then some (pc + 1, ls, x :: y :: x :: y :: r) else none
      | _ => none)
  | .pop => chk len 1 (match st with | x :: r => if x.category = 1 then some (pc + 1, ls, r) else none | _ => none)
  | .goto o => chk len 3 ((jmp pc o).map fun q => (q, ls, st))
  | .ifCond cd o => chk len 3 (match st with | .int x :: r => br (ifCond.holds cd x) pc o ls r | _ => none)
  | .if_icmp cd o => chk len 3 (match st with | .int y :: .int x :: r => br (if_icmp.holds cd x y) pc o ls r | _ => none)
  | .tableswitch dflt low high offs => sw pc dflt low high offs ls st
  | _ => none
abbrev HR := Option (Nat × List Value × AHeap)
def putv : FieldType → Value → Option Value
  | .int, .int x => some (.int x)
  | .boolean, .int x => some (.int (nar .boolean x))
  | .byte, .int x => some (.int (nar .byte x))
  | .char, .int x => some (.int (nar .char x))
  | .short, .int x => some (.int (nar .short x))
  | .long, .long x => some (.long x)
  | .array _, .ref a => some (.ref a)
  | _, _ => none
def dflt (q : String × String) : Value := match parseFieldDescriptor q.2 with | some ty => defaultValue ty | none => .null
def hGet (ws : Ws) (own : String) (i pc : Nat) (H : AHeap) : List Value → HR
  | .ref a :: r =>
    match gfR ws own i, H[a]? with
    | some (C, j), some (.object C', vs) => if C = C' then (vs[j]?).map fun v => (pc + 3, v :: r, H) else none
    | _, _ => none
  | _ => none
def hPut (ws : Ws) (k : Nat) (own mn : String) (i pc : Nat) (H : AHeap) : List Value → HR
  | v :: .ref a :: r =>
    match pfR ws own mn i, H[a]? with
    | some (C, j, ty), some (.object C', vs) => if C = C' ∧ k ≤ a ∧ j < vs.length then (putv ty v).map fun v' => (pc + 3, r, H.set a (.object C', vs.set j v')) else none
    | _, _ => none
  | _ => none
def hNew (ws : Ws) (own : String) (i pc : Nat) (H : AHeap) (st : List Value) : HR :=
  match rCls ws own i with
  | some C => if (rInst ws C).isSome = true ∧ hasInit ws C = true then some (pc + 3, .ref H.length :: st, H ++ [(.object C, (olay ws C).map dflt)]) else none
  | none => none
def hNewA (ws : Ws) (aty : ArrayType) (pc : Nat) (H : AHeap) : List Value → HR
  | .int n :: r => if hasArr ws (newarray.typeOf aty) = true ∧ ¬ n < 0 ∧ n.toNatClampNeg * 8 ≤ 536870912 then
      some (pc + 2, .ref H.length :: r, H ++ [(.array (newarray.typeOf aty), List.replicate n.toNatClampNeg (defaultValue (newarray.typeOf aty)))]) else none
  | _ => none
def hLd (ok : FieldType → Bool) (pc : Nat) (H : AHeap) : List Value → HR
  | .int j :: .ref a :: r =>
    match H[a]? with
    | some (.array ty, vs) => if ok ty = true ∧ ¬ j < 0 then (vs[j.toNatClampNeg]?).map fun v => (pc + 1, v :: r, H) else none
    | _ => none
  | _ => none
def hSt (ok : FieldType → Bool) (k pc : Nat) (H : AHeap) : List Value → HR
  | v :: .int j :: .ref a :: r =>
    match H[a]? with
    | some (.array ty, vs) => if ok ty = true ∧ k ≤ a ∧ ¬ j < 0 ∧ j.toNatClampNeg < vs.length then (putv ty v).map fun v' => (pc + 1, r, H.set a (.array ty, vs.set j.toNatClampNeg v')) else none
    | _ => none
  | _ => none
def hLen (pc : Nat) (H : AHeap) : List Value → HR
  | .ref a :: r =>
    match H[a]? with
    | some (.array _, vs) => some (pc + 1, .int vs.length.toInt32 :: r, H)
    | _ => none
  | _ => none
def okT (t u : FieldType) : Bool := decide (u = t)
def okB (u : FieldType) : Bool := decide (u = .byte) || decide (u = .boolean)
def hstep (ws : Ws) (k : Nat) (y : MethodName) (ins : Instr) (len pc : Nat) (st : List Value) (H : AHeap) : HR :=
  match ins with
  | .getfield i => chk len 3 (hGet ws y.cls i pc H st)
  | .putfield i => chk len 3 (hPut ws k y.cls y.name i pc H st)
  | .new i => chk len 3 (hNew ws y.cls i pc H st)
  | .newarray aty => chk len 2 (hNewA ws aty pc H st)
  | .iaload => chk len 1 (hLd (okT .int) pc H st)
  | .caload => chk len 1 (hLd (okT .char) pc H st)
  | .laload => chk len 1 (hLd (okT .long) pc H st)
  | .baload => chk len 1 (hLd okB pc H st)
  | .iastore => chk len 1 (hSt (okT .int) k pc H st)
  | .castore => chk len 1 (hSt (okT .char) k pc H st)
  | .lastore => chk len 1 (hSt (okT .long) k pc H st)
  | .bastore => chk len 1 (hSt okB k pc H st)
  | .arraylength => chk len 1 (hLen pc H st)
  | .ldc i => chk len 2 ((rCon ws y.cls i).map fun v => (pc + 2, .int v :: st, H))
  | .ldc_w i => chk len 3 ((rCon ws y.cls i).map fun v => (pc + 3, .int v :: st, H))
  | .ldc2_w i => chk len 3 ((rConL ws y.cls i).map fun v => (pc + 3, .long v :: st, H))
  | _ => none
def ent : List Value → List Slot
  | [] => []
  | v :: r => if v.category = 2 then .val v :: .second :: ent r else .val v :: ent r
def entry (as : List Value) (mx : Nat) : List Slot := ent as ++ List.replicate (mx - (ent as).length) .unset
def wsum (st : List Value) : Nat := (st.map fun v => v.category).sum
abbrev Dn := List (MethodName × Nat × Nat)
def dnOf (dn : Dn) (y : MethodName) : Option (Nat × Nat) := dn.findSome? fun q => if q.1 = y then some q.2 else none
/-- what a methodref says: callee, its code, max_locals, return, number of parameters, slack for what lies under -/
def cR (ws : Ws) (dn : Dn) (y : MethodName) (i : Nat) : Option (MethodName × ByteArray × Nat × Option FieldType × Nat × Nat) :=
  match rMth ws y.cls i with
  | none => none
  | some y' =>
    match rCode ws y', dnOf dn y', dnOf dn y, parseMethodDescriptor y'.desc with
    | some (b, mx, r), some (f', l'), some (f, l), some sig =>
      if hasInit ws y'.cls = true ∧ Jvm.plainName y'.cls = true ∧ y'.cls ≠ "java/lang/invoke/MethodHandle" ∧ y'.cls ≠ "java/lang/invoke/VarHandle" ∧ f' + 1 ≤ f ∧ mx + 11 + l' ≤ l then
        some (y', b, mx, r, sig.parameters.length, l - (mx + 11 + l')) else none
    | _, _, _, _ => none
def sR (ws : Ws) (dn : Dn) (y : MethodName) (i : Nat) : Option (MethodName × ByteArray × Nat × Option FieldType × Nat × Nat) :=
  match cR ws dn y i with
  | some q => if hasStat ws q.1 = true then some q else none
  | none => none
def nR (ws : Ws) (dn : Dn) (y : MethodName) (i : Nat) : Option (MethodName × ByteArray × Nat × Option FieldType × Nat × Nat) :=
  match cR ws dn y i with
  | some q => if q.1.name = "<init>" ∧ hasIM ws q.1 = true ∧ q.2.2.2.1 = none then some q else none
  | none => none
/-- the first: is it private? -/
def vR (ws : Ws) (dn : Dn) (y : MethodName) (i : Nat) : Option (Bool × MethodName × ByteArray × Nat × Option FieldType × Nat × Nat) :=
  match cR ws dn y i with
  | some q => if hasIM ws q.1 = true then
      (if hasPriv ws q.1 = true ∧ (rInst ws q.1.cls).isSome = true then some (true, q) else if hasDecl ws q.1 = true ∧ hasSel ws q.1 = true then some (false, q) else none) else none
  | none => none
/-- Object.<init>: how many words may lie under it -/
def oR (ws : Ws) (dn : Dn) (y : MethodName) (i : Nat) : Option Nat :=
  match rMth ws y.cls i, rCode ws Lib.objectInit, dnOf dn y with
  | some y', some (b, mx, r), some (f, l) =>
    if y' = Lib.objectInit ∧ hasIM ws Lib.objectInit = true ∧ b.data = #[0xb1] ∧ mx = 1 ∧ r = none ∧ 1 ≤ f ∧ 12 ≤ l then some (l - 12) else none
  | _, _, _ => none
abbrev Call := MethodName × ByteArray × Option FieldType × List Slot × List Value
/-- returns and calls -/
def cstep (ws : Ws) (dn : Dn) (y : MethodName) (ret : Option FieldType) (ins : Instr) (len pc : Nat) (ls : List Slot) (st : List Value) (H : AHeap) : Option (Option Value ⊕ (Nat × List Slot × List Value × AHeap) ⊕ Call) :=
  match ins with
  | .ireturn => chk len 1 (match st, ret with
      | .int z :: _, some t => if t = .int ∨ t = .boolean ∨ t = .byte ∨ t = .char ∨ t = .short then some (.inl (some (.int (nar t z)))) else none
      | _, _ => none)
  | .lreturn => chk len 1 (match st, ret with
      | [.long z], some .long => some (.inl (some (.long z)))
      | _, _ => none)
  | .return_ => chk len 1 (match st, ret with
      | [], none => some (.inl none)
      | _, _ => none)
  | .invokestatic i => chk len 3 (match sR ws dn y i with
      | some (y', b, mx, r, na, sl) =>
        if na ≤ st.length ∧ wsum (st.drop na) ≤ sl ∧ (ent (st.take na).reverse).length ≤ mx then
          some (.inr (.inr (y', b, r, entry (st.take na).reverse mx, st.drop na)))
        else none
      | none => none)
  | .invokespecial i => chk len 3 (match oR ws dn y i with
      | some sl => (match st with
          | .ref _ :: r => if wsum r ≤ sl then some (.inr (.inl (pc + 3, ls, r, H))) else none
          | _ => none)
      | none => match nR ws dn y i with
        | some (y', b, mx, r, na, sl) =>
          (match st.drop na with
          | .ref a :: rest =>
            if wsum rest ≤ sl ∧ (ent (.ref a :: (st.take na).reverse)).length ≤ mx ∧ na ≤ st.length then
              some (.inr (.inr (y', b, r, entry (.ref a :: (st.take na).reverse) mx, rest)))
            else none
          | _ => none)
        | none => none)
  | .invokevirtual i => chk len 3 (match vR ws dn y i with
      | some (pv, y', b, mx, r, na, sl) =>
        (match st.drop na with
        | .ref a :: rest =>
          (match H[a]? with
          | some (.object C, _) =>
            if (pv = true ∨ C = y'.cls) ∧ wsum rest ≤ sl ∧ (ent (.ref a :: (st.take na).reverse)).length ≤ mx ∧ na ≤ st.length then
              some (.inr (.inr (y', b, r, entry (.ref a :: (st.take na).reverse) mx, rest)))
            else none
          | _ => none)
        | _ => none)
      | none => none)
  | _ => none
/-- what the machine does next: it returns, it steps, it calls -/
def act (ws : Ws) (dn : Dn) (k : Nat) (y : MethodName) (bytes : ByteArray) (ret : Option FieldType) (pc : Nat) (ls : List Slot) (st : List Value) (H : AHeap) : Option (Option Value ⊕ (Nat × List Slot × List Value × AHeap) ⊕ Call) :=
  match decode bytes pc with
  | .error _ => none
  | .ok (ins, len) =>
    match xstep ins len pc ls st with
    | some q => some (.inr (.inl (q.1, q.2.1, q.2.2, H)))
    | none => match hstep ws k y ins len pc st H with
      | some q => some (.inr (.inl (q.1, ls, q.2.1, q.2.2)))
      | none => cstep ws dn y ret ins len pc ls st H
def run (ws : Ws) (dn : Dn) (k : Nat) : Nat → MethodName → ByteArray → Option FieldType → Nat → List Slot → List Value → AHeap → Option (Option Value × AHeap)
  | 0, _, _, _, _, _, _, _ => none
  | n + 1, y, bytes, ret, pc, ls, st, H =>
    match act ws dn k y bytes ret pc ls st H with
    | none => none
    | some (.inl v) => some (v, H)
    | some (.inr (.inl (pc', ls', st', H'))) => run ws dn k n y bytes ret pc' ls' st' H'
    | some (.inr (.inr (y', b, r, en, rest))) =>
      match run ws dn k n y' b r 0 en [] H with
      | some (v, H1) => run ws dn k n y bytes ret (pc + 3) ls (v.toList ++ rest) H1
      | none => none
end Jvm.Own
namespace Jvm.Own
open Sem ClassFile Op Lib Jvm.Stand Jvm.Free Jvm.LawKit Jvm.RoadKit
/-! OWN 3: the abstract machine's plain steps are the machine's -/
def ren (f : Nat → Nat) : Value → Value
  | .ref a => .ref (f a)
  | v => v
def renS (f : Nat → Nat) : Slot → Slot
  | .val v => .val (ren f v)
  | s => s
abbrev fr (f : Nat → Nat) (m : MethodId) (pc : Nat) (ls : List Slot) (st : List Value) : JFrame := mkF m pc (ls.map (renS f)).toArray (st.map (ren f))
theorem ren_cat (f : Nat → Nat) (v : Value) : (ren f v).category = v.category := by cases v <;> rfl
theorem ren_isRef (f : Nat → Nat) (v : Value) : (ren f v).isRef = v.isRef := by cases v <;> rfl
theorem isI_int {v : Value} (h : isI v = true) : ∃ x, v = .int x := by cases v <;> first | exact ⟨_, rfl⟩ | cases h
theorem isL_long {v : Value} (h : isL v = true) : ∃ x, v = .long x := by cases v <;> first | exact ⟨_, rfl⟩ | cases h
theorem chk_some {α : Type} {a b : Nat} {x : Option α} {r : α} (h : chk a b x = some r) : a = b ∧ x = some r := by
  unfold chk at h
  split at h
  · exact ⟨by assumption, h⟩
  · cases h
theorem loc_get {f : Nat → Nat} {ls : List Slot} {i : Nat} {s : Slot} (h : ls[i]? = some s) : ((ls.map (renS f)).toArray)[i]? = some (renS f s) := by
  rw [List.getElem?_toArray, List.getElem?_map, h]; rfl
theorem setAt_ren (f : Nat → Nat) (l : Array Slot) (i : Nat) (x : Slot) : setAt (l.map (renS f)) i (renS f x) = (setAt l i x).map fun a => a.map (renS f) := by
  unfold setAt
  rw [Array.size_map]
  split
  · rw [Option.map_some, Array.map_setIfInBounds]
  · rfl
theorem storeSelf_ren (f : Nat → Nat) (l : Array Slot) (i : Nat) (v : Value) : storeSelf (l.map (renS f)) i (ren f v) = (storeSelf l i v).map fun a => a.map (renS f) := by
  have h0 : setAt (l.map (renS f)) i (.val (ren f v)) = _ := setAt_ren f l i (.val v)
  simp only [storeSelf, h0, ren_cat]
  cases setAt l i (.val v) with
  | none => rfl
  | some l1 =>
    simp only [Option.map_some, Option.bind_eq_bind, Option.bind_some, bind_pure_comp]
    split
    · rw [Array.getElem?_map]
      cases l1[i + 1]? with
      | none => rfl
      | some s =>
        simp only [Option.map_some, Option.bind_some]
        cases s with
        | unset => exact setAt_ren f l1 (i + 1) .second
        | second => exact setAt_ren f l1 (i + 1) .second
        | val w =>
          simp only [renS, ren_cat]
          split
          · have h1 : setAt (l1.map (renS f)) (i + 2) .unset = _ := setAt_ren f l1 (i + 2) .unset
            rw [h1]
            cases setAt l1 (i + 2) .unset with
            | none => rfl
            | some l2 => exact setAt_ren f l2 (i + 1) .second
          · exact setAt_ren f l1 (i + 1) .second
    · rfl
theorem storeLocals_ren (f : Nat → Nat) (l : Array Slot) (i : Nat) (v : Value) : storeLocals (l.map (renS f)) i (ren f v) = (storeLocals l i v).map fun a => a.map (renS f) := by
  simp only [storeLocals, Array.getElem?_map]
  cases l[i]? with
  | none => rfl
  | some s =>
    simp only [Option.map_some, Option.bind_eq_bind, Option.bind_some]
    cases s with
    | unset => exact storeSelf_ren f l i v
    | second =>
      have h1 : setAt (l.map (renS f)) (i - 1) .unset = _ := setAt_ren f l (i - 1) .unset
      simp only [renS, h1]
      cases setAt l (i - 1) .unset with
      | none => rfl
      | some l2 => exact storeSelf_ren f l2 i v
    | val w =>
      simp only [renS, ren_cat]
      split
      · have h1 : setAt (l.map (renS f)) (i + 1) .unset = _ := setAt_ren f l (i + 1) .unset
        rw [h1]
        cases setAt l (i + 1) .unset with
        | none => rfl
        | some l2 => exact storeSelf_ren f l2 i v
      · exact storeSelf_ren f l i v
theorem stl_ren {f : Nat → Nat} {ls l' : List Slot} {i : Nat} {v : Value} (h : stl ls i v = some l') : storeLocals (ls.map (renS f)).toArray i (ren f v) = some (l'.map (renS f)).toArray := by
  unfold stl at h
  obtain ⟨a, ha, rfl⟩ := Option.map_eq_some_iff.mp h
  have := storeLocals_ren f ls.toArray i v
  rw [ha] at this
  rw [← List.map_toArray, this]
  simp [← Array.toList_inj]
theorem setAt_size {l l' : Array Slot} {i : Nat} {x : Slot} (h : setAt l i x = some l') : l'.size = l.size := by
  unfold setAt at h
  split at h
  · cases h; simp
  · cases h
theorem storeSelf_size {l l' : Array Slot} {i : Nat} {v : Value} (h : storeSelf l i v = some l') : l'.size = l.size := by
  simp only [storeSelf, Option.bind_eq_bind, Option.bind_eq_some_iff] at h
  obtain ⟨l1, h1, h⟩ := h
  have e1 := setAt_size h1
  split at h
  · obtain ⟨s, -, h⟩ := Option.bind_eq_some_iff.mp h
    split at h
    · split at h
      · obtain ⟨l2, h2, h⟩ := Option.bind_eq_some_iff.mp h
        rw [setAt_size h, setAt_size h2, e1]
      · rw [setAt_size h, e1]
    · rw [setAt_size h, e1]
  · cases h; exact e1
theorem storeLocals_size {l l' : Array Slot} {i : Nat} {v : Value} (h : storeLocals l i v = some l') : l'.size = l.size := by
  simp only [storeLocals, Option.bind_eq_bind, Option.bind_eq_some_iff] at h
  obtain ⟨s, -, h⟩ := h
  split at h
  · obtain ⟨l2, h2, h⟩ := Option.bind_eq_some_iff.mp h
    rw [storeSelf_size h, setAt_size h2]
  · split at h
    · obtain ⟨l2, h2, h⟩ := Option.bind_eq_some_iff.mp h
      rw [storeSelf_size h, setAt_size h2]
    · exact storeSelf_size h
  · exact storeSelf_size h
theorem stl_size {ls l' : List Slot} {i : Nat} {v : Value} (h : stl ls i v = some l') : l'.length = ls.length := by
  unfold stl at h
  obtain ⟨a, ha, rfl⟩ := Option.map_eq_some_iff.mp h
  have := storeLocals_size ha
  simpa using this
theorem ldV_some {p : Value → Bool} {nx i : Nat} {ls : List Slot} {st : List Value} {q : Nat × List Slot × List Value} (h : ldV p nx i ls st = some q) : ∃ v, ls[i]? = some (.val v) ∧ p v = true ∧ q = (nx, ls, v :: st) := by
  unfold ldV at h
  split at h
  · rename_i v hv
    split at h
    · cases h; exact ⟨v, hv, by assumption, rfl⟩
    · cases h
  · cases h
theorem stV_some {p : Value → Bool} {nx i : Nat} {ls : List Slot} {st : List Value} {q : Nat × List Slot × List Value} (h : stV p nx i ls st = some q) : ∃ v r l', st = v :: r ∧ p v = true ∧ stl ls i v = some l' ∧ q = (nx, l', r) := by
  unfold stV at h
  split at h
  · split at h
    · obtain ⟨l', h1, h2⟩ := Option.map_eq_some_iff.mp h
      exact ⟨_, _, l', rfl, by assumption, h1, h2.symm⟩
    · cases h
  · cases h
theorem b2_some {f : Int32 → Int32 → Int32} {nx : Nat} {ls : List Slot} {st : List Value} {q : Nat × List Slot × List Value} (h : b2 f nx ls st = some q) : ∃ x y r, st = .int y :: .int x :: r ∧ q = (nx, ls, .int (f x y) :: r) := by
  unfold b2 at h
  split at h
  · cases h; exact ⟨_, _, _, rfl, rfl⟩
  · cases h
theorem d2_some {f : Int32 → Int32 → Int32} {nx : Nat} {ls : List Slot} {st : List Value} {q : Nat × List Slot × List Value} (h : d2 f nx ls st = some q) : ∃ x y r, st = .int y :: .int x :: r ∧ y ≠ 0 ∧ q = (nx, ls, .int (f x y) :: r) := by
  unfold d2 at h
  split at h
  · split at h
    · cases h
    · cases h; exact ⟨_, _, _, rfl, by assumption, rfl⟩
  · cases h
theorem u1_some {f : Int32 → Int32} {nx : Nat} {ls : List Slot} {st : List Value} {q : Nat × List Slot × List Value} (h : u1 f nx ls st = some q) : ∃ x r, st = .int x :: r ∧ q = (nx, ls, .int (f x) :: r) := by
  unfold u1 at h
  split at h
  · cases h; exact ⟨_, _, rfl, rfl⟩
  · cases h
theorem l2_some {f : Int64 → Int64 → Int64} {nx : Nat} {ls : List Slot} {st : List Value} {q : Nat × List Slot × List Value} (h : l2 f nx ls st = some q) : ∃ x y r, st = .long y :: .long x :: r ∧ q = (nx, ls, .long (f x y) :: r) := by
  unfold l2 at h
  split at h
  · cases h; exact ⟨_, _, _, rfl, rfl⟩
  · cases h
theorem lsh_some {f : Int64 → Int32 → Int64} {nx : Nat} {ls : List Slot} {st : List Value} {q : Nat × List Slot × List Value} (h : lsh f nx ls st = some q) : ∃ x y r, st = .int y :: .long x :: r ∧ q = (nx, ls, .long (f x y) :: r) := by
  unfold lsh at h
  split at h
  · cases h; exact ⟨_, _, _, rfl, rfl⟩
  · cases h
theorem jmp_some {pc q : Nat} {o : Int} (h : jmp pc o = some q) : 0 ≤ (pc : Int) + o ∧ ((pc : Int) + o).toNat = q := by
  unfold jmp at h
  split at h
  · cases h; exact ⟨by assumption, rfl⟩
  · cases h
theorem br_some {c : Bool} {pc : Nat} {o : Int} {ls : List Slot} {r : List Value} {q : Nat × List Slot × List Value} (h : br c pc o ls r = some q) : (c = true ∧ ∃ t, 0 ≤ (pc : Int) + o ∧ ((pc : Int) + o).toNat = t ∧ q = (t, ls, r)) ∨ (c = false ∧ q = (pc + 3, ls, r)) := by
  unfold br at h
  split at h
  · obtain ⟨t, h1, h2⟩ := Option.map_eq_some_iff.mp h
    obtain ⟨h3, h4⟩ := jmp_some h1
    exact Or.inl ⟨by assumption, t, h3, h4, h2.symm⟩
  · rename_i hc; cases h; exact Or.inr ⟨by simpa using hc, rfl⟩
section X
variable {tb : Tables} [Ours tb] {e : Env} {below : List Frame} {T target : State} {m : MethodId} {c : Code}
set_option maxHeartbeats 4000000 in
theorem xstep_sound (h : At T m c below) (hx : tb.exec = Jvm.exec) (f : Nat → Nat) {ins : Instr} {len pc : Nat} {ls : List Slot} {st : List Value} {q : Nat × List Slot × List Value}
    (hd : decode c.code pc = .ok (ins, len)) (hs : xstep ins len pc ls st = some q) (hr : Steps tb e below (T.setTop (fr f m q.1 q.2.1 q.2.2)) target) : Steps tb e below (T.setTop (fr f m pc ls st)) target := by
  unfold xstep at hs
  split at hs
  · obtain ⟨rfl, hs⟩ := chk_some hs; obtain ⟨v, h1, h2, rfl⟩ := ldV_some hs
    exact XS.aloadN h hx rfl hd (loc_get h1) (by rw [ren_isRef]; exact h2) hr
  · obtain ⟨rfl, hs⟩ := chk_some hs; obtain ⟨v, h1, h2, rfl⟩ := ldV_some hs
    exact XS.aload h hx rfl hd (loc_get h1) (by rw [ren_isRef]; exact h2) hr
  · obtain ⟨rfl, hs⟩ := chk_some hs; obtain ⟨v, h1, h2, rfl⟩ := ldV_some hs; obtain ⟨x, rfl⟩ := isI_int h2
    exact XS.iloadN h hx rfl hd (loc_get (f := f) h1) hr
  · obtain ⟨rfl, hs⟩ := chk_some hs; obtain ⟨v, h1, h2, rfl⟩ := ldV_some hs; obtain ⟨x, rfl⟩ := isI_int h2
    exact XS.iload h hx rfl hd (loc_get (f := f) h1) hr
  · obtain ⟨rfl, hs⟩ := chk_some hs; obtain ⟨v, h1, h2, rfl⟩ := ldV_some hs; obtain ⟨x, rfl⟩ := isL_long h2
    exact XT.lloadN h hx rfl hd (loc_get (f := f) h1) hr
  · obtain ⟨rfl, hs⟩ := chk_some hs; obtain ⟨v, h1, h2, rfl⟩ := ldV_some hs; obtain ⟨x, rfl⟩ := isL_long h2
    exact XT.lload h hx rfl hd (loc_get (f := f) h1) hr
  · obtain ⟨rfl, hs⟩ := chk_some hs; obtain ⟨v, r, l', rfl, h2, h3, rfl⟩ := stV_some hs
    exact XS.astoreN h hx rfl hd rfl (by rw [ren_isRef]; exact h2) (stl_ren h3) hr
  · obtain ⟨rfl, hs⟩ := chk_some hs; obtain ⟨v, r, l', rfl, h2, h3, rfl⟩ := stV_some hs
    exact XS.astore h hx rfl hd rfl (by rw [ren_isRef]; exact h2) (stl_ren h3) hr
  · obtain ⟨rfl, hs⟩ := chk_some hs; obtain ⟨v, r, l', rfl, h2, h3, rfl⟩ := stV_some hs; obtain ⟨x, rfl⟩ := isI_int h2
    exact XS.istoreN h hx rfl hd rfl (stl_ren (f := f) h3) hr
  · obtain ⟨rfl, hs⟩ := chk_some hs; obtain ⟨v, r, l', rfl, h2, h3, rfl⟩ := stV_some hs; obtain ⟨x, rfl⟩ := isI_int h2
    exact XS.istore h hx rfl hd rfl (stl_ren (f := f) h3) hr
  · obtain ⟨rfl, hs⟩ := chk_some hs; obtain ⟨v, r, l', rfl, h2, h3, rfl⟩ := stV_some hs; obtain ⟨x, rfl⟩ := isL_long h2
    exact XT.lstoreN h hx rfl hd rfl (stl_ren (f := f) h3) hr
  · obtain ⟨rfl, hs⟩ := chk_some hs; obtain ⟨v, r, l', rfl, h2, h3, rfl⟩ := stV_some hs; obtain ⟨x, rfl⟩ := isL_long h2
    exact XT.lstore h hx rfl hd rfl (stl_ren (f := f) h3) hr
  · obtain ⟨rfl, hs⟩ := chk_some hs; cases hs
    exact XS.iconst h hx rfl hd hr
  · obtain ⟨rfl, hs⟩ := chk_some hs; cases hs
    exact XS.bipush h hx rfl hd hr
  · obtain ⟨rfl, hs⟩ := chk_some hs; cases hs
    exact XS.sipush h hx rfl hd hr
  · obtain ⟨rfl, hs⟩ := chk_some hs; cases hs
    exact XT.lconst h hx rfl hd hr
  · obtain ⟨rfl, hs⟩ := chk_some hs; obtain ⟨x, y, r, rfl, rfl⟩ := b2_some hs
    exact XS.iadd h hx rfl hd rfl hr
  · obtain ⟨rfl, hs⟩ := chk_some hs; obtain ⟨x, y, r, rfl, rfl⟩ := b2_some hs
    exact XS.isub h hx rfl hd rfl hr
  · obtain ⟨rfl, hs⟩ := chk_some hs; obtain ⟨x, y, r, rfl, rfl⟩ := b2_some hs
    exact XS.imul h hx rfl hd rfl hr
  · obtain ⟨rfl, hs⟩ := chk_some hs; obtain ⟨x, y, r, rfl, rfl⟩ := b2_some hs
    exact XS.iand h hx rfl hd rfl hr
  · obtain ⟨rfl, hs⟩ := chk_some hs; obtain ⟨x, y, r, rfl, rfl⟩ := b2_some hs
    exact XT.ior h hx rfl hd rfl hr
  · obtain ⟨rfl, hs⟩ := chk_some hs; obtain ⟨x, y, r, rfl, rfl⟩ := b2_some hs
    exact XT.ixor h hx rfl hd rfl hr
  · obtain ⟨rfl, hs⟩ := chk_some hs; obtain ⟨x, y, r, rfl, rfl⟩ := b2_some hs
    exact XT.ishl h hx rfl hd rfl hr
  · obtain ⟨rfl, hs⟩ := chk_some hs; obtain ⟨x, y, r, rfl, rfl⟩ := b2_some hs
    exact XT.ishr h hx rfl hd rfl hr
  · obtain ⟨rfl, hs⟩ := chk_some hs; obtain ⟨x, y, r, rfl, rfl⟩ := b2_some hs
    exact XT.iushr h hx rfl hd rfl hr
  · obtain ⟨rfl, hs⟩ := chk_some hs; obtain ⟨x, y, r, rfl, h2, rfl⟩ := d2_some hs
    exact XS.idiv h hx rfl hd rfl h2 hr
  · obtain ⟨rfl, hs⟩ := chk_some hs; obtain ⟨x, y, r, rfl, h2, rfl⟩ := d2_some hs
    refine XS.irem h hx rfl hd rfl h2 ?_
    have q : x - x / y * y = x % y := irem_eq_mod x y
    rw [q]; exact hr
  · obtain ⟨rfl, hs⟩ := chk_some hs; obtain ⟨x, r, rfl, rfl⟩ := u1_some hs
    exact XS.ineg h hx rfl hd rfl hr
  · obtain ⟨rfl, hs⟩ := chk_some hs; obtain ⟨x, r, rfl, rfl⟩ := u1_some hs
    exact XT.i2b h hx rfl hd rfl hr
  · obtain ⟨rfl, hs⟩ := chk_some hs; obtain ⟨x, r, rfl, rfl⟩ := u1_some hs
    exact XT.i2c h hx rfl hd rfl hr
  · obtain ⟨rfl, hs⟩ := chk_some hs; obtain ⟨x, y, r, rfl, rfl⟩ := l2_some hs
    exact XT.ladd h hx rfl hd rfl hr
  · obtain ⟨rfl, hs⟩ := chk_some hs; obtain ⟨x, y, r, rfl, rfl⟩ := l2_some hs
    exact XT.lsub h hx rfl hd rfl hr
  · obtain ⟨rfl, hs⟩ := chk_some hs; obtain ⟨x, y, r, rfl, rfl⟩ := l2_some hs
    exact XT.lmul h hx rfl hd rfl hr
  · obtain ⟨rfl, hs⟩ := chk_some hs; obtain ⟨x, y, r, rfl, rfl⟩ := l2_some hs
    exact XT.land h hx rfl hd rfl hr
  · obtain ⟨rfl, hs⟩ := chk_some hs; obtain ⟨x, y, r, rfl, rfl⟩ := l2_some hs
    exact XT.lor h hx rfl hd rfl hr
  · obtain ⟨rfl, hs⟩ := chk_some hs; obtain ⟨x, y, r, rfl, rfl⟩ := l2_some hs
    exact XT.lxor h hx rfl hd rfl hr
  · obtain ⟨rfl, hs⟩ := chk_some hs; obtain ⟨x, y, r, rfl, rfl⟩ := lsh_some hs
    exact XT.lshl h hx rfl hd rfl hr
  · obtain ⟨rfl, hs⟩ := chk_some hs; obtain ⟨x, y, r, rfl, rfl⟩ := lsh_some hs
    exact XT.lshr h hx rfl hd rfl hr
  · obtain ⟨rfl, hs⟩ := chk_some hs; obtain ⟨x, y, r, rfl, rfl⟩ := lsh_some hs
    exact XT.lushr h hx rfl hd rfl hr
  · obtain ⟨rfl, hs⟩ := chk_some hs
    split at hs
    · cases hs; exact XT.lneg h hx rfl hd rfl hr
    · cases hs
  · obtain ⟨rfl, hs⟩ := chk_some hs
    split at hs
    · cases hs; exact XT.i2l h hx rfl hd rfl hr
    · cases hs
  · obtain ⟨rfl, hs⟩ := chk_some hs
    split at hs
    · cases hs; exact XT.l2i h hx rfl hd rfl hr
    · cases hs
  · obtain ⟨rfl, hs⟩ := chk_some hs
    split at hs
    · cases hs; exact XT.lcmp h hx rfl hd rfl hr
    · cases hs
  · obtain ⟨rfl, hs⟩ := chk_some hs
    split at hs
    · rename_i x h1
      obtain ⟨l', h2, rfl⟩ := Option.map_eq_some_iff.mp hs
      exact XS.iinc h hx rfl hd (loc_get (f := f) h1) (stl_ren (f := f) h2) hr
    · cases hs
  · obtain ⟨rfl, hs⟩ := chk_some hs
    split at hs
    · split at hs
      · rename_i hc; cases hs; exact XS.dup h hx rfl hd rfl (by rw [ren_cat]; exact hc) hr
      · cases hs
    · cases hs
  · obtain ⟨rfl, hs⟩ := chk_some hs
    split at hs
    · cases hs; exact XT.dup2L h hx rfl hd rfl hr
    · split at hs
      · rename_i hc; cases hs; exact XT.dup2 h hx rfl hd rfl (by rw [ren_cat]; exact hc.1) (by rw [ren_cat]; exact hc.2) hr
      · cases hs
    · cases hs
  · obtain ⟨rfl, hs⟩ := chk_some hs
    split at hs
    · split at hs
      · rename_i hc; cases hs; exact XT.pop h hx rfl hd rfl (by rw [ren_cat]; exact hc) hr
      · cases hs
    · cases hs
  · obtain ⟨rfl, hs⟩ := chk_some hs
    obtain ⟨t, h1, rfl⟩ := Option.map_eq_some_iff.mp hs
    obtain ⟨h2, h3⟩ := jmp_some h1
    exact XS.goto h hx rfl rfl hd h2 h3 hr
  · obtain ⟨rfl, hs⟩ := chk_some hs
    split at hs
    · rcases br_some hs with ⟨hc, t, h1, h2, rfl⟩ | ⟨hc, rfl⟩
      · exact XS.ifYes h hx rfl rfl hd rfl hc h1 h2 hr
      · exact XS.ifNo h hx rfl hd rfl hc hr
    · cases hs
  · obtain ⟨rfl, hs⟩ := chk_some hs
    split at hs
    · rcases br_some hs with ⟨hc, t, h1, h2, rfl⟩ | ⟨hc, rfl⟩
      · exact XS.icmpYes h hx rfl rfl hd rfl hc h1 h2 hr
      · exact XS.icmpNo h hx rfl hd rfl hc hr
    · cases hs
  · unfold sw at hs
    split at hs
    · split at hs
      · rename_i hc
        obtain ⟨t, h1, rfl⟩ := Option.map_eq_some_iff.mp hs
        obtain ⟨h2, h3⟩ := jmp_some h1
        exact XS.tswOut h hx rfl rfl hd rfl hc h2 h3 hr
      · rename_i hc
        split at hs
        · rename_i o ho
          obtain ⟨t, h1, rfl⟩ := Option.map_eq_some_iff.mp hs
          obtain ⟨h2, h3⟩ := jmp_some h1
          exact XS.tswIn h hx rfl rfl hd rfl hc ho h2 h3 hr
        · cases hs
    · cases hs
  · cases hs
end X
theorem xstep_size {ins : Instr} {len pc : Nat} {ls : List Slot} {st : List Value} {q : Nat × List Slot × List Value} (hs : xstep ins len pc ls st = some q) : q.2.1.length = ls.length := by
  unfold xstep at hs
  split at hs
  all_goals first
    | (obtain ⟨rfl, hs⟩ := chk_some hs; obtain ⟨v, h1, h2, rfl⟩ := ldV_some hs; rfl)
    | (obtain ⟨rfl, hs⟩ := chk_some hs; obtain ⟨v, r, l', rfl, h2, h3, rfl⟩ := stV_some hs; exact stl_size h3)
    | (obtain ⟨rfl, hs⟩ := chk_some hs; cases hs; rfl)
    | (obtain ⟨rfl, hs⟩ := chk_some hs; obtain ⟨x, y, r, rfl, rfl⟩ := b2_some hs; rfl)
    | (obtain ⟨rfl, hs⟩ := chk_some hs; obtain ⟨x, y, r, rfl, h2, rfl⟩ := d2_some hs; rfl)
    | (obtain ⟨rfl, hs⟩ := chk_some hs; obtain ⟨x, r, rfl, rfl⟩ := u1_some hs; rfl)
    | (obtain ⟨rfl, hs⟩ := chk_some hs; obtain ⟨x, y, r, rfl, rfl⟩ := l2_some hs; rfl)
    | (obtain ⟨rfl, hs⟩ := chk_some hs; obtain ⟨x, y, r, rfl, rfl⟩ := lsh_some hs; rfl)
    | (obtain ⟨rfl, hs⟩ := chk_some hs; split at hs <;> first | (cases hs; rfl) | (cases hs; done))
    | (obtain ⟨rfl, hs⟩ := chk_some hs; split at hs <;> first | (obtain ⟨l', h2, rfl⟩ := Option.map_eq_some_iff.mp hs; exact stl_size h2) | (cases hs; done))
    | (obtain ⟨rfl, hs⟩ := chk_some hs; split at hs <;> first | (split at hs <;> first | (cases hs; rfl) | (cases hs; done)) | (cases hs; rfl) | (cases hs; done))
    | (obtain ⟨rfl, hs⟩ := chk_some hs; obtain ⟨t, h1, rfl⟩ := Option.map_eq_some_iff.mp hs; rfl)
    | (obtain ⟨rfl, hs⟩ := chk_some hs; split at hs <;> first | (rcases br_some hs with ⟨hc, t, h1, h2, rfl⟩ | ⟨hc, rfl⟩ <;> rfl) | (cases hs; done))
    | (unfold sw at hs; split at hs <;> first | (cases hs; done) | (split at hs <;> first | (obtain ⟨t, h1, rfl⟩ := Option.map_eq_some_iff.mp hs; rfl) | (split at hs <;> first | (obtain ⟨t, h1, rfl⟩ := Option.map_eq_some_iff.mp hs; rfl) | (cases hs; done))))
    | (cases hs; done)
end Jvm.Own
namespace Jvm.Own
open Sem ClassFile Op Lib Jvm.Stand Jvm.Free Jvm.LawKit Jvm.RoadKit
/-! OWN 4: the heap's steps -/
def adr (k sa n0 i : Nat) : Nat := if i < k then sa else n0 + (i - k)
def SimO (Z : State) (ws : Ws) (f : Nat → Nat) (h : Heap) (a : Addr) : FieldType × List Value → Prop
  | (.object C, vs) => Exa Z h a C ∧ ∀ n t j, fidx ws C n t = some j → ∃ v, vs[j]? = some v ∧ Fld Z h a C n t (ren f v)
  | (.array ty, vs) => ∃ c : Cell, Arr Z h a c ty ∧ c.slots = (vs.map (ren f)).toArray
  | _ => False
def Sim (Z : State) (ws : Ws) (k sa n0 : Nat) (H : AHeap) (h : Heap) : Prop :=
  h.size = n0 + (H.length - k) ∧ k ≤ H.length ∧ k ≤ 1 ∧ (1 ≤ k → sa < n0) ∧ ∀ i o, H[i]? = some o → SimO Z ws (adr k sa n0) h (adr k sa n0 i) o
def cost (ws : Ws) : FieldType × List Value → Nat
  | (.object C, _) => (rInst ws C).getD 0
  | (_, vs) => vs.length
def tot (ws : Ws) (H : AHeap) : Nat := (H.map (cost ws)).sum
theorem adr_inj {k sa n0 i j : Nat} (hk : k ≤ 1) (hs : 1 ≤ k → sa < n0) (e : adr k sa n0 i = adr k sa n0 j) : i = j := by
  unfold adr at e; split at e <;> split at e <;> omega
theorem adr_ge {k sa n0 a : Nat} (h : k ≤ a) : n0 ≤ adr k sa n0 a := by
  unfold adr; rw [if_neg (by omega)]; omega
theorem tot_app (ws : Ws) (H : AHeap) (o : FieldType × List Value) : tot ws (H ++ [o]) = tot ws H + cost ws o := by simp [tot]
theorem tot_set {ws : Ws} : ∀ {H : AHeap} {a : Nat} {o o' : FieldType × List Value}, H[a]? = some o → cost ws o' = cost ws o → tot ws (H.set a o') = tot ws H
  | [], _, _, _, h, _ => by cases h
  | x :: r, 0, o, o', h, e => by
    simp only [List.getElem?_cons_zero, Option.some.injEq] at h; subst h
    simp [tot, e]
  | x :: r, a + 1, o, o', h, e => by
    have := tot_set (ws := ws) (H := r) (a := a) (o := o) (o' := o') (by simpa using h) e
    simp only [tot, List.set_cons_succ, List.map_cons, List.sum_cons] at this ⊢
    rw [this]
theorem ren_dflt (f : Nat → Nat) (ty : FieldType) : ren f (defaultValue ty) = defaultValue ty := by cases ty <;> rfl
section Facts
variable {Z : State} {ws : Ws} {f : Nat → Nat} {h h' : Heap} {a b : Addr} {o : FieldType × List Value} {sl : Nat} {v : Value}
theorem SimO.ext (E : Ext h h') (S : SimO Z ws f h a o) : SimO Z ws f h' a o := by
  unfold SimO at S ⊢
  split at S
  · exact ⟨S.1.ext E, fun n t j q => by obtain ⟨v, h1, h2⟩ := S.2 n t j q; exact ⟨v, h1, h2.ext E⟩⟩
  · obtain ⟨c, h1, h2⟩ := S; exact ⟨c, h1.ext E, h2⟩
  · exact S.elim
theorem SimO.other (W : Wr h h' b sl v) (ne : a ≠ b) (S : SimO Z ws f h a o) : SimO Z ws f h' a o := by
  unfold SimO at S ⊢
  split at S
  · exact ⟨S.1.wr W, fun n t j q => by obtain ⟨v, h1, h2⟩ := S.2 n t j q; exact ⟨v, h1, h2.other W (Or.inl ne)⟩⟩
  · obtain ⟨c, h1, h2⟩ := S; exact ⟨c, h1.other W ne, h2⟩
  · exact S.elim
theorem Sim.push {k sa n0 : Nat} {H : AHeap} (S : Sim Z ws k sa n0 H h) (E : Ext h h') (hz : h'.size = h.size + 1) (O : SimO Z ws (adr k sa n0) h' h.size o) : Sim Z ws k sa n0 (H ++ [o]) h' := by
  obtain ⟨h1, h2, h3, h4, h5⟩ := S
  refine ⟨by rw [hz, h1, List.length_append, List.length_singleton]; omega, by rw [List.length_append]; omega, h3, h4, fun i o' q => ?_⟩
  rcases Nat.lt_trichotomy i H.length with g | g | g
  · rw [List.getElem?_append_left g] at q; exact (h5 i o' q).ext E
  · subst g
    rw [List.getElem?_append_right (Nat.le_refl _), Nat.sub_self] at q
    cases q
    have e : adr k sa n0 H.length = h.size := by unfold adr; rw [if_neg (by omega), h1]
    rw [e]; exact O
  · rw [List.getElem?_eq_none (by simp; omega)] at q; cases q
theorem Sim.next {k sa n0 : Nat} {H : AHeap} (S : Sim Z ws k sa n0 H h) : h.size = adr k sa n0 H.length := by
  obtain ⟨h1, h2, -⟩ := S
  unfold adr; rw [if_neg (by omega), h1]
theorem Wr.upd {k sa n0 i : Nat} {H : AHeap} {o' : FieldType × List Value} (S : Sim Z ws k sa n0 H h) (W : Wr h h' (adr k sa n0 i) sl v) (O : SimO Z ws (adr k sa n0) h' (adr k sa n0 i) o') : Sim Z ws k sa n0 (H.set i o') h' := by
  obtain ⟨h1, h2, h3, h4, h5⟩ := S
  refine ⟨by rw [W.size, h1, List.length_set], by rw [List.length_set]; exact h2, h3, h4, fun j q hq => ?_⟩
  by_cases e : i = j
  · subst e
    rw [List.getElem?_set_self' ] at hq
    cases hi : H[i]? with
    | none => rw [hi] at hq; cases hq
    | some x => rw [hi] at hq; cases hq; exact O
  · rw [List.getElem?_set_ne e] at hq
    exact (h5 j q hq).other W fun g => e (adr_inj h3 h4 g).symm
end Facts
theorem putv_ok {ty : FieldType} {v v' : Value} (f : Nat → Nat) (h : putv ty v = some v') : narrow ty (ren f v) = ren f v' ∧ fits ty (ren f v') = true := by
  unfold putv at h
  split at h
  · cases h; exact ⟨rfl, rfl⟩
  · cases h; exact ⟨rfl, fits_nar_bool _⟩
  · cases h; exact ⟨rfl, fits_nar_byte _⟩
  · cases h; exact ⟨rfl, fits_nar_char _⟩
  · cases h; exact ⟨rfl, fits_nar_short _⟩
  · cases h; exact ⟨rfl, rfl⟩
  · cases h; exact ⟨rfl, rfl⟩
  · cases h
theorem size_set (c : Cell) (j : Nat) (v : Value) (f : Nat → Nat) {vs : List Value} {v' : Value} (e : c.slots = (vs.map (ren f)).toArray) (q : v = ren f v') : (c.setSlot j v).slots = ((vs.set j v').map (ren f)).toArray := by
  subst q
  show c.slots.setIfInBounds j (ren f v') = _
  rw [e, List.setIfInBounds_toArray, List.map_set]
section H
variable {p : Program} {l : Launch} {e : Env} {R : Room} {s : State} {m : MethodId} {args : Array Value} {below : List Frame} {meth : Method} {c : Code} {T : State} {locs : List Loc} {cells slots : Nat}
  {Z : State} {a0 : Array Value} {ws : Ws} {k sa n0 : Nat} {y : MethodName} {pc : Nat} {ls : List Slot} {st : List Value} {H : AHeap}
/-- the point behind one step -/
def Beh (p : Program) (l : Launch) (e : Env) (R : Room) (s : State) (m : MethodId) (args : Array Value) (below : List Frame) (meth : Method) (c : Code) (T : State) (Z : State) (ws : Ws) (k sa n0 cells slots : Nat) (H : AHeap) (g : JFrame) (pc' : Nat) (ls' : List Slot) (st' : List Value) (H' : AHeap) : Prop :=
  ∃ T' locs', Stand p l e R s m args below meth c T' locs' (cells + (H'.length - H.length)) (slots + (tot ws H' - tot ws H)) ∧ Sim Z ws k sa n0 H' T'.heap ∧ Fr n0 locs' ∧
    ∀ target, Steps p.tables e below (T'.setTop (fr (adr k sa n0) m pc' ls' st')) target → Steps p.tables e below (T.setTop g) target
theorem Beh.stay {g : JFrame} {pc' : Nat} {st' : List Value} {T' : State} (X : Stand p l e R s m args below meth c T' locs cells slots) (S : Sim Z ws k sa n0 H T'.heap) (N : Fr n0 locs)
    (h : ∀ target, Steps p.tables e below (T'.setTop (fr (adr k sa n0) m pc' ls st')) target → Steps p.tables e below (T.setTop g) target) : Beh p l e R s m args below meth c T Z ws k sa n0 cells slots H g pc' ls st' H :=
  ⟨T', locs, by rw [Nat.sub_self, Nat.sub_self]; exact X, S, N, h⟩
theorem hGet_sound (hw : ∀ d ∈ ws, d.before a0 Z = true) (X : Stand p l e R s m args below meth c T locs cells slots) (hx : p.tables.exec = Jvm.exec) (hZ : Z.Warmed39 s.vm) (hown : s.vm.findClass y.cls = some m.cls)
    {i : Nat} (hd : decode c.code pc = .ok (.getfield i, 3)) {q : Nat × List Value × AHeap} (hs : hGet ws y.cls i pc H st = some q) (S : Sim Z ws k sa n0 H T.heap) (N : Fr n0 locs) :
    Beh p l e R s m args below meth c T Z ws k sa n0 cells slots H (fr (adr k sa n0) m pc ls st) q.1 ls q.2.1 q.2.2 := by
  unfold hGet at hs
  split at hs
  · rename_i a r
    split at hs
    · rename_i C j C' vs q1 q2
      split at hs
      · rename_i hC; subst hC
        obtain ⟨v, hv, rfl⟩ := Option.map_eq_some_iff.mp hs
        obtain ⟨n, t, r1, r2⟩ := gfR_some q1
        obtain ⟨v', hv', F⟩ := (S.2.2.2.2 a _ q2).2 n t j r2
        cases hv.symm.trans hv'
        obtain ⟨T', X', e', st'⟩ := getF X hx hZ hown (host := "") (Or.inl (hw _ (rFld_mem r1))) Via.refl rfl F (g := fr (adr k sa n0) m pc ls (.ref a :: r)) rfl rfl hd
        exact Beh.stay X' (by rw [e']; exact S) N st'
      · cases hs
    · cases hs
  · cases hs
theorem hPut_sound (hw : ∀ d ∈ ws, d.before a0 Z = true) (X : Stand p l e R s m args below meth c T locs cells slots) (hx : p.tables.exec = Jvm.exec) (hZ : Z.Warmed39 s.vm) (hown : s.vm.findClass y.cls = some m.cls) (hnm : meth.name = y.name)
    {i : Nat} (hd : decode c.code pc = .ok (.putfield i, 3)) {q : Nat × List Value × AHeap} (hs : hPut ws k y.cls y.name i pc H st = some q) (S : Sim Z ws k sa n0 H T.heap) (N : Fr n0 locs) :
    Beh p l e R s m args below meth c T Z ws k sa n0 cells slots H (fr (adr k sa n0) m pc ls st) q.1 ls q.2.1 q.2.2 := by
  unfold hPut at hs
  split at hs
  · rename_i v a r
    split at hs
    · rename_i C j ty C' vs q1 q2
      split at hs
      · rename_i hC; obtain ⟨rfl, hk, hj⟩ := hC
        obtain ⟨v', hv, rfl⟩ := Option.map_eq_some_iff.mp hs
        obtain ⟨n, t, r1, r2, r3, r4, ⟨ki, r5⟩, r6⟩ := pfR_some q1
        have SO := S.2.2.2.2 a _ q2
        obtain ⟨w, hw', F⟩ := SO.2 n t j r2
        obtain ⟨g1, g2⟩ := putv_ok (adr k sa n0) hv
        obtain ⟨T', h', X', e', W, st'⟩ := putFN X hx hZ hown (hw _ (rFld_mem r1)) Via.refl rfl F SO.1 (r4.imp (fun q => hw _ q) fun q => ⟨hw _ q.1, q.2.1, hnm.trans q.2.2⟩) (hw _ r5) r3 g1 g2 (g := fr (adr k sa n0) m pc ls (v :: .ref a :: r)) rfl rfl hd
        have LL : ∀ {n' t' : String}, (n', t') ∈ olay ws C → Laid Z a0 C C n' t' := fun q => (lay_mem q).1.imp (fun q => hw _ q) (fun q => hw _ q)
        have O' : SimO Z ws (adr k sa n0) h' (adr k sa n0 a) (.object C, vs.set j v') := by
          refine ⟨SO.1.wr W, fun n' t' j' q' => ?_⟩
          obtain ⟨u, hu, F'⟩ := SO.2 n' t' j' q'
          by_cases ej : j = j'
          · subst ej
            obtain ⟨rfl, rfl⟩ := fidx_inj r2 q'
            exact ⟨v', by rw [List.getElem?_set_self hj], F.same W⟩
          · refine ⟨u, by rw [List.getElem?_set_ne ej]; exact hu, F'.other W (Or.inr ?_)⟩
            obtain ⟨-, ty', p'⟩ := lay_mem (fidx_mem q')
            refine slot_ne (LL (fidx_mem q')) (LL (fidx_mem r2)) (fun en => ?_) p' r3
            rcases r6 n' t' (fidx_mem q') with g | g
            · exact g en
            · subst en g; rw [r2] at q'; exact ej (Option.some.inj q')
        refine ⟨T', _, ?_, by rw [e']; exact Wr.upd S W O', Fr.snoc X' N (adr_ge hk), st'⟩
        show Stand p l e R s m args below meth c T' _ (cells + ((H.set a (.object C, vs.set j v')).length - H.length)) (slots + (tot ws (H.set a (.object C, vs.set j v')) - tot ws H))
        rw [List.length_set, tot_set (o := (.object C, vs)) (o' := (.object C, vs.set j v')) q2 rfl, Nat.sub_self, Nat.sub_self]
        exact X'
      · cases hs
    · cases hs
  · cases hs
theorem hNew_sound (hw : ∀ d ∈ ws, d.before a0 Z = true) (X : Stand p l e R s m args below meth c T locs cells slots) (hx : p.tables.exec = Jvm.exec) (hZ : Z.Warmed39 s.vm) (hown : s.vm.findClass y.cls = some m.cls)
    {i : Nat} (hd : decode c.code pc = .ok (.new i, 3)) {q : Nat × List Value × AHeap} (hs : hNew ws y.cls i pc H st = some q) (S : Sim Z ws k sa n0 H T.heap) (N : Fr n0 locs)
    (hc : cells + (q.2.2.length - H.length) ≤ R.cells) (hl : slots + (tot ws q.2.2 - tot ws H) ≤ R.slots) (hz0 : T.heap.size = s.heap.size + cells) :
    Beh p l e R s m args below meth c T Z ws k sa n0 cells slots H (fr (adr k sa n0) m pc ls st) q.1 ls q.2.1 q.2.2 := by
  unfold hNew at hs
  split at hs
  · rename_i C q1
    split at hs
    · rename_i g; cases hs
      obtain ⟨ki, hki⟩ := Option.isSome_iff_exists.mp g.1
      have ec : (H ++ [(FieldType.object C, (olay ws C).map dflt)]).length - H.length = 1 := by simp
      have es : tot ws (H ++ [(FieldType.object C, (olay ws C).map dflt)]) - tot ws H = ki := by
        rw [tot_app]; simp [cost, hki]
      dsimp only at hc hl ⊢
      rw [ec] at hc; rw [es] at hl
      have hz := S.next
      obtain ⟨T', h', X', e', E, A, D, -, st'⟩ := newO X hx hZ hown (hw _ (rCls_mem q1)) (hw _ (rInst_mem hki)) (hw _ (hasInit_mem g.2)) rfl (g := fr (adr k sa n0) m pc ls st) rfl hd hc hl
      have hz' : h'.size = T.heap.size + 1 := by
        have u1 := X'.heapSize
        have a1 : (T.heap.size : Nat) < h'.size := A.lt
        rw [e'] at u1
        omega
      refine ⟨T', locs, by rw [ec, es]; exact X', ?_, N, ?_⟩
      · rw [e']
        refine S.push E hz' ⟨A, fun n t j q => ?_⟩
        have hm := fidx_mem q
        obtain ⟨q2, ty, q3⟩ := lay_mem hm
        refine ⟨dflt (n, t), by rw [List.getElem?_map, idx_get q]; rfl, ?_⟩
        have F := D (O := C) (nm := n) (d := t) (q2.imp (fun q => hw _ q) (fun q => hw _ q)) q3
        have e3 : ren (adr k sa n0) (dflt (n, t)) = defaultValue ty := by simp only [dflt, q3, ren_dflt]
        rw [e3]; exact F
      · intro target ht
        rw [hz] at st'
        exact st' target ht
    · cases hs
  · cases hs
theorem hNewA_sound (hw : ∀ d ∈ ws, d.before a0 Z = true) (X : Stand p l e R s m args below meth c T locs cells slots) (hx : p.tables.exec = Jvm.exec) (hZ : Z.Warmed39 s.vm)
    {aty : ArrayType} (hd : decode c.code pc = .ok (.newarray aty, 2)) {q : Nat × List Value × AHeap} (hs : hNewA ws aty pc H st = some q) (S : Sim Z ws k sa n0 H T.heap) (N : Fr n0 locs)
    (hc : cells + (q.2.2.length - H.length) ≤ R.cells) (hl : slots + (tot ws q.2.2 - tot ws H) ≤ R.slots) (hz0 : T.heap.size = s.heap.size + cells) :
    Beh p l e R s m args below meth c T Z ws k sa n0 cells slots H (fr (adr k sa n0) m pc ls st) q.1 ls q.2.1 q.2.2 := by
  unfold hNewA at hs
  split at hs
  · rename_i n r
    split at hs
    · rename_i g; cases hs
      obtain ⟨g1, g2, g3⟩ := g
      have ec : (H ++ [(FieldType.array (newarray.typeOf aty), List.replicate n.toNatClampNeg (defaultValue (newarray.typeOf aty)))]).length - H.length = 1 := by simp
      have es : tot ws (H ++ [(FieldType.array (newarray.typeOf aty), List.replicate n.toNatClampNeg (defaultValue (newarray.typeOf aty)))]) - tot ws H = n.toNatClampNeg := by
        rw [tot_app]; simp [cost]
      dsimp only at hc hl ⊢
      rw [ec] at hc; rw [es] at hl
      have hz := S.next
      obtain ⟨T', h', cA, X', e', E, A, st'⟩ := newP X hx hZ (hw _ (hasArr_mem g1)) rfl (g := fr (adr k sa n0) m pc ls (.int n :: r)) rfl hd rfl g2 (cap := n.toNatClampNeg) (Nat.le_refl _) g3 hc hl
      have hz' : h'.size = T.heap.size + 1 := by
        have u1 := X'.heapSize
        have a1 : (T.heap.size : Nat) < h'.size := A.lt
        rw [e'] at u1
        omega
      refine ⟨T', locs, by rw [ec, es]; exact X', ?_, N, ?_⟩
      · rw [e']
        refine S.push E hz' ⟨_, A, ?_⟩
        simp [newA, ren_dflt]
      · intro target ht
        rw [hz] at st'
        exact st' target ht
    · cases hs
  · cases hs
theorem hLd_some {ok : FieldType → Bool} {q : Nat × List Value × AHeap} (hs : hLd ok pc H st = some q) : ∃ j a r ty vs v, st = .int j :: .ref a :: r ∧ H[a]? = some (.array ty, vs) ∧ ok ty = true ∧ ¬ j < 0 ∧ vs[j.toNatClampNeg]? = some v ∧ q = (pc + 1, v :: r, H) := by
  unfold hLd at hs
  split at hs
  · split at hs
    · split at hs
      · rename_i g
        obtain ⟨v, h1, h2⟩ := Option.map_eq_some_iff.mp hs
        exact ⟨_, _, _, _, _, v, rfl, by assumption, g.1, g.2, h1, h2.symm⟩
      · cases hs
    · cases hs
  · cases hs
theorem hSt_some {ok : FieldType → Bool} {q : Nat × List Value × AHeap} (hs : hSt ok k pc H st = some q) : ∃ v j a r ty vs v', st = v :: .int j :: .ref a :: r ∧ H[a]? = some (.array ty, vs) ∧ ok ty = true ∧ k ≤ a ∧ ¬ j < 0 ∧ j.toNatClampNeg < vs.length ∧ putv ty v = some v' ∧ q = (pc + 1, r, H.set a (.array ty, vs.set j.toNatClampNeg v')) := by
  unfold hSt at hs
  split at hs
  · split at hs
    · split at hs
      · rename_i g
        obtain ⟨v, h1, h2⟩ := Option.map_eq_some_iff.mp hs
        exact ⟨_, _, _, _, _, _, v, rfl, by assumption, g.1, g.2.1, g.2.2.1, g.2.2.2, h1, h2.symm⟩
      · cases hs
    · cases hs
  · cases hs
theorem hLen_some {q : Nat × List Value × AHeap} (hs : hLen pc H st = some q) : ∃ a r ty vs, st = .ref a :: r ∧ H[a]? = some (.array ty, vs) ∧ q = (pc + 1, .int vs.length.toInt32 :: r, H) := by
  unfold hLen at hs
  split at hs
  · split at hs
    · cases hs; exact ⟨_, _, _, _, rfl, by assumption, rfl⟩
    · cases hs
  · cases hs
/-- behind a store into an array -/
theorem st_beh {T' : State} {h' : Heap} {a j : Nat} {ty : FieldType} {vs : List Value} {v' : Value} {r : List Value} {g : JFrame} (X' : Stand p l e R s m args below meth c T' (locs ++ [⟨adr k sa n0 a, j⟩]) cells slots) (e' : T'.heap = h') (W : Wr T.heap h' (adr k sa n0 a) j (ren (adr k sa n0) v'))
    (S : Sim Z ws k sa n0 H T.heap) (N : Fr n0 locs) (q2 : H[a]? = some (.array ty, vs)) (hk : k ≤ a)
    (st' : ∀ target, Steps p.tables e below (T'.setTop (fr (adr k sa n0) m (pc + 1) ls r)) target → Steps p.tables e below (T.setTop g) target) :
    Beh p l e R s m args below meth c T Z ws k sa n0 cells slots H g (pc + 1) ls r (H.set a (.array ty, vs.set j v')) := by
  obtain ⟨cl, A, es⟩ := S.2.2.2.2 a _ q2
  refine ⟨T', _, ?_, by rw [e']; exact Wr.upd S W ⟨_, A.same W, size_set cl j _ _ es rfl⟩, Fr.snoc X' N (adr_ge hk), st'⟩
  rw [List.length_set, tot_set (o := (.array ty, vs)) (o' := (.array ty, vs.set j v')) q2 (by simp [cost]), Nat.sub_self, Nat.sub_self]
  exact X'
set_option maxHeartbeats 1000000 in
theorem hstep_sound (hw : ∀ d ∈ ws, d.before a0 Z = true) (X : Stand p l e R s m args below meth c T locs cells slots) (hx : p.tables.exec = Jvm.exec) (hZ : Z.Warmed39 s.vm) (hown : s.vm.findClass y.cls = some m.cls) (hnm : meth.name = y.name)
    {ins : Instr} {len : Nat} (hd : decode c.code pc = .ok (ins, len)) {q : Nat × List Value × AHeap} (hs : hstep ws k y ins len pc st H = some q) (S : Sim Z ws k sa n0 H T.heap) (N : Fr n0 locs)
    (hc : cells + (q.2.2.length - H.length) ≤ R.cells) (hl : slots + (tot ws q.2.2 - tot ws H) ≤ R.slots) (hz0 : T.heap.size = s.heap.size + cells) :
    Beh p l e R s m args below meth c T Z ws k sa n0 cells slots H (fr (adr k sa n0) m pc ls st) q.1 ls q.2.1 q.2.2 := by
  unfold hstep at hs
  split at hs
  · obtain ⟨rfl, hs⟩ := chk_some hs
    exact hGet_sound hw X hx hZ hown hd hs S N
  · obtain ⟨rfl, hs⟩ := chk_some hs
    exact hPut_sound hw X hx hZ hown hnm hd hs S N
  · obtain ⟨rfl, hs⟩ := chk_some hs
    exact hNew_sound hw X hx hZ hown hd hs S N hc hl hz0
  · obtain ⟨rfl, hs⟩ := chk_some hs
    exact hNewA_sound hw X hx hZ hd hs S N hc hl hz0
  · obtain ⟨rfl, hs⟩ := chk_some hs
    obtain ⟨j, a, r, ty, vs, v, rfl, q2, ho, hj, hv, rfl⟩ := hLd_some hs
    obtain rfl : ty = _ := of_decide_eq_true ho
    obtain ⟨cl, A, es⟩ := S.2.2.2.2 a _ q2
    have hlt := (List.getElem?_eq_some_iff.mp hv).1
    exact Beh.stay X S N fun target ht => X.iaload hx (j := j) (v := ren (adr k sa n0) v) A.1 (State.isArrayOf_alike hZ.alike A.2.1) A.2.2 (fun g => g.elim hj fun g => by rw [es] at g; simp at g; omega) (by rw [es, List.getElem?_toArray, List.getElem?_map, hv]; rfl) (g := fr (adr k sa n0) m pc ls (.int j :: .ref a :: r)) rfl rfl hd target ht
  · obtain ⟨rfl, hs⟩ := chk_some hs
    obtain ⟨j, a, r, ty, vs, v, rfl, q2, ho, hj, hv, rfl⟩ := hLd_some hs
    obtain rfl : ty = _ := of_decide_eq_true ho
    obtain ⟨cl, A, es⟩ := S.2.2.2.2 a _ q2
    have hlt := (List.getElem?_eq_some_iff.mp hv).1
    exact Beh.stay X S N fun target ht => X.caload hx (j := j) (v := ren (adr k sa n0) v) A.1 (State.isArrayOf_alike hZ.alike A.2.1) A.2.2 (fun g => g.elim hj fun g => by rw [es] at g; simp at g; omega) (by rw [es, List.getElem?_toArray, List.getElem?_map, hv]; rfl) (g := fr (adr k sa n0) m pc ls (.int j :: .ref a :: r)) rfl rfl hd target ht
  · obtain ⟨rfl, hs⟩ := chk_some hs
    obtain ⟨j, a, r, ty, vs, v, rfl, q2, ho, hj, hv, rfl⟩ := hLd_some hs
    obtain rfl : ty = _ := of_decide_eq_true ho
    obtain ⟨cl, A, es⟩ := S.2.2.2.2 a _ q2
    have hlt := (List.getElem?_eq_some_iff.mp hv).1
    exact Beh.stay X S N fun target ht => X.laload hx (j := j) (v := ren (adr k sa n0) v) A.1 (State.isArrayOf_alike hZ.alike A.2.1) A.2.2 (fun g => g.elim hj fun g => by rw [es] at g; simp at g; omega) (by rw [es, List.getElem?_toArray, List.getElem?_map, hv]; rfl) (g := fr (adr k sa n0) m pc ls (.int j :: .ref a :: r)) rfl rfl hd target ht
  · obtain ⟨rfl, hs⟩ := chk_some hs
    obtain ⟨j, a, r, ty, vs, v, rfl, q2, ho, hj, hv, rfl⟩ := hLd_some hs
    obtain ⟨cl, A, es⟩ := S.2.2.2.2 a _ q2
    have hlt := (List.getElem?_eq_some_iff.mp hv).1
    simp only [okB, Bool.or_eq_true, decide_eq_true_eq] at ho
    rcases ho with rfl | rfl
    · exact Beh.stay X S N fun target ht => X.baloadBytes hx (j := j) (v := ren (adr k sa n0) v) A.1 (State.isArrayOf_alike hZ.alike A.2.1) A.2.2 (fun g => g.elim hj fun g => by rw [es] at g; simp at g; omega) (by rw [es, List.getElem?_toArray, List.getElem?_map, hv]; rfl) (g := fr (adr k sa n0) m pc ls (.int j :: .ref a :: r)) rfl rfl hd target ht
    · exact Beh.stay X S N fun target ht => X.baloadBooleans hx (j := j) (v := ren (adr k sa n0) v) A.1 (State.isArrayOf_alike hZ.alike A.2.1) A.2.2 (fun g => g.elim hj fun g => by rw [es] at g; simp at g; omega) (by rw [es, List.getElem?_toArray, List.getElem?_map, hv]; rfl) (g := fr (adr k sa n0) m pc ls (.int j :: .ref a :: r)) rfl rfl hd target ht
  · obtain ⟨rfl, hs⟩ := chk_some hs
    obtain ⟨v, j, a, r, ty, vs, v', rfl, q2, ho, hk, hj, hlt, hv, rfl⟩ := hSt_some hs
    obtain rfl : ty = _ := of_decide_eq_true ho
    obtain ⟨cl, A, es⟩ := S.2.2.2.2 a _ q2
    cases v <;> simp only [putv, Option.some.injEq, reduceCtorEq] at hv
    subst hv
    obtain ⟨T', h', X', e', W, st'⟩ := stI X hx hZ rfl A (j := j) (fun g => g.elim hj fun g => by rw [es] at g; simp at g; omega) (g := fr (adr k sa n0) m pc ls (.int _ :: .int j :: .ref a :: r)) rfl rfl hd
    exact st_beh X' e' W S N q2 hk st'
  · obtain ⟨rfl, hs⟩ := chk_some hs
    obtain ⟨v, j, a, r, ty, vs, v', rfl, q2, ho, hk, hj, hlt, hv, rfl⟩ := hSt_some hs
    obtain rfl : ty = _ := of_decide_eq_true ho
    obtain ⟨cl, A, es⟩ := S.2.2.2.2 a _ q2
    cases v <;> simp only [putv, Option.some.injEq, reduceCtorEq] at hv
    subst hv
    obtain ⟨T', h', X', e', W, st'⟩ := stC X hx hZ rfl A (j := j) (fun g => g.elim hj fun g => by rw [es] at g; simp at g; omega) (g := fr (adr k sa n0) m pc ls (.int _ :: .int j :: .ref a :: r)) rfl rfl hd
    exact st_beh X' e' W S N q2 hk st'
  · obtain ⟨rfl, hs⟩ := chk_some hs
    obtain ⟨v, j, a, r, ty, vs, v', rfl, q2, ho, hk, hj, hlt, hv, rfl⟩ := hSt_some hs
    obtain rfl : ty = _ := of_decide_eq_true ho
    obtain ⟨cl, A, es⟩ := S.2.2.2.2 a _ q2
    cases v <;> simp only [putv, Option.some.injEq, reduceCtorEq] at hv
    subst hv
    obtain ⟨T', h', X', e', W, st'⟩ := stJ X hx hZ rfl A (j := j) (fun g => g.elim hj fun g => by rw [es] at g; simp at g; omega) (g := fr (adr k sa n0) m pc ls (.long _ :: .int j :: .ref a :: r)) rfl rfl hd
    exact st_beh X' e' W S N q2 hk st'
  · obtain ⟨rfl, hs⟩ := chk_some hs
    obtain ⟨v, j, a, r, ty, vs, v', rfl, q2, ho, hk, hj, hlt, hv, rfl⟩ := hSt_some hs
    obtain ⟨cl, A, es⟩ := S.2.2.2.2 a _ q2
    simp only [okB, Bool.or_eq_true, decide_eq_true_eq] at ho
    rcases ho with rfl | rfl
    · cases v <;> simp only [putv, Option.some.injEq, reduceCtorEq] at hv
      subst hv
      obtain ⟨T', h', X', e', W, st'⟩ := stB X hx hZ rfl A (j := j) (fun g => g.elim hj fun g => by rw [es] at g; simp at g; omega) (g := fr (adr k sa n0) m pc ls (.int _ :: .int j :: .ref a :: r)) rfl rfl hd
      exact st_beh X' e' W S N q2 hk st'
    · cases v <;> simp only [putv, Option.some.injEq, reduceCtorEq] at hv
      subst hv
      obtain ⟨T', h', X', e', W, st'⟩ := stZ X hx hZ rfl A (j := j) (fun g => g.elim hj fun g => by rw [es] at g; simp at g; omega) (g := fr (adr k sa n0) m pc ls (.int _ :: .int j :: .ref a :: r)) rfl rfl hd
      exact st_beh X' e' W S N q2 hk st'
  · obtain ⟨rfl, hs⟩ := chk_some hs
    obtain ⟨a, r, ty, vs, rfl, q2, rfl⟩ := hLen_some hs
    obtain ⟨cl, A, es⟩ := S.2.2.2.2 a _ q2
    have ez : cl.slots.size = vs.length := by rw [es]; simp
    refine Beh.stay X S N fun target ht => X.arraylength hx (cell := cl) A.1 (State.isArrayOf_alike hZ.alike A.2.1) (g := fr (adr k sa n0) m pc ls (.ref a :: r)) rfl rfl hd target ?_
    rw [ez]; exact ht
  · obtain ⟨rfl, hs⟩ := chk_some hs
    obtain ⟨v, hv, rfl⟩ := Option.map_eq_some_iff.mp hs
    exact Beh.stay X S N (X.ldcInt hx hown (mvT hZ (hw _ (rCon_mem hv))) (g := fr (adr k sa n0) m pc ls st) rfl hd)
  · obtain ⟨rfl, hs⟩ := chk_some hs
    obtain ⟨v, hv, rfl⟩ := Option.map_eq_some_iff.mp hs
    exact Beh.stay X S N (X.ldcwInt hx hown (mvT hZ (hw _ (rCon_mem hv))) (g := fr (adr k sa n0) m pc ls st) rfl hd)
  · obtain ⟨rfl, hs⟩ := chk_some hs
    obtain ⟨v, hv, rfl⟩ := Option.map_eq_some_iff.mp hs
    exact Beh.stay X S N (X.ldc2Long hx hown (mvT hZ (hw _ (rConL_mem hv))) (g := fr (adr k sa n0) m pc ls st) rfl hd)
  · cases hs
end H
theorem hstep_size {ws : Ws} {k : Nat} {y : MethodName} {ins : Instr} {len pc : Nat} {st : List Value} {H : AHeap} {q : Nat × List Value × AHeap} (hs : hstep ws k y ins len pc st H = some q) : H.length ≤ q.2.2.length ∧ tot ws H ≤ tot ws q.2.2 := by
  unfold hstep at hs
  split at hs
  · obtain ⟨rfl, hs⟩ := chk_some hs
    unfold hGet at hs
    split at hs
    · split at hs
      · split at hs
        · obtain ⟨v, -, rfl⟩ := Option.map_eq_some_iff.mp hs; exact ⟨Nat.le_refl _, Nat.le_refl _⟩
        · cases hs
      · cases hs
    · cases hs
  · obtain ⟨rfl, hs⟩ := chk_some hs
    unfold hPut at hs
    split at hs
    · split at hs
      · rename_i C j ty C' vs q1 q2
        split at hs
        · obtain ⟨v, -, rfl⟩ := Option.map_eq_some_iff.mp hs
          exact ⟨Nat.le_of_eq (by rw [List.length_set]), Nat.le_of_eq (tot_set (o := (.object C', vs)) (o' := (.object C', vs.set j v)) q2 rfl).symm⟩
        · cases hs
      · cases hs
    · cases hs
  · obtain ⟨rfl, hs⟩ := chk_some hs
    unfold hNew at hs
    split at hs
    · split at hs
      · cases hs; exact ⟨by simp, by rw [tot_app]; omega⟩
      · cases hs
    · cases hs
  · obtain ⟨rfl, hs⟩ := chk_some hs
    unfold hNewA at hs
    split at hs
    · split at hs
      · cases hs; exact ⟨by simp, by rw [tot_app]; omega⟩
      · cases hs
    · cases hs
  all_goals first
    | (obtain ⟨rfl, hs⟩ := chk_some hs; obtain ⟨j, a, r, ty, vs, v, rfl, q2, ho, hj, hv, rfl⟩ := hLd_some hs; exact ⟨Nat.le_refl _, Nat.le_refl _⟩)
    | (obtain ⟨rfl, hs⟩ := chk_some hs; obtain ⟨v, j, a, r, ty, vs, v', rfl, q2, ho, hk, hj, hlt, hv, rfl⟩ := hSt_some hs; exact ⟨Nat.le_of_eq (by rw [List.length_set]), Nat.le_of_eq (tot_set (o := (.array ty, vs)) (o' := (.array ty, vs.set _ v')) q2 (by simp [cost])).symm⟩)
    | (obtain ⟨rfl, hs⟩ := chk_some hs; obtain ⟨a, r, ty, vs, rfl, q2, rfl⟩ := hLen_some hs; exact ⟨Nat.le_refl _, Nat.le_refl _⟩)
    | (obtain ⟨rfl, hs⟩ := chk_some hs; obtain ⟨v, hv, rfl⟩ := Option.map_eq_some_iff.mp hs; exact ⟨Nat.le_refl _, Nat.le_refl _⟩)
    | (cases hs; done)
end Jvm.Own
namespace Jvm.Own
open Sem ClassFile Op Lib Jvm.Stand Jvm.Free Jvm.LawKit Jvm.RoadKit
/-! OWN 5: the run is the machine's -/
theorem ent_ren (f : Nat → Nat) : ∀ as : List Value, ent (as.map (ren f)) = (ent as).map (renS f)
  | [] => rfl
  | v :: r => by
    simp only [List.map_cons, ent, ren_cat, ent_ren f r]
    split <;> rfl
theorem fill_eq : ∀ (as : List Value) (acc : Array Slot), as.foldl (fun acc v => if v.category = 2 then (acc.push (.val v)).push .second else acc.push (.val v)) acc = acc ++ (ent as).toArray
  | [], acc => by simp [ent]
  | v :: r, acc => by
    simp only [List.foldl_cons, ent]
    split
    · rw [fill_eq r]; simp [← Array.toList_inj]
    · rw [fill_eq r]; simp [← Array.toList_inj]
theorem entry_eq (f : Nat → Nat) (m : MethodId) (as : List Value) (mx : Nat) : entryFrame m (as.map (ren f)).toArray mx = fr f m 0 (entry as mx) [] := by
  have h : argsToLocals (as.map (ren f)).toArray mx = ((entry as mx).map (renS f)).toArray := by
    unfold argsToLocals entry
    simp only [List.foldl_toArray']
    rw [fill_eq, ent_ren]
    simp [← Array.toList_inj, renS]
  unfold entryFrame
  rw [h]; rfl
theorem entry_len {as : List Value} {mx : Nat} (h : (ent as).length ≤ mx) : (entry as mx).length = mx := by simp [entry]; omega
theorem wsum_ren (f : Nat → Nat) (st : List Value) : ((st.map (ren f)).map fun v => v.category).sum = wsum st := by
  unfold wsum
  rw [List.map_map]
  congr 1
  apply List.map_congr_left
  intro v _
  exact ren_cat f v
section Inv
variable {ws : Ws} {dn : Dn} {k : Nat} {y : MethodName} {bytes : ByteArray} {ret : Option FieldType} {pc : Nat} {ls : List Slot} {st : List Value} {H : AHeap}
theorem cR_some {i : Nat} {y' : MethodName} {b : ByteArray} {mx na sl : Nat} {r : Option FieldType} (h : cR ws dn y i = some (y', b, mx, r, na, sl)) :
    Jvm.Cond.methodLink y.cls i y' ∈ ws ∧ Jvm.Cond.code y' b mx r ∈ ws ∧ Jvm.Cond.initialized y'.cls ∈ ws ∧ Jvm.plainName y'.cls = true ∧ (y'.cls ≠ "java/lang/invoke/MethodHandle" ∧ y'.cls ≠ "java/lang/invoke/VarHandle") ∧ rCode ws y' = some (b, mx, r) ∧
    ∃ f' l' f l sig, dnOf dn y' = some (f', l') ∧ dnOf dn y = some (f, l) ∧ parseMethodDescriptor y'.desc = some sig ∧ na = sig.parameters.length ∧ f' + 1 ≤ f ∧ sl + (mx + 11) + l' ≤ l := by
  unfold cR at h
  split at h
  · cases h
  · rename_i z q1
    split at h
    · rename_i b' mx' r' f' l' f l sig q2 q3 q4 q5
      split at h
      · rename_i g
        cases h
        obtain ⟨g1, g2, g3, g4, g5, g6⟩ := g
        exact ⟨rMth_mem q1, rCode_mem q2, hasInit_mem g1, g2, ⟨g3, g4⟩, q2, f', l', f, l, sig, q3, q4, q5, rfl, g5, by omega⟩
      · cases h
    · cases h
theorem act_ret {v : Option Value} (h : act ws dn k y bytes ret pc ls st H = some (.inl v)) : (∃ z r t, decode bytes pc = .ok (.ireturn, 1) ∧ st = .int z :: r ∧ ret = some t ∧ (t = .int ∨ t = .boolean ∨ t = .byte ∨ t = .char ∨ t = .short) ∧ v = some (.int (nar t z))) ∨
    (∃ z, decode bytes pc = .ok (.lreturn, 1) ∧ st = [.long z] ∧ ret = some .long ∧ v = some (.long z)) ∨ (decode bytes pc = .ok (.return_, 1) ∧ st = [] ∧ ret = none ∧ v = none) := by
  unfold act at h
  split at h
  · cases h
  rename_i ins len hd
  split at h
  · cases h
  split at h
  · cases h
  unfold cstep at h
  split at h
  · obtain ⟨rfl, h⟩ := chk_some h
    split at h
    · split at h
      · rename_i g; cases h; exact Or.inl ⟨_, _, _, hd, rfl, rfl, g, rfl⟩
      · cases h
    · cases h
  · obtain ⟨rfl, h⟩ := chk_some h
    split at h
    · cases h; exact Or.inr (Or.inl ⟨_, hd, rfl, rfl, rfl⟩)
    · cases h
  · obtain ⟨rfl, h⟩ := chk_some h
    split at h
    · cases h; exact Or.inr (Or.inr ⟨hd, rfl, rfl, rfl⟩)
    · cases h
  · obtain ⟨rfl, h⟩ := chk_some h
    split at h
    · split at h <;> cases h
    · cases h
  · obtain ⟨rfl, h⟩ := chk_some h
    split at h
    · split at h
      · split at h <;> cases h
      · cases h
    · split at h
      · split at h
        · split at h <;> cases h
        · cases h
      · cases h
  · obtain ⟨rfl, h⟩ := chk_some h
    split at h
    · split at h
      · split at h
        · split at h <;> cases h
        · cases h
      · cases h
    · cases h
  · cases h
theorem act_step {pc' : Nat} {ls' : List Slot} {st' : List Value} {H' : AHeap} (h : act ws dn k y bytes ret pc ls st H = some (.inr (.inl (pc', ls', st', H')))) : ∃ ins len, decode bytes pc = .ok (ins, len) ∧
    ((xstep ins len pc ls st = some (pc', ls', st') ∧ H' = H) ∨ (ls' = ls ∧ hstep ws k y ins len pc st H = some (pc', st', H')) ∨
     (∃ i sl a r, ins = .invokespecial i ∧ len = 3 ∧ oR ws dn y i = some sl ∧ st = .ref a :: r ∧ wsum r ≤ sl ∧ pc' = pc + 3 ∧ ls' = ls ∧ st' = r ∧ H' = H)) := by
  unfold act at h
  split at h
  · cases h
  rename_i ins len hd
  refine ⟨ins, len, hd, ?_⟩
  split at h
  · rename_i g; cases h; exact Or.inl ⟨g, rfl⟩
  split at h
  · rename_i g; cases h; exact Or.inr (Or.inl ⟨rfl, g⟩)
  unfold cstep at h
  split at h
  · obtain ⟨rfl, h⟩ := chk_some h
    split at h
    · split at h <;> cases h
    · cases h
  · obtain ⟨rfl, h⟩ := chk_some h
    split at h <;> cases h
  · obtain ⟨rfl, h⟩ := chk_some h
    split at h <;> cases h
  · obtain ⟨rfl, h⟩ := chk_some h
    split at h
    · split at h <;> cases h
    · cases h
  · obtain ⟨rfl, h⟩ := chk_some h
    split at h
    · rename_i sl ho
      split at h
      · split at h
        · rename_i g; cases h; exact Or.inr (Or.inr ⟨_, sl, _, _, rfl, rfl, ho, rfl, g, rfl, rfl, rfl, rfl⟩)
        · cases h
      · cases h
    · split at h
      · split at h
        · split at h <;> cases h
        · cases h
      · cases h
  · obtain ⟨rfl, h⟩ := chk_some h
    split at h
    · split at h
      · split at h
        · split at h <;> cases h
        · cases h
      · cases h
    · cases h
  · cases h
/-- the three kinds of call -/
theorem act_call {y' : MethodName} {b : ByteArray} {r : Option FieldType} {en : List Slot} {rest : List Value} (h : act ws dn k y bytes ret pc ls st H = some (.inr (.inr (y', b, r, en, rest)))) : ∃ i mx na sl as, cR ws dn y i = some (y', b, mx, r, na, sl) ∧ en = entry as mx ∧ (ent as).length ≤ mx ∧ wsum rest ≤ sl ∧
    ((decode bytes pc = .ok (.invokestatic i, 3) ∧ Jvm.Cond.static y' ∈ ws ∧ as.length = na ∧ st = as.reverse ++ rest) ∨
     (∃ a as', as = .ref a :: as' ∧ as'.length = na ∧ st = as'.reverse ++ .ref a :: rest ∧ Jvm.Cond.instanceMethod y' ∈ ws ∧
      ((decode bytes pc = .ok (.invokespecial i, 3) ∧ y'.name = "<init>" ∧ r = none) ∨
       (decode bytes pc = .ok (.invokevirtual i, 3) ∧ ∃ C vs, H[a]? = some (.object C, vs) ∧ ((Jvm.Cond.privateMethod y' ∈ ws ∧ ∃ ki, Jvm.Cond.instantiable y'.cls ki ∈ ws) ∨ (Jvm.Cond.declares y' ∈ ws ∧ Jvm.Cond.selects y'.cls y' y' ∈ ws ∧ C = y'.cls)))))) := by
  unfold act at h
  split at h
  · cases h
  rename_i ins len hd
  split at h
  · cases h
  split at h
  · cases h
  unfold cstep at h
  split at h
  · obtain ⟨rfl, h⟩ := chk_some h
    split at h
    · split at h <;> cases h
    · cases h
  · obtain ⟨rfl, h⟩ := chk_some h
    split at h <;> cases h
  · obtain ⟨rfl, h⟩ := chk_some h
    split at h <;> cases h
  · rename_i i _ _
    obtain ⟨rfl, h⟩ := chk_some h
    split at h
    · rename_i y1 b1 mx r1 na sl hq
      split at h
      · rename_i g
        cases h
        unfold sR at hq
        split at hq
        · rename_i q hc
          split at hq
          · rename_i hs
            cases hq
            refine ⟨i, mx, na, sl, _, hc, rfl, g.2.2, g.2.1, Or.inl ⟨hd, hasStat_mem hs, by simp; omega, by simp⟩⟩
          · cases hq
        · cases hq
      · cases h
    · cases h
  · rename_i i _ _
    obtain ⟨rfl, h⟩ := chk_some h
    split at h
    · split at h
      · split at h <;> cases h
      · cases h
    · split at h
      · rename_i y1 b1 mx r1 na sl hq
        split at h
        · rename_i a rest' hdrop
          split at h
          · rename_i g
            cases h
            unfold nR at hq
            split at hq
            · rename_i q hc
              split at hq
              · rename_i hs
                cases hq
                refine ⟨i, mx, na, sl, _, hc, rfl, g.2.1, g.1, Or.inr ⟨a, _, rfl, by simp; omega, ?_, hasIM_mem hs.2.1, Or.inl ⟨hd, hs.1, hs.2.2⟩⟩⟩
                rw [List.reverse_reverse, ← hdrop, List.take_append_drop]
              · cases hq
            · cases hq
          · cases h
        · cases h
      · cases h
  · rename_i i _ _
    obtain ⟨rfl, h⟩ := chk_some h
    split at h
    · rename_i pv y1 b1 mx r1 na sl hq
      split at h
      · rename_i a rest' hdrop
        split at h
        · rename_i C vs hH
          split at h
          · rename_i g
            cases h
            unfold vR at hq
            split at hq
            · rename_i q hc
              split at hq
              · rename_i hs
                split at hq
                · rename_i hp; cases hq
                  obtain ⟨ki, hki⟩ := Option.isSome_iff_exists.mp hp.2
                  exact ⟨i, mx, na, sl, _, hc, rfl, g.2.2.1, g.2.1, Or.inr ⟨a, _, rfl, by simp; omega, by rw [List.reverse_reverse, ← hdrop, List.take_append_drop], hasIM_mem hs, Or.inr ⟨hd, C, vs, hH, Or.inl ⟨hasPriv_mem hp.1, ki, rInst_mem hki⟩⟩⟩⟩
                · split at hq
                  · rename_i hp; cases hq
                    exact ⟨i, mx, na, sl, _, hc, rfl, g.2.2.1, g.2.1, Or.inr ⟨a, _, rfl, by simp; omega, by rw [List.reverse_reverse, ← hdrop, List.take_append_drop], hasIM_mem hs, Or.inr ⟨hd, C, vs, hH, Or.inr ⟨hasDecl_mem hp.1, hasSel_mem hp.2, g.1.resolve_left (by simp)⟩⟩⟩⟩
                  · cases hq
              · cases hq
            · cases hq
          · cases h
        · cases h
      · cases h
    · cases h
  · cases h
theorem act_size {pc' : Nat} {ls' : List Slot} {st' : List Value} {H' : AHeap} (h : act ws dn k y bytes ret pc ls st H = some (.inr (.inl (pc', ls', st', H')))) : H.length ≤ H'.length ∧ tot ws H ≤ tot ws H' ∧ ls'.length = ls.length := by
  obtain ⟨ins, len, hd, ⟨g, rfl⟩ | ⟨rfl, g⟩ | ⟨i, sl, a, r, -, -, -, -, -, -, rfl, -, rfl⟩⟩ := act_step h
  · exact ⟨Nat.le_refl _, Nat.le_refl _, xstep_size g⟩
  · have := hstep_size g; exact ⟨this.1, this.2, rfl⟩
  · exact ⟨Nat.le_refl _, Nat.le_refl _, rfl⟩
end Inv
theorem run_size {ws : Ws} {dn : Dn} {k : Nat} : ∀ {n : Nat} {y : MethodName} {bytes : ByteArray} {ret : Option FieldType} {pc : Nat} {ls : List Slot} {st : List Value} {H : AHeap} {v : Option Value} {H' : AHeap}, run ws dn k n y bytes ret pc ls st H = some (v, H') → H.length ≤ H'.length ∧ tot ws H ≤ tot ws H'
  | 0, _, _, _, _, _, _, _, _, _, h => by cases h
  | n + 1, y, bytes, ret, pc, ls, st, H, v, H', h => by
    rw [run] at h
    split at h
    · cases h
    · cases h; exact ⟨Nat.le_refl _, Nat.le_refl _⟩
    · rename_i g
      have h1 := run_size h
      have h2 := act_size g
      exact ⟨Nat.le_trans h2.1 h1.1, Nat.le_trans h2.2.1 h1.2⟩
    · split at h
      · rename_i g
        have h1 := run_size h
        have h2 := run_size g
        exact ⟨Nat.le_trans h2.1 h1.1, Nat.le_trans h2.2 h1.2⟩
      · cases h
section Snd
/-- from here on the machine comes to a return of v with the heap H' -/
def Goes (p : Program) (l : Launch) (e : Env) (R : Room) (s : State) (m : MethodId) (args : Array Value) (below : List Frame) (meth : Method) (c : Code) (T : State) (Z : State) (ws : Ws) (k sa n0 cells slots : Nat) (H : AHeap) (g : JFrame) (ret : Option FieldType) (v : Option Value) (H' : AHeap) : Prop :=
  ∃ T' locs', Stand p l e R s m args below meth c T' locs' (cells + (H'.length - H.length)) (slots + (tot ws H' - tot ws H)) ∧ Sim Z ws k sa n0 H' T'.heap ∧ Fr n0 locs' ∧ (ret = none → v = none) ∧
    ∀ fs, (∀ (fj : JFrame) (acts : List Action), fj.method = m → fj.locked = none → fj.entered = [] → (doReturn e (T'.setTop fj) acts (v.map (ren (adr k sa n0)))).1 = T'.setFrames fs) → Steps p.tables e below (T.setTop g) (T'.setFrames fs)
variable {p : Program} {l : Launch} {e : Env} {R : Room} {s : State} {m : MethodId} {args : Array Value} {below : List Frame} {meth : Method} {c : Code} {T : State} {locs : List Loc} {cells slots : Nat}
  {Z : State} {a0 : Array Value} {ws : Ws} {dn : Dn} {k sa n0 : Nat}
theorem Goes.of {T1 : State} {H H1 H' : AHeap} {g g1 : JFrame} {ret : Option FieldType} {v : Option Value} (hst : ∀ target, Steps p.tables e below (T1.setTop g1) target → Steps p.tables e below (T.setTop g) target)
    (G : Goes p l e R s m args below meth c T1 Z ws k sa n0 (cells + (H1.length - H.length)) (slots + (tot ws H1 - tot ws H)) H1 g1 ret v H') (m1 : H.length ≤ H1.length ∧ tot ws H ≤ tot ws H1) (m2 : H1.length ≤ H'.length ∧ tot ws H1 ≤ tot ws H') :
    Goes p l e R s m args below meth c T Z ws k sa n0 cells slots H g ret v H' := by
  obtain ⟨T', locs', X', S', N', hv, go⟩ := G
  have e1 : cells + (H1.length - H.length) + (H'.length - H1.length) = cells + (H'.length - H.length) := by omega
  have e2 : slots + (tot ws H1 - tot ws H) + (tot ws H' - tot ws H1) = slots + (tot ws H' - tot ws H) := by omega
  rw [e1, e2] at X'
  exact ⟨T', locs', X', S', N', hv, fun fs hf => hst _ (go fs hf)⟩
def Snd (Z : State) (ws : Ws) (dn : Dn) (k sa n0 n : Nat) : Prop :=
  ∀ (y : MethodName) (bytes : ByteArray) (ret : Option FieldType) (pc : Nat) (ls : List Slot) (st : List Value) (H : AHeap) (v : Option Value) (H' : AHeap), run ws dn k n y bytes ret pc ls st H = some (v, H') →
  ∀ (p : Program) (l : Launch) (e : Env) (R : Room) (s : State) (m : MethodId) (args : Array Value) (below : List Frame) (meth : Method) (c : Code) (T : State) (locs : List Loc) (cells slots : Nat),
    Stand p l e R s m args below meth c T locs cells slots → p.tables.exec = Jvm.exec → Z.Warmed39 s.vm → s.vm.findClass y.cls = some m.cls → meth.name = y.name → meth.sig.returnType = ret → c.code = bytes → ls.length = c.maxLocals →
    (∀ f lc, dnOf dn y = some (f, lc) → f ≤ R.frames ∧ lc ≤ R.locals) → Sim Z ws k sa n0 H T.heap → Fr n0 locs → cells + (H'.length - H.length) ≤ R.cells → slots + (tot ws H' - tot ws H) ≤ R.slots → T.heap.size = s.heap.size + cells →
    Goes p l e R s m args below meth c T Z ws k sa n0 cells slots H (fr (adr k sa n0) m pc ls st) ret v H'
theorem met_of {n : Nat} (ih : Snd Z ws dn k sa n0 n) (l : Launch) {y : MethodName} {b : ByteArray} {mx f lc : Nat} {r : Option FieldType} (wsx : List Jvm.Cond) (hp : Jvm.plainName y.cls = true) {as : List Value} (he : (ent as).length ≤ mx) {H H1 : AHeap} {v : Option Value}
    (hrun : run ws dn k n y b r 0 (entry as mx) [] H = some (v, H1)) (hdn : ∀ f' l', dnOf dn y = some (f', l') → f' ≤ f ∧ l' ≤ lc) {h : Heap} (S : Sim Z ws k sa n0 H h) {rc rs : Nat} (hc : H1.length - H.length ≤ rc) (hs : tot ws H1 - tot ws H ≤ rs) :
    MetFree l y (head1 (Jvm.Cond.code y b mx r :: wsx) ({ frames := f, cells := rc, slots := rs, locals := lc } : Room)) (fun a U => a = (as.map (ren (adr k sa n0))).toArray ∧ Z.Warmed39 U.vm ∧ U.heap = h) (fun _ _ _ _ _ => True)
      (fun _ U o U' => ∃ w L, o = .returned w ∧ (w = v.map (ren (adr k sa n0)) ∧ Sim Z ws k sa n0 H1 U'.heap ∧ Fr n0 L) ∧ FrameEnd U o U' L (H1.length - H.length) (tot ws H1 - tot ws H)) := by
  refine MetFree.of_bodySF (plainFor_of_name hp) hisR ?_
  intro p e s m args below meth c s₁ Bd hml0 hP hK
  obtain ⟨rfl, hZ, hh⟩ := hP
  have hown : s.vm.findClass y.cls = some m.cls := findClass_of_methodNamed Bd.named
  have hnm := (name_of_methodNamed Bd.named Bd.method).1
  have X0 : Stand p l e ({ frames := f, cells := rc, slots := rs, locals := lc } : Room) s m (as.map (ren (adr k sa n0))).toArray below meth c s₁ [] 0 0 := Stand.of_body Bd
  have e0 : s₁.heap = h := by rw [← hh, Bd.state]; rfl
  obtain ⟨T', locs', X', S', N', hv, go⟩ := ih y b r 0 (entry as mx) [] H v H1 hrun p l e _ s m _ below meth c s₁ [] 0 0 X0 Bd.exec hZ hown hnm Bd.returns Bd.bytes (by rw [entry_len he]; exact hml0.symm) hdn (by rw [e0]; exact S) (Fr.nil n0) (by rw [Nat.zero_add]; exact hc) (by rw [Nat.zero_add]; exact hs) (by rw [e0, ← hh, Nat.add_zero])
  obtain ⟨fs, hr, hrun', hended, hW, hsame⟩ := X'.leave (v := v.map (ren (adr k sa n0))) (fun hn => by rw [Bd.returns] at hn; rw [hv hn]; rfl)
  refine ⟨_, _, castTop (entry_eq _ m as mx) (go fs hr), hrun', hended, _, locs', rfl, ⟨rfl, S', N'⟩, ⟨_, rfl⟩, hW, hsame.mono (Nat.le_of_eq (Nat.zero_add _)) (Nat.le_of_eq (Nat.zero_add _))⟩
set_option maxHeartbeats 2000000 in
theorem snd (hw : ∀ d ∈ ws, d.before a0 Z = true) : ∀ n, Snd Z ws dn k sa n0 n
  | 0 => fun y bytes ret pc ls st H v H' h => by cases h
  | n + 1 => fun y bytes ret pc ls st H v H' h p l e R s m args below meth c T locs cells slots X hx hZ hown hnm hret hby hls hF S N hc hl hz0 => by
    have ih := snd hw n
    rw [run] at h
    split at h
    · cases h
    · rename_i v' ha
      cases h
      have stay : ∀ {v : Option Value}, (ret = none → v = none) → (∀ fs, (∀ (fj : JFrame) (acts : List Action), fj.method = m → fj.locked = none → fj.entered = [] → (doReturn e (T.setTop fj) acts (v.map (ren (adr k sa n0)))).1 = T.setFrames fs) → Steps p.tables e below (T.setTop (fr (adr k sa n0) m pc ls st)) (T.setFrames fs)) →
          Goes p l e R s m args below meth c T Z ws k sa n0 cells slots H (fr (adr k sa n0) m pc ls st) ret v H := fun hv hg => ⟨T, locs, by rw [Nat.sub_self, Nat.sub_self]; exact X, S, N, hv, hg⟩
      rcases act_ret ha with ⟨z, r, t, hd, rfl, rfl, ht, rfl⟩ | ⟨z, hd, rfl, rfl, rfl⟩ | ⟨hd, rfl, rfl, rfl⟩
      · refine stay (fun h => by cases h) fun fs hf => ?_
        rcases ht with rfl | ht
        · exact retOut X hx hret (w := .int z) (rest := r.map (ren (adr k sa n0))) rfl (Or.inl ⟨rfl, Or.inl rfl, z, rfl⟩) (hb hby hd) hf
        · exact retN X hx hret ht (hb hby hd) hf
      · exact stay (fun h => by cases h) fun fs hf => retOut X hx hret (w := .long z) (rest := []) rfl (Or.inr (Or.inl ⟨rfl, rfl, z, rfl⟩)) (hb hby hd) hf
      · exact stay (fun _ => rfl) fun fs hf => X.returnOut hx hret (hb hby hd) hf
    · rename_i pc' ls' st' H1 ha
      have m1 := act_size ha
      have m2 := run_size h
      obtain ⟨ins, len, hd, ⟨g, rfl⟩ | ⟨rfl, g⟩ | ⟨i, sl, a, r, rfl, rfl, ho, rfl, hW, rfl, rfl, rfl, rfl⟩⟩ := act_step ha
      · obtain ⟨T', locs', X', S', N', hv, go⟩ := ih y bytes ret pc' ls' st' H1 v H' h p l e R s m args below meth c T locs cells slots X hx hZ hown hnm hret hby (m1.2.2.trans hls) hF S N hc hl hz0
        exact ⟨T', locs', X', S', N', hv, fun fs hf => xstep_sound X.here hx (adr k sa n0) (hb hby hd) g (go fs hf)⟩
      · obtain ⟨T1, locs1, X1, S1, N1, st1⟩ := hstep_sound (ls := ls') hw X hx hZ hown hnm (hb hby hd) g S N (by dsimp only; omega) (by dsimp only; omega) hz0
        dsimp only at X1 S1 st1
        have z1 := S.1
        have z2 := S1.1
        have z3 := S.2.1
        have G := ih y bytes ret pc' ls' st' H1 v H' h p l e R s m args below meth c T1 locs1 _ _ X1 hx hZ hown hnm hret hby hls hF S1 N1 (by omega) (by omega) (by omega)
        exact Goes.of st1 G ⟨m1.1, m1.2.1⟩ m2
      · unfold oR at ho
        split at ho
        · rename_i y1 b1 mx1 r1 f1 l1 q1 q2 q3
          split at ho
          · rename_i g
            cases ho
            obtain ⟨rfl, g2, g3, rfl, rfl, g4, g5⟩ := g
            obtain ⟨u1, u2⟩ := hF _ _ q3
            have eb : b1 = ⟨#[0xb1]⟩ := by cases b1; cases g3; rfl
            subst eb
            obtain ⟨T1, X1, e1, st1⟩ := initO X hx hZ hown (hw _ (rMth_mem q1)) (hw _ (hasIM_mem g2)) (hw _ (rCode_mem q2)) rfl (g := fr (adr k sa n0) m pc ls' (.ref a :: st')) rfl (by simp [hls]) rfl (hb hby hd) (by omega) (W := l1 - 12) (by show 2 * 0 + _ ≤ _; rw [wsum_ren]; omega) (by omega)
            have G := ih y bytes ret (pc + 3) ls' st' H1 v H' h p l e R s m args below meth c T1 locs cells slots X1 hx hZ hown hnm hret hby hls hF (by rw [e1]; exact S) N hc hl (by rw [e1]; exact hz0)
            obtain ⟨T', locs', X', S', N', hv, go⟩ := G
            exact ⟨T', locs', X', S', N', hv, fun fs hf => st1 _ (go fs hf)⟩
          · cases ho
        · cases ho
    · rename_i y' b r en rest ha
      split at h
      · rename_i v1 H1 h1
        have m1 := run_size h1
        have m2 := run_size h
        obtain ⟨i, mx, na, sl, as, hq, rfl, hen, hW, hk⟩ := act_call ha
        obtain ⟨w1, w2, w3, w4, w5, -, f', l', f, lc, sig, d1, d2, d3, d4, d5, d6⟩ := cR_some hq
        obtain ⟨u1, u2⟩ := hF _ _ d2
        have hM := met_of ih l [] w4 hen h1 (f := f') (lc := l') (fun f2 l2 q => by rw [d1] at q; cases q; exact ⟨Nat.le_refl _, Nat.le_refl _⟩) S (Nat.le_refl _) (Nat.le_refl _)
        have hB := backOf (R := R) (p := p) (e := e) (below := below) (s := s) (args := args) (len := 3) (W := sl) (rm := ({ frames := f', cells := H1.length - H.length, slots := tot ws H1 - tot ws H, locals := l' } : Room)) (Q := fun w h L => w = v1.map (ren (adr k sa n0)) ∧ Sim Z ws k sa n0 H1 h ∧ Fr n0 L) hM hZ (hw _ w2) (hw _ w3) (by show f' + 1 ≤ _; omega) (by show sl + (mx + 11) + l' ≤ _; omega)
        have hsz : (fr (adr k sa n0) m pc ls st).locals.size = c.maxLocals := by simp [hls]
        have hWW : ∀ st' : List Value, wsum st' ≤ sl → 2 * (fr (adr k sa n0) m pc ls st).monitorRoom + ((st'.map (ren (adr k sa n0))).map fun v => v.category).sum ≤ sl := fun st' q => by show 2 * 0 + _ ≤ _; rw [wsum_ren]; omega
        have hback : ∀ (v' : Option Value) (vm₁ : Vm) (B : Pt), Stand p l e R s m args below meth c B.U B.locs B.cells B.slots →
            (∃ L, (v' = v1.map (ren (adr k sa n0)) ∧ Sim Z ws k sa n0 H1 B.U.heap ∧ Fr n0 L) ∧ B.locs = locs ++ L ∧ B.cells = cells + (H1.length - H.length) ∧ B.slots = slots + (tot ws H1 - tot ws H)) →
            (∀ target, Steps p.tables e below (B.U.setTop { fr (adr k sa n0) m pc ls st with pc := pc + 3, stack := v'.toList ++ rest.map (ren (adr k sa n0)) }) target → Steps p.tables e below (T.setTop (fr (adr k sa n0) m pc ls st)) target) →
            Goes p l e R s m args below meth c T Z ws k sa n0 cells slots H (fr (adr k sa n0) m pc ls st) ret v H' := by
          rintro v' vm₁ ⟨T1, L1, k1, n1⟩ X1 ⟨Lc, ⟨rfl, S1, N1⟩, l1, y1, z1⟩ st1
          dsimp only [Pt.U, Pt.locs, Pt.cells, Pt.slots] at X1 l1 y1 z1 st1 S1
          subst l1 y1 z1
          have z1 := S.1
          have z2 := S1.1
          have z3 := S.2.1
          have G := ih y bytes ret (pc + 3) ls (v1.toList ++ rest) H1 v H' h p l e R s m args below meth c T1 _ _ _ X1 hx hZ hown hnm hret hby hls hF S1 (Fr.app N N1) (by omega) (by omega) (by omega)
          refine Goes.of (fun target ht => st1 target ?_) G m1 m2
          have e1 : (v1.toList ++ rest).map (ren (adr k sa n0)) = (v1.map (ren (adr k sa n0))).toList ++ rest.map (ren (adr k sa n0)) := by cases v1 <;> simp
          rw [← e1]; exact ht
        rcases hk with ⟨hd, ws1, hna, rfl⟩ | ⟨a, as', rfl, hna, rfl, wi, ⟨hd, hn, rfl⟩ | ⟨hd, C, vs, hH, hpd⟩⟩
        · obtain ⟨v', vm₁, B, -, X1, P1, st1⟩ := Jvm.LawKit.callS X hx (y := y') hown (mvT hZ (hw _ w1)) (mvT hZ (hw _ ws1)) (mvT hZ (hw _ w3)) (mvT hZ (hw _ w2)) w5 hB (g := fr (adr k sa n0) m pc ls (as.reverse ++ rest)) rfl hsz (argsL := as.map (ren (adr k sa n0))) (rest := rest.map (ren (adr k sa n0)))
            (fun sg hsg => by rw [d3] at hsg; cases hsg; simp [hna, d4]) (by simp) (hWW rest hW) (hb hby hd) (fun _ _ => ⟨rfl, rfl, by show cells + (H1.length - H.length) ≤ _; omega, by show slots + (tot ws H1 - tot ws H) ≤ _; omega⟩)
          exact hback v' vm₁ B X1 P1 st1
        · obtain ⟨v', vm₁, B, -, X1, P1, st1⟩ := X.specialBack hx (y := y') hn hown (mvT hZ (hw _ w1)) (mvT hZ (hw _ wi)) (mvT hZ (hw _ w2)) w5 hB (g := fr (adr k sa n0) m pc ls (as'.reverse ++ .ref a :: rest)) rfl hsz (Steps.refl _) (a := adr k sa n0 a) (argsL := as'.map (ren (adr k sa n0))) (rest := rest.map (ren (adr k sa n0)))
            (fun sg hsg => by rw [d3] at hsg; cases hsg; simp [hna, d4]) (by simp [ren]) (hWW rest hW) (hb hby hd) (fun _ _ => ⟨rfl, rfl, by show cells + (H1.length - H.length) ≤ _; omega, by show slots + (tot ws H1 - tot ws H) ≤ _; omega⟩)
          exact hback v' vm₁ B X1 P1 fun target ht => st1.trans ht
        · have E := (S.2.2.2.2 a _ hH).1
          rcases hpd with ⟨wp, ki, wki⟩ | ⟨wd, wsel, rfl⟩
          · obtain ⟨cq, hq1, hq2⟩ := E.cell
            have hpa : s.PrivateAt y' := Cond.privateMethod_at (mvP hZ (hw _ wp) (args := #[]))
            have hsel : (Jvm.Cond.selects y'.cls y' y').before args s = true := by
              have wz : (Jvm.Cond.instantiable y'.cls ki).before args s = true := mvT hZ (hw _ wki)
              obtain ⟨c2, k2, i1, i2, -, i4, -⟩ := Cond.instantiable_spec wz
              exact selects_self_of_private i1 i2 (Bool.or_eq_false_iff.mp i4).1 hpa (mvT hZ (hw _ wi)) w5
            obtain ⟨v', vm₁, B, -, X1, P1, st1⟩ := X.privateBack hx (y := y') hown (mvT hZ (hw _ w1)) (mvT hZ (hw _ wi)) hsel hpa (mvT hZ (hw _ w2)) w5 hB (g := fr (adr k sa n0) m pc ls (as'.reverse ++ .ref a :: rest)) rfl hsz (Steps.refl _) (a := adr k sa n0 a) hq1 hq2 (argsL := as'.map (ren (adr k sa n0))) (rest := rest.map (ren (adr k sa n0)))
              (fun sg hsg => by rw [d3] at hsg; cases hsg; simp [hna, d4]) (by simp [ren]) (hWW rest hW) (hb hby hd) (fun _ _ => ⟨rfl, rfl, by show cells + (H1.length - H.length) ≤ _; omega, by show slots + (tot ws H1 - tot ws H) ≤ _; omega⟩)
            exact hback v' vm₁ B X1 P1 fun target ht => st1.trans ht
          · obtain ⟨cq, kq, qa, qb, qc⟩ := isOf hZ rfl E
            obtain ⟨v', vm₁, B, -, X1, P1, st1⟩ := X.virtualBack hx (y := y') (z := y') hown (mvT hZ (hw _ w1)) (mvT hZ (hw _ wd)) (notFace_of_selects (args := #[]) (mvT hZ (hw _ wsel))) (mvT hZ (hw _ wsel)) (mvT hZ (hw _ wi)) w5 hB qa qc (g := fr (adr k sa n0) m pc ls (as'.reverse ++ .ref a :: rest)) rfl hsz (Steps.refl _) (argsL := as'.map (ren (adr k sa n0))) (rest := rest.map (ren (adr k sa n0)))
              (fun sg hsg => by rw [d3] at hsg; cases hsg; simp [hna, d4]) (by simp [ren]) (hWW rest hW) (hb hby hd) (fun _ _ => ⟨rfl, rfl, by show cells + (H1.length - H.length) ≤ _; omega, by show slots + (tot ws H1 - tot ws H) ≤ _; omega⟩)
            exact hback v' vm₁ B X1 P1 fun target ht => st1.trans ht
      · cases h
end Snd
end Jvm.Own
namespace Jvm.Own
open Sem ClassFile Op Lib Jvm.Stand Jvm.Free Jvm.LawKit Jvm.RoadKit
/-! OWN 6: from here on no machine is in sight -/
theorem run_succ {ws : Ws} {dn : Dn} {k : Nat} : ∀ {n : Nat} {y : MethodName} {bytes : ByteArray} {ret : Option FieldType} {pc : Nat} {ls : List Slot} {st : List Value} {H : AHeap} {r : Option Value × AHeap}, run ws dn k n y bytes ret pc ls st H = some r → run ws dn k (n + 1) y bytes ret pc ls st H = some r
  | 0, _, _, _, _, _, _, _, _, h => by cases h
  | n + 1, y, bytes, ret, pc, ls, st, H, r, h => by
    rw [run] at h
    rw [run]
    split at h
    · cases h
    · exact h
    · exact run_succ h
    · split at h
      · rename_i v H1 g
        rw [run_succ g]
        exact run_succ h
      · cases h
theorem run_mono {ws : Ws} {dn : Dn} {k n n' : Nat} {y : MethodName} {bytes : ByteArray} {ret : Option FieldType} {pc : Nat} {ls : List Slot} {st : List Value} {H : AHeap} {r : Option Value × AHeap} (hn : n ≤ n') (h : run ws dn k n y bytes ret pc ls st H = some r) : run ws dn k n' y bytes ret pc ls st H = some r := by
  induction hn with
  | refl => exact h
  | step _ ih => exact run_succ ih
/-- from here on a run comes to a return at which Q holds -/
def W (ws : Ws) (dn : Dn) (k : Nat) (y : MethodName) (bytes : ByteArray) (ret : Option FieldType) (pc : Nat) (ls : List Slot) (st : List Value) (H : AHeap) (Q : Option Value → AHeap → Prop) : Prop :=
  ∃ n v H', run ws dn k n y bytes ret pc ls st H = some (v, H') ∧ Q v H'
section
variable {ws : Ws} {dn : Dn} {k : Nat} {y : MethodName} {bytes : ByteArray} {ret : Option FieldType} {pc : Nat} {ls : List Slot} {st : List Value} {H : AHeap} {Q : Option Value → AHeap → Prop}
theorem W_step {pc' : Nat} {ls' : List Slot} {st' : List Value} {H' : AHeap} (h : act ws dn k y bytes ret pc ls st H = some (.inr (.inl (pc', ls', st', H')))) : W ws dn k y bytes ret pc ls st H Q = W ws dn k y bytes ret pc' ls' st' H' Q := by
  refine propext ⟨fun ⟨n, v, H1, h1, h2⟩ => ?_, fun ⟨n, v, H1, h1, h2⟩ => ⟨n + 1, v, H1, by rw [run, h]; exact h1, h2⟩⟩
  cases n with
  | zero => cases h1
  | succ n => rw [run, h] at h1; exact ⟨n, v, H1, h1, h2⟩
theorem W_ret {v : Option Value} (h : act ws dn k y bytes ret pc ls st H = some (.inl v)) : W ws dn k y bytes ret pc ls st H Q = Q v H := by
  refine propext ⟨fun ⟨n, v, H1, h1, h2⟩ => ?_, fun h2 => ⟨1, v, H, by rw [run, h], h2⟩⟩
  cases n with
  | zero => cases h1
  | succ n => rw [run, h] at h1; cases h1; exact h2
theorem W_call {y' : MethodName} {b : ByteArray} {r : Option FieldType} {en : List Slot} {rest : List Value} (h : act ws dn k y bytes ret pc ls st H = some (.inr (.inr (y', b, r, en, rest)))) :
    W ws dn k y bytes ret pc ls st H Q = W ws dn k y' b r 0 en [] H (fun v H1 => W ws dn k y bytes ret (pc + 3) ls (v.toList ++ rest) H1 Q) := by
  refine propext ⟨fun ⟨n, v, H1, h1, h2⟩ => ?_, fun ⟨n, v, H1, h1, n', v', H', h2, h3⟩ => ⟨max n n' + 1, v', H', ?_, h3⟩⟩
  · cases n with
    | zero => cases h1
    | succ n =>
      rw [run, h] at h1
      dsimp only at h1
      split at h1
      · rename_i v' H' g; exact ⟨n, v', H', g, n, v, H1, h1, h2⟩
      · cases h1
  · rw [run, h]
    dsimp only
    rw [run_mono (Nat.le_max_left _ _) h1]
    exact run_mono (Nat.le_max_right _ _) h2
theorem W.mono {Q' : Option Value → AHeap → Prop} (h : W ws dn k y bytes ret pc ls st H Q) (hq : ∀ v H', Q v H' → Q' v H') : W ws dn k y bytes ret pc ls st H Q' := by
  obtain ⟨n, v, H', h1, h2⟩ := h; exact ⟨n, v, H', h1, hq _ _ h2⟩
theorem act_x {ins : Instr} {len pc' : Nat} {ls' : List Slot} {st' : List Value} (hd : decode bytes pc = .ok (ins, len)) (hx : xstep ins len pc ls st = some (pc', ls', st')) : act ws dn k y bytes ret pc ls st H = some (.inr (.inl (pc', ls', st', H))) := by
  unfold act; rw [hd]; dsimp only; rw [hx]
theorem act_h {ins : Instr} {len pc' : Nat} {st' : List Value} {H' : AHeap} (hd : decode bytes pc = .ok (ins, len)) (hx : xstep ins len pc ls st = none) (hh : hstep ws k y ins len pc st H = some (pc', st', H')) : act ws dn k y bytes ret pc ls st H = some (.inr (.inl (pc', ls, st', H'))) := by
  unfold act; rw [hd]; dsimp only; rw [hx]; dsimp only; rw [hh]
theorem act_c {ins : Instr} {len : Nat} (hd : decode bytes pc = .ok (ins, len)) (hx : xstep ins len pc ls st = none) (hh : hstep ws k y ins len pc st H = none) : act ws dn k y bytes ret pc ls st H = cstep ws dn y ret ins len pc ls st H := by
  unfold act; rw [hd]; dsimp only; rw [hx]; dsimp only; rw [hh]
/-- a plain step -/
theorem w_x {ins : Instr} {len pc' : Nat} {ls' : List Slot} {st' : List Value} (hd : decode bytes pc = .ok (ins, len)) (hx : xstep ins len pc ls st = some (pc', ls', st')) : W ws dn k y bytes ret pc ls st H Q = W ws dn k y bytes ret pc' ls' st' H Q := W_step (act_x hd hx)
/-- a conditional branch -/
theorem w_if {cd : ClassFile.Cond} {o : Int} {x : Int32} {t : Nat} {P : Prop} [Decidable P] (hd : decode bytes pc = .ok (.ifCond cd o, 3)) (hp : ifCond.holds cd x = decide P) (hj : jmp pc o = some t) :
    W ws dn k y bytes ret pc ls (.int x :: st) H Q = if P then W ws dn k y bytes ret t ls st H Q else W ws dn k y bytes ret (pc + 3) ls st H Q := by
  split
  · exact w_x hd (by simp only [xstep, chk, br, hp, hj, if_true]; simp [*])
  · exact w_x hd (by simp only [xstep, chk, br, hp, hj, if_true]; simp [*])
theorem w_icmp {cd : ClassFile.Cond} {o : Int} {x1 x2 : Int32} {t : Nat} {P : Prop} [Decidable P] (hd : decode bytes pc = .ok (.if_icmp cd o, 3)) (hp : if_icmp.holds cd x1 x2 = decide P) (hj : jmp pc o = some t) :
    W ws dn k y bytes ret pc ls (.int x2 :: .int x1 :: st) H Q = if P then W ws dn k y bytes ret t ls st H Q else W ws dn k y bytes ret (pc + 3) ls st H Q := by
  split
  · exact w_x hd (by simp only [xstep, chk, br, hp, hj, if_true]; simp [*])
  · exact w_x hd (by simp only [xstep, chk, br, hp, hj, if_true]; simp [*])
theorem w_get {i j : Nat} {a : Nat} {C : String} {vs : List Value} {v : Value} (hd : decode bytes pc = .ok (.getfield i, 3)) (hr : gfR ws y.cls i = some (C, j)) (ho : H[a]? = some (.object C, vs)) (hv : vs[j]? = some v) :
    W ws dn k y bytes ret pc ls (.ref a :: st) H Q = W ws dn k y bytes ret (pc + 3) ls (v :: st) H Q :=
  W_step (act_h hd rfl (by simp only [hstep, chk, hGet, hr, ho, hv, if_true, Option.map_some]))
theorem w_put {i j : Nat} {a : Nat} {C : String} {ty : FieldType} {vs : List Value} {v v' : Value} {H' : AHeap} (hd : decode bytes pc = .ok (.putfield i, 3)) (hr : pfR ws y.cls y.name i = some (C, j, ty)) (ho : H[a]? = some (.object C, vs)) (hk : k ≤ a) (hj : j < vs.length) (hv : putv ty v = some v') (hH : H.set a (.object C, vs.set j v') = H') :
    W ws dn k y bytes ret pc ls (v :: .ref a :: st) H Q = W ws dn k y bytes ret (pc + 3) ls st H' Q :=
  W_step (act_h hd rfl (by simp only [hstep, chk, hPut, hr, ho, hv, if_true, true_and, hk, hj, Option.map_some, hH, and_self]))
theorem w_new {i : Nat} {C : String} (hd : decode bytes pc = .ok (.new i, 3)) (hr : hNew ws y.cls i pc H st = some (pc + 3, .ref H.length :: st, H ++ [(.object C, (olay ws C).map dflt)])) :
    W ws dn k y bytes ret pc ls st H Q = W ws dn k y bytes ret (pc + 3) ls (.ref H.length :: st) (H ++ [(.object C, (olay ws C).map dflt)]) Q :=
  W_step (act_h hd rfl (by simp only [hstep, chk, if_true]; exact hr))
theorem w_newA {aty : ArrayType} {n : Int32} {ty : FieldType} (hd : decode bytes pc = .ok (.newarray aty, 2)) (ht : newarray.typeOf aty = ty) (hr : hasArr ws ty = true) (hn : ¬ n < 0) (hb : n.toNatClampNeg * 8 ≤ 536870912) :
    W ws dn k y bytes ret pc ls (.int n :: st) H Q = W ws dn k y bytes ret (pc + 2) ls (.ref H.length :: st) (H ++ [(.array ty, List.replicate n.toNatClampNeg (defaultValue ty))]) Q := by
  subst ht
  exact W_step (act_h hd rfl (by simp only [hstep, chk, hNewA, hr, hn, hb, if_true, not_false_eq_true, and_self]))
/-- may the instruction read an array of that kind? -/
def ldOk : Instr → FieldType → Bool
  | .iaload, .int | .caload, .char | .laload, .long | .baload, .byte | .baload, .boolean => true
  | _, _ => false
def stOk : Instr → FieldType → Bool
  | .iastore, .int | .castore, .char | .lastore, .long | .bastore, .byte | .bastore, .boolean => true
  | _, _ => false
theorem w_ald {ins : Instr} {a : Nat} {j : Int32} {ty : FieldType} {vs : List Value} {v : Value} (hd : decode bytes pc = .ok (ins, 1)) (hi : ldOk ins ty = true) (ho : H[a]? = some (.array ty, vs)) (hj : ¬ j < 0) (hv : vs[j.toNatClampNeg]? = some v) :
    W ws dn k y bytes ret pc ls (.int j :: .ref a :: st) H Q = W ws dn k y bytes ret (pc + 1) ls (v :: st) H Q := by
  unfold ldOk at hi
  split at hi
  all_goals first
    | exact W_step (act_h hd rfl (by simp only [hstep, chk, hLd, okT, okB, ho, hv, hj, if_true, Option.map_some, decide_true, not_false_eq_true, and_self, Bool.or_true, Bool.true_or]))
    | cases hi
theorem w_ast {ins : Instr} {a : Nat} {j : Int32} {ty : FieldType} {vs : List Value} {v v' : Value} {H' : AHeap} (hd : decode bytes pc = .ok (ins, 1)) (hi : stOk ins ty = true) (ho : H[a]? = some (.array ty, vs)) (hk : k ≤ a) (hj : ¬ j < 0) (hl : j.toNatClampNeg < vs.length) (hv : putv ty v = some v') (hH : H.set a (.array ty, vs.set j.toNatClampNeg v') = H') :
    W ws dn k y bytes ret pc ls (v :: .int j :: .ref a :: st) H Q = W ws dn k y bytes ret (pc + 1) ls st H' Q := by
  unfold stOk at hi
  split at hi
  all_goals first
    | exact W_step (act_h hd rfl (by simp only [hstep, chk, hSt, okT, okB, ho, hv, hj, hk, hl, hH, if_true, Option.map_some, decide_true, not_false_eq_true, and_self, Bool.or_true, Bool.true_or]))
    | cases hi
theorem w_len {a : Nat} {ty : FieldType} {vs : List Value} (hd : decode bytes pc = .ok (.arraylength, 1)) (ho : H[a]? = some (.array ty, vs)) :
    W ws dn k y bytes ret pc ls (.ref a :: st) H Q = W ws dn k y bytes ret (pc + 1) ls (.int vs.length.toInt32 :: st) H Q :=
  W_step (act_h hd rfl (by simp only [hstep, chk, hLen, ho, if_true]))
theorem w_ldc {i : Nat} {v : Int32} (hd : decode bytes pc = .ok (.ldc i, 2)) (hr : rCon ws y.cls i = some v) : W ws dn k y bytes ret pc ls st H Q = W ws dn k y bytes ret (pc + 2) ls (.int v :: st) H Q :=
  W_step (act_h hd rfl (by simp only [hstep, chk, hr, if_true, Option.map_some]))
theorem w_ldcw {i : Nat} {v : Int32} (hd : decode bytes pc = .ok (.ldc_w i, 3)) (hr : rCon ws y.cls i = some v) : W ws dn k y bytes ret pc ls st H Q = W ws dn k y bytes ret (pc + 3) ls (.int v :: st) H Q :=
  W_step (act_h hd rfl (by simp only [hstep, chk, hr, if_true, Option.map_some]))
theorem w_ldc2 {i : Nat} {v : Int64} (hd : decode bytes pc = .ok (.ldc2_w i, 3)) (hr : rConL ws y.cls i = some v) : W ws dn k y bytes ret pc ls st H Q = W ws dn k y bytes ret (pc + 3) ls (.long v :: st) H Q :=
  W_step (act_h hd rfl (by simp only [hstep, chk, hr, if_true, Option.map_some]))
theorem w_iret {z : Int32} (hd : decode bytes pc = .ok (.ireturn, 1)) (hr : ret = some .int) : W ws dn k y bytes ret pc ls (.int z :: st) H Q = Q (some (.int z)) H := by
  subst hr; exact W_ret (by rw [act_c hd rfl rfl]; rfl)
theorem w_iretN {z : Int32} {t : FieldType} (hd : decode bytes pc = .ok (.ireturn, 1)) (hr : ret = some t) (ht : t = .int ∨ t = .boolean ∨ t = .byte ∨ t = .char ∨ t = .short) : W ws dn k y bytes ret pc ls (.int z :: st) H Q = Q (some (.int (nar t z))) H := by
  subst hr; exact W_ret (by rw [act_c hd rfl rfl]; simp only [cstep, chk, if_true, ht])
theorem w_lret {z : Int64} (hd : decode bytes pc = .ok (.lreturn, 1)) (hr : ret = some .long) : W ws dn k y bytes ret pc ls [.long z] H Q = Q (some (.long z)) H := by
  subst hr; exact W_ret (by rw [act_c hd rfl rfl]; rfl)
theorem w_vret (hd : decode bytes pc = .ok (.return_, 1)) (hr : ret = none) : W ws dn k y bytes ret pc ls [] H Q = Q none H := by
  subst hr; exact W_ret (by rw [act_c hd rfl rfl]; rfl)
theorem w_obj {i sl : Nat} {a : Nat} (hd : decode bytes pc = .ok (.invokespecial i, 3)) (hr : oR ws dn y i = some sl) (hw : wsum st ≤ sl) : W ws dn k y bytes ret pc ls (.ref a :: st) H Q = W ws dn k y bytes ret (pc + 3) ls st H Q :=
  W_step (by rw [act_c hd rfl rfl]; simp only [cstep, chk, if_true, hr, hw])
theorem w_stat {i mx na sl : Nat} {y' : MethodName} {b : ByteArray} {r : Option FieldType} {as rest : List Value} {en : List Slot} (hd : decode bytes pc = .ok (.invokestatic i, 3)) (hr : sR ws dn y i = some (y', b, mx, r, na, sl)) (hn : as.length = na) (hw : wsum rest ≤ sl) (he : (ent as.reverse).length ≤ mx) (hen : entry as.reverse mx = en) :
    W ws dn k y bytes ret pc ls (as ++ rest) H Q = W ws dn k y' b r 0 en [] H (fun v H1 => W ws dn k y bytes ret (pc + 3) ls (v.toList ++ rest) H1 Q) := by
  subst hn hen
  have e1 : (as ++ rest).take as.length = as := by simp
  have e2 : (as ++ rest).drop as.length = rest := by simp
  exact W_call (by rw [act_c hd rfl rfl]; simp only [cstep, chk, if_true, hr, e1, e2, hw, he, List.length_append, Nat.le_add_right, and_self])
theorem w_spec {i mx na sl a : Nat} {y' : MethodName} {b : ByteArray} {r : Option FieldType} {as rest : List Value} {en : List Slot} (hd : decode bytes pc = .ok (.invokespecial i, 3)) (h0 : oR ws dn y i = none) (hr : nR ws dn y i = some (y', b, mx, r, na, sl)) (hn : as.length = na) (hw : wsum rest ≤ sl) (he : (ent (.ref a :: as.reverse)).length ≤ mx) (hen : entry (.ref a :: as.reverse) mx = en) :
    W ws dn k y bytes ret pc ls (as ++ .ref a :: rest) H Q = W ws dn k y' b r 0 en [] H (fun v H1 => W ws dn k y bytes ret (pc + 3) ls (v.toList ++ rest) H1 Q) := by
  subst hn hen
  have e1 : (as ++ .ref a :: rest).take as.length = as := by simp
  have e2 : (as ++ .ref a :: rest).drop as.length = .ref a :: rest := by simp
  exact W_call (by rw [act_c hd rfl rfl]; simp only [cstep, chk, if_true, h0, hr, e1, e2, hw, he, List.length_append, Nat.le_add_right, and_self])
theorem w_virt {i mx na sl a : Nat} {pv : Bool} {y' : MethodName} {b : ByteArray} {r : Option FieldType} {as rest : List Value} {en : List Slot} {C : String} {vs : List Value} (hd : decode bytes pc = .ok (.invokevirtual i, 3)) (hr : vR ws dn y i = some (pv, y', b, mx, r, na, sl)) (ho : H[a]? = some (.object C, vs)) (hC : C = y'.cls) (hn : as.length = na) (hw : wsum rest ≤ sl) (he : (ent (.ref a :: as.reverse)).length ≤ mx) (hen : entry (.ref a :: as.reverse) mx = en) :
    W ws dn k y bytes ret pc ls (as ++ .ref a :: rest) H Q = W ws dn k y' b r 0 en [] H (fun v H1 => W ws dn k y bytes ret (pc + 3) ls (v.toList ++ rest) H1 Q) := by
  subst hn hen hC
  have e1 : (as ++ .ref a :: rest).take as.length = as := by simp
  have e2 : (as ++ .ref a :: rest).drop as.length = .ref a :: rest := by simp
  exact W_call (by rw [act_c hd rfl rfl]; simp only [cstep, chk, if_true, hr, e1, e2, ho, hw, he, List.length_append, Nat.le_add_right, and_self, or_true])
end
theorem law_of {Z : State} {a0 : Array Value} {ws : Ws} {dn : Dn} {k sa n0 : Nat} (hw : ∀ d ∈ ws, d.before a0 Z = true) (l : Launch) {y : MethodName} {b : ByteArray} {mx f lc rc rs : Nat} {r : Option FieldType} (wsx : List Jvm.Cond) (hp : Jvm.plainName y.cls = true) {as : List Value} (he : (ent as).length ≤ mx) {H : AHeap}
    (hW : W ws dn k y b r 0 (entry as mx) [] H (fun v H1 => v = some (.int 1) ∧ H1.length - H.length ≤ rc ∧ tot ws H1 - tot ws H ≤ rs)) (hdn : ∀ f' l', dnOf dn y = some (f', l') → f' ≤ f ∧ l' ≤ lc) {h : Heap} (S : Sim Z ws k sa n0 H h) :
    MetFree l y (head1 (Jvm.Cond.code y b mx r :: wsx) ({ frames := f, cells := rc, slots := rs, locals := lc } : Room)) (fun a U => a = (as.map (ren (adr k sa n0))).toArray ∧ Z.Warmed39 U.vm ∧ U.heap = h) (fun _ _ _ _ _ => True)
      (fun _ U o U' => ∃ w L, o = .returned w ∧ (w = some (.int 1) ∧ Fr n0 L) ∧ FrameEnd U o U' L rc rs) := by
  obtain ⟨n, v, H1, h1, rfl, h3, h4⟩ := hW
  have M := met_of (snd hw n) l wsx hp he h1 hdn S h3 h4
  intro p e ha hc hk s m args below hf happ hP hK
  obtain ⟨n', o, g1, g2, g3, w, L, rfl, ⟨rfl, -, N⟩, F⟩ := M p e ha hc hk s m args below hf happ hP hK
  exact ⟨n', _, g1, g2, g3, _, L, rfl, ⟨rfl, N⟩, F.1, F.2.1, F.2.2.mono h3 h4⟩
/-- the start of a law whose arguments hold no reference -/
theorem Sim.empty (Z : State) (ws : Ws) (h : Heap) : Sim Z ws 0 0 h.size [] h :=
  ⟨by simp, Nat.le_refl _, Nat.zero_le _, (fun q => absurd q (by decide)), (fun i o q => by simp at q)⟩
/-- the start of a law over one array of ints -/
theorem Sim.script {Z : State} (ws : Ws) {h : Heap} {a : Addr} {c : Cell} {vs : List Int32} (A : Arr Z h a c .int) (e : c.slots = (vs.map Value.int).toArray) : Sim Z ws 1 a h.size [(.array .int, vs.map Value.int)] h := by
  refine ⟨by simp, Nat.le_refl _, Nat.le_refl _, fun _ => A.lt, fun i o q => ?_⟩
  cases i with
  | zero =>
    cases q
    refine ⟨c, A, e.trans ?_⟩
    rw [List.map_map]; rfl
  | succ i => cases q
end Jvm.Own
namespace Jvm.Own
open Sem ClassFile Op Lib Jvm.Stand Jvm.Free Jvm.LawKit Jvm.RoadKit
/-! OWN 7: states of an object as plain functions -/
def ou {α : Type} (s : Nat → α) (i : Nat) (v : α) : Nat → α := fun j => if j = i then v else s j
theorem ou_a {α : Type} (s : Nat → α) (i : Nat) (v : α) (j : Nat) : ou s i v j = if j = i then v else s j := rfl
def pad (b : Nat) (pre : AHeap) : AHeap := (pre ++ List.replicate b (FieldType.int, [])).take b
theorem pad_len (b : Nat) (pre : AHeap) : (pad b pre).length = b := by simp [pad]
theorem pad_eq {b : Nat} {pre : AHeap} (h : pre.length = b) : pad b pre = pre := by subst h; simp [pad]
theorem pad_0 (pre : AHeap) : pad 0 pre = [] := by simp [pad]
theorem tot_cons (ws : Ws) (o : FieldType × List Value) (r : AHeap) : tot ws (o :: r) = cost ws o + tot ws r := by simp [tot]
theorem tot_append (ws : Ws) (a r : AHeap) : tot ws (a ++ r) = tot ws a + tot ws r := by simp [tot]
theorem tot_nil (ws : Ws) : tot ws [] = 0 := rfl
theorem pad_get (b : Nat) (pre r : AHeap) (i : Nat) : (pad b pre ++ r)[b + i]? = r[i]? := by
  rw [List.getElem?_append_right (by rw [pad_len]; omega), pad_len]; congr 1; omega
theorem pad_get0 (b : Nat) (pre r : AHeap) : (pad b pre ++ r)[b]? = r[0]? := pad_get b pre r 0
theorem pad_set (b : Nat) (pre r : AHeap) (i : Nat) (o : FieldType × List Value) : (pad b pre ++ r).set (b + i) o = pad b pre ++ r.set i o := by
  rw [List.set_append_right _ _ (by rw [pad_len]; omega), pad_len]; congr 2; omega
theorem pad_set0 (b : Nat) (pre r : AHeap) (o : FieldType × List Value) : (pad b pre ++ r).set b o = pad b pre ++ r.set 0 o := pad_set b pre r 0 o
theorem rCode_of {ws : Ws} {y : MethodName} {b : ByteArray} {m i : Nat} {r : Option FieldType} (h : ws[i]? = some (.code y b m r)) (h2 : (ws.take i).all (fun d => match d with | .code z _ _ _ => !decide (z = y) | _ => true) = true) : rCode ws y = some (b, m, r) := by
  have e : ws = ws.take i ++ (.code y b m r :: ws.drop (i + 1)) := by
    obtain ⟨hi, hg⟩ := List.getElem?_eq_some_iff.mp h
    rw [← hg, ← List.drop_eq_getElem_cons hi, List.take_append_drop]
  unfold rCode
  rw [e, List.findSome?_append]
  have e1 : (ws.take i).findSome? (fun d => match d with | .code z b m r => if z = y then some (b, m, r) else none | _ => none) = none := by
    rw [List.findSome?_eq_none_iff]
    intro d hd
    have q := List.all_eq_true.mp h2 d hd
    split
    · rename_i z b' m' r'
      simp at q
      simp [q]
    · rfl
  rw [e1]
  simp
theorem cR_of {ws : Ws} {dn : Dn} {y y' : MethodName} {b : ByteArray} {mx i f' l' f l na sl : Nat} {r : Option FieldType} {sig : MethodDescriptor} (h1 : rMth ws y.cls i = some y') (h2 : rCode ws y' = some (b, mx, r)) (h3 : dnOf dn y' = some (f', l')) (h4 : dnOf dn y = some (f, l)) (h5 : parseMethodDescriptor y'.desc = some sig)
    (h6 : decide (hasInit ws y'.cls = true ∧ Jvm.plainName y'.cls = true ∧ y'.cls ≠ "java/lang/invoke/MethodHandle" ∧ y'.cls ≠ "java/lang/invoke/VarHandle" ∧ f' + 1 ≤ f ∧ mx + 11 + l' ≤ l) = true) (h7 : sig.parameters.length = na) (h8 : l - (mx + 11 + l') = sl) : cR ws dn y i = some (y', b, mx, r, na, sl) := by
  subst h7 h8
  unfold cR
  rw [h1]; dsimp only
  rw [h2, h3, h4, h5]; dsimp only
  rw [if_pos (of_decide_eq_true h6)]
theorem sR_of {ws : Ws} {dn : Dn} {y : MethodName} {i : Nat} {q : MethodName × ByteArray × Nat × Option FieldType × Nat × Nat} (h : cR ws dn y i = some q) (hs : hasStat ws q.1 = true) : sR ws dn y i = some q := by
  unfold sR; rw [h]; dsimp only; rw [if_pos hs]
theorem nR_of {ws : Ws} {dn : Dn} {y : MethodName} {i : Nat} {q : MethodName × ByteArray × Nat × Option FieldType × Nat × Nat} (h : cR ws dn y i = some q) (h1 : q.1.name = "<init>") (h2 : hasIM ws q.1 = true) (h3 : q.2.2.2.1 = none) : nR ws dn y i = some q := by
  unfold nR; rw [h]; dsimp only; rw [if_pos ⟨h1, h2, h3⟩]
theorem vR_of {ws : Ws} {dn : Dn} {y : MethodName} {i : Nat} {q : MethodName × ByteArray × Nat × Option FieldType × Nat × Nat} (h : cR ws dn y i = some q) (h1 : hasIM ws q.1 = true) (h2 : decide (hasPriv ws q.1 = true ∧ (rInst ws q.1.cls).isSome = true) = false) (h3 : decide (hasDecl ws q.1 = true ∧ hasSel ws q.1 = true) = true) : vR ws dn y i = some (false, q) := by
  unfold vR; rw [h]; dsimp only; rw [if_pos h1, if_neg (of_decide_eq_false h2), if_pos (of_decide_eq_true h3)]
theorem pR_of {ws : Ws} {dn : Dn} {y : MethodName} {i : Nat} {q : MethodName × ByteArray × Nat × Option FieldType × Nat × Nat} (h : cR ws dn y i = some q) (h1 : hasIM ws q.1 = true) (h2 : decide (hasPriv ws q.1 = true ∧ (rInst ws q.1.cls).isSome = true) = true) : vR ws dn y i = some (true, q) := by
  unfold vR; rw [h]; dsimp only; rw [if_pos h1, if_pos (of_decide_eq_true h2)]
def inB {α : Type} (j : Int32) (l : List α) : Prop := ¬ j < 0 ∧ j.toNatClampNeg < l.length
def getA (l : List Int32) (j : Int32) : Int32 := l.getD j.toNatClampNeg 0
def getL (l : List Int64) (j : Int32) : Int64 := l.getD j.toNatClampNeg 0
def setA {α : Type} (l : List α) (j : Int32) (v : α) : List α := l.set j.toNatClampNeg v
def c1 : Slot → Bool
  | .unset => true
  | .second => false
  | .val v => v.category == 1
theorem c1_u : c1 .unset = true := rfl
theorem c1_i (x : Int32) : c1 (.val (.int x)) = true := rfl
theorem c1_r (a : Nat) : c1 (.val (.ref a)) = true := rfl
theorem c1_n : c1 (.val .null) = true := rfl
theorem i_eq (x y : Int32) : if_icmp.holds .eq x y = decide (x = y) := by simp only [if_icmp.holds]; by_cases h : x = y <;> simp [h]
theorem i_ne (x y : Int32) : if_icmp.holds .ne x y = !decide (x = y) := by simp only [if_icmp.holds]; by_cases h : x = y <;> simp [h]
theorem i_lt (x y : Int32) : if_icmp.holds .lt x y = decide (x < y) := rfl
theorem i_gt (x y : Int32) : if_icmp.holds .gt x y = decide (y < x) := rfl
theorem i_ge (x y : Int32) : if_icmp.holds .ge x y = !decide (x < y) := by
  show decide (y ≤ x) = _
  have e1 : (y ≤ x) ↔ ¬ (x < y) := by rw [Int32.le_iff_toInt_le, Int32.lt_iff_toInt_lt]; omega
  by_cases h : x < y
  · have : ¬ y ≤ x := fun g => e1.mp g h
    simp [h, this]
  · have := e1.mpr h
    simp [h, this]
theorem i_le (x y : Int32) : if_icmp.holds .le x y = !decide (y < x) := i_ge y x
theorem z_eq (x : Int32) : ifCond.holds .eq x = decide (x = 0) := i_eq x 0
theorem z_ne (x : Int32) : ifCond.holds .ne x = !decide (x = 0) := i_ne x 0
theorem z_lt (x : Int32) : ifCond.holds .lt x = decide (x < 0) := rfl
theorem z_gt (x : Int32) : ifCond.holds .gt x = decide (0 < x) := rfl
theorem z_ge (x : Int32) : ifCond.holds .ge x = !decide (x < 0) := i_ge x 0
theorem z_le (x : Int32) : ifCond.holds .le x = !decide (0 < x) := i_le x 0
theorem nb0 : nar .boolean 0 = 0 := by decide
theorem nb1 : nar .boolean 1 = 1 := by decide
section
variable {ws : Ws} {dn : Dn} {k : Nat} {y : MethodName} {bytes : ByteArray} {ret : Option FieldType} {pc : Nat} {ls : List Slot} {st : List Value} {H : AHeap} {Q : Option Value → AHeap → Prop}
theorem W_stuck (h : act ws dn k y bytes ret pc ls st H = none) : W ws dn k y bytes ret pc ls st H Q = False := by
  refine propext ⟨fun ⟨n, v, H1, h1, h2⟩ => ?_, False.elim⟩
  cases n with
  | zero => cases h1
  | succ n => rw [run, h] at h1; cases h1
theorem stl_c1 {i : Nat} {o : Slot} {v : Value} (ho : ls[i]? = some o) (hc : c1 o = true) (hv : v.category = 1) : stl ls i v = some (ls.set i (.val v)) := by
  have h := XS.store1 (l := ls.toArray) (i := i) (v := v) (o := o) (by simpa using ho) (by
    cases o with
    | unset => exact Or.inl rfl
    | second => cases hc
    | val w => exact Or.inr ⟨w, rfl, by simpa [c1] using hc⟩) hv
  unfold stl
  rw [h]; simp
/-- a store of one word -/
theorem w_st {ins : Instr} {len i : Nat} {o : Slot} {v : Value} {p : Value → Bool} {nx : Nat} {ls' : List Slot} (hd : decode bytes pc = .ok (ins, len)) (hx : xstep ins len pc ls (v :: st) = stV p nx i ls (v :: st)) (hp : p v = true) (hv : v.category = 1) (ho : ls[i]? = some o) (hs : ls.set i (.val v) = ls') (hc : c1 o = true) :
    W ws dn k y bytes ret pc ls (v :: st) H Q = W ws dn k y bytes ret nx ls' st H Q := by
  subst hs
  exact w_x hd (by rw [hx]; simp only [stV, hp, if_true, stl_c1 ho hc hv, Option.map_some])
theorem w_iinc {i : Nat} {c : Int} {x z : Int32} {ls' : List Slot} (hd : decode bytes pc = .ok (.iinc i c, 3)) (ho : ls[i]? = some (.val (.int x))) (hz : Int32.ofInt c = z) (hs : ls.set i (.val (.int (x + z))) = ls') :
    W ws dn k y bytes ret pc ls st H Q = W ws dn k y bytes ret (pc + 3) ls' st H Q := by
  subst hs hz
  exact w_x hd (by simp only [xstep, chk, if_true, ho, stl_c1 (v := .int (x + Int32.ofInt c)) ho rfl rfl, Option.map_some])
theorem w_con {ins : Instr} {len nx : Nat} {v v' : Value} (hd : decode bytes pc = .ok (ins, len)) (hx : xstep ins len pc ls st = some (nx, ls, v :: st)) (hv : v = v') : W ws dn k y bytes ret pc ls st H Q = W ws dn k y bytes ret nx ls (v' :: st) H Q := by
  subst hv; exact w_x hd hx
theorem w_ifN {cd : ClassFile.Cond} {o : Int} {x : Int32} {t : Nat} {P : Prop} [Decidable P] (hd : decode bytes pc = .ok (.ifCond cd o, 3)) (hp : ifCond.holds cd x = !decide P) (hj : jmp pc o = some t) :
    W ws dn k y bytes ret pc ls (.int x :: st) H Q = if P then W ws dn k y bytes ret (pc + 3) ls st H Q else W ws dn k y bytes ret t ls st H Q := by
  split
  · exact w_x hd (by simp only [xstep, chk, br, hp, hj, if_true]; simp [*])
  · exact w_x hd (by simp only [xstep, chk, br, hp, hj, if_true]; simp [*])
theorem w_icmpN {cd : ClassFile.Cond} {o : Int} {x1 x2 : Int32} {t : Nat} {P : Prop} [Decidable P] (hd : decode bytes pc = .ok (.if_icmp cd o, 3)) (hp : if_icmp.holds cd x1 x2 = !decide P) (hj : jmp pc o = some t) :
    W ws dn k y bytes ret pc ls (.int x2 :: .int x1 :: st) H Q = if P then W ws dn k y bytes ret (pc + 3) ls st H Q else W ws dn k y bytes ret t ls st H Q := by
  split
  · exact w_x hd (by simp only [xstep, chk, br, hp, hj, if_true]; simp [*])
  · exact w_x hd (by simp only [xstep, chk, br, hp, hj, if_true]; simp [*])
theorem ld_stuck {ins : Instr} {a : Nat} {j : Int32} {ty : FieldType} {vs : List Value} (hd : decode bytes pc = .ok (ins, 1)) (hi : ldOk ins ty = true) (ho : H[a]? = some (.array ty, vs)) (hj : ¬ (¬ j < 0 ∧ j.toNatClampNeg < vs.length)) : act ws dn k y bytes ret pc ls (.int j :: .ref a :: st) H = none := by
  have hv : j < 0 ∨ vs[j.toNatClampNeg]? = none := by
    by_cases q : j < 0
    · exact Or.inl q
    · exact Or.inr (List.getElem?_eq_none (Nat.le_of_not_lt fun g => hj ⟨q, g⟩))
  unfold ldOk at hi
  split at hi
  all_goals first
    | (rw [act_c hd rfl (by rcases hv with q | q <;> simp [hstep, chk, hLd, okT, okB, ho, q])]; rfl)
    | cases hi
theorem st_stuck {ins : Instr} {a : Nat} {j : Int32} {ty : FieldType} {vs : List Value} {v : Value} (hd : decode bytes pc = .ok (ins, 1)) (hi : stOk ins ty = true) (ho : H[a]? = some (.array ty, vs)) (hj : ¬ (¬ j < 0 ∧ j.toNatClampNeg < vs.length)) : act ws dn k y bytes ret pc ls (v :: .int j :: .ref a :: st) H = none := by
  have hv : ¬ (¬ j < 0 ∧ j.toNatClampNeg < vs.length) := hj
  unfold stOk at hi
  split at hi
  all_goals first
    | (rw [act_c hd rfl (by simp only [hstep, chk, hSt, okT, okB, ho, if_true]; rw [if_neg (fun q => hv q.2.2)])]; rfl)
    | cases hi
theorem w_ild {ins : Instr} {a : Nat} {j : Int32} {ty : FieldType} {l : List Int32} (hd : decode bytes pc = .ok (ins, 1)) (hi : ldOk ins ty = true) (ho : H[a]? = some (.array ty, l.map Value.int)) :
    W ws dn k y bytes ret pc ls (.int j :: .ref a :: st) H Q = (inB j l ∧ W ws dn k y bytes ret (pc + 1) ls (.int (getA l j) :: st) H Q) := by
  by_cases h : inB j l
  · rw [w_ald hd hi ho h.1 (v := .int (getA l j)) (by simp [getA, h.2])]
    simp [h]
  · rw [W_stuck (ld_stuck hd hi ho (by simpa [inB] using h))]
    simp [h]
theorem w_lld {a : Nat} {j : Int32} {l : List Int64} (hd : decode bytes pc = .ok (.laload, 1)) (ho : H[a]? = some (.array .long, l.map Value.long)) :
    W ws dn k y bytes ret pc ls (.int j :: .ref a :: st) H Q = (inB j l ∧ W ws dn k y bytes ret (pc + 1) ls (.long (getL l j) :: st) H Q) := by
  by_cases h : inB j l
  · rw [w_ald hd rfl ho h.1 (v := .long (getL l j)) (by simp [getL, h.2])]
    simp [h]
  · rw [W_stuck (ld_stuck hd rfl ho (by simpa [inB] using h))]
    simp [h]
theorem w_ist {ins : Instr} {a : Nat} {j v v' : Int32} {ty : FieldType} {l : List Int32} {H' : AHeap} (hd : decode bytes pc = .ok (ins, 1)) (hi : stOk ins ty = true) (ho : H[a]? = some (.array ty, l.map Value.int)) (hk : k ≤ a) (hv : putv ty (.int v) = some (.int v')) (hH : H.set a (.array ty, (setA l j v').map Value.int) = H') :
    W ws dn k y bytes ret pc ls (.int v :: .int j :: .ref a :: st) H Q = (inB j l ∧ W ws dn k y bytes ret (pc + 1) ls st H' Q) := by
  by_cases h : inB j l
  · rw [w_ast (H' := H') hd hi ho hk h.1 (by simpa using h.2) hv (by rw [← hH, setA, List.map_set])]
    simp [h]
  · rw [W_stuck (st_stuck hd hi ho (by simpa [inB] using h))]
    simp [h]
theorem w_lst {a : Nat} {j : Int32} {v : Int64} {l : List Int64} {H' : AHeap} (hd : decode bytes pc = .ok (.lastore, 1)) (ho : H[a]? = some (.array .long, l.map Value.long)) (hk : k ≤ a) (hH : H.set a (.array .long, (setA l j v).map Value.long) = H') :
    W ws dn k y bytes ret pc ls (.long v :: .int j :: .ref a :: st) H Q = (inB j l ∧ W ws dn k y bytes ret (pc + 1) ls st H' Q) := by
  by_cases h : inB j l
  · rw [w_ast (H' := H') hd rfl ho hk h.1 (by simpa using h.2) rfl (by rw [← hH, setA, List.map_set])]
    simp [h]
  · rw [W_stuck (st_stuck hd rfl ho (by simpa [inB] using h))]
    simp [h]
theorem w_div {ins : Instr} {f : Int32 → Int32 → Int32} {x z : Int32} (hd : decode bytes pc = .ok (ins, 1)) (hx : ∀ st, xstep ins 1 pc ls st = d2 f (pc + 1) ls st) (hh : hstep ws k y ins 1 pc (.int z :: .int x :: st) H = none) (hc : cstep ws dn y ret ins 1 pc ls (.int z :: .int x :: st) H = none) :
    W ws dn k y bytes ret pc ls (.int z :: .int x :: st) H Q = (z ≠ 0 ∧ W ws dn k y bytes ret (pc + 1) ls (.int (f x z) :: st) H Q) := by
  by_cases h : z = 0
  · rw [W_stuck (by rw [act_c hd (by rw [hx]; simp [d2, h]) hh, hc])]; simp [h]
  · rw [w_x (pc' := pc + 1) (ls' := ls) (st' := .int (f x z) :: st) hd (by rw [hx]; simp only [d2, h, if_false])]; simp [h]
/-- a field's array made in a constructor -/
theorem w_iarr {i j p1 p2 p3 : Nat} {C : String} {vs : List Value} {r : AHeap} {n : Int32} {v : Value} {aty : ArrayType} {ty at' : FieldType} {l0 : Slot} {lr : List Slot} {ins : Instr} {len : Nat} {b : Nat} (hl : l0 = .val (.ref b)) (hH : H.length = b) (hk : k ≤ b)
    (d0 : decode bytes pc = .ok (.aload_n 0, 1)) (e0 : pc + 1 = p1) (dn1 : decode bytes p1 = .ok (ins, len)) (hx : ∀ st, xstep ins len p1 (l0 :: lr) st = some (p2, l0 :: lr, v :: st)) (hv : v = .int n) (d2' : decode bytes p2 = .ok (.newarray aty, 2)) (ht : newarray.typeOf aty = ty) (hr : hasArr ws ty = true) (hn : ¬ n < 0) (hb : n.toNatClampNeg * 8 ≤ 536870912) (e3 : p2 + 2 = p3)
    (d3 : decode bytes p3 = .ok (.putfield i, 3)) (hp : pfR ws y.cls y.name i = some (C, j, .array at')) (hj : j < vs.length) :
    W ws dn k y bytes ret pc (l0 :: lr) [] (H ++ (.object C, vs) :: r) Q = W ws dn k y bytes ret (p3 + 3) (l0 :: lr) [] (H ++ (.object C, vs.set j (.ref (b + (r.length + 1)))) :: (r ++ [(.array ty, List.replicate n.toNatClampNeg (defaultValue ty))])) Q := by
  subst hl e0 e3 hv hH
  rw [w_x d0 (ls' := .val (.ref H.length) :: lr) (st' := [.ref H.length]) (pc' := pc + 1) rfl, w_x dn1 (hx _), w_newA d2' ht hr hn hb]
  have e1 : (H ++ (FieldType.object C, vs) :: r).length = H.length + (r.length + 1) := by simp
  rw [e1, w_put d3 hp (vs := vs) (H' := H ++ (.object C, vs.set j (.ref (H.length + (r.length + 1)))) :: (r ++ [(.array ty, List.replicate n.toNatClampNeg (defaultValue ty))])) (by simp) hk hj rfl (by simp)]
/-- a field's plain value put at a constructor's head -/
theorem w_iint {i j p1 p2 : Nat} {C : String} {vs : List Value} {r : AHeap} {v v0 v' : Value} {ty : FieldType} {l0 : Slot} {lr : List Slot} {ins : Instr} {len : Nat} {b : Nat} (hl : l0 = .val (.ref b)) (hH : H.length = b) (hk : k ≤ b)
    (d0 : decode bytes pc = .ok (.aload_n 0, 1)) (e0 : pc + 1 = p1) (dn1 : decode bytes p1 = .ok (ins, len)) (hx : ∀ st, xstep ins len p1 (l0 :: lr) st = some (p2, l0 :: lr, v0 :: st)) (hv : v0 = v)
    (d3 : decode bytes p2 = .ok (.putfield i, 3)) (hp : pfR ws y.cls y.name i = some (C, j, ty)) (hv' : putv ty v = some v') (hj : j < vs.length) :
    W ws dn k y bytes ret pc (l0 :: lr) [] (H ++ (.object C, vs) :: r) Q = W ws dn k y bytes ret (p2 + 3) (l0 :: lr) [] (H ++ (.object C, vs.set j v') :: r) Q := by
  subst hl e0 hv hH
  rw [w_x d0 (ls' := .val (.ref H.length) :: lr) (st' := [.ref H.length]) (pc' := pc + 1) rfl, w_x dn1 (hx _)]
  rw [w_put d3 hp (vs := vs) (H' := H ++ (.object C, vs.set j v') :: r) (by simp) hk hj hv' (by simp)]
end
end Jvm.Own
namespace Jvm.Own
open Sem ClassFile Op Lib Jvm.Stand Jvm.Free Jvm.LawKit Jvm.RoadKit
theorem getA_rep (n : Nat) (j : Int32) : getA (List.replicate n 0) j = 0 := by
  simp only [getA, List.getD_eq_getElem?_getD, List.getElem?_replicate]
  split <;> rfl
/-- the array's words as plain ints -/
theorem script_of {s : State} {a : Addr} {c : Cell} (hf : Fit s) (A : Arr s s.heap a c .int) (hl : c.slots.size < 2 ^ 31) : ∃ vs : List Int32, c.slots = (vs.map Value.int).toArray := by
  have h : ∀ v ∈ c.slots.toList, ∃ x : Int32, v = .int x := fun v hv => by
    obtain ⟨i, hi, e⟩ := List.getElem_of_mem hv
    have hi' : i < c.slots.size := by simpa using hi
    have e1 : (Nat.toInt32 i).toNatClampNeg = i := by simp only [Int32.toNatClampNeg, len_toInt (Nat.lt_trans hi' hl)]; rfl
    obtain ⟨w, h1, h2⟩ := elem_fit hf A (idx_in hi' hl)
    rw [e1] at h1
    have : w = v := by rw [Array.getElem?_eq_getElem hi'] at h1; rw [← e]; simpa using (Option.some.inj h1).symm
    subst this
    exact fit_I h2 (by simp)
  have g : ∀ l : List Value, (∀ v ∈ l, ∃ x : Int32, v = .int x) → ∃ vs : List Int32, l = vs.map Value.int := fun l => by
    induction l with
    | nil => exact fun _ => ⟨[], rfl⟩
    | cons v r ih =>
      intro q
      obtain ⟨x, rfl⟩ := q _ (List.mem_cons_self ..)
      obtain ⟨vs, e⟩ := ih fun w hw => q w (List.mem_cons_of_mem _ hw)
      exact ⟨x :: vs, by rw [e]; rfl⟩
  obtain ⟨vs, e⟩ := g _ h
  exact ⟨vs, by rw [← e]⟩
end Jvm.Own
namespace Jvm.Own
open Sem ClassFile Op Lib Jvm.Stand Jvm.Free Jvm.LawKit Jvm.RoadKit
/-! OWN 8: small facts on arrays and ints -/
theorem toNat_eq (j : Int32) : j.toNatClampNeg = j.toInt.toNat := rfl
theorem lt_i {x y : Int32} : x < y ↔ x.toInt < y.toInt := Int32.lt_iff_toInt_lt
theorem inB_iff {α : Type} {j : Int32} {l : List α} : inB j l ↔ 0 ≤ j.toInt ∧ j.toInt < (l.length : Int) := by
  have e0 : (0 : Int32).toInt = 0 := rfl
  unfold inB
  rw [lt_i, toNat_eq, e0]
  omega
theorem inB_lt {α : Type} {j n : Int32} {l : List α} (hl : (l.length : Int) = n.toInt) (h0 : ¬ j < 0) (h1 : j < n) : inB j l := by
  have e0 : (0 : Int32).toInt = 0 := rfl
  rw [inB_iff]
  rw [lt_i] at h0 h1
  rw [e0] at h0
  omega
theorem setA_len {α : Type} (l : List α) (j : Int32) (v : α) : (setA l j v).length = l.length := List.length_set
theorem getA_set {l : List Int32} {i j v : Int32} (h : inB i l) : getA (setA l i v) j = if j.toNatClampNeg = i.toNatClampNeg then v else getA l j := by
  simp only [getA, setA, List.getD_eq_getElem?_getD, List.getElem?_set]
  by_cases e : j.toNatClampNeg = i.toNatClampNeg
  · rw [e]; simp [h.2]
  · simp [e, Ne.symm e]
theorem getA_set2 (l : List Int32) (i j v : Int32) : getA (setA l i v) j = if j.toNatClampNeg = i.toNatClampNeg ∧ i.toNatClampNeg < l.length then v else getA l j := by
  simp only [getA, setA, List.getD_eq_getElem?_getD, List.getElem?_set]
  by_cases e : j.toNatClampNeg = i.toNatClampNeg
  · rw [e]
    by_cases q : i.toNatClampNeg < l.length <;> simp [q]
  · simp [e, Ne.symm e]
theorem len_ou {B A : Nat → List Int32} {j : Nat} {l : List Int32} (h : ∀ i, (A i).length = (B i).length) (hl : l.length = (B j).length) : ∀ i, (ou A j l i).length = (B i).length := fun i => by
  rw [ou_a]
  split
  · rename_i e; rw [e]; exact hl
  · exact h i
end Jvm.Own
namespace Jvm.Own
open Sem ClassFile Op Lib Jvm.Stand Jvm.Free Jvm.LawKit Jvm.RoadKit
/-! OWN 9: a normal form of states; masks and ranges -/
theorem ou_same {α : Type} (s : Nat → α) (i : Nat) (v w : α) : ou (ou s i v) i w = ou s i w := by
  funext j
  simp only [ou_a]
  by_cases h : j = i <;> simp [h]
theorem ou_comm {α : Type} {s : Nat → α} {i j : Nat} {v w : α} (h : j < i) : ou (ou s i v) j w = ou (ou s j w) (i + 0) v := by
  show ou (ou s i v) j w = ou (ou s j w) i v
  funext k
  simp only [ou_a]
  by_cases h1 : k = j
  · have h2 : ¬ k = i := by omega
    simp [h1]
    intro h3; omega
  · simp [h1]
theorem setA_same {α : Type} (l : List α) (i : Int32) (v w : α) : setA (setA l i v) i w = setA l i w := by
  simp only [setA, List.set_set]
theorem clamp_ne {i j : Int32} (h0 : ¬ j < 0) (h : j < i) : j.toNatClampNeg ≠ i.toNatClampNeg := by
  have e0 : (0 : Int32).toInt = 0 := rfl
  rw [lt_i] at *
  rw [toNat_eq, toNat_eq]
  omega
theorem setA_comm {α : Type} {l : List α} {i j : Int32} {v w : α} (h0 : ¬ j < 0) (h : j < i) : setA (setA l i v) j w = setA (setA l j w) (i + 0) v := by
  rw [Int32.add_zero]
  simp only [setA]
  exact List.set_comm _ _ (Ne.symm (clamp_ne h0 h))
theorem lt_irr (x : Int32) : (x < x) = False := by
  apply propext
  rw [lt_i]
  constructor
  · intro h; omega
  · exact False.elim
theorem bit1 (x : Int32) : x &&& 1 = 0 ∨ x &&& 1 = 1 := by
  have h : (x &&& 1).toBitVec.toNat = x.toBitVec.toNat % 2 := by
    rw [Int32.toBitVec_and, BitVec.toNat_and]
    exact Nat.and_one_is_mod _
  rcases Nat.mod_two_eq_zero_or_one x.toBitVec.toNat with e | e
  · exact Or.inl (Int32.toBitVec_inj.mp (BitVec.eq_of_toNat_eq (by rw [h, e]; rfl)))
  · exact Or.inr (Int32.toBitVec_inj.mp (BitVec.eq_of_toNat_eq (by rw [h, e]; rfl)))
theorem and_bd (x m : Int32) (hm : m.toBitVec.toNat < 2147483648) : 0 ≤ (x &&& m).toInt ∧ (x &&& m).toInt ≤ (m.toBitVec.toNat : Int) := by
  have h : (x &&& m).toBitVec.toNat ≤ m.toBitVec.toNat := by
    rw [Int32.toBitVec_and, BitVec.toNat_and]
    exact Nat.and_le_right
  have e : (x &&& m).toInt = ((x &&& m).toBitVec.toNat : Int) := BitVec.toInt_eq_toNat_of_lt (by omega)
  rw [e]
  omega
theorem rng {x : Int32} {n : Nat} (h0 : 0 ≤ x.toInt) (h1 : x.toInt < n) : ∃ k, k < n ∧ x = Int32.ofNat k := by
  have e : (x.toInt.toNat : Int) = x.toInt := Int.toNat_of_nonneg h0
  refine ⟨x.toInt.toNat, by omega, ?_⟩
  have e2 : Int32.ofNat x.toInt.toNat = Int32.ofInt (x.toInt.toNat : Int) := rfl
  rw [e2, e, Int32.ofInt_toInt]
theorem getL_rep (n : Nat) (j : Int32) : getL (List.replicate n 0) j = 0 := by
  simp only [getL, List.getD_eq_getElem?_getD, List.getElem?_replicate]
  split <;> rfl
theorem getL_set2 (l : List Int64) (i j : Int32) (v : Int64) : getL (setA l i v) j = if j.toNatClampNeg = i.toNatClampNeg ∧ i.toNatClampNeg < l.length then v else getL l j := by
  simp only [getL, setA, List.getD_eq_getElem?_getD, List.getElem?_set]
  by_cases e : j.toNatClampNeg = i.toNatClampNeg
  · rw [e]
    by_cases q : i.toNatClampNeg < l.length <;> simp [q]
  · simp [e, Ne.symm e]
theorem add_i {a b : Int32} (h : -2147483648 ≤ a.toInt + b.toInt) (h' : a.toInt + b.toInt < 2147483648) : (a + b).toInt = a.toInt + b.toInt := by
  rw [Int32.toInt_add]
  have e : ((2 ^ 32 : Nat) : Int) = 4294967296 := rfl
  exact Int.bmod_eq_of_le (by rw [e]; omega) (by rw [e]; omega)
theorem sub_i {a b : Int32} (h : -2147483648 ≤ a.toInt - b.toInt) (h' : a.toInt - b.toInt < 2147483648) : (a - b).toInt = a.toInt - b.toInt := by
  rw [Int32.toInt_sub]
  have e : ((2 ^ 32 : Nat) : Int) = 4294967296 := rfl
  exact Int.bmod_eq_of_le (by rw [e]; omega) (by rw [e]; omega)
theorem mul_i {a b : Int32} (h : -2147483648 ≤ a.toInt * b.toInt) (h' : a.toInt * b.toInt < 2147483648) : (a * b).toInt = a.toInt * b.toInt := by
  rw [Int32.toInt_mul]
  have e : ((2 ^ 32 : Nat) : Int) = 4294967296 := rfl
  exact Int.bmod_eq_of_le (by rw [e]; omega) (by rw [e]; omega)
theorem i_0 : (0 : Int32).toInt = 0 := rfl
theorem i_1 : (1 : Int32).toInt = 1 := rfl
theorem add1_i {a : Int32} (h : a.toInt < 2147483647) : (a + 1).toInt = a.toInt + 1 := by
  have := Int32.le_toInt a
  exact add_i (by rw [i_1]; omega) (by rw [i_1]; omega)
theorem nn_i {a : Int32} : ¬ a < 0 ↔ 0 ≤ a.toInt := by rw [lt_i, i_0]; omega
theorem succ_nn {a : Int32} (h0 : ¬ a < 0) (h : a.toInt < 2147483647) : ¬ a + 1 < 0 := by
  rw [nn_i] at *
  rw [add1_i h]
  omega
theorem inB_set {α : Type} {l : List α} {i j : Int32} {v : α} : inB j (setA l i v) = inB j l := by
  simp only [inB, setA_len]
theorem pad_1 (c : FieldType × List Value) : pad 1 [c] = [c] := rfl
def okS (l : Slot) : Prop := l = .unset ∨ ∃ z : Int32, l = .val (.int z)
theorem okS_u : okS .unset := Or.inl rfl
theorem okS_i (z : Int32) : okS (.val (.int z)) := Or.inr ⟨z, rfl⟩
end Jvm.Own
namespace Jvm.Pilot.@@N@@
open Jvm Jvm.ClassFile Sem Op Lib Jvm.Free Jvm.Stand Jvm.LawKit Jvm.RoadKit Bundle Jvm.Own Jvm.Pilot.@@N@@.Jvm.D
/-- frames and words that each method asks -/
def dn : Dn := [(⟨"ResponseTimeGate", "<init>", "(I)V"⟩, 1, 13), (⟨"ResponseTimeGate", "resetSim", "()V"⟩, 0, 0), (⟨"ResponseTimeGate", "misses", "()I"⟩, 0, 0), (⟨"ResponseTimeGate", "taskCount", "()I"⟩, 0, 0), (⟨"ResponseTimeGate", "hyperperiod", "()I"⟩, 0, 0), (⟨"ResponseTimeGate", "beginTask", "(IIII)I"⟩, 1, 14), (⟨"ResponseTimeGate", "priorityTaken", "(I)Z"⟩, 0, 0), (⟨"ResponseTimeGate", "addSection", "(III)I"⟩, 1, 17), (⟨"ResponseTimeGate", "overlapsStaged", "(II)Z"⟩, 0, 0), (⟨"ResponseTimeGate", "commitTask", "()I"⟩, 3, 55), (⟨"ResponseTimeGate", "lcmWith", "(II)I"⟩, 1, 18), (⟨"ResponseTimeGate", "gcd", "(II)I"⟩, 0, 0), (⟨"ResponseTimeGate", "placeStaged", "(I)V"⟩, 0, 0), (⟨"ResponseTimeGate", "analyze", "(I)I"⟩, 2, 39), (⟨"ResponseTimeGate", "computeCeilings", "(I)V"⟩, 0, 0), (⟨"ResponseTimeGate", "blockingOf", "(II)I"⟩, 0, 0), (⟨"ResponseTimeGate", "responseOf", "(III)I"⟩, 1, 20), (⟨"ResponseTimeGate", "interference", "(III)I"⟩, 0, 0), (⟨"ResponseTimeGate", "adoptResults", "(I)V"⟩, 0, 0), (⟨"ResponseTimeGate", "maxResponse", "(I)I"⟩, 1, 13), (⟨"ResponseTimeGate", "admitted", "(I)Z"⟩, 0, 0), (⟨"ResponseTimeGate", "bound", "(I)I"⟩, 1, 13), (⟨"ResponseTimeGate", "time", "()I"⟩, 0, 0), (⟨"ResponseTimeGate", "run", "(I)I"⟩, 3, 45), (⟨"ResponseTimeGate", "tick", "()V"⟩, 2, 32), (⟨"ResponseTimeGate", "releaseJobs", "()V"⟩, 0, 0), (⟨"ResponseTimeGate", "pickRunning", "()I"⟩, 1, 14), (⟨"ResponseTimeGate", "activePriority", "(I)I"⟩, 0, 0), (⟨"ResponseTimeGate", "executeUnit", "(I)V"⟩, 1, 14), (⟨"ResponseTimeGate", "takeResourceIfStart", "(I)V"⟩, 0, 0), (⟨"ResponseTimeGate", "checkMisses", "()V"⟩, 0, 0), (⟨"ResponseTimeGate", "completeJob", "(I)V"⟩, 0, 0), (⟨"ResponseTimeGate", "jobsDone", "(I)I"⟩, 1, 13), (⟨"ResponseTimeGateOwnLaw", "cell", "([II)I"⟩, 0, 0), (⟨"ResponseTimeGateOwnLaw", "mod", "(II)I"⟩, 0, 0), (⟨"ResponseTimeGateOwnLaw", "pick", "(I)I"⟩, 0, 0), (⟨"ResponseTimeGateOwnLaw", "setP", "(JII)J"⟩, 0, 0), (⟨"ResponseTimeGateOwnLaw", "getP", "(JI)I"⟩, 0, 0), (⟨"ResponseTimeGateOwnLaw", "law", "([I)Z"⟩, 4, 70)]
/- scalars: 0=cap 1=count 2=hyper 3=failed 4=staged 5=stT 6=stD 7=stC 8=stP 9=now 10=missCount; arrays: 0=per@1 1=dl@2 2=wc@3 3=pr@4 4=secS@5 5=secL@6 6=bnd@7 7=blk@8 8=ceil@9 9=stS@10 10=stL@11 11=candCeil@12 12=candB@13 13=candR@14 14=pend@15 15=rel@16 16=prog@17 17=held@18 18=done@19 19=maxR@20; longs: []; long arrays: [] -/
def objv (b : Nat) (s : Nat → Int32) : List Value := [.ref (b + 1), .ref (b + 2), .ref (b + 3), .ref (b + 4), .ref (b + 5), .ref (b + 6), .ref (b + 7), .ref (b + 8), .ref (b + 9), .ref (b + 10), .ref (b + 11), .ref (b + 12), .ref (b + 13), .ref (b + 14), .ref (b + 15), .ref (b + 16), .ref (b + 17), .ref (b + 18), .ref (b + 19), .ref (b + 20), .int (s 0), .int (s 1), .int (s 4), .int (s 3), .int (s 2), .int (s 9), .int (s 10), .int (s 5), .int (s 6), .int (s 7), .int (s 8)]
def put (b : Nat) (pre : AHeap) (s : Nat → Int32) (A : Nat → List Int32) (post : AHeap) : AHeap := pad b pre ++ ((.object "ResponseTimeGate", objv b s) :: (.array .int, (A 0).map Value.int) :: (.array .int, (A 1).map Value.int) :: (.array .int, (A 2).map Value.int) :: (.array .int, (A 3).map Value.int) :: (.array .int, (A 4).map Value.int) :: (.array .int, (A 5).map Value.int) :: (.array .int, (A 6).map Value.int) :: (.array .int, (A 7).map Value.int) :: (.array .int, (A 8).map Value.int) :: (.array .int, (A 9).map Value.int) :: (.array .int, (A 10).map Value.int) :: (.array .int, (A 11).map Value.int) :: (.array .int, (A 12).map Value.int) :: (.array .int, (A 13).map Value.int) :: (.array .boolean, (A 14).map Value.int) :: (.array .int, (A 15).map Value.int) :: (.array .int, (A 16).map Value.int) :: (.array .int, (A 17).map Value.int) :: (.array .int, (A 18).map Value.int) :: (.array .int, (A 19).map Value.int) :: post)
theorem put_o {b : Nat} {pre : AHeap} {s : Nat → Int32} {A : Nat → List Int32} {post : AHeap} : (put b pre s A post)[b]? = some (.object "ResponseTimeGate", objv b s) := pad_get0 _ _ _
theorem put_a0 {b : Nat} {pre : AHeap} {s : Nat → Int32} {A : Nat → List Int32} {post : AHeap} : (put b pre s A post)[b + 1]? = some (.array .int, (A 0).map Value.int) := pad_get _ _ _ 1
theorem put_w0 {b : Nat} {pre : AHeap} {s : Nat → Int32} {A : Nat → List Int32} {post : AHeap} {l : List Int32} : (put b pre s A post).set (b + 1) (.array .int, l.map Value.int) = put b pre s (ou A 0 l) post := pad_set _ _ _ 1 _
theorem put_a1 {b : Nat} {pre : AHeap} {s : Nat → Int32} {A : Nat → List Int32} {post : AHeap} : (put b pre s A post)[b + 2]? = some (.array .int, (A 1).map Value.int) := pad_get _ _ _ 2
theorem put_w1 {b : Nat} {pre : AHeap} {s : Nat → Int32} {A : Nat → List Int32} {post : AHeap} {l : List Int32} : (put b pre s A post).set (b + 2) (.array .int, l.map Value.int) = put b pre s (ou A 1 l) post := pad_set _ _ _ 2 _
theorem put_a2 {b : Nat} {pre : AHeap} {s : Nat → Int32} {A : Nat → List Int32} {post : AHeap} : (put b pre s A post)[b + 3]? = some (.array .int, (A 2).map Value.int) := pad_get _ _ _ 3
theorem put_w2 {b : Nat} {pre : AHeap} {s : Nat → Int32} {A : Nat → List Int32} {post : AHeap} {l : List Int32} : (put b pre s A post).set (b + 3) (.array .int, l.map Value.int) = put b pre s (ou A 2 l) post := pad_set _ _ _ 3 _
theorem put_a3 {b : Nat} {pre : AHeap} {s : Nat → Int32} {A : Nat → List Int32} {post : AHeap} : (put b pre s A post)[b + 4]? = some (.array .int, (A 3).map Value.int) := pad_get _ _ _ 4
theorem put_w3 {b : Nat} {pre : AHeap} {s : Nat → Int32} {A : Nat → List Int32} {post : AHeap} {l : List Int32} : (put b pre s A post).set (b + 4) (.array .int, l.map Value.int) = put b pre s (ou A 3 l) post := pad_set _ _ _ 4 _
theorem put_a4 {b : Nat} {pre : AHeap} {s : Nat → Int32} {A : Nat → List Int32} {post : AHeap} : (put b pre s A post)[b + 5]? = some (.array .int, (A 4).map Value.int) := pad_get _ _ _ 5
theorem put_w4 {b : Nat} {pre : AHeap} {s : Nat → Int32} {A : Nat → List Int32} {post : AHeap} {l : List Int32} : (put b pre s A post).set (b + 5) (.array .int, l.map Value.int) = put b pre s (ou A 4 l) post := pad_set _ _ _ 5 _
theorem put_a5 {b : Nat} {pre : AHeap} {s : Nat → Int32} {A : Nat → List Int32} {post : AHeap} : (put b pre s A post)[b + 6]? = some (.array .int, (A 5).map Value.int) := pad_get _ _ _ 6
theorem put_w5 {b : Nat} {pre : AHeap} {s : Nat → Int32} {A : Nat → List Int32} {post : AHeap} {l : List Int32} : (put b pre s A post).set (b + 6) (.array .int, l.map Value.int) = put b pre s (ou A 5 l) post := pad_set _ _ _ 6 _
theorem put_a6 {b : Nat} {pre : AHeap} {s : Nat → Int32} {A : Nat → List Int32} {post : AHeap} : (put b pre s A post)[b + 7]? = some (.array .int, (A 6).map Value.int) := pad_get _ _ _ 7
theorem put_w6 {b : Nat} {pre : AHeap} {s : Nat → Int32} {A : Nat → List Int32} {post : AHeap} {l : List Int32} : (put b pre s A post).set (b + 7) (.array .int, l.map Value.int) = put b pre s (ou A 6 l) post := pad_set _ _ _ 7 _
theorem put_a7 {b : Nat} {pre : AHeap} {s : Nat → Int32} {A : Nat → List Int32} {post : AHeap} : (put b pre s A post)[b + 8]? = some (.array .int, (A 7).map Value.int) := pad_get _ _ _ 8
theorem put_w7 {b : Nat} {pre : AHeap} {s : Nat → Int32} {A : Nat → List Int32} {post : AHeap} {l : List Int32} : (put b pre s A post).set (b + 8) (.array .int, l.map Value.int) = put b pre s (ou A 7 l) post := pad_set _ _ _ 8 _
theorem put_a8 {b : Nat} {pre : AHeap} {s : Nat → Int32} {A : Nat → List Int32} {post : AHeap} : (put b pre s A post)[b + 9]? = some (.array .int, (A 8).map Value.int) := pad_get _ _ _ 9
theorem put_w8 {b : Nat} {pre : AHeap} {s : Nat → Int32} {A : Nat → List Int32} {post : AHeap} {l : List Int32} : (put b pre s A post).set (b + 9) (.array .int, l.map Value.int) = put b pre s (ou A 8 l) post := pad_set _ _ _ 9 _
theorem put_a9 {b : Nat} {pre : AHeap} {s : Nat → Int32} {A : Nat → List Int32} {post : AHeap} : (put b pre s A post)[b + 10]? = some (.array .int, (A 9).map Value.int) := pad_get _ _ _ 10
theorem put_w9 {b : Nat} {pre : AHeap} {s : Nat → Int32} {A : Nat → List Int32} {post : AHeap} {l : List Int32} : (put b pre s A post).set (b + 10) (.array .int, l.map Value.int) = put b pre s (ou A 9 l) post := pad_set _ _ _ 10 _
theorem put_a10 {b : Nat} {pre : AHeap} {s : Nat → Int32} {A : Nat → List Int32} {post : AHeap} : (put b pre s A post)[b + 11]? = some (.array .int, (A 10).map Value.int) := pad_get _ _ _ 11
theorem put_w10 {b : Nat} {pre : AHeap} {s : Nat → Int32} {A : Nat → List Int32} {post : AHeap} {l : List Int32} : (put b pre s A post).set (b + 11) (.array .int, l.map Value.int) = put b pre s (ou A 10 l) post := pad_set _ _ _ 11 _
theorem put_a11 {b : Nat} {pre : AHeap} {s : Nat → Int32} {A : Nat → List Int32} {post : AHeap} : (put b pre s A post)[b + 12]? = some (.array .int, (A 11).map Value.int) := pad_get _ _ _ 12
theorem put_w11 {b : Nat} {pre : AHeap} {s : Nat → Int32} {A : Nat → List Int32} {post : AHeap} {l : List Int32} : (put b pre s A post).set (b + 12) (.array .int, l.map Value.int) = put b pre s (ou A 11 l) post := pad_set _ _ _ 12 _
theorem put_a12 {b : Nat} {pre : AHeap} {s : Nat → Int32} {A : Nat → List Int32} {post : AHeap} : (put b pre s A post)[b + 13]? = some (.array .int, (A 12).map Value.int) := pad_get _ _ _ 13
theorem put_w12 {b : Nat} {pre : AHeap} {s : Nat → Int32} {A : Nat → List Int32} {post : AHeap} {l : List Int32} : (put b pre s A post).set (b + 13) (.array .int, l.map Value.int) = put b pre s (ou A 12 l) post := pad_set _ _ _ 13 _
theorem put_a13 {b : Nat} {pre : AHeap} {s : Nat → Int32} {A : Nat → List Int32} {post : AHeap} : (put b pre s A post)[b + 14]? = some (.array .int, (A 13).map Value.int) := pad_get _ _ _ 14
theorem put_w13 {b : Nat} {pre : AHeap} {s : Nat → Int32} {A : Nat → List Int32} {post : AHeap} {l : List Int32} : (put b pre s A post).set (b + 14) (.array .int, l.map Value.int) = put b pre s (ou A 13 l) post := pad_set _ _ _ 14 _
theorem put_a14 {b : Nat} {pre : AHeap} {s : Nat → Int32} {A : Nat → List Int32} {post : AHeap} : (put b pre s A post)[b + 15]? = some (.array .boolean, (A 14).map Value.int) := pad_get _ _ _ 15
theorem put_w14 {b : Nat} {pre : AHeap} {s : Nat → Int32} {A : Nat → List Int32} {post : AHeap} {l : List Int32} : (put b pre s A post).set (b + 15) (.array .boolean, l.map Value.int) = put b pre s (ou A 14 l) post := pad_set _ _ _ 15 _
theorem put_a15 {b : Nat} {pre : AHeap} {s : Nat → Int32} {A : Nat → List Int32} {post : AHeap} : (put b pre s A post)[b + 16]? = some (.array .int, (A 15).map Value.int) := pad_get _ _ _ 16
theorem put_w15 {b : Nat} {pre : AHeap} {s : Nat → Int32} {A : Nat → List Int32} {post : AHeap} {l : List Int32} : (put b pre s A post).set (b + 16) (.array .int, l.map Value.int) = put b pre s (ou A 15 l) post := pad_set _ _ _ 16 _
theorem put_a16 {b : Nat} {pre : AHeap} {s : Nat → Int32} {A : Nat → List Int32} {post : AHeap} : (put b pre s A post)[b + 17]? = some (.array .int, (A 16).map Value.int) := pad_get _ _ _ 17
theorem put_w16 {b : Nat} {pre : AHeap} {s : Nat → Int32} {A : Nat → List Int32} {post : AHeap} {l : List Int32} : (put b pre s A post).set (b + 17) (.array .int, l.map Value.int) = put b pre s (ou A 16 l) post := pad_set _ _ _ 17 _
theorem put_a17 {b : Nat} {pre : AHeap} {s : Nat → Int32} {A : Nat → List Int32} {post : AHeap} : (put b pre s A post)[b + 18]? = some (.array .int, (A 17).map Value.int) := pad_get _ _ _ 18
theorem put_w17 {b : Nat} {pre : AHeap} {s : Nat → Int32} {A : Nat → List Int32} {post : AHeap} {l : List Int32} : (put b pre s A post).set (b + 18) (.array .int, l.map Value.int) = put b pre s (ou A 17 l) post := pad_set _ _ _ 18 _
theorem put_a18 {b : Nat} {pre : AHeap} {s : Nat → Int32} {A : Nat → List Int32} {post : AHeap} : (put b pre s A post)[b + 19]? = some (.array .int, (A 18).map Value.int) := pad_get _ _ _ 19
theorem put_w18 {b : Nat} {pre : AHeap} {s : Nat → Int32} {A : Nat → List Int32} {post : AHeap} {l : List Int32} : (put b pre s A post).set (b + 19) (.array .int, l.map Value.int) = put b pre s (ou A 18 l) post := pad_set _ _ _ 19 _
theorem put_a19 {b : Nat} {pre : AHeap} {s : Nat → Int32} {A : Nat → List Int32} {post : AHeap} : (put b pre s A post)[b + 20]? = some (.array .int, (A 19).map Value.int) := pad_get _ _ _ 20
theorem put_w19 {b : Nat} {pre : AHeap} {s : Nat → Int32} {A : Nat → List Int32} {post : AHeap} {l : List Int32} : (put b pre s A post).set (b + 20) (.array .int, l.map Value.int) = put b pre s (ou A 19 l) post := pad_set _ _ _ 20 _
theorem put_s0 {b : Nat} {pre : AHeap} {s : Nat → Int32} {A : Nat → List Int32} {post : AHeap} {v : Int32} : (put b pre s A post).set b (.object "ResponseTimeGate", (objv b s).set 20 (.int v)) = put b pre (ou s 0 v) A post := pad_set0 _ _ _ _
theorem put_s1 {b : Nat} {pre : AHeap} {s : Nat → Int32} {A : Nat → List Int32} {post : AHeap} {v : Int32} : (put b pre s A post).set b (.object "ResponseTimeGate", (objv b s).set 21 (.int v)) = put b pre (ou s 1 v) A post := pad_set0 _ _ _ _
theorem put_s4 {b : Nat} {pre : AHeap} {s : Nat → Int32} {A : Nat → List Int32} {post : AHeap} {v : Int32} : (put b pre s A post).set b (.object "ResponseTimeGate", (objv b s).set 22 (.int v)) = put b pre (ou s 4 v) A post := pad_set0 _ _ _ _
theorem put_s3 {b : Nat} {pre : AHeap} {s : Nat → Int32} {A : Nat → List Int32} {post : AHeap} {v : Int32} : (put b pre s A post).set b (.object "ResponseTimeGate", (objv b s).set 23 (.int v)) = put b pre (ou s 3 v) A post := pad_set0 _ _ _ _
theorem put_s2 {b : Nat} {pre : AHeap} {s : Nat → Int32} {A : Nat → List Int32} {post : AHeap} {v : Int32} : (put b pre s A post).set b (.object "ResponseTimeGate", (objv b s).set 24 (.int v)) = put b pre (ou s 2 v) A post := pad_set0 _ _ _ _
theorem put_s9 {b : Nat} {pre : AHeap} {s : Nat → Int32} {A : Nat → List Int32} {post : AHeap} {v : Int32} : (put b pre s A post).set b (.object "ResponseTimeGate", (objv b s).set 25 (.int v)) = put b pre (ou s 9 v) A post := pad_set0 _ _ _ _
theorem put_s10 {b : Nat} {pre : AHeap} {s : Nat → Int32} {A : Nat → List Int32} {post : AHeap} {v : Int32} : (put b pre s A post).set b (.object "ResponseTimeGate", (objv b s).set 26 (.int v)) = put b pre (ou s 10 v) A post := pad_set0 _ _ _ _
theorem put_s5 {b : Nat} {pre : AHeap} {s : Nat → Int32} {A : Nat → List Int32} {post : AHeap} {v : Int32} : (put b pre s A post).set b (.object "ResponseTimeGate", (objv b s).set 27 (.int v)) = put b pre (ou s 5 v) A post := pad_set0 _ _ _ _
theorem put_s6 {b : Nat} {pre : AHeap} {s : Nat → Int32} {A : Nat → List Int32} {post : AHeap} {v : Int32} : (put b pre s A post).set b (.object "ResponseTimeGate", (objv b s).set 28 (.int v)) = put b pre (ou s 6 v) A post := pad_set0 _ _ _ _
theorem put_s7 {b : Nat} {pre : AHeap} {s : Nat → Int32} {A : Nat → List Int32} {post : AHeap} {v : Int32} : (put b pre s A post).set b (.object "ResponseTimeGate", (objv b s).set 29 (.int v)) = put b pre (ou s 7 v) A post := pad_set0 _ _ _ _
theorem put_s8 {b : Nat} {pre : AHeap} {s : Nat → Int32} {A : Nat → List Int32} {post : AHeap} {v : Int32} : (put b pre s A post).set b (.object "ResponseTimeGate", (objv b s).set 30 (.int v)) = put b pre (ou s 8 v) A post := pad_set0 _ _ _ _
theorem put_len {b : Nat} {pre : AHeap} {s : Nat → Int32} {A : Nat → List Int32} {post : AHeap} : (put b pre s A post).length = b + 21 + post.length := by rw [put, List.length_append, pad_len]; simp only [List.length_cons]; omega
theorem inst0 : rInst tables_1 "ResponseTimeGate" = some 31 := by decide +kernel
theorem put_tot {b : Nat} {pre : AHeap} {s : Nat → Int32} {A : Nat → List Int32} {post : AHeap} : tot tables_1 (put b pre s A post) = tot tables_1 (pad b pre) + (31 + ((A 0).length + ((A 1).length + ((A 2).length + ((A 3).length + ((A 4).length + ((A 5).length + ((A 6).length + ((A 7).length + ((A 8).length + ((A 9).length + ((A 10).length + ((A 11).length + ((A 12).length + ((A 13).length + ((A 14).length + ((A 15).length + ((A 16).length + ((A 17).length + ((A 18).length + ((A 19).length + tot tables_1 post))))))))))))))))))))) := by rw [put, tot_append]; simp only [tot_cons, cost, List.length_map, inst0, Option.getD_some]
def D0 : List Value := [.null, .null, .null, .null, .null, .null, .null, .null, .null, .null, .null, .null, .null, .null, .null, .null, .null, .null, .null, .null, .int 0, .int 0, .int 0, .int 0, .int 0, .int 0, .int 0, .int 0, .int 0, .int 0, .int 0]
theorem lay0 : (olay tables_1 "ResponseTimeGate").map dflt = D0 := by decide +kernel
abbrev y0 : MethodName := ⟨"ResponseTimeGate", "<init>", "(I)V"⟩
abbrev kb0 : ByteArray := prog_1_method_1_code
def M0 (pc : Nat) (ls : List Slot) (st : List Value) (H : AHeap) (Q : Option Value → AHeap → Prop) : Prop := W tables_1 dn 1 y0 prog_1_method_1_code none pc ls st H Q
abbrev y1 : MethodName := ⟨"ResponseTimeGate", "resetSim", "()V"⟩
abbrev kb1 : ByteArray := prog_1_method_23_code
def M1 (pc : Nat) (ls : List Slot) (st : List Value) (H : AHeap) (Q : Option Value → AHeap → Prop) : Prop := W tables_1 dn 1 y1 prog_1_method_23_code none pc ls st H Q
abbrev y2 : MethodName := ⟨"ResponseTimeGate", "misses", "()I"⟩
abbrev kb2 : ByteArray := prog_1_method_36_code
def M2 (pc : Nat) (ls : List Slot) (st : List Value) (H : AHeap) (Q : Option Value → AHeap → Prop) : Prop := W tables_1 dn 1 y2 prog_1_method_36_code (some .int) pc ls st H Q
abbrev y3 : MethodName := ⟨"ResponseTimeGate", "taskCount", "()I"⟩
abbrev kb3 : ByteArray := prog_1_method_17_code
def M3 (pc : Nat) (ls : List Slot) (st : List Value) (H : AHeap) (Q : Option Value → AHeap → Prop) : Prop := W tables_1 dn 1 y3 prog_1_method_17_code (some .int) pc ls st H Q
abbrev y4 : MethodName := ⟨"ResponseTimeGate", "hyperperiod", "()I"⟩
abbrev kb4 : ByteArray := prog_1_method_21_code
def M4 (pc : Nat) (ls : List Slot) (st : List Value) (H : AHeap) (Q : Option Value → AHeap → Prop) : Prop := W tables_1 dn 1 y4 prog_1_method_21_code (some .int) pc ls st H Q
abbrev y5 : MethodName := ⟨"ResponseTimeGate", "beginTask", "(IIII)I"⟩
abbrev kb5 : ByteArray := prog_1_method_2_code
def M5 (pc : Nat) (ls : List Slot) (st : List Value) (H : AHeap) (Q : Option Value → AHeap → Prop) : Prop := W tables_1 dn 1 y5 prog_1_method_2_code (some .int) pc ls st H Q
abbrev y6 : MethodName := ⟨"ResponseTimeGate", "priorityTaken", "(I)Z"⟩
abbrev kb6 : ByteArray := prog_1_method_3_code
def M6 (pc : Nat) (ls : List Slot) (st : List Value) (H : AHeap) (Q : Option Value → AHeap → Prop) : Prop := W tables_1 dn 1 y6 prog_1_method_3_code (some .boolean) pc ls st H Q
abbrev y7 : MethodName := ⟨"ResponseTimeGate", "addSection", "(III)I"⟩
abbrev kb7 : ByteArray := prog_1_method_4_code
def M7 (pc : Nat) (ls : List Slot) (st : List Value) (H : AHeap) (Q : Option Value → AHeap → Prop) : Prop := W tables_1 dn 1 y7 prog_1_method_4_code (some .int) pc ls st H Q
abbrev y8 : MethodName := ⟨"ResponseTimeGate", "overlapsStaged", "(II)Z"⟩
abbrev kb8 : ByteArray := prog_1_method_5_code
def M8 (pc : Nat) (ls : List Slot) (st : List Value) (H : AHeap) (Q : Option Value → AHeap → Prop) : Prop := W tables_1 dn 1 y8 prog_1_method_5_code (some .boolean) pc ls st H Q
abbrev y9 : MethodName := ⟨"ResponseTimeGate", "commitTask", "()I"⟩
abbrev kb9 : ByteArray := prog_1_method_6_code
def M9 (pc : Nat) (ls : List Slot) (st : List Value) (H : AHeap) (Q : Option Value → AHeap → Prop) : Prop := W tables_1 dn 1 y9 prog_1_method_6_code (some .int) pc ls st H Q
abbrev y10 : MethodName := ⟨"ResponseTimeGate", "lcmWith", "(II)I"⟩
abbrev kb10 : ByteArray := prog_1_method_10_code
def M10 (pc : Nat) (ls : List Slot) (st : List Value) (H : AHeap) (Q : Option Value → AHeap → Prop) : Prop := W tables_1 dn 1 y10 prog_1_method_10_code (some .int) pc ls st H Q
abbrev y11 : MethodName := ⟨"ResponseTimeGate", "gcd", "(II)I"⟩
abbrev kb11 : ByteArray := prog_1_method_9_code
def M11 (pc : Nat) (ls : List Slot) (st : List Value) (H : AHeap) (Q : Option Value → AHeap → Prop) : Prop := W tables_1 dn 1 y11 prog_1_method_9_code (some .int) pc ls st H Q
abbrev y12 : MethodName := ⟨"ResponseTimeGate", "placeStaged", "(I)V"⟩
abbrev kb12 : ByteArray := prog_1_method_7_code
def M12 (pc : Nat) (ls : List Slot) (st : List Value) (H : AHeap) (Q : Option Value → AHeap → Prop) : Prop := W tables_1 dn 1 y12 prog_1_method_7_code none pc ls st H Q
abbrev y13 : MethodName := ⟨"ResponseTimeGate", "analyze", "(I)I"⟩
abbrev kb13 : ByteArray := prog_1_method_11_code
def M13 (pc : Nat) (ls : List Slot) (st : List Value) (H : AHeap) (Q : Option Value → AHeap → Prop) : Prop := W tables_1 dn 1 y13 prog_1_method_11_code (some .int) pc ls st H Q
abbrev y14 : MethodName := ⟨"ResponseTimeGate", "computeCeilings", "(I)V"⟩
abbrev kb14 : ByteArray := prog_1_method_12_code
def M14 (pc : Nat) (ls : List Slot) (st : List Value) (H : AHeap) (Q : Option Value → AHeap → Prop) : Prop := W tables_1 dn 1 y14 prog_1_method_12_code none pc ls st H Q
abbrev y15 : MethodName := ⟨"ResponseTimeGate", "blockingOf", "(II)I"⟩
abbrev kb15 : ByteArray := prog_1_method_13_code
def M15 (pc : Nat) (ls : List Slot) (st : List Value) (H : AHeap) (Q : Option Value → AHeap → Prop) : Prop := W tables_1 dn 1 y15 prog_1_method_13_code (some .int) pc ls st H Q
abbrev y16 : MethodName := ⟨"ResponseTimeGate", "responseOf", "(III)I"⟩
abbrev kb16 : ByteArray := prog_1_method_14_code
def M16 (pc : Nat) (ls : List Slot) (st : List Value) (H : AHeap) (Q : Option Value → AHeap → Prop) : Prop := W tables_1 dn 1 y16 prog_1_method_14_code (some .int) pc ls st H Q
abbrev y17 : MethodName := ⟨"ResponseTimeGate", "interference", "(III)I"⟩
abbrev kb17 : ByteArray := prog_1_method_15_code
def M17 (pc : Nat) (ls : List Slot) (st : List Value) (H : AHeap) (Q : Option Value → AHeap → Prop) : Prop := W tables_1 dn 1 y17 prog_1_method_15_code (some .int) pc ls st H Q
abbrev y18 : MethodName := ⟨"ResponseTimeGate", "adoptResults", "(I)V"⟩
abbrev kb18 : ByteArray := prog_1_method_8_code
def M18 (pc : Nat) (ls : List Slot) (st : List Value) (H : AHeap) (Q : Option Value → AHeap → Prop) : Prop := W tables_1 dn 1 y18 prog_1_method_8_code none pc ls st H Q
abbrev y19 : MethodName := ⟨"ResponseTimeGate", "maxResponse", "(I)I"⟩
abbrev kb19 : ByteArray := prog_1_method_34_code
def M19 (pc : Nat) (ls : List Slot) (st : List Value) (H : AHeap) (Q : Option Value → AHeap → Prop) : Prop := W tables_1 dn 1 y19 prog_1_method_34_code (some .int) pc ls st H Q
abbrev y20 : MethodName := ⟨"ResponseTimeGate", "admitted", "(I)Z"⟩
abbrev kb20 : ByteArray := prog_1_method_16_code
def M20 (pc : Nat) (ls : List Slot) (st : List Value) (H : AHeap) (Q : Option Value → AHeap → Prop) : Prop := W tables_1 dn 1 y20 prog_1_method_16_code (some .boolean) pc ls st H Q
abbrev y21 : MethodName := ⟨"ResponseTimeGate", "bound", "(I)I"⟩
abbrev kb21 : ByteArray := prog_1_method_18_code
def M21 (pc : Nat) (ls : List Slot) (st : List Value) (H : AHeap) (Q : Option Value → AHeap → Prop) : Prop := W tables_1 dn 1 y21 prog_1_method_18_code (some .int) pc ls st H Q
abbrev y22 : MethodName := ⟨"ResponseTimeGate", "time", "()I"⟩
abbrev kb22 : ByteArray := prog_1_method_33_code
def M22 (pc : Nat) (ls : List Slot) (st : List Value) (H : AHeap) (Q : Option Value → AHeap → Prop) : Prop := W tables_1 dn 1 y22 prog_1_method_33_code (some .int) pc ls st H Q
abbrev y23 : MethodName := ⟨"ResponseTimeGate", "run", "(I)I"⟩
abbrev kb23 : ByteArray := prog_1_method_24_code
def M23 (pc : Nat) (ls : List Slot) (st : List Value) (H : AHeap) (Q : Option Value → AHeap → Prop) : Prop := W tables_1 dn 1 y23 prog_1_method_24_code (some .int) pc ls st H Q
abbrev y24 : MethodName := ⟨"ResponseTimeGate", "tick", "()V"⟩
abbrev kb24 : ByteArray := prog_1_method_25_code
def M24 (pc : Nat) (ls : List Slot) (st : List Value) (H : AHeap) (Q : Option Value → AHeap → Prop) : Prop := W tables_1 dn 1 y24 prog_1_method_25_code none pc ls st H Q
abbrev y25 : MethodName := ⟨"ResponseTimeGate", "releaseJobs", "()V"⟩
abbrev kb25 : ByteArray := prog_1_method_26_code
def M25 (pc : Nat) (ls : List Slot) (st : List Value) (H : AHeap) (Q : Option Value → AHeap → Prop) : Prop := W tables_1 dn 1 y25 prog_1_method_26_code none pc ls st H Q
abbrev y26 : MethodName := ⟨"ResponseTimeGate", "pickRunning", "()I"⟩
abbrev kb26 : ByteArray := prog_1_method_28_code
def M26 (pc : Nat) (ls : List Slot) (st : List Value) (H : AHeap) (Q : Option Value → AHeap → Prop) : Prop := W tables_1 dn 1 y26 prog_1_method_28_code (some .int) pc ls st H Q
abbrev y27 : MethodName := ⟨"ResponseTimeGate", "activePriority", "(I)I"⟩
abbrev kb27 : ByteArray := prog_1_method_27_code
def M27 (pc : Nat) (ls : List Slot) (st : List Value) (H : AHeap) (Q : Option Value → AHeap → Prop) : Prop := W tables_1 dn 1 y27 prog_1_method_27_code (some .int) pc ls st H Q
abbrev y28 : MethodName := ⟨"ResponseTimeGate", "executeUnit", "(I)V"⟩
abbrev kb28 : ByteArray := prog_1_method_30_code
def M28 (pc : Nat) (ls : List Slot) (st : List Value) (H : AHeap) (Q : Option Value → AHeap → Prop) : Prop := W tables_1 dn 1 y28 prog_1_method_30_code none pc ls st H Q
abbrev y29 : MethodName := ⟨"ResponseTimeGate", "takeResourceIfStart", "(I)V"⟩
abbrev kb29 : ByteArray := prog_1_method_29_code
def M29 (pc : Nat) (ls : List Slot) (st : List Value) (H : AHeap) (Q : Option Value → AHeap → Prop) : Prop := W tables_1 dn 1 y29 prog_1_method_29_code none pc ls st H Q
abbrev y30 : MethodName := ⟨"ResponseTimeGate", "checkMisses", "()V"⟩
abbrev kb30 : ByteArray := prog_1_method_32_code
def M30 (pc : Nat) (ls : List Slot) (st : List Value) (H : AHeap) (Q : Option Value → AHeap → Prop) : Prop := W tables_1 dn 1 y30 prog_1_method_32_code none pc ls st H Q
abbrev y31 : MethodName := ⟨"ResponseTimeGate", "completeJob", "(I)V"⟩
abbrev kb31 : ByteArray := prog_1_method_31_code
def M31 (pc : Nat) (ls : List Slot) (st : List Value) (H : AHeap) (Q : Option Value → AHeap → Prop) : Prop := W tables_1 dn 1 y31 prog_1_method_31_code none pc ls st H Q
abbrev y32 : MethodName := ⟨"ResponseTimeGate", "jobsDone", "(I)I"⟩
abbrev kb32 : ByteArray := prog_1_method_35_code
def M32 (pc : Nat) (ls : List Slot) (st : List Value) (H : AHeap) (Q : Option Value → AHeap → Prop) : Prop := W tables_1 dn 1 y32 prog_1_method_35_code (some .int) pc ls st H Q
abbrev y33 : MethodName := ⟨"ResponseTimeGateOwnLaw", "cell", "([II)I"⟩
abbrev kb33 : ByteArray := method_2_code
def M33 (pc : Nat) (ls : List Slot) (st : List Value) (H : AHeap) (Q : Option Value → AHeap → Prop) : Prop := W tables_1 dn 1 y33 method_2_code (some .int) pc ls st H Q
abbrev y34 : MethodName := ⟨"ResponseTimeGateOwnLaw", "mod", "(II)I"⟩
abbrev kb34 : ByteArray := method_3_code
def M34 (pc : Nat) (ls : List Slot) (st : List Value) (H : AHeap) (Q : Option Value → AHeap → Prop) : Prop := W tables_1 dn 1 y34 method_3_code (some .int) pc ls st H Q
abbrev y35 : MethodName := ⟨"ResponseTimeGateOwnLaw", "pick", "(I)I"⟩
abbrev kb35 : ByteArray := method_4_code
def M35 (pc : Nat) (ls : List Slot) (st : List Value) (H : AHeap) (Q : Option Value → AHeap → Prop) : Prop := W tables_1 dn 1 y35 method_4_code (some .int) pc ls st H Q
abbrev y36 : MethodName := ⟨"ResponseTimeGateOwnLaw", "setP", "(JII)J"⟩
abbrev kb36 : ByteArray := method_5_code
def M36 (pc : Nat) (ls : List Slot) (st : List Value) (H : AHeap) (Q : Option Value → AHeap → Prop) : Prop := W tables_1 dn 1 y36 method_5_code (some .long) pc ls st H Q
abbrev y37 : MethodName := ⟨"ResponseTimeGateOwnLaw", "getP", "(JI)I"⟩
abbrev kb37 : ByteArray := method_6_code
def M37 (pc : Nat) (ls : List Slot) (st : List Value) (H : AHeap) (Q : Option Value → AHeap → Prop) : Prop := W tables_1 dn 1 y37 method_6_code (some .int) pc ls st H Q
abbrev y38 : MethodName := ⟨"ResponseTimeGateOwnLaw", "law", "([I)Z"⟩
abbrev kb38 : ByteArray := code
def M38 (pc : Nat) (ls : List Slot) (st : List Value) (H : AHeap) (Q : Option Value → AHeap → Prop) : Prop := W tables_1 dn 1 y38 code (some .boolean) pc ls st H Q
theorem dn_0 : dnOf dn y0 = some (1, 13) := by decide +kernel
theorem rc_0 : rCode tables_1 y0 = some (prog_1_method_1_code, 4, none) := rCode_of (i := 12) rfl (by decide +kernel)
theorem dn_1 : dnOf dn y1 = some (0, 0) := by decide +kernel
theorem rc_1 : rCode tables_1 y1 = some (prog_1_method_23_code, 2, none) := rCode_of (i := 71) rfl (by decide +kernel)
theorem dn_2 : dnOf dn y2 = some (0, 0) := by decide +kernel
theorem rc_2 : rCode tables_1 y2 = some (prog_1_method_36_code, 1, some .int) := rCode_of (i := 80) rfl (by decide +kernel)
theorem dn_3 : dnOf dn y3 = some (0, 0) := by decide +kernel
theorem rc_3 : rCode tables_1 y3 = some (prog_1_method_17_code, 1, some .int) := rCode_of (i := 85) rfl (by decide +kernel)
theorem dn_4 : dnOf dn y4 = some (0, 0) := by decide +kernel
theorem rc_4 : rCode tables_1 y4 = some (prog_1_method_21_code, 1, some .int) := rCode_of (i := 90) rfl (by decide +kernel)
theorem dn_5 : dnOf dn y5 = some (1, 14) := by decide +kernel
theorem rc_5 : rCode tables_1 y5 = some (prog_1_method_2_code, 6, some .int) := rCode_of (i := 98) rfl (by decide +kernel)
theorem dn_6 : dnOf dn y6 = some (0, 0) := by decide +kernel
theorem rc_6 : rCode tables_1 y6 = some (prog_1_method_3_code, 3, some .boolean) := rCode_of (i := 102) rfl (by decide +kernel)
theorem dn_7 : dnOf dn y7 = some (1, 17) := by decide +kernel
theorem rc_7 : rCode tables_1 y7 = some (prog_1_method_4_code, 4, some .int) := rCode_of (i := 115) rfl (by decide +kernel)
theorem dn_8 : dnOf dn y8 = some (0, 0) := by decide +kernel
theorem rc_8 : rCode tables_1 y8 = some (prog_1_method_5_code, 6, some .boolean) := rCode_of (i := 119) rfl (by decide +kernel)
theorem dn_9 : dnOf dn y9 = some (3, 55) := by decide +kernel
theorem rc_9 : rCode tables_1 y9 = some (prog_1_method_6_code, 4, some .int) := rCode_of (i := 124) rfl (by decide +kernel)
theorem dn_10 : dnOf dn y10 = some (1, 18) := by decide +kernel
theorem rc_10 : rCode tables_1 y10 = some (prog_1_method_10_code, 4, some .int) := rCode_of (i := 128) rfl (by decide +kernel)
theorem dn_11 : dnOf dn y11 = some (0, 0) := by decide +kernel
theorem rc_11 : rCode tables_1 y11 = some (prog_1_method_9_code, 7, some .int) := rCode_of (i := 132) rfl (by decide +kernel)
theorem dn_12 : dnOf dn y12 = some (0, 0) := by decide +kernel
theorem rc_12 : rCode tables_1 y12 = some (prog_1_method_7_code, 3, none) := rCode_of (i := 136) rfl (by decide +kernel)
theorem dn_13 : dnOf dn y13 = some (2, 39) := by decide +kernel
theorem rc_13 : rCode tables_1 y13 = some (prog_1_method_11_code, 5, some .int) := rCode_of (i := 140) rfl (by decide +kernel)
theorem dn_14 : dnOf dn y14 = some (0, 0) := by decide +kernel
theorem rc_14 : rCode tables_1 y14 = some (prog_1_method_12_code, 5, none) := rCode_of (i := 144) rfl (by decide +kernel)
theorem dn_15 : dnOf dn y15 = some (0, 0) := by decide +kernel
theorem rc_15 : rCode tables_1 y15 = some (prog_1_method_13_code, 8, some .int) := rCode_of (i := 148) rfl (by decide +kernel)
theorem dn_16 : dnOf dn y16 = some (1, 20) := by decide +kernel
theorem rc_16 : rCode tables_1 y16 = some (prog_1_method_14_code, 8, some .int) := rCode_of (i := 152) rfl (by decide +kernel)
theorem dn_17 : dnOf dn y17 = some (0, 0) := by decide +kernel
theorem rc_17 : rCode tables_1 y17 = some (prog_1_method_15_code, 8, some .int) := rCode_of (i := 156) rfl (by decide +kernel)
theorem dn_18 : dnOf dn y18 = some (0, 0) := by decide +kernel
theorem rc_18 : rCode tables_1 y18 = some (prog_1_method_8_code, 3, none) := rCode_of (i := 160) rfl (by decide +kernel)
theorem dn_19 : dnOf dn y19 = some (1, 13) := by decide +kernel
theorem rc_19 : rCode tables_1 y19 = some (prog_1_method_34_code, 2, some .int) := rCode_of (i := 170) rfl (by decide +kernel)
theorem dn_20 : dnOf dn y20 = some (0, 0) := by decide +kernel
theorem rc_20 : rCode tables_1 y20 = some (prog_1_method_16_code, 2, some .boolean) := rCode_of (i := 174) rfl (by decide +kernel)
theorem dn_21 : dnOf dn y21 = some (1, 13) := by decide +kernel
theorem rc_21 : rCode tables_1 y21 = some (prog_1_method_18_code, 2, some .int) := rCode_of (i := 179) rfl (by decide +kernel)
theorem dn_22 : dnOf dn y22 = some (0, 0) := by decide +kernel
theorem rc_22 : rCode tables_1 y22 = some (prog_1_method_33_code, 1, some .int) := rCode_of (i := 184) rfl (by decide +kernel)
theorem dn_23 : dnOf dn y23 = some (3, 45) := by decide +kernel
theorem rc_23 : rCode tables_1 y23 = some (prog_1_method_24_code, 4, some .int) := rCode_of (i := 189) rfl (by decide +kernel)
theorem dn_24 : dnOf dn y24 = some (2, 32) := by decide +kernel
theorem rc_24 : rCode tables_1 y24 = some (prog_1_method_25_code, 2, none) := rCode_of (i := 193) rfl (by decide +kernel)
theorem dn_25 : dnOf dn y25 = some (0, 0) := by decide +kernel
theorem rc_25 : rCode tables_1 y25 = some (prog_1_method_26_code, 3, none) := rCode_of (i := 197) rfl (by decide +kernel)
theorem dn_26 : dnOf dn y26 = some (1, 14) := by decide +kernel
theorem rc_26 : rCode tables_1 y26 = some (prog_1_method_28_code, 7, some .int) := rCode_of (i := 201) rfl (by decide +kernel)
theorem dn_27 : dnOf dn y27 = some (0, 0) := by decide +kernel
theorem rc_27 : rCode tables_1 y27 = some (prog_1_method_27_code, 3, some .int) := rCode_of (i := 205) rfl (by decide +kernel)
theorem dn_28 : dnOf dn y28 = some (1, 14) := by decide +kernel
theorem rc_28 : rCode tables_1 y28 = some (prog_1_method_30_code, 3, none) := rCode_of (i := 209) rfl (by decide +kernel)
theorem dn_29 : dnOf dn y29 = some (0, 0) := by decide +kernel
theorem rc_29 : rCode tables_1 y29 = some (prog_1_method_29_code, 3, none) := rCode_of (i := 213) rfl (by decide +kernel)
theorem dn_30 : dnOf dn y30 = some (0, 0) := by decide +kernel
theorem rc_30 : rCode tables_1 y30 = some (prog_1_method_32_code, 2, none) := rCode_of (i := 217) rfl (by decide +kernel)
theorem dn_31 : dnOf dn y31 = some (0, 0) := by decide +kernel
theorem rc_31 : rCode tables_1 y31 = some (prog_1_method_31_code, 3, none) := rCode_of (i := 221) rfl (by decide +kernel)
theorem dn_32 : dnOf dn y32 = some (1, 13) := by decide +kernel
theorem rc_32 : rCode tables_1 y32 = some (prog_1_method_35_code, 2, some .int) := rCode_of (i := 229) rfl (by decide +kernel)
theorem dn_33 : dnOf dn y33 = some (0, 0) := by decide +kernel
theorem rc_33 : rCode tables_1 y33 = some (method_2_code, 2, some .int) := rCode_of (i := 6) rfl (by decide +kernel)
theorem dn_34 : dnOf dn y34 = some (0, 0) := by decide +kernel
theorem rc_34 : rCode tables_1 y34 = some (method_3_code, 3, some .int) := rCode_of (i := 9) rfl (by decide +kernel)
theorem dn_35 : dnOf dn y35 = some (0, 0) := by decide +kernel
theorem rc_35 : rCode tables_1 y35 = some (method_4_code, 1, some .int) := rCode_of (i := 93) rfl (by decide +kernel)
theorem dn_36 : dnOf dn y36 = some (0, 0) := by decide +kernel
theorem rc_36 : rCode tables_1 y36 = some (method_5_code, 6, some .long) := rCode_of (i := 163) rfl (by decide +kernel)
theorem dn_37 : dnOf dn y37 = some (0, 0) := by decide +kernel
theorem rc_37 : rCode tables_1 y37 = some (method_6_code, 3, some .int) := rCode_of (i := 224) rfl (by decide +kernel)
theorem dn_38 : dnOf dn y38 = some (4, 70) := by decide +kernel
theorem gf_7 : gfR tables_1 "ResponseTimeGate" 7 = some ("ResponseTimeGate", 0) := by decide +kernel
theorem gf_13 : gfR tables_1 "ResponseTimeGate" 13 = some ("ResponseTimeGate", 1) := by decide +kernel
theorem gf_16 : gfR tables_1 "ResponseTimeGate" 16 = some ("ResponseTimeGate", 2) := by decide +kernel
theorem gf_19 : gfR tables_1 "ResponseTimeGate" 19 = some ("ResponseTimeGate", 3) := by decide +kernel
theorem gf_22 : gfR tables_1 "ResponseTimeGate" 22 = some ("ResponseTimeGate", 4) := by decide +kernel
theorem gf_25 : gfR tables_1 "ResponseTimeGate" 25 = some ("ResponseTimeGate", 5) := by decide +kernel
theorem gf_28 : gfR tables_1 "ResponseTimeGate" 28 = some ("ResponseTimeGate", 6) := by decide +kernel
theorem gf_31 : gfR tables_1 "ResponseTimeGate" 31 = some ("ResponseTimeGate", 7) := by decide +kernel
theorem gf_34 : gfR tables_1 "ResponseTimeGate" 34 = some ("ResponseTimeGate", 8) := by decide +kernel
theorem gf_37 : gfR tables_1 "ResponseTimeGate" 37 = some ("ResponseTimeGate", 9) := by decide +kernel
theorem gf_40 : gfR tables_1 "ResponseTimeGate" 40 = some ("ResponseTimeGate", 10) := by decide +kernel
theorem gf_43 : gfR tables_1 "ResponseTimeGate" 43 = some ("ResponseTimeGate", 11) := by decide +kernel
theorem gf_46 : gfR tables_1 "ResponseTimeGate" 46 = some ("ResponseTimeGate", 12) := by decide +kernel
theorem gf_49 : gfR tables_1 "ResponseTimeGate" 49 = some ("ResponseTimeGate", 13) := by decide +kernel
theorem gf_52 : gfR tables_1 "ResponseTimeGate" 52 = some ("ResponseTimeGate", 14) := by decide +kernel
theorem gf_56 : gfR tables_1 "ResponseTimeGate" 56 = some ("ResponseTimeGate", 15) := by decide +kernel
theorem gf_59 : gfR tables_1 "ResponseTimeGate" 59 = some ("ResponseTimeGate", 16) := by decide +kernel
theorem gf_62 : gfR tables_1 "ResponseTimeGate" 62 = some ("ResponseTimeGate", 17) := by decide +kernel
theorem gf_65 : gfR tables_1 "ResponseTimeGate" 65 = some ("ResponseTimeGate", 18) := by decide +kernel
theorem gf_68 : gfR tables_1 "ResponseTimeGate" 68 = some ("ResponseTimeGate", 19) := by decide +kernel
theorem gf_71 : gfR tables_1 "ResponseTimeGate" 71 = some ("ResponseTimeGate", 20) := by decide +kernel
theorem gf_75 : gfR tables_1 "ResponseTimeGate" 75 = some ("ResponseTimeGate", 21) := by decide +kernel
theorem gf_78 : gfR tables_1 "ResponseTimeGate" 78 = some ("ResponseTimeGate", 22) := by decide +kernel
theorem gf_82 : gfR tables_1 "ResponseTimeGate" 82 = some ("ResponseTimeGate", 23) := by decide +kernel
theorem gf_85 : gfR tables_1 "ResponseTimeGate" 85 = some ("ResponseTimeGate", 24) := by decide +kernel
theorem gf_95 : gfR tables_1 "ResponseTimeGate" 95 = some ("ResponseTimeGate", 27) := by decide +kernel
theorem gf_98 : gfR tables_1 "ResponseTimeGate" 98 = some ("ResponseTimeGate", 28) := by decide +kernel
theorem gf_101 : gfR tables_1 "ResponseTimeGate" 101 = some ("ResponseTimeGate", 29) := by decide +kernel
theorem gf_104 : gfR tables_1 "ResponseTimeGate" 104 = some ("ResponseTimeGate", 30) := by decide +kernel
theorem gf_145 : gfR tables_1 "ResponseTimeGate" 145 = some ("ResponseTimeGate", 25) := by decide +kernel
theorem gf_148 : gfR tables_1 "ResponseTimeGate" 148 = some ("ResponseTimeGate", 26) := by decide +kernel
section Rules
variable {b r q : Nat} {pre : AHeap} {s : Nat → Int32} {A : Nat → List Int32} {post : AHeap} {ls : List Slot} {st : List Value} {H R : AHeap} {Q : Option Value → AHeap → Prop} {x y v z j : Int32} {J1 J2 : Int64} {sc : List Int32} {l0 l1 l2 l3 l4 l5 l6 l7 l8 l9 l10 l11 l12 l13 l14 l15 l16 l17 l18 l19 l20 l21 l22 : Slot}
theorem m0_0 : M0 0 [.val (.ref r), l1, l2, l3] st H Q = M0 1 [.val (.ref r), l1, l2, l3] (.ref r :: st) H Q := w_x (show decode kb0 0 = .ok (.aload_n 0, 1) from by decide +kernel) rfl
theorem m0_1 : M0 1 ls [.ref r] H Q = M0 4 ls [] H Q := w_obj (show decode kb0 1 = .ok (.invokespecial 1, 3) from by decide +kernel) (sl := 1) (by decide +kernel) (by decide)
theorem m0_4 : M0 4 [.val (.ref r), l1, l2, l3] st H Q = M0 5 [.val (.ref r), l1, l2, l3] (.ref r :: st) H Q := w_x (show decode kb0 4 = .ok (.aload_n 0, 1) from by decide +kernel) rfl
theorem m0_5 : M0 5 ls st H Q = M0 7 ls (.int 9 :: st) H Q := w_con (show decode kb0 5 = .ok (.bipush 9, 2) from by decide +kernel) rfl (by decide)
theorem m0_12 : M0 12 [.val (.ref r), l1, l2, l3] st H Q = M0 13 [.val (.ref r), l1, l2, l3] (.ref r :: st) H Q := w_x (show decode kb0 12 = .ok (.aload_n 0, 1) from by decide +kernel) rfl
theorem m0_13 : M0 13 ls st H Q = M0 15 ls (.int 9 :: st) H Q := w_con (show decode kb0 13 = .ok (.bipush 9, 2) from by decide +kernel) rfl (by decide)
theorem m0_20 : M0 20 [.val (.ref r), l1, l2, l3] st H Q = M0 21 [.val (.ref r), l1, l2, l3] (.ref r :: st) H Q := w_x (show decode kb0 20 = .ok (.aload_n 0, 1) from by decide +kernel) rfl
theorem m0_21 : M0 21 ls st H Q = M0 23 ls (.int 9 :: st) H Q := w_con (show decode kb0 21 = .ok (.bipush 9, 2) from by decide +kernel) rfl (by decide)
theorem m0_28 : M0 28 [.val (.ref r), l1, l2, l3] st H Q = M0 29 [.val (.ref r), l1, l2, l3] (.ref r :: st) H Q := w_x (show decode kb0 28 = .ok (.aload_n 0, 1) from by decide +kernel) rfl
theorem m0_29 : M0 29 ls st H Q = M0 31 ls (.int 9 :: st) H Q := w_con (show decode kb0 29 = .ok (.bipush 9, 2) from by decide +kernel) rfl (by decide)
theorem m0_36 : M0 36 [.val (.ref r), l1, l2, l3] st H Q = M0 37 [.val (.ref r), l1, l2, l3] (.ref r :: st) H Q := w_x (show decode kb0 36 = .ok (.aload_n 0, 1) from by decide +kernel) rfl
theorem m0_37 : M0 37 ls st H Q = M0 39 ls (.int 36 :: st) H Q := w_con (show decode kb0 37 = .ok (.bipush 36, 2) from by decide +kernel) rfl (by decide)
theorem m0_44 : M0 44 [.val (.ref r), l1, l2, l3] st H Q = M0 45 [.val (.ref r), l1, l2, l3] (.ref r :: st) H Q := w_x (show decode kb0 44 = .ok (.aload_n 0, 1) from by decide +kernel) rfl
theorem m0_45 : M0 45 ls st H Q = M0 47 ls (.int 36 :: st) H Q := w_con (show decode kb0 45 = .ok (.bipush 36, 2) from by decide +kernel) rfl (by decide)
theorem m0_52 : M0 52 [.val (.ref r), l1, l2, l3] st H Q = M0 53 [.val (.ref r), l1, l2, l3] (.ref r :: st) H Q := w_x (show decode kb0 52 = .ok (.aload_n 0, 1) from by decide +kernel) rfl
theorem m0_53 : M0 53 ls st H Q = M0 55 ls (.int 9 :: st) H Q := w_con (show decode kb0 53 = .ok (.bipush 9, 2) from by decide +kernel) rfl (by decide)
theorem m0_60 : M0 60 [.val (.ref r), l1, l2, l3] st H Q = M0 61 [.val (.ref r), l1, l2, l3] (.ref r :: st) H Q := w_x (show decode kb0 60 = .ok (.aload_n 0, 1) from by decide +kernel) rfl
theorem m0_61 : M0 61 ls st H Q = M0 63 ls (.int 9 :: st) H Q := w_con (show decode kb0 61 = .ok (.bipush 9, 2) from by decide +kernel) rfl (by decide)
theorem m0_68 : M0 68 [.val (.ref r), l1, l2, l3] st H Q = M0 69 [.val (.ref r), l1, l2, l3] (.ref r :: st) H Q := w_x (show decode kb0 68 = .ok (.aload_n 0, 1) from by decide +kernel) rfl
theorem m0_69 : M0 69 ls st H Q = M0 70 ls (.int 4 :: st) H Q := w_con (show decode kb0 69 = .ok (.iconst 4, 1) from by decide +kernel) rfl (by decide)
theorem m0_75 : M0 75 [.val (.ref r), l1, l2, l3] st H Q = M0 76 [.val (.ref r), l1, l2, l3] (.ref r :: st) H Q := w_x (show decode kb0 75 = .ok (.aload_n 0, 1) from by decide +kernel) rfl
theorem m0_76 : M0 76 ls st H Q = M0 77 ls (.int 4 :: st) H Q := w_con (show decode kb0 76 = .ok (.iconst 4, 1) from by decide +kernel) rfl (by decide)
theorem m0_82 : M0 82 [.val (.ref r), l1, l2, l3] st H Q = M0 83 [.val (.ref r), l1, l2, l3] (.ref r :: st) H Q := w_x (show decode kb0 82 = .ok (.aload_n 0, 1) from by decide +kernel) rfl
theorem m0_83 : M0 83 ls st H Q = M0 84 ls (.int 4 :: st) H Q := w_con (show decode kb0 83 = .ok (.iconst 4, 1) from by decide +kernel) rfl (by decide)
theorem m0_89 : M0 89 [.val (.ref r), l1, l2, l3] st H Q = M0 90 [.val (.ref r), l1, l2, l3] (.ref r :: st) H Q := w_x (show decode kb0 89 = .ok (.aload_n 0, 1) from by decide +kernel) rfl
theorem m0_90 : M0 90 ls st H Q = M0 91 ls (.int 4 :: st) H Q := w_con (show decode kb0 90 = .ok (.iconst 4, 1) from by decide +kernel) rfl (by decide)
theorem m0_96 : M0 96 [.val (.ref r), l1, l2, l3] st H Q = M0 97 [.val (.ref r), l1, l2, l3] (.ref r :: st) H Q := w_x (show decode kb0 96 = .ok (.aload_n 0, 1) from by decide +kernel) rfl
theorem m0_97 : M0 97 ls st H Q = M0 99 ls (.int 9 :: st) H Q := w_con (show decode kb0 97 = .ok (.bipush 9, 2) from by decide +kernel) rfl (by decide)
theorem m0_104 : M0 104 [.val (.ref r), l1, l2, l3] st H Q = M0 105 [.val (.ref r), l1, l2, l3] (.ref r :: st) H Q := w_x (show decode kb0 104 = .ok (.aload_n 0, 1) from by decide +kernel) rfl
theorem m0_105 : M0 105 ls st H Q = M0 107 ls (.int 9 :: st) H Q := w_con (show decode kb0 105 = .ok (.bipush 9, 2) from by decide +kernel) rfl (by decide)
theorem m0_112 : M0 112 [.val (.ref r), l1, l2, l3] st H Q = M0 113 [.val (.ref r), l1, l2, l3] (.ref r :: st) H Q := w_x (show decode kb0 112 = .ok (.aload_n 0, 1) from by decide +kernel) rfl
theorem m0_113 : M0 113 ls st H Q = M0 115 ls (.int 9 :: st) H Q := w_con (show decode kb0 113 = .ok (.bipush 9, 2) from by decide +kernel) rfl (by decide)
theorem m0_120 : M0 120 [.val (.ref r), l1, l2, l3] st H Q = M0 121 [.val (.ref r), l1, l2, l3] (.ref r :: st) H Q := w_x (show decode kb0 120 = .ok (.aload_n 0, 1) from by decide +kernel) rfl
theorem m0_121 : M0 121 ls st H Q = M0 123 ls (.int 9 :: st) H Q := w_con (show decode kb0 121 = .ok (.bipush 9, 2) from by decide +kernel) rfl (by decide)
theorem m0_128 : M0 128 [.val (.ref r), l1, l2, l3] st H Q = M0 129 [.val (.ref r), l1, l2, l3] (.ref r :: st) H Q := w_x (show decode kb0 128 = .ok (.aload_n 0, 1) from by decide +kernel) rfl
theorem m0_129 : M0 129 ls st H Q = M0 131 ls (.int 9 :: st) H Q := w_con (show decode kb0 129 = .ok (.bipush 9, 2) from by decide +kernel) rfl (by decide)
theorem m0_136 : M0 136 [.val (.ref r), l1, l2, l3] st H Q = M0 137 [.val (.ref r), l1, l2, l3] (.ref r :: st) H Q := w_x (show decode kb0 136 = .ok (.aload_n 0, 1) from by decide +kernel) rfl
theorem m0_137 : M0 137 ls st H Q = M0 139 ls (.int 9 :: st) H Q := w_con (show decode kb0 137 = .ok (.bipush 9, 2) from by decide +kernel) rfl (by decide)
theorem m0_144 : M0 144 [.val (.ref r), l1, l2, l3] st H Q = M0 145 [.val (.ref r), l1, l2, l3] (.ref r :: st) H Q := w_x (show decode kb0 144 = .ok (.aload_n 0, 1) from by decide +kernel) rfl
theorem m0_145 : M0 145 ls st H Q = M0 147 ls (.int 9 :: st) H Q := w_con (show decode kb0 145 = .ok (.bipush 9, 2) from by decide +kernel) rfl (by decide)
theorem m0_152 : M0 152 [.val (.ref r), l1, l2, l3] st H Q = M0 153 [.val (.ref r), l1, l2, l3] (.ref r :: st) H Q := w_x (show decode kb0 152 = .ok (.aload_n 0, 1) from by decide +kernel) rfl
theorem m0_153 : M0 153 ls st H Q = M0 155 ls (.int 9 :: st) H Q := w_con (show decode kb0 153 = .ok (.bipush 9, 2) from by decide +kernel) rfl (by decide)
theorem m0_160 : M0 160 [l0, .val (.int v), l2, l3] st H Q = M0 161 [l0, .val (.int v), l2, l3] (.int v :: st) H Q := w_x (show decode kb0 160 = .ok (.iload_n 1, 1) from by decide +kernel) rfl
theorem m0_161u : M0 161 [l0, l1, .unset, l3] ((.int v) :: st) H Q = M0 162 [l0, l1, .val (.int v), l3] st H Q := w_st (i := 2) (p := isI) (show decode kb0 161 = .ok (.istore_n 2, 1) from by decide +kernel) rfl rfl rfl rfl rfl rfl
theorem m0_162 : M0 162 [l0, l1, .val (.int v), l3] st H Q = M0 163 [l0, l1, .val (.int v), l3] (.int v :: st) H Q := w_x (show decode kb0 162 = .ok (.iload_n 2, 1) from by decide +kernel) rfl
theorem m0_163 : M0 163 ls st H Q = M0 164 ls (.int 1 :: st) H Q := w_con (show decode kb0 163 = .ok (.iconst 1, 1) from by decide +kernel) rfl (by decide)
theorem m0_164 : M0 164 ls (.int y :: .int x :: st) H Q = if x < y then M0 167 ls st H Q else M0 169 ls st H Q := w_icmpN (show decode kb0 164 = .ok (.if_icmp .ge 5, 3) from by decide +kernel) (i_ge x y) rfl
theorem m0_167 : M0 167 ls st H Q = M0 168 ls (.int 1 :: st) H Q := w_con (show decode kb0 167 = .ok (.iconst 1, 1) from by decide +kernel) rfl (by decide)
theorem m0_168i : M0 168 [l0, l1, .val (.int z), l3] ((.int v) :: st) H Q = M0 169 [l0, l1, .val (.int v), l3] st H Q := w_st (i := 2) (p := isI) (show decode kb0 168 = .ok (.istore_n 2, 1) from by decide +kernel) rfl rfl rfl rfl rfl rfl
theorem m0_169 : M0 169 [l0, l1, .val (.int v), l3] st H Q = M0 170 [l0, l1, .val (.int v), l3] (.int v :: st) H Q := w_x (show decode kb0 169 = .ok (.iload_n 2, 1) from by decide +kernel) rfl
theorem m0_170 : M0 170 ls st H Q = M0 172 ls (.int 8 :: st) H Q := w_con (show decode kb0 170 = .ok (.bipush 8, 2) from by decide +kernel) rfl (by decide)
theorem m0_172 : M0 172 ls (.int y :: .int x :: st) H Q = if y < x then M0 175 ls st H Q else M0 178 ls st H Q := w_icmpN (show decode kb0 172 = .ok (.if_icmp .le 6, 3) from by decide +kernel) (i_le x y) rfl
theorem m0_175 : M0 175 ls st H Q = M0 177 ls (.int 8 :: st) H Q := w_con (show decode kb0 175 = .ok (.bipush 8, 2) from by decide +kernel) rfl (by decide)
theorem m0_177i : M0 177 [l0, l1, .val (.int z), l3] ((.int v) :: st) H Q = M0 178 [l0, l1, .val (.int v), l3] st H Q := w_st (i := 2) (p := isI) (show decode kb0 177 = .ok (.istore_n 2, 1) from by decide +kernel) rfl rfl rfl rfl rfl rfl
theorem m0_178 : M0 178 [.val (.ref r), l1, l2, l3] st H Q = M0 179 [.val (.ref r), l1, l2, l3] (.ref r :: st) H Q := w_x (show decode kb0 178 = .ok (.aload_n 0, 1) from by decide +kernel) rfl
theorem m0_179 : M0 179 [l0, l1, .val (.int v), l3] st H Q = M0 180 [l0, l1, .val (.int v), l3] (.int v :: st) H Q := w_x (show decode kb0 179 = .ok (.iload_n 2, 1) from by decide +kernel) rfl
theorem pf0_71 : pfR tables_1 y0.cls y0.name 71 = some ("ResponseTimeGate", 20, .int) := by decide +kernel
theorem m0_180 : M0 180 ls (.int v :: .ref (b + 1) :: st) (put (b + 1) pre s A post) Q = M0 183 ls st (put (b + 1) pre (ou s 0 v) A post) Q := w_put (show decode kb0 180 = .ok (.putfield 71, 3) from by decide +kernel) pf0_71 put_o (Nat.succ_le_succ (Nat.zero_le _)) (by show 20 < 31; omega) rfl put_s0
theorem m0_183 : M0 183 [.val (.ref r), l1, l2, l3] st H Q = M0 184 [.val (.ref r), l1, l2, l3] (.ref r :: st) H Q := w_x (show decode kb0 183 = .ok (.aload_n 0, 1) from by decide +kernel) rfl
theorem m0_184 : M0 184 ls st H Q = M0 185 ls (.int 0 :: st) H Q := w_con (show decode kb0 184 = .ok (.iconst 0, 1) from by decide +kernel) rfl (by decide)
theorem pf0_75 : pfR tables_1 y0.cls y0.name 75 = some ("ResponseTimeGate", 21, .int) := by decide +kernel
theorem m0_185 : M0 185 ls (.int v :: .ref (b + 1) :: st) (put (b + 1) pre s A post) Q = M0 188 ls st (put (b + 1) pre (ou s 1 v) A post) Q := w_put (show decode kb0 185 = .ok (.putfield 75, 3) from by decide +kernel) pf0_75 put_o (Nat.succ_le_succ (Nat.zero_le _)) (by show 21 < 31; omega) rfl put_s1
theorem m0_188 : M0 188 [.val (.ref r), l1, l2, l3] st H Q = M0 189 [.val (.ref r), l1, l2, l3] (.ref r :: st) H Q := w_x (show decode kb0 188 = .ok (.aload_n 0, 1) from by decide +kernel) rfl
theorem m0_189 : M0 189 ls st H Q = M0 190 ls (.int 0 :: st) H Q := w_con (show decode kb0 189 = .ok (.iconst 0, 1) from by decide +kernel) rfl (by decide)
theorem pf0_78 : pfR tables_1 y0.cls y0.name 78 = some ("ResponseTimeGate", 22, .boolean) := by decide +kernel
theorem m0_190 : M0 190 ls (.int v :: .ref (b + 1) :: st) (put (b + 1) pre s A post) Q = M0 193 ls st (put (b + 1) pre (ou s 4 (nar .boolean v)) A post) Q := w_put (show decode kb0 190 = .ok (.putfield 78, 3) from by decide +kernel) pf0_78 put_o (Nat.succ_le_succ (Nat.zero_le _)) (by show 22 < 31; omega) rfl put_s4
theorem m0_193 : M0 193 [.val (.ref r), l1, l2, l3] st H Q = M0 194 [.val (.ref r), l1, l2, l3] (.ref r :: st) H Q := w_x (show decode kb0 193 = .ok (.aload_n 0, 1) from by decide +kernel) rfl
theorem m0_194 : M0 194 ls st H Q = M0 195 ls (.int (-1) :: st) H Q := w_con (show decode kb0 194 = .ok (.iconst (-1), 1) from by decide +kernel) rfl (by decide)
theorem pf0_82 : pfR tables_1 y0.cls y0.name 82 = some ("ResponseTimeGate", 23, .int) := by decide +kernel
theorem m0_195 : M0 195 ls (.int v :: .ref (b + 1) :: st) (put (b + 1) pre s A post) Q = M0 198 ls st (put (b + 1) pre (ou s 3 v) A post) Q := w_put (show decode kb0 195 = .ok (.putfield 82, 3) from by decide +kernel) pf0_82 put_o (Nat.succ_le_succ (Nat.zero_le _)) (by show 23 < 31; omega) rfl put_s3
theorem m0_198 : M0 198 [.val (.ref r), l1, l2, l3] st H Q = M0 199 [.val (.ref r), l1, l2, l3] (.ref r :: st) H Q := w_x (show decode kb0 198 = .ok (.aload_n 0, 1) from by decide +kernel) rfl
theorem m0_199 : M0 199 ls st H Q = M0 200 ls (.int 1 :: st) H Q := w_con (show decode kb0 199 = .ok (.iconst 1, 1) from by decide +kernel) rfl (by decide)
theorem pf0_85 : pfR tables_1 y0.cls y0.name 85 = some ("ResponseTimeGate", 24, .int) := by decide +kernel
theorem m0_200 : M0 200 ls (.int v :: .ref (b + 1) :: st) (put (b + 1) pre s A post) Q = M0 203 ls st (put (b + 1) pre (ou s 2 v) A post) Q := w_put (show decode kb0 200 = .ok (.putfield 85, 3) from by decide +kernel) pf0_85 put_o (Nat.succ_le_succ (Nat.zero_le _)) (by show 24 < 31; omega) rfl put_s2
theorem m0_203 : M0 203 ls st H Q = M0 204 ls (.int 0 :: st) H Q := w_con (show decode kb0 203 = .ok (.iconst 0, 1) from by decide +kernel) rfl (by decide)
theorem m0_204u : M0 204 [l0, l1, l2, .unset] ((.int v) :: st) H Q = M0 205 [l0, l1, l2, .val (.int v)] st H Q := w_st (i := 3) (p := isI) (show decode kb0 204 = .ok (.istore_n 3, 1) from by decide +kernel) rfl rfl rfl rfl rfl rfl
theorem m0_205 : M0 205 [l0, l1, l2, .val (.int v)] st H Q = M0 206 [l0, l1, l2, .val (.int v)] (.int v :: st) H Q := w_x (show decode kb0 205 = .ok (.iload_n 3, 1) from by decide +kernel) rfl
theorem m0_206 : M0 206 ls st H Q = M0 207 ls (.int 4 :: st) H Q := w_con (show decode kb0 206 = .ok (.iconst 4, 1) from by decide +kernel) rfl (by decide)
theorem m0_207 : M0 207 ls (.int y :: .int x :: st) H Q = if x < y then M0 210 ls st H Q else M0 223 ls st H Q := w_icmpN (show decode kb0 207 = .ok (.if_icmp .ge 16, 3) from by decide +kernel) (i_ge x y) rfl
theorem m0_210 : M0 210 [.val (.ref r), l1, l2, l3] st H Q = M0 211 [.val (.ref r), l1, l2, l3] (.ref r :: st) H Q := w_x (show decode kb0 210 = .ok (.aload_n 0, 1) from by decide +kernel) rfl
theorem m0_211 : M0 211 ls (.ref (b + 1) :: st) (put (b + 1) pre s A post) Q = M0 214 ls (.ref ((b + 1) + 9) :: st) (put (b + 1) pre s A post) Q := w_get (show decode kb0 211 = .ok (.getfield 34, 3) from by decide +kernel) gf_34 put_o rfl
theorem m0_214 : M0 214 [l0, l1, l2, .val (.int v)] st H Q = M0 215 [l0, l1, l2, .val (.int v)] (.int v :: st) H Q := w_x (show decode kb0 214 = .ok (.iload_n 3, 1) from by decide +kernel) rfl
theorem m0_215 : M0 215 ls st H Q = M0 216 ls (.int 0 :: st) H Q := w_con (show decode kb0 215 = .ok (.iconst 0, 1) from by decide +kernel) rfl (by decide)
theorem m0_216  : M0 216 ls (.int v :: .int j :: .ref ((b + 1) + 9) :: st) (put (b + 1) pre s A post) Q = (inB j (A 8) ∧ M0 217 ls st (put (b + 1) pre s (ou A 8 (setA (A 8) j v)) post) Q) := w_ist (show decode kb0 216 = .ok (.iastore, 1) from by decide +kernel) rfl put_a8 (by omega) rfl put_w8
theorem m0_217 : M0 217 [l0, l1, l2, .val (.int v)] st H Q = M0 220 [l0, l1, l2, .val (.int (v + 1))] st H Q := w_iinc (show decode kb0 217 = .ok (.iinc 3 1, 3) from by decide +kernel) rfl (by decide) rfl
theorem m0_220 : M0 220 ls st H Q = M0 205 ls st H Q := w_x (show decode kb0 220 = .ok (.goto (-15), 3) from by decide +kernel) rfl
theorem m0_223 : M0 223 [.val (.ref r), l1, l2, l3] st H Q = M0 224 [.val (.ref r), l1, l2, l3] (.ref r :: st) H Q := w_x (show decode kb0 223 = .ok (.aload_n 0, 1) from by decide +kernel) rfl
theorem cr0_88 : vR tables_1 dn y0 88 = some (true, y1, prog_1_method_23_code, 2, none, 0, 0) := pR_of (cR_of (by decide +kernel) rc_1 dn_1 dn_0 (sig := ⟨[], none⟩) (by decide +kernel) (by decide +kernel) rfl rfl) (by decide +kernel) (by decide +kernel)
theorem m0_224 : M0 224 ls [.ref (b + 1)] (put (b + 1) pre s A post) Q = M1 0 [.val (.ref (b + 1)), .unset] [] (put (b + 1) pre s A post) (fun v H1 => M0 227 ls (v.toList ++ []) H1 Q) := w_virt (as := []) (rest := []) (a := (b + 1)) (show decode kb0 224 = .ok (.invokevirtual 88, 3) from by decide +kernel) cr0_88 put_o rfl rfl (Nat.le_of_ble_eq_true rfl) (by show 1 ≤ 2; omega) rfl
theorem m0_227 : M0 227 ls [] H Q = Q none H := w_vret (show decode kb0 227 = .ok (.return_, 1) from by decide +kernel) rfl
theorem m1_0 : M1 0 [.val (.ref r), l1] st H Q = M1 1 [.val (.ref r), l1] (.ref r :: st) H Q := w_x (show decode kb1 0 = .ok (.aload_n 0, 1) from by decide +kernel) rfl
theorem m1_1 : M1 1 ls st H Q = M1 2 ls (.int 0 :: st) H Q := w_con (show decode kb1 1 = .ok (.iconst 0, 1) from by decide +kernel) rfl (by decide)
theorem pf1_145 : pfR tables_1 y1.cls y1.name 145 = some ("ResponseTimeGate", 25, .int) := by decide +kernel
theorem m1_2 : M1 2 ls (.int v :: .ref (b + 1) :: st) (put (b + 1) pre s A post) Q = M1 5 ls st (put (b + 1) pre (ou s 9 v) A post) Q := w_put (show decode kb1 2 = .ok (.putfield 145, 3) from by decide +kernel) pf1_145 put_o (Nat.succ_le_succ (Nat.zero_le _)) (by show 25 < 31; omega) rfl put_s9
theorem m1_5 : M1 5 [.val (.ref r), l1] st H Q = M1 6 [.val (.ref r), l1] (.ref r :: st) H Q := w_x (show decode kb1 5 = .ok (.aload_n 0, 1) from by decide +kernel) rfl
theorem m1_6 : M1 6 ls st H Q = M1 7 ls (.int 0 :: st) H Q := w_con (show decode kb1 6 = .ok (.iconst 0, 1) from by decide +kernel) rfl (by decide)
theorem pf1_148 : pfR tables_1 y1.cls y1.name 148 = some ("ResponseTimeGate", 26, .int) := by decide +kernel
theorem m1_7 : M1 7 ls (.int v :: .ref (b + 1) :: st) (put (b + 1) pre s A post) Q = M1 10 ls st (put (b + 1) pre (ou s 10 v) A post) Q := w_put (show decode kb1 7 = .ok (.putfield 148, 3) from by decide +kernel) pf1_148 put_o (Nat.succ_le_succ (Nat.zero_le _)) (by show 26 < 31; omega) rfl put_s10
theorem m1_10 : M1 10 ls st H Q = M1 11 ls (.int 0 :: st) H Q := w_con (show decode kb1 10 = .ok (.iconst 0, 1) from by decide +kernel) rfl (by decide)
theorem m1_11u : M1 11 [l0, .unset] ((.int v) :: st) H Q = M1 12 [l0, .val (.int v)] st H Q := w_st (i := 1) (p := isI) (show decode kb1 11 = .ok (.istore_n 1, 1) from by decide +kernel) rfl rfl rfl rfl rfl rfl
theorem m1_12 : M1 12 [l0, .val (.int v)] st H Q = M1 13 [l0, .val (.int v)] (.int v :: st) H Q := w_x (show decode kb1 12 = .ok (.iload_n 1, 1) from by decide +kernel) rfl
theorem m1_13 : M1 13 ls st H Q = M1 15 ls (.int 9 :: st) H Q := w_con (show decode kb1 13 = .ok (.bipush 9, 2) from by decide +kernel) rfl (by decide)
theorem m1_15 : M1 15 ls (.int y :: .int x :: st) H Q = if x < y then M1 18 ls st H Q else M1 66 ls st H Q := w_icmpN (show decode kb1 15 = .ok (.if_icmp .ge 51, 3) from by decide +kernel) (i_ge x y) rfl
theorem m1_18 : M1 18 [.val (.ref r), l1] st H Q = M1 19 [.val (.ref r), l1] (.ref r :: st) H Q := w_x (show decode kb1 18 = .ok (.aload_n 0, 1) from by decide +kernel) rfl
theorem m1_19 : M1 19 ls (.ref (b + 1) :: st) (put (b + 1) pre s A post) Q = M1 22 ls (.ref ((b + 1) + 15) :: st) (put (b + 1) pre s A post) Q := w_get (show decode kb1 19 = .ok (.getfield 52, 3) from by decide +kernel) gf_52 put_o rfl
theorem m1_22 : M1 22 [l0, .val (.int v)] st H Q = M1 23 [l0, .val (.int v)] (.int v :: st) H Q := w_x (show decode kb1 22 = .ok (.iload_n 1, 1) from by decide +kernel) rfl
theorem m1_23 : M1 23 ls st H Q = M1 24 ls (.int 0 :: st) H Q := w_con (show decode kb1 23 = .ok (.iconst 0, 1) from by decide +kernel) rfl (by decide)
theorem m1_24  : M1 24 ls (.int v :: .int j :: .ref ((b + 1) + 15) :: st) (put (b + 1) pre s A post) Q = (inB j (A 14) ∧ M1 25 ls st (put (b + 1) pre s (ou A 14 (setA (A 14) j (nar .boolean v))) post) Q) := w_ist (show decode kb1 24 = .ok (.bastore, 1) from by decide +kernel) rfl put_a14 (by omega) rfl put_w14
theorem m1_25 : M1 25 [.val (.ref r), l1] st H Q = M1 26 [.val (.ref r), l1] (.ref r :: st) H Q := w_x (show decode kb1 25 = .ok (.aload_n 0, 1) from by decide +kernel) rfl
theorem m1_26 : M1 26 ls (.ref (b + 1) :: st) (put (b + 1) pre s A post) Q = M1 29 ls (.ref ((b + 1) + 16) :: st) (put (b + 1) pre s A post) Q := w_get (show decode kb1 26 = .ok (.getfield 56, 3) from by decide +kernel) gf_56 put_o rfl
theorem m1_29 : M1 29 [l0, .val (.int v)] st H Q = M1 30 [l0, .val (.int v)] (.int v :: st) H Q := w_x (show decode kb1 29 = .ok (.iload_n 1, 1) from by decide +kernel) rfl
theorem m1_30 : M1 30 ls st H Q = M1 31 ls (.int 0 :: st) H Q := w_con (show decode kb1 30 = .ok (.iconst 0, 1) from by decide +kernel) rfl (by decide)
theorem m1_31  : M1 31 ls (.int v :: .int j :: .ref ((b + 1) + 16) :: st) (put (b + 1) pre s A post) Q = (inB j (A 15) ∧ M1 32 ls st (put (b + 1) pre s (ou A 15 (setA (A 15) j v)) post) Q) := w_ist (show decode kb1 31 = .ok (.iastore, 1) from by decide +kernel) rfl put_a15 (by omega) rfl put_w15
theorem m1_32 : M1 32 [.val (.ref r), l1] st H Q = M1 33 [.val (.ref r), l1] (.ref r :: st) H Q := w_x (show decode kb1 32 = .ok (.aload_n 0, 1) from by decide +kernel) rfl
theorem m1_33 : M1 33 ls (.ref (b + 1) :: st) (put (b + 1) pre s A post) Q = M1 36 ls (.ref ((b + 1) + 17) :: st) (put (b + 1) pre s A post) Q := w_get (show decode kb1 33 = .ok (.getfield 59, 3) from by decide +kernel) gf_59 put_o rfl
theorem m1_36 : M1 36 [l0, .val (.int v)] st H Q = M1 37 [l0, .val (.int v)] (.int v :: st) H Q := w_x (show decode kb1 36 = .ok (.iload_n 1, 1) from by decide +kernel) rfl
theorem m1_37 : M1 37 ls st H Q = M1 38 ls (.int 0 :: st) H Q := w_con (show decode kb1 37 = .ok (.iconst 0, 1) from by decide +kernel) rfl (by decide)
theorem m1_38  : M1 38 ls (.int v :: .int j :: .ref ((b + 1) + 17) :: st) (put (b + 1) pre s A post) Q = (inB j (A 16) ∧ M1 39 ls st (put (b + 1) pre s (ou A 16 (setA (A 16) j v)) post) Q) := w_ist (show decode kb1 38 = .ok (.iastore, 1) from by decide +kernel) rfl put_a16 (by omega) rfl put_w16
theorem m1_39 : M1 39 [.val (.ref r), l1] st H Q = M1 40 [.val (.ref r), l1] (.ref r :: st) H Q := w_x (show decode kb1 39 = .ok (.aload_n 0, 1) from by decide +kernel) rfl
theorem m1_40 : M1 40 ls (.ref (b + 1) :: st) (put (b + 1) pre s A post) Q = M1 43 ls (.ref ((b + 1) + 18) :: st) (put (b + 1) pre s A post) Q := w_get (show decode kb1 40 = .ok (.getfield 62, 3) from by decide +kernel) gf_62 put_o rfl
theorem m1_43 : M1 43 [l0, .val (.int v)] st H Q = M1 44 [l0, .val (.int v)] (.int v :: st) H Q := w_x (show decode kb1 43 = .ok (.iload_n 1, 1) from by decide +kernel) rfl
theorem m1_44 : M1 44 ls st H Q = M1 45 ls (.int (-1) :: st) H Q := w_con (show decode kb1 44 = .ok (.iconst (-1), 1) from by decide +kernel) rfl (by decide)
theorem m1_45  : M1 45 ls (.int v :: .int j :: .ref ((b + 1) + 18) :: st) (put (b + 1) pre s A post) Q = (inB j (A 17) ∧ M1 46 ls st (put (b + 1) pre s (ou A 17 (setA (A 17) j v)) post) Q) := w_ist (show decode kb1 45 = .ok (.iastore, 1) from by decide +kernel) rfl put_a17 (by omega) rfl put_w17
theorem m1_46 : M1 46 [.val (.ref r), l1] st H Q = M1 47 [.val (.ref r), l1] (.ref r :: st) H Q := w_x (show decode kb1 46 = .ok (.aload_n 0, 1) from by decide +kernel) rfl
theorem m1_47 : M1 47 ls (.ref (b + 1) :: st) (put (b + 1) pre s A post) Q = M1 50 ls (.ref ((b + 1) + 19) :: st) (put (b + 1) pre s A post) Q := w_get (show decode kb1 47 = .ok (.getfield 65, 3) from by decide +kernel) gf_65 put_o rfl
theorem m1_50 : M1 50 [l0, .val (.int v)] st H Q = M1 51 [l0, .val (.int v)] (.int v :: st) H Q := w_x (show decode kb1 50 = .ok (.iload_n 1, 1) from by decide +kernel) rfl
theorem m1_51 : M1 51 ls st H Q = M1 52 ls (.int 0 :: st) H Q := w_con (show decode kb1 51 = .ok (.iconst 0, 1) from by decide +kernel) rfl (by decide)
theorem m1_52  : M1 52 ls (.int v :: .int j :: .ref ((b + 1) + 19) :: st) (put (b + 1) pre s A post) Q = (inB j (A 18) ∧ M1 53 ls st (put (b + 1) pre s (ou A 18 (setA (A 18) j v)) post) Q) := w_ist (show decode kb1 52 = .ok (.iastore, 1) from by decide +kernel) rfl put_a18 (by omega) rfl put_w18
theorem m1_53 : M1 53 [.val (.ref r), l1] st H Q = M1 54 [.val (.ref r), l1] (.ref r :: st) H Q := w_x (show decode kb1 53 = .ok (.aload_n 0, 1) from by decide +kernel) rfl
theorem m1_54 : M1 54 ls (.ref (b + 1) :: st) (put (b + 1) pre s A post) Q = M1 57 ls (.ref ((b + 1) + 20) :: st) (put (b + 1) pre s A post) Q := w_get (show decode kb1 54 = .ok (.getfield 68, 3) from by decide +kernel) gf_68 put_o rfl
theorem m1_57 : M1 57 [l0, .val (.int v)] st H Q = M1 58 [l0, .val (.int v)] (.int v :: st) H Q := w_x (show decode kb1 57 = .ok (.iload_n 1, 1) from by decide +kernel) rfl
theorem m1_58 : M1 58 ls st H Q = M1 59 ls (.int 0 :: st) H Q := w_con (show decode kb1 58 = .ok (.iconst 0, 1) from by decide +kernel) rfl (by decide)
theorem m1_59  : M1 59 ls (.int v :: .int j :: .ref ((b + 1) + 20) :: st) (put (b + 1) pre s A post) Q = (inB j (A 19) ∧ M1 60 ls st (put (b + 1) pre s (ou A 19 (setA (A 19) j v)) post) Q) := w_ist (show decode kb1 59 = .ok (.iastore, 1) from by decide +kernel) rfl put_a19 (by omega) rfl put_w19
theorem m1_60 : M1 60 [l0, .val (.int v)] st H Q = M1 63 [l0, .val (.int (v + 1))] st H Q := w_iinc (show decode kb1 60 = .ok (.iinc 1 1, 3) from by decide +kernel) rfl (by decide) rfl
theorem m1_63 : M1 63 ls st H Q = M1 12 ls st H Q := w_x (show decode kb1 63 = .ok (.goto (-51), 3) from by decide +kernel) rfl
theorem m1_66 : M1 66 ls [] H Q = Q none H := w_vret (show decode kb1 66 = .ok (.return_, 1) from by decide +kernel) rfl
theorem m2_0 : M2 0 [.val (.ref r)] st H Q = M2 1 [.val (.ref r)] (.ref r :: st) H Q := w_x (show decode kb2 0 = .ok (.aload_n 0, 1) from by decide +kernel) rfl
theorem m2_1 : M2 1 ls (.ref (b + 1) :: st) (put (b + 1) pre s A post) Q = M2 4 ls (.int (s 10) :: st) (put (b + 1) pre s A post) Q := w_get (show decode kb2 1 = .ok (.getfield 148, 3) from by decide +kernel) gf_148 put_o rfl
theorem m2_4 : M2 4 ls (.int z :: st) H Q = Q (some (.int z)) H := w_iret (show decode kb2 4 = .ok (.ireturn, 1) from by decide +kernel) rfl
theorem m3_0 : M3 0 [.val (.ref r)] st H Q = M3 1 [.val (.ref r)] (.ref r :: st) H Q := w_x (show decode kb3 0 = .ok (.aload_n 0, 1) from by decide +kernel) rfl
theorem m3_1 : M3 1 ls (.ref (b + 1) :: st) (put (b + 1) pre s A post) Q = M3 4 ls (.int (s 1) :: st) (put (b + 1) pre s A post) Q := w_get (show decode kb3 1 = .ok (.getfield 75, 3) from by decide +kernel) gf_75 put_o rfl
theorem m3_4 : M3 4 ls (.int z :: st) H Q = Q (some (.int z)) H := w_iret (show decode kb3 4 = .ok (.ireturn, 1) from by decide +kernel) rfl
theorem m4_0 : M4 0 [.val (.ref r)] st H Q = M4 1 [.val (.ref r)] (.ref r :: st) H Q := w_x (show decode kb4 0 = .ok (.aload_n 0, 1) from by decide +kernel) rfl
theorem m4_1 : M4 1 ls (.ref (b + 1) :: st) (put (b + 1) pre s A post) Q = M4 4 ls (.int (s 2) :: st) (put (b + 1) pre s A post) Q := w_get (show decode kb4 1 = .ok (.getfield 85, 3) from by decide +kernel) gf_85 put_o rfl
theorem m4_4 : M4 4 ls (.int z :: st) H Q = Q (some (.int z)) H := w_iret (show decode kb4 4 = .ok (.ireturn, 1) from by decide +kernel) rfl
theorem m5_0 : M5 0 [.val (.ref r), l1, l2, l3, l4, l5] st H Q = M5 1 [.val (.ref r), l1, l2, l3, l4, l5] (.ref r :: st) H Q := w_x (show decode kb5 0 = .ok (.aload_n 0, 1) from by decide +kernel) rfl
theorem m5_1 : M5 1 ls (.ref (b + 1) :: st) (put (b + 1) pre s A post) Q = M5 4 ls (.int (s 1) :: st) (put (b + 1) pre s A post) Q := w_get (show decode kb5 1 = .ok (.getfield 75, 3) from by decide +kernel) gf_75 put_o rfl
theorem m5_4 : M5 4 [.val (.ref r), l1, l2, l3, l4, l5] st H Q = M5 5 [.val (.ref r), l1, l2, l3, l4, l5] (.ref r :: st) H Q := w_x (show decode kb5 4 = .ok (.aload_n 0, 1) from by decide +kernel) rfl
theorem m5_5 : M5 5 ls (.ref (b + 1) :: st) (put (b + 1) pre s A post) Q = M5 8 ls (.int (s 0) :: st) (put (b + 1) pre s A post) Q := w_get (show decode kb5 5 = .ok (.getfield 71, 3) from by decide +kernel) gf_71 put_o rfl
theorem m5_8 : M5 8 ls (.int y :: .int x :: st) H Q = if x < y then M5 13 ls st H Q else M5 11 ls st H Q := w_icmp (show decode kb5 8 = .ok (.if_icmp .lt 5, 3) from by decide +kernel) (i_lt x y) rfl
theorem m5_11 : M5 11 ls st H Q = M5 12 ls (.int (-1) :: st) H Q := w_con (show decode kb5 11 = .ok (.iconst (-1), 1) from by decide +kernel) rfl (by decide)
theorem m5_12 : M5 12 ls (.int z :: st) H Q = Q (some (.int z)) H := w_iret (show decode kb5 12 = .ok (.ireturn, 1) from by decide +kernel) rfl
theorem m5_13 : M5 13 [l0, .val (.int v), l2, l3, l4, l5] st H Q = M5 14 [l0, .val (.int v), l2, l3, l4, l5] (.int v :: st) H Q := w_x (show decode kb5 13 = .ok (.iload_n 1, 1) from by decide +kernel) rfl
theorem m5_14 : M5 14 ls st H Q = M5 15 ls (.int 1 :: st) H Q := w_con (show decode kb5 14 = .ok (.iconst 1, 1) from by decide +kernel) rfl (by decide)
theorem m5_15 : M5 15 ls (.int y :: .int x :: st) H Q = if x < y then M5 25 ls st H Q else M5 18 ls st H Q := w_icmp (show decode kb5 15 = .ok (.if_icmp .lt 10, 3) from by decide +kernel) (i_lt x y) rfl
theorem m5_18 : M5 18 [l0, .val (.int v), l2, l3, l4, l5] st H Q = M5 19 [l0, .val (.int v), l2, l3, l4, l5] (.int v :: st) H Q := w_x (show decode kb5 18 = .ok (.iload_n 1, 1) from by decide +kernel) rfl
theorem m5_19 : M5 19 ls st H Q = M5 22 ls (.int 840 :: st) H Q := w_con (show decode kb5 19 = .ok (.sipush 840, 3) from by decide +kernel) rfl (by decide)
theorem m5_22 : M5 22 ls (.int y :: .int x :: st) H Q = if y < x then M5 25 ls st H Q else M5 28 ls st H Q := w_icmpN (show decode kb5 22 = .ok (.if_icmp .le 6, 3) from by decide +kernel) (i_le x y) rfl
theorem m5_25 : M5 25 ls st H Q = M5 27 ls (.int (-2) :: st) H Q := w_con (show decode kb5 25 = .ok (.bipush (-2), 2) from by decide +kernel) rfl (by decide)
theorem m5_27 : M5 27 ls (.int z :: st) H Q = Q (some (.int z)) H := w_iret (show decode kb5 27 = .ok (.ireturn, 1) from by decide +kernel) rfl
theorem m5_28 : M5 28 [l0, l1, .val (.int v), l3, l4, l5] st H Q = M5 29 [l0, l1, .val (.int v), l3, l4, l5] (.int v :: st) H Q := w_x (show decode kb5 28 = .ok (.iload_n 2, 1) from by decide +kernel) rfl
theorem m5_29 : M5 29 ls st H Q = M5 30 ls (.int 1 :: st) H Q := w_con (show decode kb5 29 = .ok (.iconst 1, 1) from by decide +kernel) rfl (by decide)
theorem m5_30 : M5 30 ls (.int y :: .int x :: st) H Q = if x < y then M5 38 ls st H Q else M5 33 ls st H Q := w_icmp (show decode kb5 30 = .ok (.if_icmp .lt 8, 3) from by decide +kernel) (i_lt x y) rfl
theorem m5_33 : M5 33 [l0, l1, .val (.int v), l3, l4, l5] st H Q = M5 34 [l0, l1, .val (.int v), l3, l4, l5] (.int v :: st) H Q := w_x (show decode kb5 33 = .ok (.iload_n 2, 1) from by decide +kernel) rfl
theorem m5_34 : M5 34 [l0, .val (.int v), l2, l3, l4, l5] st H Q = M5 35 [l0, .val (.int v), l2, l3, l4, l5] (.int v :: st) H Q := w_x (show decode kb5 34 = .ok (.iload_n 1, 1) from by decide +kernel) rfl
theorem m5_35 : M5 35 ls (.int y :: .int x :: st) H Q = if y < x then M5 38 ls st H Q else M5 41 ls st H Q := w_icmpN (show decode kb5 35 = .ok (.if_icmp .le 6, 3) from by decide +kernel) (i_le x y) rfl
theorem m5_38 : M5 38 ls st H Q = M5 40 ls (.int (-2) :: st) H Q := w_con (show decode kb5 38 = .ok (.bipush (-2), 2) from by decide +kernel) rfl (by decide)
theorem m5_40 : M5 40 ls (.int z :: st) H Q = Q (some (.int z)) H := w_iret (show decode kb5 40 = .ok (.ireturn, 1) from by decide +kernel) rfl
theorem m5_41 : M5 41 [l0, l1, l2, .val (.int v), l4, l5] st H Q = M5 42 [l0, l1, l2, .val (.int v), l4, l5] (.int v :: st) H Q := w_x (show decode kb5 41 = .ok (.iload_n 3, 1) from by decide +kernel) rfl
theorem m5_42 : M5 42 ls st H Q = M5 43 ls (.int 1 :: st) H Q := w_con (show decode kb5 42 = .ok (.iconst 1, 1) from by decide +kernel) rfl (by decide)
theorem m5_43 : M5 43 ls (.int y :: .int x :: st) H Q = if x < y then M5 51 ls st H Q else M5 46 ls st H Q := w_icmp (show decode kb5 43 = .ok (.if_icmp .lt 8, 3) from by decide +kernel) (i_lt x y) rfl
theorem m5_46 : M5 46 [l0, l1, l2, .val (.int v), l4, l5] st H Q = M5 47 [l0, l1, l2, .val (.int v), l4, l5] (.int v :: st) H Q := w_x (show decode kb5 46 = .ok (.iload_n 3, 1) from by decide +kernel) rfl
theorem m5_47 : M5 47 [l0, l1, .val (.int v), l3, l4, l5] st H Q = M5 48 [l0, l1, .val (.int v), l3, l4, l5] (.int v :: st) H Q := w_x (show decode kb5 47 = .ok (.iload_n 2, 1) from by decide +kernel) rfl
theorem m5_48 : M5 48 ls (.int y :: .int x :: st) H Q = if y < x then M5 51 ls st H Q else M5 54 ls st H Q := w_icmpN (show decode kb5 48 = .ok (.if_icmp .le 6, 3) from by decide +kernel) (i_le x y) rfl
theorem m5_51 : M5 51 ls st H Q = M5 53 ls (.int (-2) :: st) H Q := w_con (show decode kb5 51 = .ok (.bipush (-2), 2) from by decide +kernel) rfl (by decide)
theorem m5_53 : M5 53 ls (.int z :: st) H Q = Q (some (.int z)) H := w_iret (show decode kb5 53 = .ok (.ireturn, 1) from by decide +kernel) rfl
theorem m5_54 : M5 54 [l0, l1, l2, l3, .val (.int v), l5] st H Q = M5 56 [l0, l1, l2, l3, .val (.int v), l5] (.int v :: st) H Q := w_x (show decode kb5 54 = .ok (.iload 4, 2) from by decide +kernel) rfl
theorem m5_56 : M5 56 ls st H Q = M5 57 ls (.int 1 :: st) H Q := w_con (show decode kb5 56 = .ok (.iconst 1, 1) from by decide +kernel) rfl (by decide)
theorem m5_57 : M5 57 ls (.int y :: .int x :: st) H Q = if x < y then M5 67 ls st H Q else M5 60 ls st H Q := w_icmp (show decode kb5 57 = .ok (.if_icmp .lt 10, 3) from by decide +kernel) (i_lt x y) rfl
theorem m5_60 : M5 60 [l0, l1, l2, l3, .val (.int v), l5] st H Q = M5 62 [l0, l1, l2, l3, .val (.int v), l5] (.int v :: st) H Q := w_x (show decode kb5 60 = .ok (.iload 4, 2) from by decide +kernel) rfl
theorem m5_62 : M5 62 ls st H Q = M5 64 ls (.int 63 :: st) H Q := w_con (show decode kb5 62 = .ok (.bipush 63, 2) from by decide +kernel) rfl (by decide)
theorem m5_64 : M5 64 ls (.int y :: .int x :: st) H Q = if y < x then M5 67 ls st H Q else M5 70 ls st H Q := w_icmpN (show decode kb5 64 = .ok (.if_icmp .le 6, 3) from by decide +kernel) (i_le x y) rfl
theorem m5_67 : M5 67 ls st H Q = M5 69 ls (.int (-3) :: st) H Q := w_con (show decode kb5 67 = .ok (.bipush (-3), 2) from by decide +kernel) rfl (by decide)
theorem m5_69 : M5 69 ls (.int z :: st) H Q = Q (some (.int z)) H := w_iret (show decode kb5 69 = .ok (.ireturn, 1) from by decide +kernel) rfl
theorem m5_70 : M5 70 [.val (.ref r), l1, l2, l3, l4, l5] st H Q = M5 71 [.val (.ref r), l1, l2, l3, l4, l5] (.ref r :: st) H Q := w_x (show decode kb5 70 = .ok (.aload_n 0, 1) from by decide +kernel) rfl
theorem m5_71 : M5 71 [l0, l1, l2, l3, .val (.int v), l5] st H Q = M5 73 [l0, l1, l2, l3, .val (.int v), l5] (.int v :: st) H Q := w_x (show decode kb5 71 = .ok (.iload 4, 2) from by decide +kernel) rfl
theorem cr5_91 : vR tables_1 dn y5 91 = some (true, y6, prog_1_method_3_code, 3, (some .boolean), 1, 0) := pR_of (cR_of (by decide +kernel) rc_6 dn_6 dn_5 (sig := ⟨[.int], some .boolean⟩) (by decide +kernel) (by decide +kernel) rfl rfl) (by decide +kernel) (by decide +kernel)
theorem m5_73 (a0 : Int32) : M5 73 ls [.int a0, .ref (b + 1)] (put (b + 1) pre s A post) Q = M6 0 [.val (.ref (b + 1)), .val (.int a0), .unset] [] (put (b + 1) pre s A post) (fun v H1 => M5 76 ls (v.toList ++ []) H1 Q) := w_virt (as := [.int a0]) (rest := []) (a := (b + 1)) (show decode kb5 73 = .ok (.invokevirtual 91, 3) from by decide +kernel) cr5_91 put_o rfl rfl (Nat.le_of_ble_eq_true rfl) (by show 2 ≤ 3; omega) rfl
theorem m5_76 : M5 76 ls (.int x :: st) H Q = if x = 0 then M5 82 ls st H Q else M5 79 ls st H Q := w_if (show decode kb5 76 = .ok (.ifCond .eq 6, 3) from by decide +kernel) (z_eq x) rfl
theorem m5_79 : M5 79 ls st H Q = M5 81 ls (.int (-3) :: st) H Q := w_con (show decode kb5 79 = .ok (.bipush (-3), 2) from by decide +kernel) rfl (by decide)
theorem m5_81 : M5 81 ls (.int z :: st) H Q = Q (some (.int z)) H := w_iret (show decode kb5 81 = .ok (.ireturn, 1) from by decide +kernel) rfl
theorem m5_82 : M5 82 [.val (.ref r), l1, l2, l3, l4, l5] st H Q = M5 83 [.val (.ref r), l1, l2, l3, l4, l5] (.ref r :: st) H Q := w_x (show decode kb5 82 = .ok (.aload_n 0, 1) from by decide +kernel) rfl
theorem m5_83 : M5 83 ls st H Q = M5 84 ls (.int 1 :: st) H Q := w_con (show decode kb5 83 = .ok (.iconst 1, 1) from by decide +kernel) rfl (by decide)
theorem pf5_78 : pfR tables_1 y5.cls y5.name 78 = some ("ResponseTimeGate", 22, .boolean) := by decide +kernel
theorem m5_84 : M5 84 ls (.int v :: .ref (b + 1) :: st) (put (b + 1) pre s A post) Q = M5 87 ls st (put (b + 1) pre (ou s 4 (nar .boolean v)) A post) Q := w_put (show decode kb5 84 = .ok (.putfield 78, 3) from by decide +kernel) pf5_78 put_o (Nat.succ_le_succ (Nat.zero_le _)) (by show 22 < 31; omega) rfl put_s4
theorem m5_87 : M5 87 [.val (.ref r), l1, l2, l3, l4, l5] st H Q = M5 88 [.val (.ref r), l1, l2, l3, l4, l5] (.ref r :: st) H Q := w_x (show decode kb5 87 = .ok (.aload_n 0, 1) from by decide +kernel) rfl
theorem m5_88 : M5 88 [l0, .val (.int v), l2, l3, l4, l5] st H Q = M5 89 [l0, .val (.int v), l2, l3, l4, l5] (.int v :: st) H Q := w_x (show decode kb5 88 = .ok (.iload_n 1, 1) from by decide +kernel) rfl
theorem pf5_95 : pfR tables_1 y5.cls y5.name 95 = some ("ResponseTimeGate", 27, .int) := by decide +kernel
theorem m5_89 : M5 89 ls (.int v :: .ref (b + 1) :: st) (put (b + 1) pre s A post) Q = M5 92 ls st (put (b + 1) pre (ou s 5 v) A post) Q := w_put (show decode kb5 89 = .ok (.putfield 95, 3) from by decide +kernel) pf5_95 put_o (Nat.succ_le_succ (Nat.zero_le _)) (by show 27 < 31; omega) rfl put_s5
theorem m5_92 : M5 92 [.val (.ref r), l1, l2, l3, l4, l5] st H Q = M5 93 [.val (.ref r), l1, l2, l3, l4, l5] (.ref r :: st) H Q := w_x (show decode kb5 92 = .ok (.aload_n 0, 1) from by decide +kernel) rfl
theorem m5_93 : M5 93 [l0, l1, .val (.int v), l3, l4, l5] st H Q = M5 94 [l0, l1, .val (.int v), l3, l4, l5] (.int v :: st) H Q := w_x (show decode kb5 93 = .ok (.iload_n 2, 1) from by decide +kernel) rfl
theorem pf5_98 : pfR tables_1 y5.cls y5.name 98 = some ("ResponseTimeGate", 28, .int) := by decide +kernel
theorem m5_94 : M5 94 ls (.int v :: .ref (b + 1) :: st) (put (b + 1) pre s A post) Q = M5 97 ls st (put (b + 1) pre (ou s 6 v) A post) Q := w_put (show decode kb5 94 = .ok (.putfield 98, 3) from by decide +kernel) pf5_98 put_o (Nat.succ_le_succ (Nat.zero_le _)) (by show 28 < 31; omega) rfl put_s6
theorem m5_97 : M5 97 [.val (.ref r), l1, l2, l3, l4, l5] st H Q = M5 98 [.val (.ref r), l1, l2, l3, l4, l5] (.ref r :: st) H Q := w_x (show decode kb5 97 = .ok (.aload_n 0, 1) from by decide +kernel) rfl
theorem m5_98 : M5 98 [l0, l1, l2, .val (.int v), l4, l5] st H Q = M5 99 [l0, l1, l2, .val (.int v), l4, l5] (.int v :: st) H Q := w_x (show decode kb5 98 = .ok (.iload_n 3, 1) from by decide +kernel) rfl
theorem pf5_101 : pfR tables_1 y5.cls y5.name 101 = some ("ResponseTimeGate", 29, .int) := by decide +kernel
theorem m5_99 : M5 99 ls (.int v :: .ref (b + 1) :: st) (put (b + 1) pre s A post) Q = M5 102 ls st (put (b + 1) pre (ou s 7 v) A post) Q := w_put (show decode kb5 99 = .ok (.putfield 101, 3) from by decide +kernel) pf5_101 put_o (Nat.succ_le_succ (Nat.zero_le _)) (by show 29 < 31; omega) rfl put_s7
theorem m5_102 : M5 102 [.val (.ref r), l1, l2, l3, l4, l5] st H Q = M5 103 [.val (.ref r), l1, l2, l3, l4, l5] (.ref r :: st) H Q := w_x (show decode kb5 102 = .ok (.aload_n 0, 1) from by decide +kernel) rfl
theorem m5_103 : M5 103 [l0, l1, l2, l3, .val (.int v), l5] st H Q = M5 105 [l0, l1, l2, l3, .val (.int v), l5] (.int v :: st) H Q := w_x (show decode kb5 103 = .ok (.iload 4, 2) from by decide +kernel) rfl
theorem pf5_104 : pfR tables_1 y5.cls y5.name 104 = some ("ResponseTimeGate", 30, .int) := by decide +kernel
theorem m5_105 : M5 105 ls (.int v :: .ref (b + 1) :: st) (put (b + 1) pre s A post) Q = M5 108 ls st (put (b + 1) pre (ou s 8 v) A post) Q := w_put (show decode kb5 105 = .ok (.putfield 104, 3) from by decide +kernel) pf5_104 put_o (Nat.succ_le_succ (Nat.zero_le _)) (by show 30 < 31; omega) rfl put_s8
theorem m5_108 : M5 108 ls st H Q = M5 109 ls (.int 0 :: st) H Q := w_con (show decode kb5 108 = .ok (.iconst 0, 1) from by decide +kernel) rfl (by decide)
theorem m5_109u : M5 109 [l0, l1, l2, l3, l4, .unset] ((.int v) :: st) H Q = M5 111 [l0, l1, l2, l3, l4, .val (.int v)] st H Q := w_st (i := 5) (p := isI) (show decode kb5 109 = .ok (.istore 5, 2) from by decide +kernel) rfl rfl rfl rfl rfl rfl
theorem m5_111 : M5 111 [l0, l1, l2, l3, l4, .val (.int v)] st H Q = M5 113 [l0, l1, l2, l3, l4, .val (.int v)] (.int v :: st) H Q := w_x (show decode kb5 111 = .ok (.iload 5, 2) from by decide +kernel) rfl
theorem m5_113 : M5 113 ls st H Q = M5 114 ls (.int 4 :: st) H Q := w_con (show decode kb5 113 = .ok (.iconst 4, 1) from by decide +kernel) rfl (by decide)
theorem m5_114 : M5 114 ls (.int y :: .int x :: st) H Q = if x < y then M5 117 ls st H Q else M5 139 ls st H Q := w_icmpN (show decode kb5 114 = .ok (.if_icmp .ge 25, 3) from by decide +kernel) (i_ge x y) rfl
theorem m5_117 : M5 117 [.val (.ref r), l1, l2, l3, l4, l5] st H Q = M5 118 [.val (.ref r), l1, l2, l3, l4, l5] (.ref r :: st) H Q := w_x (show decode kb5 117 = .ok (.aload_n 0, 1) from by decide +kernel) rfl
theorem m5_118 : M5 118 ls (.ref (b + 1) :: st) (put (b + 1) pre s A post) Q = M5 121 ls (.ref ((b + 1) + 10) :: st) (put (b + 1) pre s A post) Q := w_get (show decode kb5 118 = .ok (.getfield 37, 3) from by decide +kernel) gf_37 put_o rfl
theorem m5_121 : M5 121 [l0, l1, l2, l3, l4, .val (.int v)] st H Q = M5 123 [l0, l1, l2, l3, l4, .val (.int v)] (.int v :: st) H Q := w_x (show decode kb5 121 = .ok (.iload 5, 2) from by decide +kernel) rfl
theorem m5_123 : M5 123 ls st H Q = M5 124 ls (.int 0 :: st) H Q := w_con (show decode kb5 123 = .ok (.iconst 0, 1) from by decide +kernel) rfl (by decide)
theorem m5_124  : M5 124 ls (.int v :: .int j :: .ref ((b + 1) + 10) :: st) (put (b + 1) pre s A post) Q = (inB j (A 9) ∧ M5 125 ls st (put (b + 1) pre s (ou A 9 (setA (A 9) j v)) post) Q) := w_ist (show decode kb5 124 = .ok (.iastore, 1) from by decide +kernel) rfl put_a9 (by omega) rfl put_w9
theorem m5_125 : M5 125 [.val (.ref r), l1, l2, l3, l4, l5] st H Q = M5 126 [.val (.ref r), l1, l2, l3, l4, l5] (.ref r :: st) H Q := w_x (show decode kb5 125 = .ok (.aload_n 0, 1) from by decide +kernel) rfl
theorem m5_126 : M5 126 ls (.ref (b + 1) :: st) (put (b + 1) pre s A post) Q = M5 129 ls (.ref ((b + 1) + 11) :: st) (put (b + 1) pre s A post) Q := w_get (show decode kb5 126 = .ok (.getfield 40, 3) from by decide +kernel) gf_40 put_o rfl
theorem m5_129 : M5 129 [l0, l1, l2, l3, l4, .val (.int v)] st H Q = M5 131 [l0, l1, l2, l3, l4, .val (.int v)] (.int v :: st) H Q := w_x (show decode kb5 129 = .ok (.iload 5, 2) from by decide +kernel) rfl
theorem m5_131 : M5 131 ls st H Q = M5 132 ls (.int 0 :: st) H Q := w_con (show decode kb5 131 = .ok (.iconst 0, 1) from by decide +kernel) rfl (by decide)
theorem m5_132  : M5 132 ls (.int v :: .int j :: .ref ((b + 1) + 11) :: st) (put (b + 1) pre s A post) Q = (inB j (A 10) ∧ M5 133 ls st (put (b + 1) pre s (ou A 10 (setA (A 10) j v)) post) Q) := w_ist (show decode kb5 132 = .ok (.iastore, 1) from by decide +kernel) rfl put_a10 (by omega) rfl put_w10
theorem m5_133 : M5 133 [l0, l1, l2, l3, l4, .val (.int v)] st H Q = M5 136 [l0, l1, l2, l3, l4, .val (.int (v + 1))] st H Q := w_iinc (show decode kb5 133 = .ok (.iinc 5 1, 3) from by decide +kernel) rfl (by decide) rfl
theorem m5_136 : M5 136 ls st H Q = M5 111 ls st H Q := w_x (show decode kb5 136 = .ok (.goto (-25), 3) from by decide +kernel) rfl
theorem m5_139 : M5 139 ls st H Q = M5 140 ls (.int 0 :: st) H Q := w_con (show decode kb5 139 = .ok (.iconst 0, 1) from by decide +kernel) rfl (by decide)
theorem m5_140 : M5 140 ls (.int z :: st) H Q = Q (some (.int z)) H := w_iret (show decode kb5 140 = .ok (.ireturn, 1) from by decide +kernel) rfl
theorem m6_0 : M6 0 ls st H Q = M6 1 ls (.int 0 :: st) H Q := w_con (show decode kb6 0 = .ok (.iconst 0, 1) from by decide +kernel) rfl (by decide)
theorem m6_1u : M6 1 [l0, l1, .unset] ((.int v) :: st) H Q = M6 2 [l0, l1, .val (.int v)] st H Q := w_st (i := 2) (p := isI) (show decode kb6 1 = .ok (.istore_n 2, 1) from by decide +kernel) rfl rfl rfl rfl rfl rfl
theorem m6_2 : M6 2 [l0, l1, .val (.int v)] st H Q = M6 3 [l0, l1, .val (.int v)] (.int v :: st) H Q := w_x (show decode kb6 2 = .ok (.iload_n 2, 1) from by decide +kernel) rfl
theorem m6_3 : M6 3 [.val (.ref r), l1, l2] st H Q = M6 4 [.val (.ref r), l1, l2] (.ref r :: st) H Q := w_x (show decode kb6 3 = .ok (.aload_n 0, 1) from by decide +kernel) rfl
theorem m6_4 : M6 4 ls (.ref (b + 1) :: st) (put (b + 1) pre s A post) Q = M6 7 ls (.int (s 1) :: st) (put (b + 1) pre s A post) Q := w_get (show decode kb6 4 = .ok (.getfield 75, 3) from by decide +kernel) gf_75 put_o rfl
theorem m6_7 : M6 7 ls (.int y :: .int x :: st) H Q = if x < y then M6 10 ls st H Q else M6 28 ls st H Q := w_icmpN (show decode kb6 7 = .ok (.if_icmp .ge 21, 3) from by decide +kernel) (i_ge x y) rfl
theorem m6_10 : M6 10 [.val (.ref r), l1, l2] st H Q = M6 11 [.val (.ref r), l1, l2] (.ref r :: st) H Q := w_x (show decode kb6 10 = .ok (.aload_n 0, 1) from by decide +kernel) rfl
theorem m6_11 : M6 11 ls (.ref (b + 1) :: st) (put (b + 1) pre s A post) Q = M6 14 ls (.ref ((b + 1) + 4) :: st) (put (b + 1) pre s A post) Q := w_get (show decode kb6 11 = .ok (.getfield 19, 3) from by decide +kernel) gf_19 put_o rfl
theorem m6_14 : M6 14 [l0, l1, .val (.int v)] st H Q = M6 15 [l0, l1, .val (.int v)] (.int v :: st) H Q := w_x (show decode kb6 14 = .ok (.iload_n 2, 1) from by decide +kernel) rfl
theorem m6_15  : M6 15 ls (.int j :: .ref ((b + 1) + 4) :: st) (put (b + 1) pre s A post) Q = (inB j (A 3) ∧ M6 16 ls (.int (getA (A 3) j) :: st) (put (b + 1) pre s A post) Q) := w_ild (show decode kb6 15 = .ok (.iaload, 1) from by decide +kernel) rfl put_a3
theorem m6_16 : M6 16 [l0, .val (.int v), l2] st H Q = M6 17 [l0, .val (.int v), l2] (.int v :: st) H Q := w_x (show decode kb6 16 = .ok (.iload_n 1, 1) from by decide +kernel) rfl
theorem m6_17 : M6 17 ls (.int y :: .int x :: st) H Q = if x = y then M6 20 ls st H Q else M6 22 ls st H Q := w_icmpN (show decode kb6 17 = .ok (.if_icmp .ne 5, 3) from by decide +kernel) (i_ne x y) rfl
theorem m6_20 : M6 20 ls st H Q = M6 21 ls (.int 1 :: st) H Q := w_con (show decode kb6 20 = .ok (.iconst 1, 1) from by decide +kernel) rfl (by decide)
theorem m6_21 : M6 21 ls (.int z :: st) H Q = Q (some (.int (nar .boolean z))) H := w_iretN (show decode kb6 21 = .ok (.ireturn, 1) from by decide +kernel) rfl (by simp)
theorem m6_22 : M6 22 [l0, l1, .val (.int v)] st H Q = M6 25 [l0, l1, .val (.int (v + 1))] st H Q := w_iinc (show decode kb6 22 = .ok (.iinc 2 1, 3) from by decide +kernel) rfl (by decide) rfl
theorem m6_25 : M6 25 ls st H Q = M6 2 ls st H Q := w_x (show decode kb6 25 = .ok (.goto (-23), 3) from by decide +kernel) rfl
theorem m6_28 : M6 28 ls st H Q = M6 29 ls (.int 0 :: st) H Q := w_con (show decode kb6 28 = .ok (.iconst 0, 1) from by decide +kernel) rfl (by decide)
theorem m6_29 : M6 29 ls (.int z :: st) H Q = Q (some (.int (nar .boolean z))) H := w_iretN (show decode kb6 29 = .ok (.ireturn, 1) from by decide +kernel) rfl (by simp)
theorem m7_0 : M7 0 [.val (.ref r), l1, l2, l3] st H Q = M7 1 [.val (.ref r), l1, l2, l3] (.ref r :: st) H Q := w_x (show decode kb7 0 = .ok (.aload_n 0, 1) from by decide +kernel) rfl
theorem m7_1 : M7 1 ls (.ref (b + 1) :: st) (put (b + 1) pre s A post) Q = M7 4 ls (.int (s 4) :: st) (put (b + 1) pre s A post) Q := w_get (show decode kb7 1 = .ok (.getfield 78, 3) from by decide +kernel) gf_78 put_o rfl
theorem m7_4 : M7 4 ls (.int x :: st) H Q = if x = 0 then M7 7 ls st H Q else M7 10 ls st H Q := w_ifN (show decode kb7 4 = .ok (.ifCond .ne 6, 3) from by decide +kernel) (z_ne x) rfl
theorem m7_7 : M7 7 ls st H Q = M7 9 ls (.int (-4) :: st) H Q := w_con (show decode kb7 7 = .ok (.bipush (-4), 2) from by decide +kernel) rfl (by decide)
theorem m7_9 : M7 9 ls (.int z :: st) H Q = Q (some (.int z)) H := w_iret (show decode kb7 9 = .ok (.ireturn, 1) from by decide +kernel) rfl
theorem m7_10 : M7 10 [l0, .val (.int v), l2, l3] st H Q = M7 11 [l0, .val (.int v), l2, l3] (.int v :: st) H Q := w_x (show decode kb7 10 = .ok (.iload_n 1, 1) from by decide +kernel) rfl
theorem m7_11 : M7 11 ls (.int x :: st) H Q = if x < 0 then M7 19 ls st H Q else M7 14 ls st H Q := w_if (show decode kb7 11 = .ok (.ifCond .lt 8, 3) from by decide +kernel) (z_lt x) rfl
theorem m7_14 : M7 14 [l0, .val (.int v), l2, l3] st H Q = M7 15 [l0, .val (.int v), l2, l3] (.int v :: st) H Q := w_x (show decode kb7 14 = .ok (.iload_n 1, 1) from by decide +kernel) rfl
theorem m7_15 : M7 15 ls st H Q = M7 16 ls (.int 4 :: st) H Q := w_con (show decode kb7 15 = .ok (.iconst 4, 1) from by decide +kernel) rfl (by decide)
theorem m7_16 : M7 16 ls (.int y :: .int x :: st) H Q = if x < y then M7 22 ls st H Q else M7 19 ls st H Q := w_icmp (show decode kb7 16 = .ok (.if_icmp .lt 6, 3) from by decide +kernel) (i_lt x y) rfl
theorem m7_19 : M7 19 ls st H Q = M7 21 ls (.int (-2) :: st) H Q := w_con (show decode kb7 19 = .ok (.bipush (-2), 2) from by decide +kernel) rfl (by decide)
theorem m7_21 : M7 21 ls (.int z :: st) H Q = Q (some (.int z)) H := w_iret (show decode kb7 21 = .ok (.ireturn, 1) from by decide +kernel) rfl
theorem m7_22 : M7 22 [l0, l1, .val (.int v), l3] st H Q = M7 23 [l0, l1, .val (.int v), l3] (.int v :: st) H Q := w_x (show decode kb7 22 = .ok (.iload_n 2, 1) from by decide +kernel) rfl
theorem m7_23 : M7 23 ls (.int x :: st) H Q = if x < 0 then M7 31 ls st H Q else M7 26 ls st H Q := w_if (show decode kb7 23 = .ok (.ifCond .lt 8, 3) from by decide +kernel) (z_lt x) rfl
theorem m7_26 : M7 26 [l0, l1, l2, .val (.int v)] st H Q = M7 27 [l0, l1, l2, .val (.int v)] (.int v :: st) H Q := w_x (show decode kb7 26 = .ok (.iload_n 3, 1) from by decide +kernel) rfl
theorem m7_27 : M7 27 ls st H Q = M7 28 ls (.int 1 :: st) H Q := w_con (show decode kb7 27 = .ok (.iconst 1, 1) from by decide +kernel) rfl (by decide)
theorem m7_28 : M7 28 ls (.int y :: .int x :: st) H Q = if x < y then M7 31 ls st H Q else M7 34 ls st H Q := w_icmpN (show decode kb7 28 = .ok (.if_icmp .ge 6, 3) from by decide +kernel) (i_ge x y) rfl
theorem m7_31 : M7 31 ls st H Q = M7 33 ls (.int (-2) :: st) H Q := w_con (show decode kb7 31 = .ok (.bipush (-2), 2) from by decide +kernel) rfl (by decide)
theorem m7_33 : M7 33 ls (.int z :: st) H Q = Q (some (.int z)) H := w_iret (show decode kb7 33 = .ok (.ireturn, 1) from by decide +kernel) rfl
theorem m7_34 : M7 34 [l0, l1, .val (.int v), l3] st H Q = M7 35 [l0, l1, .val (.int v), l3] (.int v :: st) H Q := w_x (show decode kb7 34 = .ok (.iload_n 2, 1) from by decide +kernel) rfl
theorem m7_35 : M7 35 [.val (.ref r), l1, l2, l3] st H Q = M7 36 [.val (.ref r), l1, l2, l3] (.ref r :: st) H Q := w_x (show decode kb7 35 = .ok (.aload_n 0, 1) from by decide +kernel) rfl
theorem m7_36 : M7 36 ls (.ref (b + 1) :: st) (put (b + 1) pre s A post) Q = M7 39 ls (.int (s 7) :: st) (put (b + 1) pre s A post) Q := w_get (show decode kb7 36 = .ok (.getfield 101, 3) from by decide +kernel) gf_101 put_o rfl
theorem m7_39 : M7 39 ls (.int y :: .int x :: st) H Q = if y < x then M7 52 ls st H Q else M7 42 ls st H Q := w_icmp (show decode kb7 39 = .ok (.if_icmp .gt 13, 3) from by decide +kernel) (i_gt x y) rfl
theorem m7_42 : M7 42 [l0, l1, l2, .val (.int v)] st H Q = M7 43 [l0, l1, l2, .val (.int v)] (.int v :: st) H Q := w_x (show decode kb7 42 = .ok (.iload_n 3, 1) from by decide +kernel) rfl
theorem m7_43 : M7 43 [.val (.ref r), l1, l2, l3] st H Q = M7 44 [.val (.ref r), l1, l2, l3] (.ref r :: st) H Q := w_x (show decode kb7 43 = .ok (.aload_n 0, 1) from by decide +kernel) rfl
theorem m7_44 : M7 44 ls (.ref (b + 1) :: st) (put (b + 1) pre s A post) Q = M7 47 ls (.int (s 7) :: st) (put (b + 1) pre s A post) Q := w_get (show decode kb7 44 = .ok (.getfield 101, 3) from by decide +kernel) gf_101 put_o rfl
theorem m7_47 : M7 47 [l0, l1, .val (.int v), l3] st H Q = M7 48 [l0, l1, .val (.int v), l3] (.int v :: st) H Q := w_x (show decode kb7 47 = .ok (.iload_n 2, 1) from by decide +kernel) rfl
theorem m7_48 : M7 48 ls (.int y :: .int x :: st) H Q = M7 49 ls (.int (x - y) :: st) H Q := w_x (show decode kb7 48 = .ok (.isub, 1) from by decide +kernel) rfl
theorem m7_49 : M7 49 ls (.int y :: .int x :: st) H Q = if y < x then M7 52 ls st H Q else M7 55 ls st H Q := w_icmpN (show decode kb7 49 = .ok (.if_icmp .le 6, 3) from by decide +kernel) (i_le x y) rfl
theorem m7_52 : M7 52 ls st H Q = M7 54 ls (.int (-2) :: st) H Q := w_con (show decode kb7 52 = .ok (.bipush (-2), 2) from by decide +kernel) rfl (by decide)
theorem m7_54 : M7 54 ls (.int z :: st) H Q = Q (some (.int z)) H := w_iret (show decode kb7 54 = .ok (.ireturn, 1) from by decide +kernel) rfl
theorem m7_55 : M7 55 [.val (.ref r), l1, l2, l3] st H Q = M7 56 [.val (.ref r), l1, l2, l3] (.ref r :: st) H Q := w_x (show decode kb7 55 = .ok (.aload_n 0, 1) from by decide +kernel) rfl
theorem m7_56 : M7 56 ls (.ref (b + 1) :: st) (put (b + 1) pre s A post) Q = M7 59 ls (.ref ((b + 1) + 11) :: st) (put (b + 1) pre s A post) Q := w_get (show decode kb7 56 = .ok (.getfield 40, 3) from by decide +kernel) gf_40 put_o rfl
theorem m7_59 : M7 59 [l0, .val (.int v), l2, l3] st H Q = M7 60 [l0, .val (.int v), l2, l3] (.int v :: st) H Q := w_x (show decode kb7 59 = .ok (.iload_n 1, 1) from by decide +kernel) rfl
theorem m7_60  : M7 60 ls (.int j :: .ref ((b + 1) + 11) :: st) (put (b + 1) pre s A post) Q = (inB j (A 10) ∧ M7 61 ls (.int (getA (A 10) j) :: st) (put (b + 1) pre s A post) Q) := w_ild (show decode kb7 60 = .ok (.iaload, 1) from by decide +kernel) rfl put_a10
theorem m7_61 : M7 61 ls (.int x :: st) H Q = if 0 < x then M7 64 ls st H Q else M7 67 ls st H Q := w_ifN (show decode kb7 61 = .ok (.ifCond .le 6, 3) from by decide +kernel) (z_le x) rfl
theorem m7_64 : M7 64 ls st H Q = M7 66 ls (.int (-5) :: st) H Q := w_con (show decode kb7 64 = .ok (.bipush (-5), 2) from by decide +kernel) rfl (by decide)
theorem m7_66 : M7 66 ls (.int z :: st) H Q = Q (some (.int z)) H := w_iret (show decode kb7 66 = .ok (.ireturn, 1) from by decide +kernel) rfl
theorem m7_67 : M7 67 [.val (.ref r), l1, l2, l3] st H Q = M7 68 [.val (.ref r), l1, l2, l3] (.ref r :: st) H Q := w_x (show decode kb7 67 = .ok (.aload_n 0, 1) from by decide +kernel) rfl
theorem m7_68 : M7 68 [l0, l1, .val (.int v), l3] st H Q = M7 69 [l0, l1, .val (.int v), l3] (.int v :: st) H Q := w_x (show decode kb7 68 = .ok (.iload_n 2, 1) from by decide +kernel) rfl
theorem m7_69 : M7 69 [l0, l1, l2, .val (.int v)] st H Q = M7 70 [l0, l1, l2, .val (.int v)] (.int v :: st) H Q := w_x (show decode kb7 69 = .ok (.iload_n 3, 1) from by decide +kernel) rfl
theorem cr7_107 : vR tables_1 dn y7 107 = some (true, y8, prog_1_method_5_code, 6, (some .boolean), 2, 0) := pR_of (cR_of (by decide +kernel) rc_8 dn_8 dn_7 (sig := ⟨[.int, .int], some .boolean⟩) (by decide +kernel) (by decide +kernel) rfl rfl) (by decide +kernel) (by decide +kernel)
theorem m7_70 (a0 : Int32) (a1 : Int32) : M7 70 ls [.int a1, .int a0, .ref (b + 1)] (put (b + 1) pre s A post) Q = M8 0 [.val (.ref (b + 1)), .val (.int a0), .val (.int a1), .unset, .unset, .unset] [] (put (b + 1) pre s A post) (fun v H1 => M7 73 ls (v.toList ++ []) H1 Q) := w_virt (as := [.int a1, .int a0]) (rest := []) (a := (b + 1)) (show decode kb7 70 = .ok (.invokevirtual 107, 3) from by decide +kernel) cr7_107 put_o rfl rfl (Nat.le_of_ble_eq_true rfl) (by show 3 ≤ 6; omega) rfl
theorem m7_73 : M7 73 ls (.int x :: st) H Q = if x = 0 then M7 79 ls st H Q else M7 76 ls st H Q := w_if (show decode kb7 73 = .ok (.ifCond .eq 6, 3) from by decide +kernel) (z_eq x) rfl
theorem m7_76 : M7 76 ls st H Q = M7 78 ls (.int (-5) :: st) H Q := w_con (show decode kb7 76 = .ok (.bipush (-5), 2) from by decide +kernel) rfl (by decide)
theorem m7_78 : M7 78 ls (.int z :: st) H Q = Q (some (.int z)) H := w_iret (show decode kb7 78 = .ok (.ireturn, 1) from by decide +kernel) rfl
theorem m7_79 : M7 79 [.val (.ref r), l1, l2, l3] st H Q = M7 80 [.val (.ref r), l1, l2, l3] (.ref r :: st) H Q := w_x (show decode kb7 79 = .ok (.aload_n 0, 1) from by decide +kernel) rfl
theorem m7_80 : M7 80 ls (.ref (b + 1) :: st) (put (b + 1) pre s A post) Q = M7 83 ls (.ref ((b + 1) + 10) :: st) (put (b + 1) pre s A post) Q := w_get (show decode kb7 80 = .ok (.getfield 37, 3) from by decide +kernel) gf_37 put_o rfl
theorem m7_83 : M7 83 [l0, .val (.int v), l2, l3] st H Q = M7 84 [l0, .val (.int v), l2, l3] (.int v :: st) H Q := w_x (show decode kb7 83 = .ok (.iload_n 1, 1) from by decide +kernel) rfl
theorem m7_84 : M7 84 [l0, l1, .val (.int v), l3] st H Q = M7 85 [l0, l1, .val (.int v), l3] (.int v :: st) H Q := w_x (show decode kb7 84 = .ok (.iload_n 2, 1) from by decide +kernel) rfl
theorem m7_85  : M7 85 ls (.int v :: .int j :: .ref ((b + 1) + 10) :: st) (put (b + 1) pre s A post) Q = (inB j (A 9) ∧ M7 86 ls st (put (b + 1) pre s (ou A 9 (setA (A 9) j v)) post) Q) := w_ist (show decode kb7 85 = .ok (.iastore, 1) from by decide +kernel) rfl put_a9 (by omega) rfl put_w9
theorem m7_86 : M7 86 [.val (.ref r), l1, l2, l3] st H Q = M7 87 [.val (.ref r), l1, l2, l3] (.ref r :: st) H Q := w_x (show decode kb7 86 = .ok (.aload_n 0, 1) from by decide +kernel) rfl
theorem m7_87 : M7 87 ls (.ref (b + 1) :: st) (put (b + 1) pre s A post) Q = M7 90 ls (.ref ((b + 1) + 11) :: st) (put (b + 1) pre s A post) Q := w_get (show decode kb7 87 = .ok (.getfield 40, 3) from by decide +kernel) gf_40 put_o rfl
theorem m7_90 : M7 90 [l0, .val (.int v), l2, l3] st H Q = M7 91 [l0, .val (.int v), l2, l3] (.int v :: st) H Q := w_x (show decode kb7 90 = .ok (.iload_n 1, 1) from by decide +kernel) rfl
theorem m7_91 : M7 91 [l0, l1, l2, .val (.int v)] st H Q = M7 92 [l0, l1, l2, .val (.int v)] (.int v :: st) H Q := w_x (show decode kb7 91 = .ok (.iload_n 3, 1) from by decide +kernel) rfl
theorem m7_92  : M7 92 ls (.int v :: .int j :: .ref ((b + 1) + 11) :: st) (put (b + 1) pre s A post) Q = (inB j (A 10) ∧ M7 93 ls st (put (b + 1) pre s (ou A 10 (setA (A 10) j v)) post) Q) := w_ist (show decode kb7 92 = .ok (.iastore, 1) from by decide +kernel) rfl put_a10 (by omega) rfl put_w10
theorem m7_93 : M7 93 ls st H Q = M7 94 ls (.int 0 :: st) H Q := w_con (show decode kb7 93 = .ok (.iconst 0, 1) from by decide +kernel) rfl (by decide)
theorem m7_94 : M7 94 ls (.int z :: st) H Q = Q (some (.int z)) H := w_iret (show decode kb7 94 = .ok (.ireturn, 1) from by decide +kernel) rfl
theorem m8_0 : M8 0 ls st H Q = M8 1 ls (.int 0 :: st) H Q := w_con (show decode kb8 0 = .ok (.iconst 0, 1) from by decide +kernel) rfl (by decide)
theorem m8_1u : M8 1 [l0, l1, l2, .unset, l4, l5] ((.int v) :: st) H Q = M8 2 [l0, l1, l2, .val (.int v), l4, l5] st H Q := w_st (i := 3) (p := isI) (show decode kb8 1 = .ok (.istore_n 3, 1) from by decide +kernel) rfl rfl rfl rfl rfl rfl
theorem m8_2 : M8 2 [l0, l1, l2, .val (.int v), l4, l5] st H Q = M8 3 [l0, l1, l2, .val (.int v), l4, l5] (.int v :: st) H Q := w_x (show decode kb8 2 = .ok (.iload_n 3, 1) from by decide +kernel) rfl
theorem m8_3 : M8 3 ls st H Q = M8 4 ls (.int 4 :: st) H Q := w_con (show decode kb8 3 = .ok (.iconst 4, 1) from by decide +kernel) rfl (by decide)
theorem m8_4 : M8 4 ls (.int y :: .int x :: st) H Q = if x < y then M8 7 ls st H Q else M8 56 ls st H Q := w_icmpN (show decode kb8 4 = .ok (.if_icmp .ge 52, 3) from by decide +kernel) (i_ge x y) rfl
theorem m8_7 : M8 7 [.val (.ref r), l1, l2, l3, l4, l5] st H Q = M8 8 [.val (.ref r), l1, l2, l3, l4, l5] (.ref r :: st) H Q := w_x (show decode kb8 7 = .ok (.aload_n 0, 1) from by decide +kernel) rfl
theorem m8_8 : M8 8 ls (.ref (b + 1) :: st) (put (b + 1) pre s A post) Q = M8 11 ls (.ref ((b + 1) + 11) :: st) (put (b + 1) pre s A post) Q := w_get (show decode kb8 8 = .ok (.getfield 40, 3) from by decide +kernel) gf_40 put_o rfl
theorem m8_11 : M8 11 [l0, l1, l2, .val (.int v), l4, l5] st H Q = M8 12 [l0, l1, l2, .val (.int v), l4, l5] (.int v :: st) H Q := w_x (show decode kb8 11 = .ok (.iload_n 3, 1) from by decide +kernel) rfl
theorem m8_12  : M8 12 ls (.int j :: .ref ((b + 1) + 11) :: st) (put (b + 1) pre s A post) Q = (inB j (A 10) ∧ M8 13 ls (.int (getA (A 10) j) :: st) (put (b + 1) pre s A post) Q) := w_ild (show decode kb8 12 = .ok (.iaload, 1) from by decide +kernel) rfl put_a10
theorem m8_13u : M8 13 [l0, l1, l2, l3, .unset, l5] ((.int v) :: st) H Q = M8 15 [l0, l1, l2, l3, .val (.int v), l5] st H Q := w_st (i := 4) (p := isI) (show decode kb8 13 = .ok (.istore 4, 2) from by decide +kernel) rfl rfl rfl rfl rfl rfl
theorem m8_13i : M8 13 [l0, l1, l2, l3, .val (.int z), l5] ((.int v) :: st) H Q = M8 15 [l0, l1, l2, l3, .val (.int v), l5] st H Q := w_st (i := 4) (p := isI) (show decode kb8 13 = .ok (.istore 4, 2) from by decide +kernel) rfl rfl rfl rfl rfl rfl
theorem m8_13r : M8 13 [l0, l1, l2, l3, .val (.ref q), l5] ((.int v) :: st) H Q = M8 15 [l0, l1, l2, l3, .val (.int v), l5] st H Q := w_st (i := 4) (p := isI) (show decode kb8 13 = .ok (.istore 4, 2) from by decide +kernel) rfl rfl rfl rfl rfl rfl
theorem m8_13g (h : okS l4) : M8 13 [l0, l1, l2, l3, l4, l5] ((.int v) :: st) H Q = M8 15 [l0, l1, l2, l3, .val (.int v), l5] st H Q := by rcases h with rfl | ⟨z, rfl⟩ <;> first | exact m8_13u | exact m8_13i
theorem m8_15 : M8 15 [l0, l1, l2, l3, .val (.int v), l5] st H Q = M8 17 [l0, l1, l2, l3, .val (.int v), l5] (.int v :: st) H Q := w_x (show decode kb8 15 = .ok (.iload 4, 2) from by decide +kernel) rfl
theorem m8_17 : M8 17 ls (.int x :: st) H Q = if 0 < x then M8 23 ls st H Q else M8 20 ls st H Q := w_if (show decode kb8 17 = .ok (.ifCond .gt 6, 3) from by decide +kernel) (z_gt x) rfl
theorem m8_20 : M8 20 ls st H Q = M8 50 ls st H Q := w_x (show decode kb8 20 = .ok (.goto 30, 3) from by decide +kernel) rfl
theorem m8_23 : M8 23 [.val (.ref r), l1, l2, l3, l4, l5] st H Q = M8 24 [.val (.ref r), l1, l2, l3, l4, l5] (.ref r :: st) H Q := w_x (show decode kb8 23 = .ok (.aload_n 0, 1) from by decide +kernel) rfl
theorem m8_24 : M8 24 ls (.ref (b + 1) :: st) (put (b + 1) pre s A post) Q = M8 27 ls (.ref ((b + 1) + 10) :: st) (put (b + 1) pre s A post) Q := w_get (show decode kb8 24 = .ok (.getfield 37, 3) from by decide +kernel) gf_37 put_o rfl
theorem m8_27 : M8 27 [l0, l1, l2, .val (.int v), l4, l5] st H Q = M8 28 [l0, l1, l2, .val (.int v), l4, l5] (.int v :: st) H Q := w_x (show decode kb8 27 = .ok (.iload_n 3, 1) from by decide +kernel) rfl
theorem m8_28  : M8 28 ls (.int j :: .ref ((b + 1) + 10) :: st) (put (b + 1) pre s A post) Q = (inB j (A 9) ∧ M8 29 ls (.int (getA (A 9) j) :: st) (put (b + 1) pre s A post) Q) := w_ild (show decode kb8 28 = .ok (.iaload, 1) from by decide +kernel) rfl put_a9
theorem m8_29u : M8 29 [l0, l1, l2, l3, l4, .unset] ((.int v) :: st) H Q = M8 31 [l0, l1, l2, l3, l4, .val (.int v)] st H Q := w_st (i := 5) (p := isI) (show decode kb8 29 = .ok (.istore 5, 2) from by decide +kernel) rfl rfl rfl rfl rfl rfl
theorem m8_29i : M8 29 [l0, l1, l2, l3, l4, .val (.int z)] ((.int v) :: st) H Q = M8 31 [l0, l1, l2, l3, l4, .val (.int v)] st H Q := w_st (i := 5) (p := isI) (show decode kb8 29 = .ok (.istore 5, 2) from by decide +kernel) rfl rfl rfl rfl rfl rfl
theorem m8_29r : M8 29 [l0, l1, l2, l3, l4, .val (.ref q)] ((.int v) :: st) H Q = M8 31 [l0, l1, l2, l3, l4, .val (.int v)] st H Q := w_st (i := 5) (p := isI) (show decode kb8 29 = .ok (.istore 5, 2) from by decide +kernel) rfl rfl rfl rfl rfl rfl
theorem m8_29g (h : okS l5) : M8 29 [l0, l1, l2, l3, l4, l5] ((.int v) :: st) H Q = M8 31 [l0, l1, l2, l3, l4, .val (.int v)] st H Q := by rcases h with rfl | ⟨z, rfl⟩ <;> first | exact m8_29u | exact m8_29i
theorem m8_31 : M8 31 [l0, .val (.int v), l2, l3, l4, l5] st H Q = M8 32 [l0, .val (.int v), l2, l3, l4, l5] (.int v :: st) H Q := w_x (show decode kb8 31 = .ok (.iload_n 1, 1) from by decide +kernel) rfl
theorem m8_32 : M8 32 [l0, l1, l2, l3, l4, .val (.int v)] st H Q = M8 34 [l0, l1, l2, l3, l4, .val (.int v)] (.int v :: st) H Q := w_x (show decode kb8 32 = .ok (.iload 5, 2) from by decide +kernel) rfl
theorem m8_34 : M8 34 [l0, l1, l2, l3, .val (.int v), l5] st H Q = M8 36 [l0, l1, l2, l3, .val (.int v), l5] (.int v :: st) H Q := w_x (show decode kb8 34 = .ok (.iload 4, 2) from by decide +kernel) rfl
theorem m8_36 : M8 36 ls (.int y :: .int x :: st) H Q = M8 37 ls (.int (x + y) :: st) H Q := w_x (show decode kb8 36 = .ok (.iadd, 1) from by decide +kernel) rfl
theorem m8_37 : M8 37 ls (.int y :: .int x :: st) H Q = if x < y then M8 40 ls st H Q else M8 50 ls st H Q := w_icmpN (show decode kb8 37 = .ok (.if_icmp .ge 13, 3) from by decide +kernel) (i_ge x y) rfl
theorem m8_40 : M8 40 [l0, l1, l2, l3, l4, .val (.int v)] st H Q = M8 42 [l0, l1, l2, l3, l4, .val (.int v)] (.int v :: st) H Q := w_x (show decode kb8 40 = .ok (.iload 5, 2) from by decide +kernel) rfl
theorem m8_42 : M8 42 [l0, .val (.int v), l2, l3, l4, l5] st H Q = M8 43 [l0, .val (.int v), l2, l3, l4, l5] (.int v :: st) H Q := w_x (show decode kb8 42 = .ok (.iload_n 1, 1) from by decide +kernel) rfl
theorem m8_43 : M8 43 [l0, l1, .val (.int v), l3, l4, l5] st H Q = M8 44 [l0, l1, .val (.int v), l3, l4, l5] (.int v :: st) H Q := w_x (show decode kb8 43 = .ok (.iload_n 2, 1) from by decide +kernel) rfl
theorem m8_44 : M8 44 ls (.int y :: .int x :: st) H Q = M8 45 ls (.int (x + y) :: st) H Q := w_x (show decode kb8 44 = .ok (.iadd, 1) from by decide +kernel) rfl
theorem m8_45 : M8 45 ls (.int y :: .int x :: st) H Q = if x < y then M8 48 ls st H Q else M8 50 ls st H Q := w_icmpN (show decode kb8 45 = .ok (.if_icmp .ge 5, 3) from by decide +kernel) (i_ge x y) rfl
theorem m8_48 : M8 48 ls st H Q = M8 49 ls (.int 1 :: st) H Q := w_con (show decode kb8 48 = .ok (.iconst 1, 1) from by decide +kernel) rfl (by decide)
theorem m8_49 : M8 49 ls (.int z :: st) H Q = Q (some (.int (nar .boolean z))) H := w_iretN (show decode kb8 49 = .ok (.ireturn, 1) from by decide +kernel) rfl (by simp)
theorem m8_50 : M8 50 [l0, l1, l2, .val (.int v), l4, l5] st H Q = M8 53 [l0, l1, l2, .val (.int (v + 1)), l4, l5] st H Q := w_iinc (show decode kb8 50 = .ok (.iinc 3 1, 3) from by decide +kernel) rfl (by decide) rfl
theorem m8_53 : M8 53 ls st H Q = M8 2 ls st H Q := w_x (show decode kb8 53 = .ok (.goto (-51), 3) from by decide +kernel) rfl
theorem m8_56 : M8 56 ls st H Q = M8 57 ls (.int 0 :: st) H Q := w_con (show decode kb8 56 = .ok (.iconst 0, 1) from by decide +kernel) rfl (by decide)
theorem m8_57 : M8 57 ls (.int z :: st) H Q = Q (some (.int (nar .boolean z))) H := w_iretN (show decode kb8 57 = .ok (.ireturn, 1) from by decide +kernel) rfl (by simp)
theorem m9_0 : M9 0 [.val (.ref r), l1, l2, l3] st H Q = M9 1 [.val (.ref r), l1, l2, l3] (.ref r :: st) H Q := w_x (show decode kb9 0 = .ok (.aload_n 0, 1) from by decide +kernel) rfl
theorem m9_1 : M9 1 ls (.ref (b + 1) :: st) (put (b + 1) pre s A post) Q = M9 4 ls (.int (s 4) :: st) (put (b + 1) pre s A post) Q := w_get (show decode kb9 1 = .ok (.getfield 78, 3) from by decide +kernel) gf_78 put_o rfl
theorem m9_4 : M9 4 ls (.int x :: st) H Q = if x = 0 then M9 7 ls st H Q else M9 10 ls st H Q := w_ifN (show decode kb9 4 = .ok (.ifCond .ne 6, 3) from by decide +kernel) (z_ne x) rfl
theorem m9_7 : M9 7 ls st H Q = M9 9 ls (.int (-4) :: st) H Q := w_con (show decode kb9 7 = .ok (.bipush (-4), 2) from by decide +kernel) rfl (by decide)
theorem m9_9 : M9 9 ls (.int z :: st) H Q = Q (some (.int z)) H := w_iret (show decode kb9 9 = .ok (.ireturn, 1) from by decide +kernel) rfl
theorem m9_10 : M9 10 [.val (.ref r), l1, l2, l3] st H Q = M9 11 [.val (.ref r), l1, l2, l3] (.ref r :: st) H Q := w_x (show decode kb9 10 = .ok (.aload_n 0, 1) from by decide +kernel) rfl
theorem m9_11 : M9 11 ls (.ref (b + 1) :: st) (put (b + 1) pre s A post) Q = M9 14 ls (.int (s 1) :: st) (put (b + 1) pre s A post) Q := w_get (show decode kb9 11 = .ok (.getfield 75, 3) from by decide +kernel) gf_75 put_o rfl
theorem m9_14u : M9 14 [l0, .unset, l2, l3] ((.int v) :: st) H Q = M9 15 [l0, .val (.int v), l2, l3] st H Q := w_st (i := 1) (p := isI) (show decode kb9 14 = .ok (.istore_n 1, 1) from by decide +kernel) rfl rfl rfl rfl rfl rfl
theorem m9_15 : M9 15 [l0, .val (.int v), l2, l3] st H Q = M9 16 [l0, .val (.int v), l2, l3] (.int v :: st) H Q := w_x (show decode kb9 15 = .ok (.iload_n 1, 1) from by decide +kernel) rfl
theorem m9_16 : M9 16 ls st H Q = M9 18 ls (.int 8 :: st) H Q := w_con (show decode kb9 16 = .ok (.bipush 8, 2) from by decide +kernel) rfl (by decide)
theorem m9_18 : M9 18 ls (.int y :: .int x :: st) H Q = if x < y then M9 28 ls st H Q else M9 21 ls st H Q := w_icmp (show decode kb9 18 = .ok (.if_icmp .lt 10, 3) from by decide +kernel) (i_lt x y) rfl
theorem m9_21 : M9 21 [.val (.ref r), l1, l2, l3] st H Q = M9 22 [.val (.ref r), l1, l2, l3] (.ref r :: st) H Q := w_x (show decode kb9 21 = .ok (.aload_n 0, 1) from by decide +kernel) rfl
theorem m9_22 : M9 22 ls st H Q = M9 23 ls (.int 0 :: st) H Q := w_con (show decode kb9 22 = .ok (.iconst 0, 1) from by decide +kernel) rfl (by decide)
theorem pf9_78 : pfR tables_1 y9.cls y9.name 78 = some ("ResponseTimeGate", 22, .boolean) := by decide +kernel
theorem m9_23 : M9 23 ls (.int v :: .ref (b + 1) :: st) (put (b + 1) pre s A post) Q = M9 26 ls st (put (b + 1) pre (ou s 4 (nar .boolean v)) A post) Q := w_put (show decode kb9 23 = .ok (.putfield 78, 3) from by decide +kernel) pf9_78 put_o (Nat.succ_le_succ (Nat.zero_le _)) (by show 22 < 31; omega) rfl put_s4
theorem m9_26 : M9 26 ls st H Q = M9 27 ls (.int (-1) :: st) H Q := w_con (show decode kb9 26 = .ok (.iconst (-1), 1) from by decide +kernel) rfl (by decide)
theorem m9_27 : M9 27 ls (.int z :: st) H Q = Q (some (.int z)) H := w_iret (show decode kb9 27 = .ok (.ireturn, 1) from by decide +kernel) rfl
theorem m9_28 : M9 28 [.val (.ref r), l1, l2, l3] st H Q = M9 29 [.val (.ref r), l1, l2, l3] (.ref r :: st) H Q := w_x (show decode kb9 28 = .ok (.aload_n 0, 1) from by decide +kernel) rfl
theorem m9_29 : M9 29 [.val (.ref r), l1, l2, l3] st H Q = M9 30 [.val (.ref r), l1, l2, l3] (.ref r :: st) H Q := w_x (show decode kb9 29 = .ok (.aload_n 0, 1) from by decide +kernel) rfl
theorem m9_30 : M9 30 ls (.ref (b + 1) :: st) (put (b + 1) pre s A post) Q = M9 33 ls (.int (s 2) :: st) (put (b + 1) pre s A post) Q := w_get (show decode kb9 30 = .ok (.getfield 85, 3) from by decide +kernel) gf_85 put_o rfl
theorem m9_33 : M9 33 [.val (.ref r), l1, l2, l3] st H Q = M9 34 [.val (.ref r), l1, l2, l3] (.ref r :: st) H Q := w_x (show decode kb9 33 = .ok (.aload_n 0, 1) from by decide +kernel) rfl
theorem m9_34 : M9 34 ls (.ref (b + 1) :: st) (put (b + 1) pre s A post) Q = M9 37 ls (.int (s 5) :: st) (put (b + 1) pre s A post) Q := w_get (show decode kb9 34 = .ok (.getfield 95, 3) from by decide +kernel) gf_95 put_o rfl
theorem cr9_111 : vR tables_1 dn y9 111 = some (true, y10, prog_1_method_10_code, 4, (some .int), 2, 22) := pR_of (cR_of (by decide +kernel) rc_10 dn_10 dn_9 (sig := ⟨[.int, .int], some .int⟩) (by decide +kernel) (by decide +kernel) rfl rfl) (by decide +kernel) (by decide +kernel)
theorem m9_37 (a0 : Int32) (a1 : Int32) : M9 37 ls [.int a1, .int a0, .ref (b + 1)] (put (b + 1) pre s A post) Q = M10 0 [.val (.ref (b + 1)), .val (.int a0), .val (.int a1), .unset] [] (put (b + 1) pre s A post) (fun v H1 => M9 40 ls (v.toList ++ []) H1 Q) := w_virt (as := [.int a1, .int a0]) (rest := []) (a := (b + 1)) (show decode kb9 37 = .ok (.invokevirtual 111, 3) from by decide +kernel) cr9_111 put_o rfl rfl (Nat.le_of_ble_eq_true rfl) (by show 3 ≤ 4; omega) rfl
theorem m9_40u : M9 40 [l0, l1, .unset, l3] ((.int v) :: st) H Q = M9 41 [l0, l1, .val (.int v), l3] st H Q := w_st (i := 2) (p := isI) (show decode kb9 40 = .ok (.istore_n 2, 1) from by decide +kernel) rfl rfl rfl rfl rfl rfl
theorem m9_41 : M9 41 [l0, l1, .val (.int v), l3] st H Q = M9 42 [l0, l1, .val (.int v), l3] (.int v :: st) H Q := w_x (show decode kb9 41 = .ok (.iload_n 2, 1) from by decide +kernel) rfl
theorem m9_42 : M9 42 ls st H Q = M9 45 ls (.int 840 :: st) H Q := w_con (show decode kb9 42 = .ok (.sipush 840, 3) from by decide +kernel) rfl (by decide)
theorem m9_45 : M9 45 ls (.int y :: .int x :: st) H Q = if y < x then M9 48 ls st H Q else M9 61 ls st H Q := w_icmpN (show decode kb9 45 = .ok (.if_icmp .le 16, 3) from by decide +kernel) (i_le x y) rfl
theorem m9_48 : M9 48 [.val (.ref r), l1, l2, l3] st H Q = M9 49 [.val (.ref r), l1, l2, l3] (.ref r :: st) H Q := w_x (show decode kb9 48 = .ok (.aload_n 0, 1) from by decide +kernel) rfl
theorem m9_49 : M9 49 ls st H Q = M9 50 ls (.int 0 :: st) H Q := w_con (show decode kb9 49 = .ok (.iconst 0, 1) from by decide +kernel) rfl (by decide)
theorem m9_50 : M9 50 ls (.int v :: .ref (b + 1) :: st) (put (b + 1) pre s A post) Q = M9 53 ls st (put (b + 1) pre (ou s 4 (nar .boolean v)) A post) Q := w_put (show decode kb9 50 = .ok (.putfield 78, 3) from by decide +kernel) pf9_78 put_o (Nat.succ_le_succ (Nat.zero_le _)) (by show 22 < 31; omega) rfl put_s4
theorem m9_53 : M9 53 [.val (.ref r), l1, l2, l3] st H Q = M9 54 [.val (.ref r), l1, l2, l3] (.ref r :: st) H Q := w_x (show decode kb9 53 = .ok (.aload_n 0, 1) from by decide +kernel) rfl
theorem m9_54 : M9 54 ls st H Q = M9 55 ls (.int (-1) :: st) H Q := w_con (show decode kb9 54 = .ok (.iconst (-1), 1) from by decide +kernel) rfl (by decide)
theorem pf9_82 : pfR tables_1 y9.cls y9.name 82 = some ("ResponseTimeGate", 23, .int) := by decide +kernel
theorem m9_55 : M9 55 ls (.int v :: .ref (b + 1) :: st) (put (b + 1) pre s A post) Q = M9 58 ls st (put (b + 1) pre (ou s 3 v) A post) Q := w_put (show decode kb9 55 = .ok (.putfield 82, 3) from by decide +kernel) pf9_82 put_o (Nat.succ_le_succ (Nat.zero_le _)) (by show 23 < 31; omega) rfl put_s3
theorem m9_58 : M9 58 ls st H Q = M9 60 ls (.int (-6) :: st) H Q := w_con (show decode kb9 58 = .ok (.bipush (-6), 2) from by decide +kernel) rfl (by decide)
theorem m9_60 : M9 60 ls (.int z :: st) H Q = Q (some (.int z)) H := w_iret (show decode kb9 60 = .ok (.ireturn, 1) from by decide +kernel) rfl
theorem m9_61 : M9 61 [.val (.ref r), l1, l2, l3] st H Q = M9 62 [.val (.ref r), l1, l2, l3] (.ref r :: st) H Q := w_x (show decode kb9 61 = .ok (.aload_n 0, 1) from by decide +kernel) rfl
theorem m9_62 : M9 62 [l0, .val (.int v), l2, l3] st H Q = M9 63 [l0, .val (.int v), l2, l3] (.int v :: st) H Q := w_x (show decode kb9 62 = .ok (.iload_n 1, 1) from by decide +kernel) rfl
theorem cr9_115 : vR tables_1 dn y9 115 = some (true, y12, prog_1_method_7_code, 3, none, 1, 41) := pR_of (cR_of (by decide +kernel) rc_12 dn_12 dn_9 (sig := ⟨[.int], none⟩) (by decide +kernel) (by decide +kernel) rfl rfl) (by decide +kernel) (by decide +kernel)
theorem m9_63 (a0 : Int32) : M9 63 ls [.int a0, .ref (b + 1)] (put (b + 1) pre s A post) Q = M12 0 [.val (.ref (b + 1)), .val (.int a0), .unset] [] (put (b + 1) pre s A post) (fun v H1 => M9 66 ls (v.toList ++ []) H1 Q) := w_virt (as := [.int a0]) (rest := []) (a := (b + 1)) (show decode kb9 63 = .ok (.invokevirtual 115, 3) from by decide +kernel) cr9_115 put_o rfl rfl (Nat.le_of_ble_eq_true rfl) (by show 2 ≤ 3; omega) rfl
theorem m9_66 : M9 66 [.val (.ref r), l1, l2, l3] st H Q = M9 67 [.val (.ref r), l1, l2, l3] (.ref r :: st) H Q := w_x (show decode kb9 66 = .ok (.aload_n 0, 1) from by decide +kernel) rfl
theorem m9_67 : M9 67 [l0, .val (.int v), l2, l3] st H Q = M9 68 [l0, .val (.int v), l2, l3] (.int v :: st) H Q := w_x (show decode kb9 67 = .ok (.iload_n 1, 1) from by decide +kernel) rfl
theorem m9_68 : M9 68 ls st H Q = M9 69 ls (.int 1 :: st) H Q := w_con (show decode kb9 68 = .ok (.iconst 1, 1) from by decide +kernel) rfl (by decide)
theorem m9_69 : M9 69 ls (.int y :: .int x :: st) H Q = M9 70 ls (.int (x + y) :: st) H Q := w_x (show decode kb9 69 = .ok (.iadd, 1) from by decide +kernel) rfl
theorem cr9_119 : vR tables_1 dn y9 119 = some (true, y13, prog_1_method_11_code, 5, (some .int), 1, 0) := pR_of (cR_of (by decide +kernel) rc_13 dn_13 dn_9 (sig := ⟨[.int], some .int⟩) (by decide +kernel) (by decide +kernel) rfl rfl) (by decide +kernel) (by decide +kernel)
theorem m9_70 (a0 : Int32) : M9 70 ls [.int a0, .ref (b + 1)] (put (b + 1) pre s A post) Q = M13 0 [.val (.ref (b + 1)), .val (.int a0), .unset, .unset, .unset] [] (put (b + 1) pre s A post) (fun v H1 => M9 73 ls (v.toList ++ []) H1 Q) := w_virt (as := [.int a0]) (rest := []) (a := (b + 1)) (show decode kb9 70 = .ok (.invokevirtual 119, 3) from by decide +kernel) cr9_119 put_o rfl rfl (Nat.le_of_ble_eq_true rfl) (by show 2 ≤ 5; omega) rfl
theorem m9_73u : M9 73 [l0, l1, l2, .unset] ((.int v) :: st) H Q = M9 74 [l0, l1, l2, .val (.int v)] st H Q := w_st (i := 3) (p := isI) (show decode kb9 73 = .ok (.istore_n 3, 1) from by decide +kernel) rfl rfl rfl rfl rfl rfl
theorem m9_74 : M9 74 [l0, l1, l2, .val (.int v)] st H Q = M9 75 [l0, l1, l2, .val (.int v)] (.int v :: st) H Q := w_x (show decode kb9 74 = .ok (.iload_n 3, 1) from by decide +kernel) rfl
theorem m9_75 : M9 75 ls (.int x :: st) H Q = if x < 0 then M9 91 ls st H Q else M9 78 ls st H Q := w_if (show decode kb9 75 = .ok (.ifCond .lt 16, 3) from by decide +kernel) (z_lt x) rfl
theorem m9_78 : M9 78 [.val (.ref r), l1, l2, l3] st H Q = M9 79 [.val (.ref r), l1, l2, l3] (.ref r :: st) H Q := w_x (show decode kb9 78 = .ok (.aload_n 0, 1) from by decide +kernel) rfl
theorem m9_79 : M9 79 ls st H Q = M9 80 ls (.int 0 :: st) H Q := w_con (show decode kb9 79 = .ok (.iconst 0, 1) from by decide +kernel) rfl (by decide)
theorem m9_80 : M9 80 ls (.int v :: .ref (b + 1) :: st) (put (b + 1) pre s A post) Q = M9 83 ls st (put (b + 1) pre (ou s 4 (nar .boolean v)) A post) Q := w_put (show decode kb9 80 = .ok (.putfield 78, 3) from by decide +kernel) pf9_78 put_o (Nat.succ_le_succ (Nat.zero_le _)) (by show 22 < 31; omega) rfl put_s4
theorem m9_83 : M9 83 [.val (.ref r), l1, l2, l3] st H Q = M9 84 [.val (.ref r), l1, l2, l3] (.ref r :: st) H Q := w_x (show decode kb9 83 = .ok (.aload_n 0, 1) from by decide +kernel) rfl
theorem m9_84 : M9 84 [l0, l1, l2, .val (.int v)] st H Q = M9 85 [l0, l1, l2, .val (.int v)] (.int v :: st) H Q := w_x (show decode kb9 84 = .ok (.iload_n 3, 1) from by decide +kernel) rfl
theorem m9_85 : M9 85 ls (.int v :: .ref (b + 1) :: st) (put (b + 1) pre s A post) Q = M9 88 ls st (put (b + 1) pre (ou s 3 v) A post) Q := w_put (show decode kb9 85 = .ok (.putfield 82, 3) from by decide +kernel) pf9_82 put_o (Nat.succ_le_succ (Nat.zero_le _)) (by show 23 < 31; omega) rfl put_s3
theorem m9_88 : M9 88 ls st H Q = M9 90 ls (.int (-7) :: st) H Q := w_con (show decode kb9 88 = .ok (.bipush (-7), 2) from by decide +kernel) rfl (by decide)
theorem m9_90 : M9 90 ls (.int z :: st) H Q = Q (some (.int z)) H := w_iret (show decode kb9 90 = .ok (.ireturn, 1) from by decide +kernel) rfl
theorem m9_91 : M9 91 [.val (.ref r), l1, l2, l3] st H Q = M9 92 [.val (.ref r), l1, l2, l3] (.ref r :: st) H Q := w_x (show decode kb9 91 = .ok (.aload_n 0, 1) from by decide +kernel) rfl
theorem m9_92 : M9 92 [l0, .val (.int v), l2, l3] st H Q = M9 93 [l0, .val (.int v), l2, l3] (.int v :: st) H Q := w_x (show decode kb9 92 = .ok (.iload_n 1, 1) from by decide +kernel) rfl
theorem m9_93 : M9 93 ls st H Q = M9 94 ls (.int 1 :: st) H Q := w_con (show decode kb9 93 = .ok (.iconst 1, 1) from by decide +kernel) rfl (by decide)
theorem m9_94 : M9 94 ls (.int y :: .int x :: st) H Q = M9 95 ls (.int (x + y) :: st) H Q := w_x (show decode kb9 94 = .ok (.iadd, 1) from by decide +kernel) rfl
theorem cr9_123 : vR tables_1 dn y9 123 = some (true, y18, prog_1_method_8_code, 3, none, 1, 41) := pR_of (cR_of (by decide +kernel) rc_18 dn_18 dn_9 (sig := ⟨[.int], none⟩) (by decide +kernel) (by decide +kernel) rfl rfl) (by decide +kernel) (by decide +kernel)
theorem m9_95 (a0 : Int32) : M9 95 ls [.int a0, .ref (b + 1)] (put (b + 1) pre s A post) Q = M18 0 [.val (.ref (b + 1)), .val (.int a0), .unset] [] (put (b + 1) pre s A post) (fun v H1 => M9 98 ls (v.toList ++ []) H1 Q) := w_virt (as := [.int a0]) (rest := []) (a := (b + 1)) (show decode kb9 95 = .ok (.invokevirtual 123, 3) from by decide +kernel) cr9_123 put_o rfl rfl (Nat.le_of_ble_eq_true rfl) (by show 2 ≤ 3; omega) rfl
theorem m9_98 : M9 98 [.val (.ref r), l1, l2, l3] st H Q = M9 99 [.val (.ref r), l1, l2, l3] (.ref r :: st) H Q := w_x (show decode kb9 98 = .ok (.aload_n 0, 1) from by decide +kernel) rfl
theorem m9_99 : M9 99 [l0, .val (.int v), l2, l3] st H Q = M9 100 [l0, .val (.int v), l2, l3] (.int v :: st) H Q := w_x (show decode kb9 99 = .ok (.iload_n 1, 1) from by decide +kernel) rfl
theorem m9_100 : M9 100 ls st H Q = M9 101 ls (.int 1 :: st) H Q := w_con (show decode kb9 100 = .ok (.iconst 1, 1) from by decide +kernel) rfl (by decide)
theorem m9_101 : M9 101 ls (.int y :: .int x :: st) H Q = M9 102 ls (.int (x + y) :: st) H Q := w_x (show decode kb9 101 = .ok (.iadd, 1) from by decide +kernel) rfl
theorem pf9_75 : pfR tables_1 y9.cls y9.name 75 = some ("ResponseTimeGate", 21, .int) := by decide +kernel
theorem m9_102 : M9 102 ls (.int v :: .ref (b + 1) :: st) (put (b + 1) pre s A post) Q = M9 105 ls st (put (b + 1) pre (ou s 1 v) A post) Q := w_put (show decode kb9 102 = .ok (.putfield 75, 3) from by decide +kernel) pf9_75 put_o (Nat.succ_le_succ (Nat.zero_le _)) (by show 21 < 31; omega) rfl put_s1
theorem m9_105 : M9 105 [.val (.ref r), l1, l2, l3] st H Q = M9 106 [.val (.ref r), l1, l2, l3] (.ref r :: st) H Q := w_x (show decode kb9 105 = .ok (.aload_n 0, 1) from by decide +kernel) rfl
theorem m9_106 : M9 106 ls st H Q = M9 107 ls (.int 0 :: st) H Q := w_con (show decode kb9 106 = .ok (.iconst 0, 1) from by decide +kernel) rfl (by decide)
theorem m9_107 : M9 107 ls (.int v :: .ref (b + 1) :: st) (put (b + 1) pre s A post) Q = M9 110 ls st (put (b + 1) pre (ou s 4 (nar .boolean v)) A post) Q := w_put (show decode kb9 107 = .ok (.putfield 78, 3) from by decide +kernel) pf9_78 put_o (Nat.succ_le_succ (Nat.zero_le _)) (by show 22 < 31; omega) rfl put_s4
theorem m9_110 : M9 110 [.val (.ref r), l1, l2, l3] st H Q = M9 111 [.val (.ref r), l1, l2, l3] (.ref r :: st) H Q := w_x (show decode kb9 110 = .ok (.aload_n 0, 1) from by decide +kernel) rfl
theorem m9_111 : M9 111 [l0, l1, .val (.int v), l3] st H Q = M9 112 [l0, l1, .val (.int v), l3] (.int v :: st) H Q := w_x (show decode kb9 111 = .ok (.iload_n 2, 1) from by decide +kernel) rfl
theorem pf9_85 : pfR tables_1 y9.cls y9.name 85 = some ("ResponseTimeGate", 24, .int) := by decide +kernel
theorem m9_112 : M9 112 ls (.int v :: .ref (b + 1) :: st) (put (b + 1) pre s A post) Q = M9 115 ls st (put (b + 1) pre (ou s 2 v) A post) Q := w_put (show decode kb9 112 = .ok (.putfield 85, 3) from by decide +kernel) pf9_85 put_o (Nat.succ_le_succ (Nat.zero_le _)) (by show 24 < 31; omega) rfl put_s2
theorem m9_115 : M9 115 [.val (.ref r), l1, l2, l3] st H Q = M9 116 [.val (.ref r), l1, l2, l3] (.ref r :: st) H Q := w_x (show decode kb9 115 = .ok (.aload_n 0, 1) from by decide +kernel) rfl
theorem m9_116 : M9 116 ls st H Q = M9 117 ls (.int (-1) :: st) H Q := w_con (show decode kb9 116 = .ok (.iconst (-1), 1) from by decide +kernel) rfl (by decide)
theorem m9_117 : M9 117 ls (.int v :: .ref (b + 1) :: st) (put (b + 1) pre s A post) Q = M9 120 ls st (put (b + 1) pre (ou s 3 v) A post) Q := w_put (show decode kb9 117 = .ok (.putfield 82, 3) from by decide +kernel) pf9_82 put_o (Nat.succ_le_succ (Nat.zero_le _)) (by show 23 < 31; omega) rfl put_s3
theorem m9_120 : M9 120 [.val (.ref r), l1, l2, l3] st H Q = M9 121 [.val (.ref r), l1, l2, l3] (.ref r :: st) H Q := w_x (show decode kb9 120 = .ok (.aload_n 0, 1) from by decide +kernel) rfl
theorem cr9_88 : vR tables_1 dn y9 88 = some (true, y1, prog_1_method_23_code, 2, none, 0, 42) := pR_of (cR_of (by decide +kernel) rc_1 dn_1 dn_9 (sig := ⟨[], none⟩) (by decide +kernel) (by decide +kernel) rfl rfl) (by decide +kernel) (by decide +kernel)
theorem m9_121 : M9 121 ls [.ref (b + 1)] (put (b + 1) pre s A post) Q = M1 0 [.val (.ref (b + 1)), .unset] [] (put (b + 1) pre s A post) (fun v H1 => M9 124 ls (v.toList ++ []) H1 Q) := w_virt (as := []) (rest := []) (a := (b + 1)) (show decode kb9 121 = .ok (.invokevirtual 88, 3) from by decide +kernel) cr9_88 put_o rfl rfl (Nat.le_of_ble_eq_true rfl) (by show 1 ≤ 2; omega) rfl
theorem m9_124 : M9 124 [l0, .val (.int v), l2, l3] st H Q = M9 125 [l0, .val (.int v), l2, l3] (.int v :: st) H Q := w_x (show decode kb9 124 = .ok (.iload_n 1, 1) from by decide +kernel) rfl
theorem m9_125 : M9 125 ls (.int z :: st) H Q = Q (some (.int z)) H := w_iret (show decode kb9 125 = .ok (.ireturn, 1) from by decide +kernel) rfl
theorem m10_0 : M10 0 [l0, .val (.int v), l2, l3] st H Q = M10 1 [l0, .val (.int v), l2, l3] (.int v :: st) H Q := w_x (show decode kb10 0 = .ok (.iload_n 1, 1) from by decide +kernel) rfl
theorem m10_1 : M10 1 ls st H Q = M10 2 ls (.int 1 :: st) H Q := w_con (show decode kb10 1 = .ok (.iconst 1, 1) from by decide +kernel) rfl (by decide)
theorem m10_2 : M10 2 ls (.int y :: .int x :: st) H Q = if x < y then M10 10 ls st H Q else M10 5 ls st H Q := w_icmp (show decode kb10 2 = .ok (.if_icmp .lt 8, 3) from by decide +kernel) (i_lt x y) rfl
theorem m10_5 : M10 5 [l0, l1, .val (.int v), l3] st H Q = M10 6 [l0, l1, .val (.int v), l3] (.int v :: st) H Q := w_x (show decode kb10 5 = .ok (.iload_n 2, 1) from by decide +kernel) rfl
theorem m10_6 : M10 6 ls st H Q = M10 7 ls (.int 1 :: st) H Q := w_con (show decode kb10 6 = .ok (.iconst 1, 1) from by decide +kernel) rfl (by decide)
theorem m10_7 : M10 7 ls (.int y :: .int x :: st) H Q = if x < y then M10 10 ls st H Q else M10 14 ls st H Q := w_icmpN (show decode kb10 7 = .ok (.if_icmp .ge 7, 3) from by decide +kernel) (i_ge x y) rfl
theorem m10_10 : M10 10 ls st H Q = M10 13 ls (.int 841 :: st) H Q := w_con (show decode kb10 10 = .ok (.sipush 841, 3) from by decide +kernel) rfl (by decide)
theorem m10_13 : M10 13 ls (.int z :: st) H Q = Q (some (.int z)) H := w_iret (show decode kb10 13 = .ok (.ireturn, 1) from by decide +kernel) rfl
theorem m10_14 : M10 14 [.val (.ref r), l1, l2, l3] st H Q = M10 15 [.val (.ref r), l1, l2, l3] (.ref r :: st) H Q := w_x (show decode kb10 14 = .ok (.aload_n 0, 1) from by decide +kernel) rfl
theorem m10_15 : M10 15 [l0, .val (.int v), l2, l3] st H Q = M10 16 [l0, .val (.int v), l2, l3] (.int v :: st) H Q := w_x (show decode kb10 15 = .ok (.iload_n 1, 1) from by decide +kernel) rfl
theorem m10_16 : M10 16 [l0, l1, .val (.int v), l3] st H Q = M10 17 [l0, l1, .val (.int v), l3] (.int v :: st) H Q := w_x (show decode kb10 16 = .ok (.iload_n 2, 1) from by decide +kernel) rfl
theorem cr10_126 : vR tables_1 dn y10 126 = some (true, y11, prog_1_method_9_code, 7, (some .int), 2, 0) := pR_of (cR_of (by decide +kernel) rc_11 dn_11 dn_10 (sig := ⟨[.int, .int], some .int⟩) (by decide +kernel) (by decide +kernel) rfl rfl) (by decide +kernel) (by decide +kernel)
theorem m10_17 (a0 : Int32) (a1 : Int32) : M10 17 ls [.int a1, .int a0, .ref (b + 1)] (put (b + 1) pre s A post) Q = M11 0 [.val (.ref (b + 1)), .val (.int a0), .val (.int a1), .unset, .unset, .unset, .unset] [] (put (b + 1) pre s A post) (fun v H1 => M10 20 ls (v.toList ++ []) H1 Q) := w_virt (as := [.int a1, .int a0]) (rest := []) (a := (b + 1)) (show decode kb10 17 = .ok (.invokevirtual 126, 3) from by decide +kernel) cr10_126 put_o rfl rfl (Nat.le_of_ble_eq_true rfl) (by show 3 ≤ 7; omega) rfl
theorem m10_20u : M10 20 [l0, l1, l2, .unset] ((.int v) :: st) H Q = M10 21 [l0, l1, l2, .val (.int v)] st H Q := w_st (i := 3) (p := isI) (show decode kb10 20 = .ok (.istore_n 3, 1) from by decide +kernel) rfl rfl rfl rfl rfl rfl
theorem m10_21 : M10 21 [l0, l1, l2, .val (.int v)] st H Q = M10 22 [l0, l1, l2, .val (.int v)] (.int v :: st) H Q := w_x (show decode kb10 21 = .ok (.iload_n 3, 1) from by decide +kernel) rfl
theorem m10_22 : M10 22 ls st H Q = M10 23 ls (.int 1 :: st) H Q := w_con (show decode kb10 22 = .ok (.iconst 1, 1) from by decide +kernel) rfl (by decide)
theorem m10_23 : M10 23 ls (.int y :: .int x :: st) H Q = if x < y then M10 26 ls st H Q else M10 30 ls st H Q := w_icmpN (show decode kb10 23 = .ok (.if_icmp .ge 7, 3) from by decide +kernel) (i_ge x y) rfl
theorem m10_26 : M10 26 ls st H Q = M10 29 ls (.int 841 :: st) H Q := w_con (show decode kb10 26 = .ok (.sipush 841, 3) from by decide +kernel) rfl (by decide)
theorem m10_29 : M10 29 ls (.int z :: st) H Q = Q (some (.int z)) H := w_iret (show decode kb10 29 = .ok (.ireturn, 1) from by decide +kernel) rfl
theorem m10_30 : M10 30 [l0, .val (.int v), l2, l3] st H Q = M10 31 [l0, .val (.int v), l2, l3] (.int v :: st) H Q := w_x (show decode kb10 30 = .ok (.iload_n 1, 1) from by decide +kernel) rfl
theorem m10_31 : M10 31 [l0, l1, l2, .val (.int v)] st H Q = M10 32 [l0, l1, l2, .val (.int v)] (.int v :: st) H Q := w_x (show decode kb10 31 = .ok (.iload_n 3, 1) from by decide +kernel) rfl
theorem m10_32 : M10 32 ls (.int y :: .int x :: st) H Q = (y ≠ 0 ∧ M10 33 ls (.int (x / y) :: st) H Q) := w_div (f := fun x y => x / y) (show decode kb10 32 = .ok (.idiv, 1) from by decide +kernel) (fun _ => rfl) rfl rfl
theorem m10_33 : M10 33 [l0, l1, .val (.int v), l3] st H Q = M10 34 [l0, l1, .val (.int v), l3] (.int v :: st) H Q := w_x (show decode kb10 33 = .ok (.iload_n 2, 1) from by decide +kernel) rfl
theorem m10_34 : M10 34 ls (.int y :: .int x :: st) H Q = M10 35 ls (.int (x * y) :: st) H Q := w_x (show decode kb10 34 = .ok (.imul, 1) from by decide +kernel) rfl
theorem m10_35 : M10 35 ls (.int z :: st) H Q = Q (some (.int z)) H := w_iret (show decode kb10 35 = .ok (.ireturn, 1) from by decide +kernel) rfl
theorem m11_0 : M11 0 [l0, .val (.int v), l2, l3, l4, l5, l6] st H Q = M11 1 [l0, .val (.int v), l2, l3, l4, l5, l6] (.int v :: st) H Q := w_x (show decode kb11 0 = .ok (.iload_n 1, 1) from by decide +kernel) rfl
theorem m11_1u : M11 1 [l0, l1, l2, .unset, l4, l5, l6] ((.int v) :: st) H Q = M11 2 [l0, l1, l2, .val (.int v), l4, l5, l6] st H Q := w_st (i := 3) (p := isI) (show decode kb11 1 = .ok (.istore_n 3, 1) from by decide +kernel) rfl rfl rfl rfl rfl rfl
theorem m11_2 : M11 2 [l0, l1, .val (.int v), l3, l4, l5, l6] st H Q = M11 3 [l0, l1, .val (.int v), l3, l4, l5, l6] (.int v :: st) H Q := w_x (show decode kb11 2 = .ok (.iload_n 2, 1) from by decide +kernel) rfl
theorem m11_3u : M11 3 [l0, l1, l2, l3, .unset, l5, l6] ((.int v) :: st) H Q = M11 5 [l0, l1, l2, l3, .val (.int v), l5, l6] st H Q := w_st (i := 4) (p := isI) (show decode kb11 3 = .ok (.istore 4, 2) from by decide +kernel) rfl rfl rfl rfl rfl rfl
theorem m11_5 : M11 5 ls st H Q = M11 6 ls (.int 0 :: st) H Q := w_con (show decode kb11 5 = .ok (.iconst 0, 1) from by decide +kernel) rfl (by decide)
theorem m11_6u : M11 6 [l0, l1, l2, l3, l4, .unset, l6] ((.int v) :: st) H Q = M11 8 [l0, l1, l2, l3, l4, .val (.int v), l6] st H Q := w_st (i := 5) (p := isI) (show decode kb11 6 = .ok (.istore 5, 2) from by decide +kernel) rfl rfl rfl rfl rfl rfl
theorem m11_8 : M11 8 [l0, l1, l2, l3, l4, .val (.int v), l6] st H Q = M11 10 [l0, l1, l2, l3, l4, .val (.int v), l6] (.int v :: st) H Q := w_x (show decode kb11 8 = .ok (.iload 5, 2) from by decide +kernel) rfl
theorem m11_10 : M11 10 ls st H Q = M11 12 ls (.int 64 :: st) H Q := w_con (show decode kb11 10 = .ok (.bipush 64, 2) from by decide +kernel) rfl (by decide)
theorem m11_12 : M11 12 ls (.int y :: .int x :: st) H Q = if x < y then M11 15 ls st H Q else M11 42 ls st H Q := w_icmpN (show decode kb11 12 = .ok (.if_icmp .ge 30, 3) from by decide +kernel) (i_ge x y) rfl
theorem m11_15 : M11 15 [l0, l1, l2, l3, .val (.int v), l5, l6] st H Q = M11 17 [l0, l1, l2, l3, .val (.int v), l5, l6] (.int v :: st) H Q := w_x (show decode kb11 15 = .ok (.iload 4, 2) from by decide +kernel) rfl
theorem m11_17 : M11 17 ls (.int x :: st) H Q = if x = 0 then M11 20 ls st H Q else M11 23 ls st H Q := w_ifN (show decode kb11 17 = .ok (.ifCond .ne 6, 3) from by decide +kernel) (z_ne x) rfl
theorem m11_20 : M11 20 ls st H Q = M11 42 ls st H Q := w_x (show decode kb11 20 = .ok (.goto 22, 3) from by decide +kernel) rfl
theorem m11_23 : M11 23 [l0, l1, l2, .val (.int v), l4, l5, l6] st H Q = M11 24 [l0, l1, l2, .val (.int v), l4, l5, l6] (.int v :: st) H Q := w_x (show decode kb11 23 = .ok (.iload_n 3, 1) from by decide +kernel) rfl
theorem m11_24 : M11 24 [l0, l1, l2, l3, .val (.int v), l5, l6] st H Q = M11 26 [l0, l1, l2, l3, .val (.int v), l5, l6] (.int v :: st) H Q := w_x (show decode kb11 24 = .ok (.iload 4, 2) from by decide +kernel) rfl
theorem m11_26 : M11 26 ls (.int y :: .int x :: st) H Q = (y ≠ 0 ∧ M11 27 ls (.int (x % y) :: st) H Q) := w_div (f := fun x y => x % y) (show decode kb11 26 = .ok (.irem, 1) from by decide +kernel) (fun _ => rfl) rfl rfl
theorem m11_27u : M11 27 [l0, l1, l2, l3, l4, l5, .unset] ((.int v) :: st) H Q = M11 29 [l0, l1, l2, l3, l4, l5, .val (.int v)] st H Q := w_st (i := 6) (p := isI) (show decode kb11 27 = .ok (.istore 6, 2) from by decide +kernel) rfl rfl rfl rfl rfl rfl
theorem m11_27i : M11 27 [l0, l1, l2, l3, l4, l5, .val (.int z)] ((.int v) :: st) H Q = M11 29 [l0, l1, l2, l3, l4, l5, .val (.int v)] st H Q := w_st (i := 6) (p := isI) (show decode kb11 27 = .ok (.istore 6, 2) from by decide +kernel) rfl rfl rfl rfl rfl rfl
theorem m11_27r : M11 27 [l0, l1, l2, l3, l4, l5, .val (.ref q)] ((.int v) :: st) H Q = M11 29 [l0, l1, l2, l3, l4, l5, .val (.int v)] st H Q := w_st (i := 6) (p := isI) (show decode kb11 27 = .ok (.istore 6, 2) from by decide +kernel) rfl rfl rfl rfl rfl rfl
theorem m11_27g (h : okS l6) : M11 27 [l0, l1, l2, l3, l4, l5, l6] ((.int v) :: st) H Q = M11 29 [l0, l1, l2, l3, l4, l5, .val (.int v)] st H Q := by rcases h with rfl | ⟨z, rfl⟩ <;> first | exact m11_27u | exact m11_27i
theorem m11_29 : M11 29 [l0, l1, l2, l3, .val (.int v), l5, l6] st H Q = M11 31 [l0, l1, l2, l3, .val (.int v), l5, l6] (.int v :: st) H Q := w_x (show decode kb11 29 = .ok (.iload 4, 2) from by decide +kernel) rfl
theorem m11_31i : M11 31 [l0, l1, l2, .val (.int z), l4, l5, l6] ((.int v) :: st) H Q = M11 32 [l0, l1, l2, .val (.int v), l4, l5, l6] st H Q := w_st (i := 3) (p := isI) (show decode kb11 31 = .ok (.istore_n 3, 1) from by decide +kernel) rfl rfl rfl rfl rfl rfl
theorem m11_32 : M11 32 [l0, l1, l2, l3, l4, l5, .val (.int v)] st H Q = M11 34 [l0, l1, l2, l3, l4, l5, .val (.int v)] (.int v :: st) H Q := w_x (show decode kb11 32 = .ok (.iload 6, 2) from by decide +kernel) rfl
theorem m11_34i : M11 34 [l0, l1, l2, l3, .val (.int z), l5, l6] ((.int v) :: st) H Q = M11 36 [l0, l1, l2, l3, .val (.int v), l5, l6] st H Q := w_st (i := 4) (p := isI) (show decode kb11 34 = .ok (.istore 4, 2) from by decide +kernel) rfl rfl rfl rfl rfl rfl
theorem m11_36 : M11 36 [l0, l1, l2, l3, l4, .val (.int v), l6] st H Q = M11 39 [l0, l1, l2, l3, l4, .val (.int (v + 1)), l6] st H Q := w_iinc (show decode kb11 36 = .ok (.iinc 5 1, 3) from by decide +kernel) rfl (by decide) rfl
theorem m11_39 : M11 39 ls st H Q = M11 8 ls st H Q := w_x (show decode kb11 39 = .ok (.goto (-31), 3) from by decide +kernel) rfl
theorem m11_42 : M11 42 [l0, l1, l2, .val (.int v), l4, l5, l6] st H Q = M11 43 [l0, l1, l2, .val (.int v), l4, l5, l6] (.int v :: st) H Q := w_x (show decode kb11 42 = .ok (.iload_n 3, 1) from by decide +kernel) rfl
theorem m11_43 : M11 43 ls (.int z :: st) H Q = Q (some (.int z)) H := w_iret (show decode kb11 43 = .ok (.ireturn, 1) from by decide +kernel) rfl
theorem m12_0 : M12 0 [.val (.ref r), l1, l2] st H Q = M12 1 [.val (.ref r), l1, l2] (.ref r :: st) H Q := w_x (show decode kb12 0 = .ok (.aload_n 0, 1) from by decide +kernel) rfl
theorem m12_1 : M12 1 ls (.ref (b + 1) :: st) (put (b + 1) pre s A post) Q = M12 4 ls (.ref ((b + 1) + 1) :: st) (put (b + 1) pre s A post) Q := w_get (show decode kb12 1 = .ok (.getfield 7, 3) from by decide +kernel) gf_7 put_o rfl
theorem m12_4 : M12 4 [l0, .val (.int v), l2] st H Q = M12 5 [l0, .val (.int v), l2] (.int v :: st) H Q := w_x (show decode kb12 4 = .ok (.iload_n 1, 1) from by decide +kernel) rfl
theorem m12_5 : M12 5 [.val (.ref r), l1, l2] st H Q = M12 6 [.val (.ref r), l1, l2] (.ref r :: st) H Q := w_x (show decode kb12 5 = .ok (.aload_n 0, 1) from by decide +kernel) rfl
theorem m12_6 : M12 6 ls (.ref (b + 1) :: st) (put (b + 1) pre s A post) Q = M12 9 ls (.int (s 5) :: st) (put (b + 1) pre s A post) Q := w_get (show decode kb12 6 = .ok (.getfield 95, 3) from by decide +kernel) gf_95 put_o rfl
theorem m12_9  : M12 9 ls (.int v :: .int j :: .ref ((b + 1) + 1) :: st) (put (b + 1) pre s A post) Q = (inB j (A 0) ∧ M12 10 ls st (put (b + 1) pre s (ou A 0 (setA (A 0) j v)) post) Q) := w_ist (show decode kb12 9 = .ok (.iastore, 1) from by decide +kernel) rfl put_a0 (by omega) rfl put_w0
theorem m12_10 : M12 10 [.val (.ref r), l1, l2] st H Q = M12 11 [.val (.ref r), l1, l2] (.ref r :: st) H Q := w_x (show decode kb12 10 = .ok (.aload_n 0, 1) from by decide +kernel) rfl
theorem m12_11 : M12 11 ls (.ref (b + 1) :: st) (put (b + 1) pre s A post) Q = M12 14 ls (.ref ((b + 1) + 2) :: st) (put (b + 1) pre s A post) Q := w_get (show decode kb12 11 = .ok (.getfield 13, 3) from by decide +kernel) gf_13 put_o rfl
theorem m12_14 : M12 14 [l0, .val (.int v), l2] st H Q = M12 15 [l0, .val (.int v), l2] (.int v :: st) H Q := w_x (show decode kb12 14 = .ok (.iload_n 1, 1) from by decide +kernel) rfl
theorem m12_15 : M12 15 [.val (.ref r), l1, l2] st H Q = M12 16 [.val (.ref r), l1, l2] (.ref r :: st) H Q := w_x (show decode kb12 15 = .ok (.aload_n 0, 1) from by decide +kernel) rfl
theorem m12_16 : M12 16 ls (.ref (b + 1) :: st) (put (b + 1) pre s A post) Q = M12 19 ls (.int (s 6) :: st) (put (b + 1) pre s A post) Q := w_get (show decode kb12 16 = .ok (.getfield 98, 3) from by decide +kernel) gf_98 put_o rfl
theorem m12_19  : M12 19 ls (.int v :: .int j :: .ref ((b + 1) + 2) :: st) (put (b + 1) pre s A post) Q = (inB j (A 1) ∧ M12 20 ls st (put (b + 1) pre s (ou A 1 (setA (A 1) j v)) post) Q) := w_ist (show decode kb12 19 = .ok (.iastore, 1) from by decide +kernel) rfl put_a1 (by omega) rfl put_w1
theorem m12_20 : M12 20 [.val (.ref r), l1, l2] st H Q = M12 21 [.val (.ref r), l1, l2] (.ref r :: st) H Q := w_x (show decode kb12 20 = .ok (.aload_n 0, 1) from by decide +kernel) rfl
theorem m12_21 : M12 21 ls (.ref (b + 1) :: st) (put (b + 1) pre s A post) Q = M12 24 ls (.ref ((b + 1) + 3) :: st) (put (b + 1) pre s A post) Q := w_get (show decode kb12 21 = .ok (.getfield 16, 3) from by decide +kernel) gf_16 put_o rfl
theorem m12_24 : M12 24 [l0, .val (.int v), l2] st H Q = M12 25 [l0, .val (.int v), l2] (.int v :: st) H Q := w_x (show decode kb12 24 = .ok (.iload_n 1, 1) from by decide +kernel) rfl
theorem m12_25 : M12 25 [.val (.ref r), l1, l2] st H Q = M12 26 [.val (.ref r), l1, l2] (.ref r :: st) H Q := w_x (show decode kb12 25 = .ok (.aload_n 0, 1) from by decide +kernel) rfl
theorem m12_26 : M12 26 ls (.ref (b + 1) :: st) (put (b + 1) pre s A post) Q = M12 29 ls (.int (s 7) :: st) (put (b + 1) pre s A post) Q := w_get (show decode kb12 26 = .ok (.getfield 101, 3) from by decide +kernel) gf_101 put_o rfl
theorem m12_29  : M12 29 ls (.int v :: .int j :: .ref ((b + 1) + 3) :: st) (put (b + 1) pre s A post) Q = (inB j (A 2) ∧ M12 30 ls st (put (b + 1) pre s (ou A 2 (setA (A 2) j v)) post) Q) := w_ist (show decode kb12 29 = .ok (.iastore, 1) from by decide +kernel) rfl put_a2 (by omega) rfl put_w2
theorem m12_30 : M12 30 [.val (.ref r), l1, l2] st H Q = M12 31 [.val (.ref r), l1, l2] (.ref r :: st) H Q := w_x (show decode kb12 30 = .ok (.aload_n 0, 1) from by decide +kernel) rfl
theorem m12_31 : M12 31 ls (.ref (b + 1) :: st) (put (b + 1) pre s A post) Q = M12 34 ls (.ref ((b + 1) + 4) :: st) (put (b + 1) pre s A post) Q := w_get (show decode kb12 31 = .ok (.getfield 19, 3) from by decide +kernel) gf_19 put_o rfl
theorem m12_34 : M12 34 [l0, .val (.int v), l2] st H Q = M12 35 [l0, .val (.int v), l2] (.int v :: st) H Q := w_x (show decode kb12 34 = .ok (.iload_n 1, 1) from by decide +kernel) rfl
theorem m12_35 : M12 35 [.val (.ref r), l1, l2] st H Q = M12 36 [.val (.ref r), l1, l2] (.ref r :: st) H Q := w_x (show decode kb12 35 = .ok (.aload_n 0, 1) from by decide +kernel) rfl
theorem m12_36 : M12 36 ls (.ref (b + 1) :: st) (put (b + 1) pre s A post) Q = M12 39 ls (.int (s 8) :: st) (put (b + 1) pre s A post) Q := w_get (show decode kb12 36 = .ok (.getfield 104, 3) from by decide +kernel) gf_104 put_o rfl
theorem m12_39  : M12 39 ls (.int v :: .int j :: .ref ((b + 1) + 4) :: st) (put (b + 1) pre s A post) Q = (inB j (A 3) ∧ M12 40 ls st (put (b + 1) pre s (ou A 3 (setA (A 3) j v)) post) Q) := w_ist (show decode kb12 39 = .ok (.iastore, 1) from by decide +kernel) rfl put_a3 (by omega) rfl put_w3
theorem m12_40 : M12 40 ls st H Q = M12 41 ls (.int 0 :: st) H Q := w_con (show decode kb12 40 = .ok (.iconst 0, 1) from by decide +kernel) rfl (by decide)
theorem m12_41u : M12 41 [l0, l1, .unset] ((.int v) :: st) H Q = M12 42 [l0, l1, .val (.int v)] st H Q := w_st (i := 2) (p := isI) (show decode kb12 41 = .ok (.istore_n 2, 1) from by decide +kernel) rfl rfl rfl rfl rfl rfl
theorem m12_42 : M12 42 [l0, l1, .val (.int v)] st H Q = M12 43 [l0, l1, .val (.int v)] (.int v :: st) H Q := w_x (show decode kb12 42 = .ok (.iload_n 2, 1) from by decide +kernel) rfl
theorem m12_43 : M12 43 ls st H Q = M12 44 ls (.int 4 :: st) H Q := w_con (show decode kb12 43 = .ok (.iconst 4, 1) from by decide +kernel) rfl (by decide)
theorem m12_44 : M12 44 ls (.int y :: .int x :: st) H Q = if x < y then M12 47 ls st H Q else M12 85 ls st H Q := w_icmpN (show decode kb12 44 = .ok (.if_icmp .ge 41, 3) from by decide +kernel) (i_ge x y) rfl
theorem m12_47 : M12 47 [.val (.ref r), l1, l2] st H Q = M12 48 [.val (.ref r), l1, l2] (.ref r :: st) H Q := w_x (show decode kb12 47 = .ok (.aload_n 0, 1) from by decide +kernel) rfl
theorem m12_48 : M12 48 ls (.ref (b + 1) :: st) (put (b + 1) pre s A post) Q = M12 51 ls (.ref ((b + 1) + 5) :: st) (put (b + 1) pre s A post) Q := w_get (show decode kb12 48 = .ok (.getfield 22, 3) from by decide +kernel) gf_22 put_o rfl
theorem m12_51 : M12 51 [l0, .val (.int v), l2] st H Q = M12 52 [l0, .val (.int v), l2] (.int v :: st) H Q := w_x (show decode kb12 51 = .ok (.iload_n 1, 1) from by decide +kernel) rfl
theorem m12_52 : M12 52 ls st H Q = M12 53 ls (.int 4 :: st) H Q := w_con (show decode kb12 52 = .ok (.iconst 4, 1) from by decide +kernel) rfl (by decide)
theorem m12_53 : M12 53 ls (.int y :: .int x :: st) H Q = M12 54 ls (.int (x * y) :: st) H Q := w_x (show decode kb12 53 = .ok (.imul, 1) from by decide +kernel) rfl
theorem m12_54 : M12 54 [l0, l1, .val (.int v)] st H Q = M12 55 [l0, l1, .val (.int v)] (.int v :: st) H Q := w_x (show decode kb12 54 = .ok (.iload_n 2, 1) from by decide +kernel) rfl
theorem m12_55 : M12 55 ls (.int y :: .int x :: st) H Q = M12 56 ls (.int (x + y) :: st) H Q := w_x (show decode kb12 55 = .ok (.iadd, 1) from by decide +kernel) rfl
theorem m12_56 : M12 56 [.val (.ref r), l1, l2] st H Q = M12 57 [.val (.ref r), l1, l2] (.ref r :: st) H Q := w_x (show decode kb12 56 = .ok (.aload_n 0, 1) from by decide +kernel) rfl
theorem m12_57 : M12 57 ls (.ref (b + 1) :: st) (put (b + 1) pre s A post) Q = M12 60 ls (.ref ((b + 1) + 10) :: st) (put (b + 1) pre s A post) Q := w_get (show decode kb12 57 = .ok (.getfield 37, 3) from by decide +kernel) gf_37 put_o rfl
theorem m12_60 : M12 60 [l0, l1, .val (.int v)] st H Q = M12 61 [l0, l1, .val (.int v)] (.int v :: st) H Q := w_x (show decode kb12 60 = .ok (.iload_n 2, 1) from by decide +kernel) rfl
theorem m12_61  : M12 61 ls (.int j :: .ref ((b + 1) + 10) :: st) (put (b + 1) pre s A post) Q = (inB j (A 9) ∧ M12 62 ls (.int (getA (A 9) j) :: st) (put (b + 1) pre s A post) Q) := w_ild (show decode kb12 61 = .ok (.iaload, 1) from by decide +kernel) rfl put_a9
theorem m12_62  : M12 62 ls (.int v :: .int j :: .ref ((b + 1) + 5) :: st) (put (b + 1) pre s A post) Q = (inB j (A 4) ∧ M12 63 ls st (put (b + 1) pre s (ou A 4 (setA (A 4) j v)) post) Q) := w_ist (show decode kb12 62 = .ok (.iastore, 1) from by decide +kernel) rfl put_a4 (by omega) rfl put_w4
theorem m12_63 : M12 63 [.val (.ref r), l1, l2] st H Q = M12 64 [.val (.ref r), l1, l2] (.ref r :: st) H Q := w_x (show decode kb12 63 = .ok (.aload_n 0, 1) from by decide +kernel) rfl
theorem m12_64 : M12 64 ls (.ref (b + 1) :: st) (put (b + 1) pre s A post) Q = M12 67 ls (.ref ((b + 1) + 6) :: st) (put (b + 1) pre s A post) Q := w_get (show decode kb12 64 = .ok (.getfield 25, 3) from by decide +kernel) gf_25 put_o rfl
theorem m12_67 : M12 67 [l0, .val (.int v), l2] st H Q = M12 68 [l0, .val (.int v), l2] (.int v :: st) H Q := w_x (show decode kb12 67 = .ok (.iload_n 1, 1) from by decide +kernel) rfl
theorem m12_68 : M12 68 ls st H Q = M12 69 ls (.int 4 :: st) H Q := w_con (show decode kb12 68 = .ok (.iconst 4, 1) from by decide +kernel) rfl (by decide)
theorem m12_69 : M12 69 ls (.int y :: .int x :: st) H Q = M12 70 ls (.int (x * y) :: st) H Q := w_x (show decode kb12 69 = .ok (.imul, 1) from by decide +kernel) rfl
theorem m12_70 : M12 70 [l0, l1, .val (.int v)] st H Q = M12 71 [l0, l1, .val (.int v)] (.int v :: st) H Q := w_x (show decode kb12 70 = .ok (.iload_n 2, 1) from by decide +kernel) rfl
theorem m12_71 : M12 71 ls (.int y :: .int x :: st) H Q = M12 72 ls (.int (x + y) :: st) H Q := w_x (show decode kb12 71 = .ok (.iadd, 1) from by decide +kernel) rfl
theorem m12_72 : M12 72 [.val (.ref r), l1, l2] st H Q = M12 73 [.val (.ref r), l1, l2] (.ref r :: st) H Q := w_x (show decode kb12 72 = .ok (.aload_n 0, 1) from by decide +kernel) rfl
theorem m12_73 : M12 73 ls (.ref (b + 1) :: st) (put (b + 1) pre s A post) Q = M12 76 ls (.ref ((b + 1) + 11) :: st) (put (b + 1) pre s A post) Q := w_get (show decode kb12 73 = .ok (.getfield 40, 3) from by decide +kernel) gf_40 put_o rfl
theorem m12_76 : M12 76 [l0, l1, .val (.int v)] st H Q = M12 77 [l0, l1, .val (.int v)] (.int v :: st) H Q := w_x (show decode kb12 76 = .ok (.iload_n 2, 1) from by decide +kernel) rfl
theorem m12_77  : M12 77 ls (.int j :: .ref ((b + 1) + 11) :: st) (put (b + 1) pre s A post) Q = (inB j (A 10) ∧ M12 78 ls (.int (getA (A 10) j) :: st) (put (b + 1) pre s A post) Q) := w_ild (show decode kb12 77 = .ok (.iaload, 1) from by decide +kernel) rfl put_a10
theorem m12_78  : M12 78 ls (.int v :: .int j :: .ref ((b + 1) + 6) :: st) (put (b + 1) pre s A post) Q = (inB j (A 5) ∧ M12 79 ls st (put (b + 1) pre s (ou A 5 (setA (A 5) j v)) post) Q) := w_ist (show decode kb12 78 = .ok (.iastore, 1) from by decide +kernel) rfl put_a5 (by omega) rfl put_w5
theorem m12_79 : M12 79 [l0, l1, .val (.int v)] st H Q = M12 82 [l0, l1, .val (.int (v + 1))] st H Q := w_iinc (show decode kb12 79 = .ok (.iinc 2 1, 3) from by decide +kernel) rfl (by decide) rfl
theorem m12_82 : M12 82 ls st H Q = M12 42 ls st H Q := w_x (show decode kb12 82 = .ok (.goto (-40), 3) from by decide +kernel) rfl
theorem m12_85 : M12 85 ls [] H Q = Q none H := w_vret (show decode kb12 85 = .ok (.return_, 1) from by decide +kernel) rfl
theorem m13_0 : M13 0 [.val (.ref r), l1, l2, l3, l4] st H Q = M13 1 [.val (.ref r), l1, l2, l3, l4] (.ref r :: st) H Q := w_x (show decode kb13 0 = .ok (.aload_n 0, 1) from by decide +kernel) rfl
theorem m13_1 : M13 1 [l0, .val (.int v), l2, l3, l4] st H Q = M13 2 [l0, .val (.int v), l2, l3, l4] (.int v :: st) H Q := w_x (show decode kb13 1 = .ok (.iload_n 1, 1) from by decide +kernel) rfl
theorem cr13_129 : vR tables_1 dn y13 129 = some (true, y14, prog_1_method_12_code, 5, none, 1, 23) := pR_of (cR_of (by decide +kernel) rc_14 dn_14 dn_13 (sig := ⟨[.int], none⟩) (by decide +kernel) (by decide +kernel) rfl rfl) (by decide +kernel) (by decide +kernel)
theorem m13_2 (a0 : Int32) : M13 2 ls [.int a0, .ref (b + 1)] (put (b + 1) pre s A post) Q = M14 0 [.val (.ref (b + 1)), .val (.int a0), .unset, .unset, .unset] [] (put (b + 1) pre s A post) (fun v H1 => M13 5 ls (v.toList ++ []) H1 Q) := w_virt (as := [.int a0]) (rest := []) (a := (b + 1)) (show decode kb13 2 = .ok (.invokevirtual 129, 3) from by decide +kernel) cr13_129 put_o rfl rfl (Nat.le_of_ble_eq_true rfl) (by show 2 ≤ 5; omega) rfl
theorem m13_5 : M13 5 ls st H Q = M13 6 ls (.int 0 :: st) H Q := w_con (show decode kb13 5 = .ok (.iconst 0, 1) from by decide +kernel) rfl (by decide)
theorem m13_6u : M13 6 [l0, l1, .unset, l3, l4] ((.int v) :: st) H Q = M13 7 [l0, l1, .val (.int v), l3, l4] st H Q := w_st (i := 2) (p := isI) (show decode kb13 6 = .ok (.istore_n 2, 1) from by decide +kernel) rfl rfl rfl rfl rfl rfl
theorem m13_7 : M13 7 [l0, l1, .val (.int v), l3, l4] st H Q = M13 8 [l0, l1, .val (.int v), l3, l4] (.int v :: st) H Q := w_x (show decode kb13 7 = .ok (.iload_n 2, 1) from by decide +kernel) rfl
theorem m13_8 : M13 8 [l0, .val (.int v), l2, l3, l4] st H Q = M13 9 [l0, .val (.int v), l2, l3, l4] (.int v :: st) H Q := w_x (show decode kb13 8 = .ok (.iload_n 1, 1) from by decide +kernel) rfl
theorem m13_9 : M13 9 ls (.int y :: .int x :: st) H Q = if x < y then M13 12 ls st H Q else M13 56 ls st H Q := w_icmpN (show decode kb13 9 = .ok (.if_icmp .ge 47, 3) from by decide +kernel) (i_ge x y) rfl
theorem m13_12 : M13 12 [.val (.ref r), l1, l2, l3, l4] st H Q = M13 13 [.val (.ref r), l1, l2, l3, l4] (.ref r :: st) H Q := w_x (show decode kb13 12 = .ok (.aload_n 0, 1) from by decide +kernel) rfl
theorem m13_13 : M13 13 [l0, l1, .val (.int v), l3, l4] st H Q = M13 14 [l0, l1, .val (.int v), l3, l4] (.int v :: st) H Q := w_x (show decode kb13 13 = .ok (.iload_n 2, 1) from by decide +kernel) rfl
theorem m13_14 : M13 14 [l0, .val (.int v), l2, l3, l4] st H Q = M13 15 [l0, .val (.int v), l2, l3, l4] (.int v :: st) H Q := w_x (show decode kb13 14 = .ok (.iload_n 1, 1) from by decide +kernel) rfl
theorem cr13_132 : vR tables_1 dn y13 132 = some (true, y15, prog_1_method_13_code, 8, (some .int), 2, 20) := pR_of (cR_of (by decide +kernel) rc_15 dn_15 dn_13 (sig := ⟨[.int, .int], some .int⟩) (by decide +kernel) (by decide +kernel) rfl rfl) (by decide +kernel) (by decide +kernel)
theorem m13_15 (a0 : Int32) (a1 : Int32) : M13 15 ls [.int a1, .int a0, .ref (b + 1)] (put (b + 1) pre s A post) Q = M15 0 [.val (.ref (b + 1)), .val (.int a0), .val (.int a1), .unset, .unset, .unset, .unset, .unset] [] (put (b + 1) pre s A post) (fun v H1 => M13 18 ls (v.toList ++ []) H1 Q) := w_virt (as := [.int a1, .int a0]) (rest := []) (a := (b + 1)) (show decode kb13 15 = .ok (.invokevirtual 132, 3) from by decide +kernel) cr13_132 put_o rfl rfl (Nat.le_of_ble_eq_true rfl) (by show 3 ≤ 8; omega) rfl
theorem m13_18u : M13 18 [l0, l1, l2, .unset, l4] ((.int v) :: st) H Q = M13 19 [l0, l1, l2, .val (.int v), l4] st H Q := w_st (i := 3) (p := isI) (show decode kb13 18 = .ok (.istore_n 3, 1) from by decide +kernel) rfl rfl rfl rfl rfl rfl
theorem m13_18i : M13 18 [l0, l1, l2, .val (.int z), l4] ((.int v) :: st) H Q = M13 19 [l0, l1, l2, .val (.int v), l4] st H Q := w_st (i := 3) (p := isI) (show decode kb13 18 = .ok (.istore_n 3, 1) from by decide +kernel) rfl rfl rfl rfl rfl rfl
theorem m13_18r : M13 18 [l0, l1, l2, .val (.ref q), l4] ((.int v) :: st) H Q = M13 19 [l0, l1, l2, .val (.int v), l4] st H Q := w_st (i := 3) (p := isI) (show decode kb13 18 = .ok (.istore_n 3, 1) from by decide +kernel) rfl rfl rfl rfl rfl rfl
theorem m13_18g (h : okS l3) : M13 18 [l0, l1, l2, l3, l4] ((.int v) :: st) H Q = M13 19 [l0, l1, l2, .val (.int v), l4] st H Q := by rcases h with rfl | ⟨z, rfl⟩ <;> first | exact m13_18u | exact m13_18i
theorem m13_19 : M13 19 [.val (.ref r), l1, l2, l3, l4] st H Q = M13 20 [.val (.ref r), l1, l2, l3, l4] (.ref r :: st) H Q := w_x (show decode kb13 19 = .ok (.aload_n 0, 1) from by decide +kernel) rfl
theorem m13_20 : M13 20 ls (.ref (b + 1) :: st) (put (b + 1) pre s A post) Q = M13 23 ls (.ref ((b + 1) + 13) :: st) (put (b + 1) pre s A post) Q := w_get (show decode kb13 20 = .ok (.getfield 46, 3) from by decide +kernel) gf_46 put_o rfl
theorem m13_23 : M13 23 [l0, l1, .val (.int v), l3, l4] st H Q = M13 24 [l0, l1, .val (.int v), l3, l4] (.int v :: st) H Q := w_x (show decode kb13 23 = .ok (.iload_n 2, 1) from by decide +kernel) rfl
theorem m13_24 : M13 24 [l0, l1, l2, .val (.int v), l4] st H Q = M13 25 [l0, l1, l2, .val (.int v), l4] (.int v :: st) H Q := w_x (show decode kb13 24 = .ok (.iload_n 3, 1) from by decide +kernel) rfl
theorem m13_25  : M13 25 ls (.int v :: .int j :: .ref ((b + 1) + 13) :: st) (put (b + 1) pre s A post) Q = (inB j (A 12) ∧ M13 26 ls st (put (b + 1) pre s (ou A 12 (setA (A 12) j v)) post) Q) := w_ist (show decode kb13 25 = .ok (.iastore, 1) from by decide +kernel) rfl put_a12 (by omega) rfl put_w12
theorem m13_26 : M13 26 [.val (.ref r), l1, l2, l3, l4] st H Q = M13 27 [.val (.ref r), l1, l2, l3, l4] (.ref r :: st) H Q := w_x (show decode kb13 26 = .ok (.aload_n 0, 1) from by decide +kernel) rfl
theorem m13_27 : M13 27 [l0, l1, .val (.int v), l3, l4] st H Q = M13 28 [l0, l1, .val (.int v), l3, l4] (.int v :: st) H Q := w_x (show decode kb13 27 = .ok (.iload_n 2, 1) from by decide +kernel) rfl
theorem m13_28 : M13 28 [l0, .val (.int v), l2, l3, l4] st H Q = M13 29 [l0, .val (.int v), l2, l3, l4] (.int v :: st) H Q := w_x (show decode kb13 28 = .ok (.iload_n 1, 1) from by decide +kernel) rfl
theorem m13_29 : M13 29 [l0, l1, l2, .val (.int v), l4] st H Q = M13 30 [l0, l1, l2, .val (.int v), l4] (.int v :: st) H Q := w_x (show decode kb13 29 = .ok (.iload_n 3, 1) from by decide +kernel) rfl
theorem cr13_135 : vR tables_1 dn y13 135 = some (true, y16, prog_1_method_14_code, 8, (some .int), 3, 0) := pR_of (cR_of (by decide +kernel) rc_16 dn_16 dn_13 (sig := ⟨[.int, .int, .int], some .int⟩) (by decide +kernel) (by decide +kernel) rfl rfl) (by decide +kernel) (by decide +kernel)
theorem m13_30 (a0 : Int32) (a1 : Int32) (a2 : Int32) : M13 30 ls [.int a2, .int a1, .int a0, .ref (b + 1)] (put (b + 1) pre s A post) Q = M16 0 [.val (.ref (b + 1)), .val (.int a0), .val (.int a1), .val (.int a2), .unset, .unset, .unset, .unset] [] (put (b + 1) pre s A post) (fun v H1 => M13 33 ls (v.toList ++ []) H1 Q) := w_virt (as := [.int a2, .int a1, .int a0]) (rest := []) (a := (b + 1)) (show decode kb13 30 = .ok (.invokevirtual 135, 3) from by decide +kernel) cr13_135 put_o rfl rfl (Nat.le_of_ble_eq_true rfl) (by show 4 ≤ 8; omega) rfl
theorem m13_33u : M13 33 [l0, l1, l2, l3, .unset] ((.int v) :: st) H Q = M13 35 [l0, l1, l2, l3, .val (.int v)] st H Q := w_st (i := 4) (p := isI) (show decode kb13 33 = .ok (.istore 4, 2) from by decide +kernel) rfl rfl rfl rfl rfl rfl
theorem m13_33i : M13 33 [l0, l1, l2, l3, .val (.int z)] ((.int v) :: st) H Q = M13 35 [l0, l1, l2, l3, .val (.int v)] st H Q := w_st (i := 4) (p := isI) (show decode kb13 33 = .ok (.istore 4, 2) from by decide +kernel) rfl rfl rfl rfl rfl rfl
theorem m13_33r : M13 33 [l0, l1, l2, l3, .val (.ref q)] ((.int v) :: st) H Q = M13 35 [l0, l1, l2, l3, .val (.int v)] st H Q := w_st (i := 4) (p := isI) (show decode kb13 33 = .ok (.istore 4, 2) from by decide +kernel) rfl rfl rfl rfl rfl rfl
theorem m13_33g (h : okS l4) : M13 33 [l0, l1, l2, l3, l4] ((.int v) :: st) H Q = M13 35 [l0, l1, l2, l3, .val (.int v)] st H Q := by rcases h with rfl | ⟨z, rfl⟩ <;> first | exact m13_33u | exact m13_33i
theorem m13_35 : M13 35 [l0, l1, l2, l3, .val (.int v)] st H Q = M13 37 [l0, l1, l2, l3, .val (.int v)] (.int v :: st) H Q := w_x (show decode kb13 35 = .ok (.iload 4, 2) from by decide +kernel) rfl
theorem m13_37 : M13 37 ls (.int x :: st) H Q = if x < 0 then M13 40 ls st H Q else M13 42 ls st H Q := w_ifN (show decode kb13 37 = .ok (.ifCond .ge 5, 3) from by decide +kernel) (z_ge x) rfl
theorem m13_40 : M13 40 [l0, l1, .val (.int v), l3, l4] st H Q = M13 41 [l0, l1, .val (.int v), l3, l4] (.int v :: st) H Q := w_x (show decode kb13 40 = .ok (.iload_n 2, 1) from by decide +kernel) rfl
theorem m13_41 : M13 41 ls (.int z :: st) H Q = Q (some (.int z)) H := w_iret (show decode kb13 41 = .ok (.ireturn, 1) from by decide +kernel) rfl
theorem m13_42 : M13 42 [.val (.ref r), l1, l2, l3, l4] st H Q = M13 43 [.val (.ref r), l1, l2, l3, l4] (.ref r :: st) H Q := w_x (show decode kb13 42 = .ok (.aload_n 0, 1) from by decide +kernel) rfl
theorem m13_43 : M13 43 ls (.ref (b + 1) :: st) (put (b + 1) pre s A post) Q = M13 46 ls (.ref ((b + 1) + 14) :: st) (put (b + 1) pre s A post) Q := w_get (show decode kb13 43 = .ok (.getfield 49, 3) from by decide +kernel) gf_49 put_o rfl
theorem m13_46 : M13 46 [l0, l1, .val (.int v), l3, l4] st H Q = M13 47 [l0, l1, .val (.int v), l3, l4] (.int v :: st) H Q := w_x (show decode kb13 46 = .ok (.iload_n 2, 1) from by decide +kernel) rfl
theorem m13_47 : M13 47 [l0, l1, l2, l3, .val (.int v)] st H Q = M13 49 [l0, l1, l2, l3, .val (.int v)] (.int v :: st) H Q := w_x (show decode kb13 47 = .ok (.iload 4, 2) from by decide +kernel) rfl
theorem m13_49  : M13 49 ls (.int v :: .int j :: .ref ((b + 1) + 14) :: st) (put (b + 1) pre s A post) Q = (inB j (A 13) ∧ M13 50 ls st (put (b + 1) pre s (ou A 13 (setA (A 13) j v)) post) Q) := w_ist (show decode kb13 49 = .ok (.iastore, 1) from by decide +kernel) rfl put_a13 (by omega) rfl put_w13
theorem m13_50 : M13 50 [l0, l1, .val (.int v), l3, l4] st H Q = M13 53 [l0, l1, .val (.int (v + 1)), l3, l4] st H Q := w_iinc (show decode kb13 50 = .ok (.iinc 2 1, 3) from by decide +kernel) rfl (by decide) rfl
theorem m13_53 : M13 53 ls st H Q = M13 7 ls st H Q := w_x (show decode kb13 53 = .ok (.goto (-46), 3) from by decide +kernel) rfl
theorem m13_56 : M13 56 ls st H Q = M13 57 ls (.int (-1) :: st) H Q := w_con (show decode kb13 56 = .ok (.iconst (-1), 1) from by decide +kernel) rfl (by decide)
theorem m13_57 : M13 57 ls (.int z :: st) H Q = Q (some (.int z)) H := w_iret (show decode kb13 57 = .ok (.ireturn, 1) from by decide +kernel) rfl
theorem m14_0 : M14 0 ls st H Q = M14 1 ls (.int 0 :: st) H Q := w_con (show decode kb14 0 = .ok (.iconst 0, 1) from by decide +kernel) rfl (by decide)
theorem m14_1u : M14 1 [l0, l1, .unset, l3, l4] ((.int v) :: st) H Q = M14 2 [l0, l1, .val (.int v), l3, l4] st H Q := w_st (i := 2) (p := isI) (show decode kb14 1 = .ok (.istore_n 2, 1) from by decide +kernel) rfl rfl rfl rfl rfl rfl
theorem m14_2 : M14 2 [l0, l1, .val (.int v), l3, l4] st H Q = M14 3 [l0, l1, .val (.int v), l3, l4] (.int v :: st) H Q := w_x (show decode kb14 2 = .ok (.iload_n 2, 1) from by decide +kernel) rfl
theorem m14_3 : M14 3 ls st H Q = M14 4 ls (.int 4 :: st) H Q := w_con (show decode kb14 3 = .ok (.iconst 4, 1) from by decide +kernel) rfl (by decide)
theorem m14_4 : M14 4 ls (.int y :: .int x :: st) H Q = if x < y then M14 7 ls st H Q else M14 70 ls st H Q := w_icmpN (show decode kb14 4 = .ok (.if_icmp .ge 66, 3) from by decide +kernel) (i_ge x y) rfl
theorem m14_7 : M14 7 ls st H Q = M14 8 ls (.int 0 :: st) H Q := w_con (show decode kb14 7 = .ok (.iconst 0, 1) from by decide +kernel) rfl (by decide)
theorem m14_8u : M14 8 [l0, l1, l2, .unset, l4] ((.int v) :: st) H Q = M14 9 [l0, l1, l2, .val (.int v), l4] st H Q := w_st (i := 3) (p := isI) (show decode kb14 8 = .ok (.istore_n 3, 1) from by decide +kernel) rfl rfl rfl rfl rfl rfl
theorem m14_8i : M14 8 [l0, l1, l2, .val (.int z), l4] ((.int v) :: st) H Q = M14 9 [l0, l1, l2, .val (.int v), l4] st H Q := w_st (i := 3) (p := isI) (show decode kb14 8 = .ok (.istore_n 3, 1) from by decide +kernel) rfl rfl rfl rfl rfl rfl
theorem m14_8r : M14 8 [l0, l1, l2, .val (.ref q), l4] ((.int v) :: st) H Q = M14 9 [l0, l1, l2, .val (.int v), l4] st H Q := w_st (i := 3) (p := isI) (show decode kb14 8 = .ok (.istore_n 3, 1) from by decide +kernel) rfl rfl rfl rfl rfl rfl
theorem m14_8g (h : okS l3) : M14 8 [l0, l1, l2, l3, l4] ((.int v) :: st) H Q = M14 9 [l0, l1, l2, .val (.int v), l4] st H Q := by rcases h with rfl | ⟨z, rfl⟩ <;> first | exact m14_8u | exact m14_8i
theorem m14_9 : M14 9 ls st H Q = M14 10 ls (.int 0 :: st) H Q := w_con (show decode kb14 9 = .ok (.iconst 0, 1) from by decide +kernel) rfl (by decide)
theorem m14_10u : M14 10 [l0, l1, l2, l3, .unset] ((.int v) :: st) H Q = M14 12 [l0, l1, l2, l3, .val (.int v)] st H Q := w_st (i := 4) (p := isI) (show decode kb14 10 = .ok (.istore 4, 2) from by decide +kernel) rfl rfl rfl rfl rfl rfl
theorem m14_10i : M14 10 [l0, l1, l2, l3, .val (.int z)] ((.int v) :: st) H Q = M14 12 [l0, l1, l2, l3, .val (.int v)] st H Q := w_st (i := 4) (p := isI) (show decode kb14 10 = .ok (.istore 4, 2) from by decide +kernel) rfl rfl rfl rfl rfl rfl
theorem m14_10r : M14 10 [l0, l1, l2, l3, .val (.ref q)] ((.int v) :: st) H Q = M14 12 [l0, l1, l2, l3, .val (.int v)] st H Q := w_st (i := 4) (p := isI) (show decode kb14 10 = .ok (.istore 4, 2) from by decide +kernel) rfl rfl rfl rfl rfl rfl
theorem m14_10g (h : okS l4) : M14 10 [l0, l1, l2, l3, l4] ((.int v) :: st) H Q = M14 12 [l0, l1, l2, l3, .val (.int v)] st H Q := by rcases h with rfl | ⟨z, rfl⟩ <;> first | exact m14_10u | exact m14_10i
theorem m14_12 : M14 12 [l0, l1, l2, l3, .val (.int v)] st H Q = M14 14 [l0, l1, l2, l3, .val (.int v)] (.int v :: st) H Q := w_x (show decode kb14 12 = .ok (.iload 4, 2) from by decide +kernel) rfl
theorem m14_14 : M14 14 [l0, .val (.int v), l2, l3, l4] st H Q = M14 15 [l0, .val (.int v), l2, l3, l4] (.int v :: st) H Q := w_x (show decode kb14 14 = .ok (.iload_n 1, 1) from by decide +kernel) rfl
theorem m14_15 : M14 15 ls (.int y :: .int x :: st) H Q = if x < y then M14 18 ls st H Q else M14 57 ls st H Q := w_icmpN (show decode kb14 15 = .ok (.if_icmp .ge 42, 3) from by decide +kernel) (i_ge x y) rfl
theorem m14_18 : M14 18 [.val (.ref r), l1, l2, l3, l4] st H Q = M14 19 [.val (.ref r), l1, l2, l3, l4] (.ref r :: st) H Q := w_x (show decode kb14 18 = .ok (.aload_n 0, 1) from by decide +kernel) rfl
theorem m14_19 : M14 19 ls (.ref (b + 1) :: st) (put (b + 1) pre s A post) Q = M14 22 ls (.ref ((b + 1) + 6) :: st) (put (b + 1) pre s A post) Q := w_get (show decode kb14 19 = .ok (.getfield 25, 3) from by decide +kernel) gf_25 put_o rfl
theorem m14_22 : M14 22 [l0, l1, l2, l3, .val (.int v)] st H Q = M14 24 [l0, l1, l2, l3, .val (.int v)] (.int v :: st) H Q := w_x (show decode kb14 22 = .ok (.iload 4, 2) from by decide +kernel) rfl
theorem m14_24 : M14 24 ls st H Q = M14 25 ls (.int 4 :: st) H Q := w_con (show decode kb14 24 = .ok (.iconst 4, 1) from by decide +kernel) rfl (by decide)
theorem m14_25 : M14 25 ls (.int y :: .int x :: st) H Q = M14 26 ls (.int (x * y) :: st) H Q := w_x (show decode kb14 25 = .ok (.imul, 1) from by decide +kernel) rfl
theorem m14_26 : M14 26 [l0, l1, .val (.int v), l3, l4] st H Q = M14 27 [l0, l1, .val (.int v), l3, l4] (.int v :: st) H Q := w_x (show decode kb14 26 = .ok (.iload_n 2, 1) from by decide +kernel) rfl
theorem m14_27 : M14 27 ls (.int y :: .int x :: st) H Q = M14 28 ls (.int (x + y) :: st) H Q := w_x (show decode kb14 27 = .ok (.iadd, 1) from by decide +kernel) rfl
theorem m14_28  : M14 28 ls (.int j :: .ref ((b + 1) + 6) :: st) (put (b + 1) pre s A post) Q = (inB j (A 5) ∧ M14 29 ls (.int (getA (A 5) j) :: st) (put (b + 1) pre s A post) Q) := w_ild (show decode kb14 28 = .ok (.iaload, 1) from by decide +kernel) rfl put_a5
theorem m14_29 : M14 29 ls (.int x :: st) H Q = if 0 < x then M14 32 ls st H Q else M14 51 ls st H Q := w_ifN (show decode kb14 29 = .ok (.ifCond .le 22, 3) from by decide +kernel) (z_le x) rfl
theorem m14_32 : M14 32 [.val (.ref r), l1, l2, l3, l4] st H Q = M14 33 [.val (.ref r), l1, l2, l3, l4] (.ref r :: st) H Q := w_x (show decode kb14 32 = .ok (.aload_n 0, 1) from by decide +kernel) rfl
theorem m14_33 : M14 33 ls (.ref (b + 1) :: st) (put (b + 1) pre s A post) Q = M14 36 ls (.ref ((b + 1) + 4) :: st) (put (b + 1) pre s A post) Q := w_get (show decode kb14 33 = .ok (.getfield 19, 3) from by decide +kernel) gf_19 put_o rfl
theorem m14_36 : M14 36 [l0, l1, l2, l3, .val (.int v)] st H Q = M14 38 [l0, l1, l2, l3, .val (.int v)] (.int v :: st) H Q := w_x (show decode kb14 36 = .ok (.iload 4, 2) from by decide +kernel) rfl
theorem m14_38  : M14 38 ls (.int j :: .ref ((b + 1) + 4) :: st) (put (b + 1) pre s A post) Q = (inB j (A 3) ∧ M14 39 ls (.int (getA (A 3) j) :: st) (put (b + 1) pre s A post) Q) := w_ild (show decode kb14 38 = .ok (.iaload, 1) from by decide +kernel) rfl put_a3
theorem m14_39 : M14 39 [l0, l1, l2, .val (.int v), l4] st H Q = M14 40 [l0, l1, l2, .val (.int v), l4] (.int v :: st) H Q := w_x (show decode kb14 39 = .ok (.iload_n 3, 1) from by decide +kernel) rfl
theorem m14_40 : M14 40 ls (.int y :: .int x :: st) H Q = if y < x then M14 43 ls st H Q else M14 51 ls st H Q := w_icmpN (show decode kb14 40 = .ok (.if_icmp .le 11, 3) from by decide +kernel) (i_le x y) rfl
theorem m14_43 : M14 43 [.val (.ref r), l1, l2, l3, l4] st H Q = M14 44 [.val (.ref r), l1, l2, l3, l4] (.ref r :: st) H Q := w_x (show decode kb14 43 = .ok (.aload_n 0, 1) from by decide +kernel) rfl
theorem m14_44 : M14 44 ls (.ref (b + 1) :: st) (put (b + 1) pre s A post) Q = M14 47 ls (.ref ((b + 1) + 4) :: st) (put (b + 1) pre s A post) Q := w_get (show decode kb14 44 = .ok (.getfield 19, 3) from by decide +kernel) gf_19 put_o rfl
theorem m14_47 : M14 47 [l0, l1, l2, l3, .val (.int v)] st H Q = M14 49 [l0, l1, l2, l3, .val (.int v)] (.int v :: st) H Q := w_x (show decode kb14 47 = .ok (.iload 4, 2) from by decide +kernel) rfl
theorem m14_49  : M14 49 ls (.int j :: .ref ((b + 1) + 4) :: st) (put (b + 1) pre s A post) Q = (inB j (A 3) ∧ M14 50 ls (.int (getA (A 3) j) :: st) (put (b + 1) pre s A post) Q) := w_ild (show decode kb14 49 = .ok (.iaload, 1) from by decide +kernel) rfl put_a3
theorem m14_50i : M14 50 [l0, l1, l2, .val (.int z), l4] ((.int v) :: st) H Q = M14 51 [l0, l1, l2, .val (.int v), l4] st H Q := w_st (i := 3) (p := isI) (show decode kb14 50 = .ok (.istore_n 3, 1) from by decide +kernel) rfl rfl rfl rfl rfl rfl
theorem m14_51 : M14 51 [l0, l1, l2, l3, .val (.int v)] st H Q = M14 54 [l0, l1, l2, l3, .val (.int (v + 1))] st H Q := w_iinc (show decode kb14 51 = .ok (.iinc 4 1, 3) from by decide +kernel) rfl (by decide) rfl
theorem m14_54 : M14 54 ls st H Q = M14 12 ls st H Q := w_x (show decode kb14 54 = .ok (.goto (-42), 3) from by decide +kernel) rfl
theorem m14_57 : M14 57 [.val (.ref r), l1, l2, l3, l4] st H Q = M14 58 [.val (.ref r), l1, l2, l3, l4] (.ref r :: st) H Q := w_x (show decode kb14 57 = .ok (.aload_n 0, 1) from by decide +kernel) rfl
theorem m14_58 : M14 58 ls (.ref (b + 1) :: st) (put (b + 1) pre s A post) Q = M14 61 ls (.ref ((b + 1) + 12) :: st) (put (b + 1) pre s A post) Q := w_get (show decode kb14 58 = .ok (.getfield 43, 3) from by decide +kernel) gf_43 put_o rfl
theorem m14_61 : M14 61 [l0, l1, .val (.int v), l3, l4] st H Q = M14 62 [l0, l1, .val (.int v), l3, l4] (.int v :: st) H Q := w_x (show decode kb14 61 = .ok (.iload_n 2, 1) from by decide +kernel) rfl
theorem m14_62 : M14 62 [l0, l1, l2, .val (.int v), l4] st H Q = M14 63 [l0, l1, l2, .val (.int v), l4] (.int v :: st) H Q := w_x (show decode kb14 62 = .ok (.iload_n 3, 1) from by decide +kernel) rfl
theorem m14_63  : M14 63 ls (.int v :: .int j :: .ref ((b + 1) + 12) :: st) (put (b + 1) pre s A post) Q = (inB j (A 11) ∧ M14 64 ls st (put (b + 1) pre s (ou A 11 (setA (A 11) j v)) post) Q) := w_ist (show decode kb14 63 = .ok (.iastore, 1) from by decide +kernel) rfl put_a11 (by omega) rfl put_w11
theorem m14_64 : M14 64 [l0, l1, .val (.int v), l3, l4] st H Q = M14 67 [l0, l1, .val (.int (v + 1)), l3, l4] st H Q := w_iinc (show decode kb14 64 = .ok (.iinc 2 1, 3) from by decide +kernel) rfl (by decide) rfl
theorem m14_67 : M14 67 ls st H Q = M14 2 ls st H Q := w_x (show decode kb14 67 = .ok (.goto (-65), 3) from by decide +kernel) rfl
theorem m14_70 : M14 70 ls [] H Q = Q none H := w_vret (show decode kb14 70 = .ok (.return_, 1) from by decide +kernel) rfl
theorem m15_0 : M15 0 ls st H Q = M15 1 ls (.int 0 :: st) H Q := w_con (show decode kb15 0 = .ok (.iconst 0, 1) from by decide +kernel) rfl (by decide)
theorem m15_1u : M15 1 [l0, l1, l2, .unset, l4, l5, l6, l7] ((.int v) :: st) H Q = M15 2 [l0, l1, l2, .val (.int v), l4, l5, l6, l7] st H Q := w_st (i := 3) (p := isI) (show decode kb15 1 = .ok (.istore_n 3, 1) from by decide +kernel) rfl rfl rfl rfl rfl rfl
theorem m15_2 : M15 2 [.val (.ref r), l1, l2, l3, l4, l5, l6, l7] st H Q = M15 3 [.val (.ref r), l1, l2, l3, l4, l5, l6, l7] (.ref r :: st) H Q := w_x (show decode kb15 2 = .ok (.aload_n 0, 1) from by decide +kernel) rfl
theorem m15_3 : M15 3 ls (.ref (b + 1) :: st) (put (b + 1) pre s A post) Q = M15 6 ls (.ref ((b + 1) + 4) :: st) (put (b + 1) pre s A post) Q := w_get (show decode kb15 3 = .ok (.getfield 19, 3) from by decide +kernel) gf_19 put_o rfl
theorem m15_6 : M15 6 [l0, .val (.int v), l2, l3, l4, l5, l6, l7] st H Q = M15 7 [l0, .val (.int v), l2, l3, l4, l5, l6, l7] (.int v :: st) H Q := w_x (show decode kb15 6 = .ok (.iload_n 1, 1) from by decide +kernel) rfl
theorem m15_7  : M15 7 ls (.int j :: .ref ((b + 1) + 4) :: st) (put (b + 1) pre s A post) Q = (inB j (A 3) ∧ M15 8 ls (.int (getA (A 3) j) :: st) (put (b + 1) pre s A post) Q) := w_ild (show decode kb15 7 = .ok (.iaload, 1) from by decide +kernel) rfl put_a3
theorem m15_8u : M15 8 [l0, l1, l2, l3, .unset, l5, l6, l7] ((.int v) :: st) H Q = M15 10 [l0, l1, l2, l3, .val (.int v), l5, l6, l7] st H Q := w_st (i := 4) (p := isI) (show decode kb15 8 = .ok (.istore 4, 2) from by decide +kernel) rfl rfl rfl rfl rfl rfl
theorem m15_10 : M15 10 ls st H Q = M15 11 ls (.int 0 :: st) H Q := w_con (show decode kb15 10 = .ok (.iconst 0, 1) from by decide +kernel) rfl (by decide)
theorem m15_11u : M15 11 [l0, l1, l2, l3, l4, .unset, l6, l7] ((.int v) :: st) H Q = M15 13 [l0, l1, l2, l3, l4, .val (.int v), l6, l7] st H Q := w_st (i := 5) (p := isI) (show decode kb15 11 = .ok (.istore 5, 2) from by decide +kernel) rfl rfl rfl rfl rfl rfl
theorem m15_13 : M15 13 [l0, l1, l2, l3, l4, .val (.int v), l6, l7] st H Q = M15 15 [l0, l1, l2, l3, l4, .val (.int v), l6, l7] (.int v :: st) H Q := w_x (show decode kb15 13 = .ok (.iload 5, 2) from by decide +kernel) rfl
theorem m15_15 : M15 15 [l0, l1, .val (.int v), l3, l4, l5, l6, l7] st H Q = M15 16 [l0, l1, .val (.int v), l3, l4, l5, l6, l7] (.int v :: st) H Q := w_x (show decode kb15 15 = .ok (.iload_n 2, 1) from by decide +kernel) rfl
theorem m15_16 : M15 16 ls (.int y :: .int x :: st) H Q = if x < y then M15 19 ls st H Q else M15 95 ls st H Q := w_icmpN (show decode kb15 16 = .ok (.if_icmp .ge 79, 3) from by decide +kernel) (i_ge x y) rfl
theorem m15_19 : M15 19 [.val (.ref r), l1, l2, l3, l4, l5, l6, l7] st H Q = M15 20 [.val (.ref r), l1, l2, l3, l4, l5, l6, l7] (.ref r :: st) H Q := w_x (show decode kb15 19 = .ok (.aload_n 0, 1) from by decide +kernel) rfl
theorem m15_20 : M15 20 ls (.ref (b + 1) :: st) (put (b + 1) pre s A post) Q = M15 23 ls (.ref ((b + 1) + 4) :: st) (put (b + 1) pre s A post) Q := w_get (show decode kb15 20 = .ok (.getfield 19, 3) from by decide +kernel) gf_19 put_o rfl
theorem m15_23 : M15 23 [l0, l1, l2, l3, l4, .val (.int v), l6, l7] st H Q = M15 25 [l0, l1, l2, l3, l4, .val (.int v), l6, l7] (.int v :: st) H Q := w_x (show decode kb15 23 = .ok (.iload 5, 2) from by decide +kernel) rfl
theorem m15_25  : M15 25 ls (.int j :: .ref ((b + 1) + 4) :: st) (put (b + 1) pre s A post) Q = (inB j (A 3) ∧ M15 26 ls (.int (getA (A 3) j) :: st) (put (b + 1) pre s A post) Q) := w_ild (show decode kb15 25 = .ok (.iaload, 1) from by decide +kernel) rfl put_a3
theorem m15_26 : M15 26 [l0, l1, l2, l3, .val (.int v), l5, l6, l7] st H Q = M15 28 [l0, l1, l2, l3, .val (.int v), l5, l6, l7] (.int v :: st) H Q := w_x (show decode kb15 26 = .ok (.iload 4, 2) from by decide +kernel) rfl
theorem m15_28 : M15 28 ls (.int y :: .int x :: st) H Q = if x < y then M15 34 ls st H Q else M15 31 ls st H Q := w_icmp (show decode kb15 28 = .ok (.if_icmp .lt 6, 3) from by decide +kernel) (i_lt x y) rfl
theorem m15_31 : M15 31 ls st H Q = M15 89 ls st H Q := w_x (show decode kb15 31 = .ok (.goto 58, 3) from by decide +kernel) rfl
theorem m15_34 : M15 34 ls st H Q = M15 35 ls (.int 0 :: st) H Q := w_con (show decode kb15 34 = .ok (.iconst 0, 1) from by decide +kernel) rfl (by decide)
theorem m15_35u : M15 35 [l0, l1, l2, l3, l4, l5, .unset, l7] ((.int v) :: st) H Q = M15 37 [l0, l1, l2, l3, l4, l5, .val (.int v), l7] st H Q := w_st (i := 6) (p := isI) (show decode kb15 35 = .ok (.istore 6, 2) from by decide +kernel) rfl rfl rfl rfl rfl rfl
theorem m15_35i : M15 35 [l0, l1, l2, l3, l4, l5, .val (.int z), l7] ((.int v) :: st) H Q = M15 37 [l0, l1, l2, l3, l4, l5, .val (.int v), l7] st H Q := w_st (i := 6) (p := isI) (show decode kb15 35 = .ok (.istore 6, 2) from by decide +kernel) rfl rfl rfl rfl rfl rfl
theorem m15_35r : M15 35 [l0, l1, l2, l3, l4, l5, .val (.ref q), l7] ((.int v) :: st) H Q = M15 37 [l0, l1, l2, l3, l4, l5, .val (.int v), l7] st H Q := w_st (i := 6) (p := isI) (show decode kb15 35 = .ok (.istore 6, 2) from by decide +kernel) rfl rfl rfl rfl rfl rfl
theorem m15_35g (h : okS l6) : M15 35 [l0, l1, l2, l3, l4, l5, l6, l7] ((.int v) :: st) H Q = M15 37 [l0, l1, l2, l3, l4, l5, .val (.int v), l7] st H Q := by rcases h with rfl | ⟨z, rfl⟩ <;> first | exact m15_35u | exact m15_35i
theorem m15_37 : M15 37 [l0, l1, l2, l3, l4, l5, .val (.int v), l7] st H Q = M15 39 [l0, l1, l2, l3, l4, l5, .val (.int v), l7] (.int v :: st) H Q := w_x (show decode kb15 37 = .ok (.iload 6, 2) from by decide +kernel) rfl
theorem m15_39 : M15 39 ls st H Q = M15 40 ls (.int 4 :: st) H Q := w_con (show decode kb15 39 = .ok (.iconst 4, 1) from by decide +kernel) rfl (by decide)
theorem m15_40 : M15 40 ls (.int y :: .int x :: st) H Q = if x < y then M15 43 ls st H Q else M15 89 ls st H Q := w_icmpN (show decode kb15 40 = .ok (.if_icmp .ge 49, 3) from by decide +kernel) (i_ge x y) rfl
theorem m15_43 : M15 43 [.val (.ref r), l1, l2, l3, l4, l5, l6, l7] st H Q = M15 44 [.val (.ref r), l1, l2, l3, l4, l5, l6, l7] (.ref r :: st) H Q := w_x (show decode kb15 43 = .ok (.aload_n 0, 1) from by decide +kernel) rfl
theorem m15_44 : M15 44 ls (.ref (b + 1) :: st) (put (b + 1) pre s A post) Q = M15 47 ls (.ref ((b + 1) + 6) :: st) (put (b + 1) pre s A post) Q := w_get (show decode kb15 44 = .ok (.getfield 25, 3) from by decide +kernel) gf_25 put_o rfl
theorem m15_47 : M15 47 [l0, l1, l2, l3, l4, .val (.int v), l6, l7] st H Q = M15 49 [l0, l1, l2, l3, l4, .val (.int v), l6, l7] (.int v :: st) H Q := w_x (show decode kb15 47 = .ok (.iload 5, 2) from by decide +kernel) rfl
theorem m15_49 : M15 49 ls st H Q = M15 50 ls (.int 4 :: st) H Q := w_con (show decode kb15 49 = .ok (.iconst 4, 1) from by decide +kernel) rfl (by decide)
theorem m15_50 : M15 50 ls (.int y :: .int x :: st) H Q = M15 51 ls (.int (x * y) :: st) H Q := w_x (show decode kb15 50 = .ok (.imul, 1) from by decide +kernel) rfl
theorem m15_51 : M15 51 [l0, l1, l2, l3, l4, l5, .val (.int v), l7] st H Q = M15 53 [l0, l1, l2, l3, l4, l5, .val (.int v), l7] (.int v :: st) H Q := w_x (show decode kb15 51 = .ok (.iload 6, 2) from by decide +kernel) rfl
theorem m15_53 : M15 53 ls (.int y :: .int x :: st) H Q = M15 54 ls (.int (x + y) :: st) H Q := w_x (show decode kb15 53 = .ok (.iadd, 1) from by decide +kernel) rfl
theorem m15_54  : M15 54 ls (.int j :: .ref ((b + 1) + 6) :: st) (put (b + 1) pre s A post) Q = (inB j (A 5) ∧ M15 55 ls (.int (getA (A 5) j) :: st) (put (b + 1) pre s A post) Q) := w_ild (show decode kb15 54 = .ok (.iaload, 1) from by decide +kernel) rfl put_a5
theorem m15_55u : M15 55 [l0, l1, l2, l3, l4, l5, l6, .unset] ((.int v) :: st) H Q = M15 57 [l0, l1, l2, l3, l4, l5, l6, .val (.int v)] st H Q := w_st (i := 7) (p := isI) (show decode kb15 55 = .ok (.istore 7, 2) from by decide +kernel) rfl rfl rfl rfl rfl rfl
theorem m15_55i : M15 55 [l0, l1, l2, l3, l4, l5, l6, .val (.int z)] ((.int v) :: st) H Q = M15 57 [l0, l1, l2, l3, l4, l5, l6, .val (.int v)] st H Q := w_st (i := 7) (p := isI) (show decode kb15 55 = .ok (.istore 7, 2) from by decide +kernel) rfl rfl rfl rfl rfl rfl
theorem m15_55r : M15 55 [l0, l1, l2, l3, l4, l5, l6, .val (.ref q)] ((.int v) :: st) H Q = M15 57 [l0, l1, l2, l3, l4, l5, l6, .val (.int v)] st H Q := w_st (i := 7) (p := isI) (show decode kb15 55 = .ok (.istore 7, 2) from by decide +kernel) rfl rfl rfl rfl rfl rfl
theorem m15_55g (h : okS l7) : M15 55 [l0, l1, l2, l3, l4, l5, l6, l7] ((.int v) :: st) H Q = M15 57 [l0, l1, l2, l3, l4, l5, l6, .val (.int v)] st H Q := by rcases h with rfl | ⟨z, rfl⟩ <;> first | exact m15_55u | exact m15_55i
theorem m15_57 : M15 57 [l0, l1, l2, l3, l4, l5, l6, .val (.int v)] st H Q = M15 59 [l0, l1, l2, l3, l4, l5, l6, .val (.int v)] (.int v :: st) H Q := w_x (show decode kb15 57 = .ok (.iload 7, 2) from by decide +kernel) rfl
theorem m15_59 : M15 59 ls (.int x :: st) H Q = if 0 < x then M15 62 ls st H Q else M15 83 ls st H Q := w_ifN (show decode kb15 59 = .ok (.ifCond .le 24, 3) from by decide +kernel) (z_le x) rfl
theorem m15_62 : M15 62 [.val (.ref r), l1, l2, l3, l4, l5, l6, l7] st H Q = M15 63 [.val (.ref r), l1, l2, l3, l4, l5, l6, l7] (.ref r :: st) H Q := w_x (show decode kb15 62 = .ok (.aload_n 0, 1) from by decide +kernel) rfl
theorem m15_63 : M15 63 ls (.ref (b + 1) :: st) (put (b + 1) pre s A post) Q = M15 66 ls (.ref ((b + 1) + 12) :: st) (put (b + 1) pre s A post) Q := w_get (show decode kb15 63 = .ok (.getfield 43, 3) from by decide +kernel) gf_43 put_o rfl
theorem m15_66 : M15 66 [l0, l1, l2, l3, l4, l5, .val (.int v), l7] st H Q = M15 68 [l0, l1, l2, l3, l4, l5, .val (.int v), l7] (.int v :: st) H Q := w_x (show decode kb15 66 = .ok (.iload 6, 2) from by decide +kernel) rfl
theorem m15_68  : M15 68 ls (.int j :: .ref ((b + 1) + 12) :: st) (put (b + 1) pre s A post) Q = (inB j (A 11) ∧ M15 69 ls (.int (getA (A 11) j) :: st) (put (b + 1) pre s A post) Q) := w_ild (show decode kb15 68 = .ok (.iaload, 1) from by decide +kernel) rfl put_a11
theorem m15_69 : M15 69 [l0, l1, l2, l3, .val (.int v), l5, l6, l7] st H Q = M15 71 [l0, l1, l2, l3, .val (.int v), l5, l6, l7] (.int v :: st) H Q := w_x (show decode kb15 69 = .ok (.iload 4, 2) from by decide +kernel) rfl
theorem m15_71 : M15 71 ls (.int y :: .int x :: st) H Q = if x < y then M15 83 ls st H Q else M15 74 ls st H Q := w_icmp (show decode kb15 71 = .ok (.if_icmp .lt 12, 3) from by decide +kernel) (i_lt x y) rfl
theorem m15_74 : M15 74 [l0, l1, l2, l3, l4, l5, l6, .val (.int v)] st H Q = M15 76 [l0, l1, l2, l3, l4, l5, l6, .val (.int v)] (.int v :: st) H Q := w_x (show decode kb15 74 = .ok (.iload 7, 2) from by decide +kernel) rfl
theorem m15_76 : M15 76 [l0, l1, l2, .val (.int v), l4, l5, l6, l7] st H Q = M15 77 [l0, l1, l2, .val (.int v), l4, l5, l6, l7] (.int v :: st) H Q := w_x (show decode kb15 76 = .ok (.iload_n 3, 1) from by decide +kernel) rfl
theorem m15_77 : M15 77 ls (.int y :: .int x :: st) H Q = if y < x then M15 80 ls st H Q else M15 83 ls st H Q := w_icmpN (show decode kb15 77 = .ok (.if_icmp .le 6, 3) from by decide +kernel) (i_le x y) rfl
theorem m15_80 : M15 80 [l0, l1, l2, l3, l4, l5, l6, .val (.int v)] st H Q = M15 82 [l0, l1, l2, l3, l4, l5, l6, .val (.int v)] (.int v :: st) H Q := w_x (show decode kb15 80 = .ok (.iload 7, 2) from by decide +kernel) rfl
theorem m15_82i : M15 82 [l0, l1, l2, .val (.int z), l4, l5, l6, l7] ((.int v) :: st) H Q = M15 83 [l0, l1, l2, .val (.int v), l4, l5, l6, l7] st H Q := w_st (i := 3) (p := isI) (show decode kb15 82 = .ok (.istore_n 3, 1) from by decide +kernel) rfl rfl rfl rfl rfl rfl
theorem m15_83 : M15 83 [l0, l1, l2, l3, l4, l5, .val (.int v), l7] st H Q = M15 86 [l0, l1, l2, l3, l4, l5, .val (.int (v + 1)), l7] st H Q := w_iinc (show decode kb15 83 = .ok (.iinc 6 1, 3) from by decide +kernel) rfl (by decide) rfl
theorem m15_86 : M15 86 ls st H Q = M15 37 ls st H Q := w_x (show decode kb15 86 = .ok (.goto (-49), 3) from by decide +kernel) rfl
theorem m15_89 : M15 89 [l0, l1, l2, l3, l4, .val (.int v), l6, l7] st H Q = M15 92 [l0, l1, l2, l3, l4, .val (.int (v + 1)), l6, l7] st H Q := w_iinc (show decode kb15 89 = .ok (.iinc 5 1, 3) from by decide +kernel) rfl (by decide) rfl
theorem m15_92 : M15 92 ls st H Q = M15 13 ls st H Q := w_x (show decode kb15 92 = .ok (.goto (-79), 3) from by decide +kernel) rfl
theorem m15_95 : M15 95 [l0, l1, l2, .val (.int v), l4, l5, l6, l7] st H Q = M15 96 [l0, l1, l2, .val (.int v), l4, l5, l6, l7] (.int v :: st) H Q := w_x (show decode kb15 95 = .ok (.iload_n 3, 1) from by decide +kernel) rfl
theorem m15_96 : M15 96 ls (.int z :: st) H Q = Q (some (.int z)) H := w_iret (show decode kb15 96 = .ok (.ireturn, 1) from by decide +kernel) rfl
theorem m16_0 : M16 0 [.val (.ref r), l1, l2, l3, l4, l5, l6, l7] st H Q = M16 1 [.val (.ref r), l1, l2, l3, l4, l5, l6, l7] (.ref r :: st) H Q := w_x (show decode kb16 0 = .ok (.aload_n 0, 1) from by decide +kernel) rfl
theorem m16_1 : M16 1 ls (.ref (b + 1) :: st) (put (b + 1) pre s A post) Q = M16 4 ls (.ref ((b + 1) + 3) :: st) (put (b + 1) pre s A post) Q := w_get (show decode kb16 1 = .ok (.getfield 16, 3) from by decide +kernel) gf_16 put_o rfl
theorem m16_4 : M16 4 [l0, .val (.int v), l2, l3, l4, l5, l6, l7] st H Q = M16 5 [l0, .val (.int v), l2, l3, l4, l5, l6, l7] (.int v :: st) H Q := w_x (show decode kb16 4 = .ok (.iload_n 1, 1) from by decide +kernel) rfl
theorem m16_5  : M16 5 ls (.int j :: .ref ((b + 1) + 3) :: st) (put (b + 1) pre s A post) Q = (inB j (A 2) ∧ M16 6 ls (.int (getA (A 2) j) :: st) (put (b + 1) pre s A post) Q) := w_ild (show decode kb16 5 = .ok (.iaload, 1) from by decide +kernel) rfl put_a2
theorem m16_6 : M16 6 [l0, l1, l2, .val (.int v), l4, l5, l6, l7] st H Q = M16 7 [l0, l1, l2, .val (.int v), l4, l5, l6, l7] (.int v :: st) H Q := w_x (show decode kb16 6 = .ok (.iload_n 3, 1) from by decide +kernel) rfl
theorem m16_7 : M16 7 ls (.int y :: .int x :: st) H Q = M16 8 ls (.int (x + y) :: st) H Q := w_x (show decode kb16 7 = .ok (.iadd, 1) from by decide +kernel) rfl
theorem m16_8u : M16 8 [l0, l1, l2, l3, .unset, l5, l6, l7] ((.int v) :: st) H Q = M16 10 [l0, l1, l2, l3, .val (.int v), l5, l6, l7] st H Q := w_st (i := 4) (p := isI) (show decode kb16 8 = .ok (.istore 4, 2) from by decide +kernel) rfl rfl rfl rfl rfl rfl
theorem m16_10 : M16 10 [l0, l1, l2, l3, .val (.int v), l5, l6, l7] st H Q = M16 12 [l0, l1, l2, l3, .val (.int v), l5, l6, l7] (.int v :: st) H Q := w_x (show decode kb16 10 = .ok (.iload 4, 2) from by decide +kernel) rfl
theorem m16_12u : M16 12 [l0, l1, l2, l3, l4, .unset, l6, l7] ((.int v) :: st) H Q = M16 14 [l0, l1, l2, l3, l4, .val (.int v), l6, l7] st H Q := w_st (i := 5) (p := isI) (show decode kb16 12 = .ok (.istore 5, 2) from by decide +kernel) rfl rfl rfl rfl rfl rfl
theorem m16_14 : M16 14 ls st H Q = M16 15 ls (.int 0 :: st) H Q := w_con (show decode kb16 14 = .ok (.iconst 0, 1) from by decide +kernel) rfl (by decide)
theorem m16_15u : M16 15 [l0, l1, l2, l3, l4, l5, .unset, l7] ((.int v) :: st) H Q = M16 17 [l0, l1, l2, l3, l4, l5, .val (.int v), l7] st H Q := w_st (i := 6) (p := isI) (show decode kb16 15 = .ok (.istore 6, 2) from by decide +kernel) rfl rfl rfl rfl rfl rfl
theorem m16_17 : M16 17 [l0, l1, l2, l3, l4, l5, .val (.int v), l7] st H Q = M16 19 [l0, l1, l2, l3, l4, l5, .val (.int v), l7] (.int v :: st) H Q := w_x (show decode kb16 17 = .ok (.iload 6, 2) from by decide +kernel) rfl
theorem m16_19 : M16 19 ls st H Q = M16 22 ls (.int 842 :: st) H Q := w_con (show decode kb16 19 = .ok (.sipush 842, 3) from by decide +kernel) rfl (by decide)
theorem m16_22 : M16 22 ls (.int y :: .int x :: st) H Q = if x < y then M16 25 ls st H Q else M16 71 ls st H Q := w_icmpN (show decode kb16 22 = .ok (.if_icmp .ge 49, 3) from by decide +kernel) (i_ge x y) rfl
theorem m16_25 : M16 25 [l0, l1, l2, l3, l4, .val (.int v), l6, l7] st H Q = M16 27 [l0, l1, l2, l3, l4, .val (.int v), l6, l7] (.int v :: st) H Q := w_x (show decode kb16 25 = .ok (.iload 5, 2) from by decide +kernel) rfl
theorem m16_27 : M16 27 [.val (.ref r), l1, l2, l3, l4, l5, l6, l7] st H Q = M16 28 [.val (.ref r), l1, l2, l3, l4, l5, l6, l7] (.ref r :: st) H Q := w_x (show decode kb16 27 = .ok (.aload_n 0, 1) from by decide +kernel) rfl
theorem m16_28 : M16 28 ls (.ref (b + 1) :: st) (put (b + 1) pre s A post) Q = M16 31 ls (.ref ((b + 1) + 2) :: st) (put (b + 1) pre s A post) Q := w_get (show decode kb16 28 = .ok (.getfield 13, 3) from by decide +kernel) gf_13 put_o rfl
theorem m16_31 : M16 31 [l0, .val (.int v), l2, l3, l4, l5, l6, l7] st H Q = M16 32 [l0, .val (.int v), l2, l3, l4, l5, l6, l7] (.int v :: st) H Q := w_x (show decode kb16 31 = .ok (.iload_n 1, 1) from by decide +kernel) rfl
theorem m16_32  : M16 32 ls (.int j :: .ref ((b + 1) + 2) :: st) (put (b + 1) pre s A post) Q = (inB j (A 1) ∧ M16 33 ls (.int (getA (A 1) j) :: st) (put (b + 1) pre s A post) Q) := w_ild (show decode kb16 32 = .ok (.iaload, 1) from by decide +kernel) rfl put_a1
theorem m16_33 : M16 33 ls (.int y :: .int x :: st) H Q = if y < x then M16 36 ls st H Q else M16 38 ls st H Q := w_icmpN (show decode kb16 33 = .ok (.if_icmp .le 5, 3) from by decide +kernel) (i_le x y) rfl
theorem m16_36 : M16 36 ls st H Q = M16 37 ls (.int (-1) :: st) H Q := w_con (show decode kb16 36 = .ok (.iconst (-1), 1) from by decide +kernel) rfl (by decide)
theorem m16_37 : M16 37 ls (.int z :: st) H Q = Q (some (.int z)) H := w_iret (show decode kb16 37 = .ok (.ireturn, 1) from by decide +kernel) rfl
theorem m16_38 : M16 38 [l0, l1, l2, l3, .val (.int v), l5, l6, l7] st H Q = M16 40 [l0, l1, l2, l3, .val (.int v), l5, l6, l7] (.int v :: st) H Q := w_x (show decode kb16 38 = .ok (.iload 4, 2) from by decide +kernel) rfl
theorem m16_40 : M16 40 [.val (.ref r), l1, l2, l3, l4, l5, l6, l7] st H Q = M16 41 [.val (.ref r), l1, l2, l3, l4, l5, l6, l7] (.ref r :: st) H Q := w_x (show decode kb16 40 = .ok (.aload_n 0, 1) from by decide +kernel) rfl
theorem m16_41 : M16 41 [l0, .val (.int v), l2, l3, l4, l5, l6, l7] st H Q = M16 42 [l0, .val (.int v), l2, l3, l4, l5, l6, l7] (.int v :: st) H Q := w_x (show decode kb16 41 = .ok (.iload_n 1, 1) from by decide +kernel) rfl
theorem m16_42 : M16 42 [l0, l1, .val (.int v), l3, l4, l5, l6, l7] st H Q = M16 43 [l0, l1, .val (.int v), l3, l4, l5, l6, l7] (.int v :: st) H Q := w_x (show decode kb16 42 = .ok (.iload_n 2, 1) from by decide +kernel) rfl
theorem m16_43 : M16 43 [l0, l1, l2, l3, l4, .val (.int v), l6, l7] st H Q = M16 45 [l0, l1, l2, l3, l4, .val (.int v), l6, l7] (.int v :: st) H Q := w_x (show decode kb16 43 = .ok (.iload 5, 2) from by decide +kernel) rfl
theorem cr16_139 : vR tables_1 dn y16 139 = some (true, y17, prog_1_method_15_code, 8, (some .int), 3, 1) := pR_of (cR_of (by decide +kernel) rc_17 dn_17 dn_16 (sig := ⟨[.int, .int, .int], some .int⟩) (by decide +kernel) (by decide +kernel) rfl rfl) (by decide +kernel) (by decide +kernel)
theorem m16_45 (a0 : Int32) (a1 : Int32) (a2 : Int32) (u0 : Int32) : M16 45 ls [.int a2, .int a1, .int a0, .ref (b + 1), .int u0] (put (b + 1) pre s A post) Q = M17 0 [.val (.ref (b + 1)), .val (.int a0), .val (.int a1), .val (.int a2), .unset, .unset, .unset, .unset] [] (put (b + 1) pre s A post) (fun v H1 => M16 48 ls (v.toList ++ [.int u0]) H1 Q) := w_virt (as := [.int a2, .int a1, .int a0]) (rest := [.int u0]) (a := (b + 1)) (show decode kb16 45 = .ok (.invokevirtual 139, 3) from by decide +kernel) cr16_139 put_o rfl rfl (Nat.le_of_ble_eq_true rfl) (by show 4 ≤ 8; omega) rfl
theorem m16_48 : M16 48 ls (.int y :: .int x :: st) H Q = M16 49 ls (.int (x + y) :: st) H Q := w_x (show decode kb16 48 = .ok (.iadd, 1) from by decide +kernel) rfl
theorem m16_49u : M16 49 [l0, l1, l2, l3, l4, l5, l6, .unset] ((.int v) :: st) H Q = M16 51 [l0, l1, l2, l3, l4, l5, l6, .val (.int v)] st H Q := w_st (i := 7) (p := isI) (show decode kb16 49 = .ok (.istore 7, 2) from by decide +kernel) rfl rfl rfl rfl rfl rfl
theorem m16_49i : M16 49 [l0, l1, l2, l3, l4, l5, l6, .val (.int z)] ((.int v) :: st) H Q = M16 51 [l0, l1, l2, l3, l4, l5, l6, .val (.int v)] st H Q := w_st (i := 7) (p := isI) (show decode kb16 49 = .ok (.istore 7, 2) from by decide +kernel) rfl rfl rfl rfl rfl rfl
theorem m16_49r : M16 49 [l0, l1, l2, l3, l4, l5, l6, .val (.ref q)] ((.int v) :: st) H Q = M16 51 [l0, l1, l2, l3, l4, l5, l6, .val (.int v)] st H Q := w_st (i := 7) (p := isI) (show decode kb16 49 = .ok (.istore 7, 2) from by decide +kernel) rfl rfl rfl rfl rfl rfl
theorem m16_49g (h : okS l7) : M16 49 [l0, l1, l2, l3, l4, l5, l6, l7] ((.int v) :: st) H Q = M16 51 [l0, l1, l2, l3, l4, l5, l6, .val (.int v)] st H Q := by rcases h with rfl | ⟨z, rfl⟩ <;> first | exact m16_49u | exact m16_49i
theorem m16_51 : M16 51 [l0, l1, l2, l3, l4, l5, l6, .val (.int v)] st H Q = M16 53 [l0, l1, l2, l3, l4, l5, l6, .val (.int v)] (.int v :: st) H Q := w_x (show decode kb16 51 = .ok (.iload 7, 2) from by decide +kernel) rfl
theorem m16_53 : M16 53 [l0, l1, l2, l3, l4, .val (.int v), l6, l7] st H Q = M16 55 [l0, l1, l2, l3, l4, .val (.int v), l6, l7] (.int v :: st) H Q := w_x (show decode kb16 53 = .ok (.iload 5, 2) from by decide +kernel) rfl
theorem m16_55 : M16 55 ls (.int y :: .int x :: st) H Q = if x = y then M16 58 ls st H Q else M16 61 ls st H Q := w_icmpN (show decode kb16 55 = .ok (.if_icmp .ne 6, 3) from by decide +kernel) (i_ne x y) rfl
theorem m16_58 : M16 58 [l0, l1, l2, l3, l4, .val (.int v), l6, l7] st H Q = M16 60 [l0, l1, l2, l3, l4, .val (.int v), l6, l7] (.int v :: st) H Q := w_x (show decode kb16 58 = .ok (.iload 5, 2) from by decide +kernel) rfl
theorem m16_60 : M16 60 ls (.int z :: st) H Q = Q (some (.int z)) H := w_iret (show decode kb16 60 = .ok (.ireturn, 1) from by decide +kernel) rfl
theorem m16_61 : M16 61 [l0, l1, l2, l3, l4, l5, l6, .val (.int v)] st H Q = M16 63 [l0, l1, l2, l3, l4, l5, l6, .val (.int v)] (.int v :: st) H Q := w_x (show decode kb16 61 = .ok (.iload 7, 2) from by decide +kernel) rfl
theorem m16_63i : M16 63 [l0, l1, l2, l3, l4, .val (.int z), l6, l7] ((.int v) :: st) H Q = M16 65 [l0, l1, l2, l3, l4, .val (.int v), l6, l7] st H Q := w_st (i := 5) (p := isI) (show decode kb16 63 = .ok (.istore 5, 2) from by decide +kernel) rfl rfl rfl rfl rfl rfl
theorem m16_65 : M16 65 [l0, l1, l2, l3, l4, l5, .val (.int v), l7] st H Q = M16 68 [l0, l1, l2, l3, l4, l5, .val (.int (v + 1)), l7] st H Q := w_iinc (show decode kb16 65 = .ok (.iinc 6 1, 3) from by decide +kernel) rfl (by decide) rfl
theorem m16_68 : M16 68 ls st H Q = M16 17 ls st H Q := w_x (show decode kb16 68 = .ok (.goto (-51), 3) from by decide +kernel) rfl
theorem m16_71 : M16 71 ls st H Q = M16 72 ls (.int (-1) :: st) H Q := w_con (show decode kb16 71 = .ok (.iconst (-1), 1) from by decide +kernel) rfl (by decide)
theorem m16_72 : M16 72 ls (.int z :: st) H Q = Q (some (.int z)) H := w_iret (show decode kb16 72 = .ok (.ireturn, 1) from by decide +kernel) rfl
theorem m17_0 : M17 0 ls st H Q = M17 1 ls (.int 0 :: st) H Q := w_con (show decode kb17 0 = .ok (.iconst 0, 1) from by decide +kernel) rfl (by decide)
theorem m17_1u : M17 1 [l0, l1, l2, l3, .unset, l5, l6, l7] ((.int v) :: st) H Q = M17 3 [l0, l1, l2, l3, .val (.int v), l5, l6, l7] st H Q := w_st (i := 4) (p := isI) (show decode kb17 1 = .ok (.istore 4, 2) from by decide +kernel) rfl rfl rfl rfl rfl rfl
theorem m17_3 : M17 3 [.val (.ref r), l1, l2, l3, l4, l5, l6, l7] st H Q = M17 4 [.val (.ref r), l1, l2, l3, l4, l5, l6, l7] (.ref r :: st) H Q := w_x (show decode kb17 3 = .ok (.aload_n 0, 1) from by decide +kernel) rfl
theorem m17_4 : M17 4 ls (.ref (b + 1) :: st) (put (b + 1) pre s A post) Q = M17 7 ls (.ref ((b + 1) + 4) :: st) (put (b + 1) pre s A post) Q := w_get (show decode kb17 4 = .ok (.getfield 19, 3) from by decide +kernel) gf_19 put_o rfl
theorem m17_7 : M17 7 [l0, .val (.int v), l2, l3, l4, l5, l6, l7] st H Q = M17 8 [l0, .val (.int v), l2, l3, l4, l5, l6, l7] (.int v :: st) H Q := w_x (show decode kb17 7 = .ok (.iload_n 1, 1) from by decide +kernel) rfl
theorem m17_8  : M17 8 ls (.int j :: .ref ((b + 1) + 4) :: st) (put (b + 1) pre s A post) Q = (inB j (A 3) ∧ M17 9 ls (.int (getA (A 3) j) :: st) (put (b + 1) pre s A post) Q) := w_ild (show decode kb17 8 = .ok (.iaload, 1) from by decide +kernel) rfl put_a3
theorem m17_9u : M17 9 [l0, l1, l2, l3, l4, .unset, l6, l7] ((.int v) :: st) H Q = M17 11 [l0, l1, l2, l3, l4, .val (.int v), l6, l7] st H Q := w_st (i := 5) (p := isI) (show decode kb17 9 = .ok (.istore 5, 2) from by decide +kernel) rfl rfl rfl rfl rfl rfl
theorem m17_11 : M17 11 ls st H Q = M17 12 ls (.int 0 :: st) H Q := w_con (show decode kb17 11 = .ok (.iconst 0, 1) from by decide +kernel) rfl (by decide)
theorem m17_12u : M17 12 [l0, l1, l2, l3, l4, l5, .unset, l7] ((.int v) :: st) H Q = M17 14 [l0, l1, l2, l3, l4, l5, .val (.int v), l7] st H Q := w_st (i := 6) (p := isI) (show decode kb17 12 = .ok (.istore 6, 2) from by decide +kernel) rfl rfl rfl rfl rfl rfl
theorem m17_14 : M17 14 [l0, l1, l2, l3, l4, l5, .val (.int v), l7] st H Q = M17 16 [l0, l1, l2, l3, l4, l5, .val (.int v), l7] (.int v :: st) H Q := w_x (show decode kb17 14 = .ok (.iload 6, 2) from by decide +kernel) rfl
theorem m17_16 : M17 16 [l0, l1, .val (.int v), l3, l4, l5, l6, l7] st H Q = M17 17 [l0, l1, .val (.int v), l3, l4, l5, l6, l7] (.int v :: st) H Q := w_x (show decode kb17 16 = .ok (.iload_n 2, 1) from by decide +kernel) rfl
theorem m17_17 : M17 17 ls (.int y :: .int x :: st) H Q = if x < y then M17 20 ls st H Q else M17 74 ls st H Q := w_icmpN (show decode kb17 17 = .ok (.if_icmp .ge 57, 3) from by decide +kernel) (i_ge x y) rfl
theorem m17_20 : M17 20 [.val (.ref r), l1, l2, l3, l4, l5, l6, l7] st H Q = M17 21 [.val (.ref r), l1, l2, l3, l4, l5, l6, l7] (.ref r :: st) H Q := w_x (show decode kb17 20 = .ok (.aload_n 0, 1) from by decide +kernel) rfl
theorem m17_21 : M17 21 ls (.ref (b + 1) :: st) (put (b + 1) pre s A post) Q = M17 24 ls (.ref ((b + 1) + 1) :: st) (put (b + 1) pre s A post) Q := w_get (show decode kb17 21 = .ok (.getfield 7, 3) from by decide +kernel) gf_7 put_o rfl
theorem m17_24 : M17 24 [l0, l1, l2, l3, l4, l5, .val (.int v), l7] st H Q = M17 26 [l0, l1, l2, l3, l4, l5, .val (.int v), l7] (.int v :: st) H Q := w_x (show decode kb17 24 = .ok (.iload 6, 2) from by decide +kernel) rfl
theorem m17_26  : M17 26 ls (.int j :: .ref ((b + 1) + 1) :: st) (put (b + 1) pre s A post) Q = (inB j (A 0) ∧ M17 27 ls (.int (getA (A 0) j) :: st) (put (b + 1) pre s A post) Q) := w_ild (show decode kb17 26 = .ok (.iaload, 1) from by decide +kernel) rfl put_a0
theorem m17_27u : M17 27 [l0, l1, l2, l3, l4, l5, l6, .unset] ((.int v) :: st) H Q = M17 29 [l0, l1, l2, l3, l4, l5, l6, .val (.int v)] st H Q := w_st (i := 7) (p := isI) (show decode kb17 27 = .ok (.istore 7, 2) from by decide +kernel) rfl rfl rfl rfl rfl rfl
theorem m17_27i : M17 27 [l0, l1, l2, l3, l4, l5, l6, .val (.int z)] ((.int v) :: st) H Q = M17 29 [l0, l1, l2, l3, l4, l5, l6, .val (.int v)] st H Q := w_st (i := 7) (p := isI) (show decode kb17 27 = .ok (.istore 7, 2) from by decide +kernel) rfl rfl rfl rfl rfl rfl
theorem m17_27r : M17 27 [l0, l1, l2, l3, l4, l5, l6, .val (.ref q)] ((.int v) :: st) H Q = M17 29 [l0, l1, l2, l3, l4, l5, l6, .val (.int v)] st H Q := w_st (i := 7) (p := isI) (show decode kb17 27 = .ok (.istore 7, 2) from by decide +kernel) rfl rfl rfl rfl rfl rfl
theorem m17_27g (h : okS l7) : M17 27 [l0, l1, l2, l3, l4, l5, l6, l7] ((.int v) :: st) H Q = M17 29 [l0, l1, l2, l3, l4, l5, l6, .val (.int v)] st H Q := by rcases h with rfl | ⟨z, rfl⟩ <;> first | exact m17_27u | exact m17_27i
theorem m17_29 : M17 29 [.val (.ref r), l1, l2, l3, l4, l5, l6, l7] st H Q = M17 30 [.val (.ref r), l1, l2, l3, l4, l5, l6, l7] (.ref r :: st) H Q := w_x (show decode kb17 29 = .ok (.aload_n 0, 1) from by decide +kernel) rfl
theorem m17_30 : M17 30 ls (.ref (b + 1) :: st) (put (b + 1) pre s A post) Q = M17 33 ls (.ref ((b + 1) + 4) :: st) (put (b + 1) pre s A post) Q := w_get (show decode kb17 30 = .ok (.getfield 19, 3) from by decide +kernel) gf_19 put_o rfl
theorem m17_33 : M17 33 [l0, l1, l2, l3, l4, l5, .val (.int v), l7] st H Q = M17 35 [l0, l1, l2, l3, l4, l5, .val (.int v), l7] (.int v :: st) H Q := w_x (show decode kb17 33 = .ok (.iload 6, 2) from by decide +kernel) rfl
theorem m17_35  : M17 35 ls (.int j :: .ref ((b + 1) + 4) :: st) (put (b + 1) pre s A post) Q = (inB j (A 3) ∧ M17 36 ls (.int (getA (A 3) j) :: st) (put (b + 1) pre s A post) Q) := w_ild (show decode kb17 35 = .ok (.iaload, 1) from by decide +kernel) rfl put_a3
theorem m17_36 : M17 36 [l0, l1, l2, l3, l4, .val (.int v), l6, l7] st H Q = M17 38 [l0, l1, l2, l3, l4, .val (.int v), l6, l7] (.int v :: st) H Q := w_x (show decode kb17 36 = .ok (.iload 5, 2) from by decide +kernel) rfl
theorem m17_38 : M17 38 ls (.int y :: .int x :: st) H Q = if y < x then M17 41 ls st H Q else M17 68 ls st H Q := w_icmpN (show decode kb17 38 = .ok (.if_icmp .le 30, 3) from by decide +kernel) (i_le x y) rfl
theorem m17_41 : M17 41 [l0, l1, l2, l3, l4, l5, l6, .val (.int v)] st H Q = M17 43 [l0, l1, l2, l3, l4, l5, l6, .val (.int v)] (.int v :: st) H Q := w_x (show decode kb17 41 = .ok (.iload 7, 2) from by decide +kernel) rfl
theorem m17_43 : M17 43 ls (.int x :: st) H Q = if 0 < x then M17 46 ls st H Q else M17 68 ls st H Q := w_ifN (show decode kb17 43 = .ok (.ifCond .le 25, 3) from by decide +kernel) (z_le x) rfl
theorem m17_46 : M17 46 [l0, l1, l2, l3, .val (.int v), l5, l6, l7] st H Q = M17 48 [l0, l1, l2, l3, .val (.int v), l5, l6, l7] (.int v :: st) H Q := w_x (show decode kb17 46 = .ok (.iload 4, 2) from by decide +kernel) rfl
theorem m17_48 : M17 48 [l0, l1, l2, .val (.int v), l4, l5, l6, l7] st H Q = M17 49 [l0, l1, l2, .val (.int v), l4, l5, l6, l7] (.int v :: st) H Q := w_x (show decode kb17 48 = .ok (.iload_n 3, 1) from by decide +kernel) rfl
theorem m17_49 : M17 49 [l0, l1, l2, l3, l4, l5, l6, .val (.int v)] st H Q = M17 51 [l0, l1, l2, l3, l4, l5, l6, .val (.int v)] (.int v :: st) H Q := w_x (show decode kb17 49 = .ok (.iload 7, 2) from by decide +kernel) rfl
theorem m17_51 : M17 51 ls (.int y :: .int x :: st) H Q = M17 52 ls (.int (x + y) :: st) H Q := w_x (show decode kb17 51 = .ok (.iadd, 1) from by decide +kernel) rfl
theorem m17_52 : M17 52 ls st H Q = M17 53 ls (.int 1 :: st) H Q := w_con (show decode kb17 52 = .ok (.iconst 1, 1) from by decide +kernel) rfl (by decide)
theorem m17_53 : M17 53 ls (.int y :: .int x :: st) H Q = M17 54 ls (.int (x - y) :: st) H Q := w_x (show decode kb17 53 = .ok (.isub, 1) from by decide +kernel) rfl
theorem m17_54 : M17 54 [l0, l1, l2, l3, l4, l5, l6, .val (.int v)] st H Q = M17 56 [l0, l1, l2, l3, l4, l5, l6, .val (.int v)] (.int v :: st) H Q := w_x (show decode kb17 54 = .ok (.iload 7, 2) from by decide +kernel) rfl
theorem m17_56 : M17 56 ls (.int y :: .int x :: st) H Q = (y ≠ 0 ∧ M17 57 ls (.int (x / y) :: st) H Q) := w_div (f := fun x y => x / y) (show decode kb17 56 = .ok (.idiv, 1) from by decide +kernel) (fun _ => rfl) rfl rfl
theorem m17_57 : M17 57 [.val (.ref r), l1, l2, l3, l4, l5, l6, l7] st H Q = M17 58 [.val (.ref r), l1, l2, l3, l4, l5, l6, l7] (.ref r :: st) H Q := w_x (show decode kb17 57 = .ok (.aload_n 0, 1) from by decide +kernel) rfl
theorem m17_58 : M17 58 ls (.ref (b + 1) :: st) (put (b + 1) pre s A post) Q = M17 61 ls (.ref ((b + 1) + 3) :: st) (put (b + 1) pre s A post) Q := w_get (show decode kb17 58 = .ok (.getfield 16, 3) from by decide +kernel) gf_16 put_o rfl
theorem m17_61 : M17 61 [l0, l1, l2, l3, l4, l5, .val (.int v), l7] st H Q = M17 63 [l0, l1, l2, l3, l4, l5, .val (.int v), l7] (.int v :: st) H Q := w_x (show decode kb17 61 = .ok (.iload 6, 2) from by decide +kernel) rfl
theorem m17_63  : M17 63 ls (.int j :: .ref ((b + 1) + 3) :: st) (put (b + 1) pre s A post) Q = (inB j (A 2) ∧ M17 64 ls (.int (getA (A 2) j) :: st) (put (b + 1) pre s A post) Q) := w_ild (show decode kb17 63 = .ok (.iaload, 1) from by decide +kernel) rfl put_a2
theorem m17_64 : M17 64 ls (.int y :: .int x :: st) H Q = M17 65 ls (.int (x * y) :: st) H Q := w_x (show decode kb17 64 = .ok (.imul, 1) from by decide +kernel) rfl
theorem m17_65 : M17 65 ls (.int y :: .int x :: st) H Q = M17 66 ls (.int (x + y) :: st) H Q := w_x (show decode kb17 65 = .ok (.iadd, 1) from by decide +kernel) rfl
theorem m17_66i : M17 66 [l0, l1, l2, l3, .val (.int z), l5, l6, l7] ((.int v) :: st) H Q = M17 68 [l0, l1, l2, l3, .val (.int v), l5, l6, l7] st H Q := w_st (i := 4) (p := isI) (show decode kb17 66 = .ok (.istore 4, 2) from by decide +kernel) rfl rfl rfl rfl rfl rfl
theorem m17_68 : M17 68 [l0, l1, l2, l3, l4, l5, .val (.int v), l7] st H Q = M17 71 [l0, l1, l2, l3, l4, l5, .val (.int (v + 1)), l7] st H Q := w_iinc (show decode kb17 68 = .ok (.iinc 6 1, 3) from by decide +kernel) rfl (by decide) rfl
theorem m17_71 : M17 71 ls st H Q = M17 14 ls st H Q := w_x (show decode kb17 71 = .ok (.goto (-57), 3) from by decide +kernel) rfl
theorem m17_74 : M17 74 [l0, l1, l2, l3, .val (.int v), l5, l6, l7] st H Q = M17 76 [l0, l1, l2, l3, .val (.int v), l5, l6, l7] (.int v :: st) H Q := w_x (show decode kb17 74 = .ok (.iload 4, 2) from by decide +kernel) rfl
theorem m17_76 : M17 76 ls (.int z :: st) H Q = Q (some (.int z)) H := w_iret (show decode kb17 76 = .ok (.ireturn, 1) from by decide +kernel) rfl
theorem m18_0 : M18 0 ls st H Q = M18 1 ls (.int 0 :: st) H Q := w_con (show decode kb18 0 = .ok (.iconst 0, 1) from by decide +kernel) rfl (by decide)
theorem m18_1u : M18 1 [l0, l1, .unset] ((.int v) :: st) H Q = M18 2 [l0, l1, .val (.int v)] st H Q := w_st (i := 2) (p := isI) (show decode kb18 1 = .ok (.istore_n 2, 1) from by decide +kernel) rfl rfl rfl rfl rfl rfl
theorem m18_2 : M18 2 [l0, l1, .val (.int v)] st H Q = M18 3 [l0, l1, .val (.int v)] (.int v :: st) H Q := w_x (show decode kb18 2 = .ok (.iload_n 2, 1) from by decide +kernel) rfl
theorem m18_3 : M18 3 [l0, .val (.int v), l2] st H Q = M18 4 [l0, .val (.int v), l2] (.int v :: st) H Q := w_x (show decode kb18 3 = .ok (.iload_n 1, 1) from by decide +kernel) rfl
theorem m18_4 : M18 4 ls (.int y :: .int x :: st) H Q = if x < y then M18 7 ls st H Q else M18 37 ls st H Q := w_icmpN (show decode kb18 4 = .ok (.if_icmp .ge 33, 3) from by decide +kernel) (i_ge x y) rfl
theorem m18_7 : M18 7 [.val (.ref r), l1, l2] st H Q = M18 8 [.val (.ref r), l1, l2] (.ref r :: st) H Q := w_x (show decode kb18 7 = .ok (.aload_n 0, 1) from by decide +kernel) rfl
theorem m18_8 : M18 8 ls (.ref (b + 1) :: st) (put (b + 1) pre s A post) Q = M18 11 ls (.ref ((b + 1) + 7) :: st) (put (b + 1) pre s A post) Q := w_get (show decode kb18 8 = .ok (.getfield 28, 3) from by decide +kernel) gf_28 put_o rfl
theorem m18_11 : M18 11 [l0, l1, .val (.int v)] st H Q = M18 12 [l0, l1, .val (.int v)] (.int v :: st) H Q := w_x (show decode kb18 11 = .ok (.iload_n 2, 1) from by decide +kernel) rfl
theorem m18_12 : M18 12 [.val (.ref r), l1, l2] st H Q = M18 13 [.val (.ref r), l1, l2] (.ref r :: st) H Q := w_x (show decode kb18 12 = .ok (.aload_n 0, 1) from by decide +kernel) rfl
theorem m18_13 : M18 13 ls (.ref (b + 1) :: st) (put (b + 1) pre s A post) Q = M18 16 ls (.ref ((b + 1) + 14) :: st) (put (b + 1) pre s A post) Q := w_get (show decode kb18 13 = .ok (.getfield 49, 3) from by decide +kernel) gf_49 put_o rfl
theorem m18_16 : M18 16 [l0, l1, .val (.int v)] st H Q = M18 17 [l0, l1, .val (.int v)] (.int v :: st) H Q := w_x (show decode kb18 16 = .ok (.iload_n 2, 1) from by decide +kernel) rfl
theorem m18_17  : M18 17 ls (.int j :: .ref ((b + 1) + 14) :: st) (put (b + 1) pre s A post) Q = (inB j (A 13) ∧ M18 18 ls (.int (getA (A 13) j) :: st) (put (b + 1) pre s A post) Q) := w_ild (show decode kb18 17 = .ok (.iaload, 1) from by decide +kernel) rfl put_a13
theorem m18_18  : M18 18 ls (.int v :: .int j :: .ref ((b + 1) + 7) :: st) (put (b + 1) pre s A post) Q = (inB j (A 6) ∧ M18 19 ls st (put (b + 1) pre s (ou A 6 (setA (A 6) j v)) post) Q) := w_ist (show decode kb18 18 = .ok (.iastore, 1) from by decide +kernel) rfl put_a6 (by omega) rfl put_w6
theorem m18_19 : M18 19 [.val (.ref r), l1, l2] st H Q = M18 20 [.val (.ref r), l1, l2] (.ref r :: st) H Q := w_x (show decode kb18 19 = .ok (.aload_n 0, 1) from by decide +kernel) rfl
theorem m18_20 : M18 20 ls (.ref (b + 1) :: st) (put (b + 1) pre s A post) Q = M18 23 ls (.ref ((b + 1) + 8) :: st) (put (b + 1) pre s A post) Q := w_get (show decode kb18 20 = .ok (.getfield 31, 3) from by decide +kernel) gf_31 put_o rfl
theorem m18_23 : M18 23 [l0, l1, .val (.int v)] st H Q = M18 24 [l0, l1, .val (.int v)] (.int v :: st) H Q := w_x (show decode kb18 23 = .ok (.iload_n 2, 1) from by decide +kernel) rfl
theorem m18_24 : M18 24 [.val (.ref r), l1, l2] st H Q = M18 25 [.val (.ref r), l1, l2] (.ref r :: st) H Q := w_x (show decode kb18 24 = .ok (.aload_n 0, 1) from by decide +kernel) rfl
theorem m18_25 : M18 25 ls (.ref (b + 1) :: st) (put (b + 1) pre s A post) Q = M18 28 ls (.ref ((b + 1) + 13) :: st) (put (b + 1) pre s A post) Q := w_get (show decode kb18 25 = .ok (.getfield 46, 3) from by decide +kernel) gf_46 put_o rfl
theorem m18_28 : M18 28 [l0, l1, .val (.int v)] st H Q = M18 29 [l0, l1, .val (.int v)] (.int v :: st) H Q := w_x (show decode kb18 28 = .ok (.iload_n 2, 1) from by decide +kernel) rfl
theorem m18_29  : M18 29 ls (.int j :: .ref ((b + 1) + 13) :: st) (put (b + 1) pre s A post) Q = (inB j (A 12) ∧ M18 30 ls (.int (getA (A 12) j) :: st) (put (b + 1) pre s A post) Q) := w_ild (show decode kb18 29 = .ok (.iaload, 1) from by decide +kernel) rfl put_a12
theorem m18_30  : M18 30 ls (.int v :: .int j :: .ref ((b + 1) + 8) :: st) (put (b + 1) pre s A post) Q = (inB j (A 7) ∧ M18 31 ls st (put (b + 1) pre s (ou A 7 (setA (A 7) j v)) post) Q) := w_ist (show decode kb18 30 = .ok (.iastore, 1) from by decide +kernel) rfl put_a7 (by omega) rfl put_w7
theorem m18_31 : M18 31 [l0, l1, .val (.int v)] st H Q = M18 34 [l0, l1, .val (.int (v + 1))] st H Q := w_iinc (show decode kb18 31 = .ok (.iinc 2 1, 3) from by decide +kernel) rfl (by decide) rfl
theorem m18_34 : M18 34 ls st H Q = M18 2 ls st H Q := w_x (show decode kb18 34 = .ok (.goto (-32), 3) from by decide +kernel) rfl
theorem m18_37 : M18 37 ls st H Q = M18 38 ls (.int 0 :: st) H Q := w_con (show decode kb18 37 = .ok (.iconst 0, 1) from by decide +kernel) rfl (by decide)
theorem m18_38i : M18 38 [l0, l1, .val (.int z)] ((.int v) :: st) H Q = M18 39 [l0, l1, .val (.int v)] st H Q := w_st (i := 2) (p := isI) (show decode kb18 38 = .ok (.istore_n 2, 1) from by decide +kernel) rfl rfl rfl rfl rfl rfl
theorem m18_39 : M18 39 [l0, l1, .val (.int v)] st H Q = M18 40 [l0, l1, .val (.int v)] (.int v :: st) H Q := w_x (show decode kb18 39 = .ok (.iload_n 2, 1) from by decide +kernel) rfl
theorem m18_40 : M18 40 ls st H Q = M18 41 ls (.int 4 :: st) H Q := w_con (show decode kb18 40 = .ok (.iconst 4, 1) from by decide +kernel) rfl (by decide)
theorem m18_41 : M18 41 ls (.int y :: .int x :: st) H Q = if x < y then M18 44 ls st H Q else M18 62 ls st H Q := w_icmpN (show decode kb18 41 = .ok (.if_icmp .ge 21, 3) from by decide +kernel) (i_ge x y) rfl
theorem m18_44 : M18 44 [.val (.ref r), l1, l2] st H Q = M18 45 [.val (.ref r), l1, l2] (.ref r :: st) H Q := w_x (show decode kb18 44 = .ok (.aload_n 0, 1) from by decide +kernel) rfl
theorem m18_45 : M18 45 ls (.ref (b + 1) :: st) (put (b + 1) pre s A post) Q = M18 48 ls (.ref ((b + 1) + 9) :: st) (put (b + 1) pre s A post) Q := w_get (show decode kb18 45 = .ok (.getfield 34, 3) from by decide +kernel) gf_34 put_o rfl
theorem m18_48 : M18 48 [l0, l1, .val (.int v)] st H Q = M18 49 [l0, l1, .val (.int v)] (.int v :: st) H Q := w_x (show decode kb18 48 = .ok (.iload_n 2, 1) from by decide +kernel) rfl
theorem m18_49 : M18 49 [.val (.ref r), l1, l2] st H Q = M18 50 [.val (.ref r), l1, l2] (.ref r :: st) H Q := w_x (show decode kb18 49 = .ok (.aload_n 0, 1) from by decide +kernel) rfl
theorem m18_50 : M18 50 ls (.ref (b + 1) :: st) (put (b + 1) pre s A post) Q = M18 53 ls (.ref ((b + 1) + 12) :: st) (put (b + 1) pre s A post) Q := w_get (show decode kb18 50 = .ok (.getfield 43, 3) from by decide +kernel) gf_43 put_o rfl
theorem m18_53 : M18 53 [l0, l1, .val (.int v)] st H Q = M18 54 [l0, l1, .val (.int v)] (.int v :: st) H Q := w_x (show decode kb18 53 = .ok (.iload_n 2, 1) from by decide +kernel) rfl
theorem m18_54  : M18 54 ls (.int j :: .ref ((b + 1) + 12) :: st) (put (b + 1) pre s A post) Q = (inB j (A 11) ∧ M18 55 ls (.int (getA (A 11) j) :: st) (put (b + 1) pre s A post) Q) := w_ild (show decode kb18 54 = .ok (.iaload, 1) from by decide +kernel) rfl put_a11
theorem m18_55  : M18 55 ls (.int v :: .int j :: .ref ((b + 1) + 9) :: st) (put (b + 1) pre s A post) Q = (inB j (A 8) ∧ M18 56 ls st (put (b + 1) pre s (ou A 8 (setA (A 8) j v)) post) Q) := w_ist (show decode kb18 55 = .ok (.iastore, 1) from by decide +kernel) rfl put_a8 (by omega) rfl put_w8
theorem m18_56 : M18 56 [l0, l1, .val (.int v)] st H Q = M18 59 [l0, l1, .val (.int (v + 1))] st H Q := w_iinc (show decode kb18 56 = .ok (.iinc 2 1, 3) from by decide +kernel) rfl (by decide) rfl
theorem m18_59 : M18 59 ls st H Q = M18 39 ls st H Q := w_x (show decode kb18 59 = .ok (.goto (-20), 3) from by decide +kernel) rfl
theorem m18_62 : M18 62 ls [] H Q = Q none H := w_vret (show decode kb18 62 = .ok (.return_, 1) from by decide +kernel) rfl
theorem m19_0 : M19 0 [.val (.ref r), l1] st H Q = M19 1 [.val (.ref r), l1] (.ref r :: st) H Q := w_x (show decode kb19 0 = .ok (.aload_n 0, 1) from by decide +kernel) rfl
theorem m19_1 : M19 1 [l0, .val (.int v)] st H Q = M19 2 [l0, .val (.int v)] (.int v :: st) H Q := w_x (show decode kb19 1 = .ok (.iload_n 1, 1) from by decide +kernel) rfl
theorem cr19_142 : vR tables_1 dn y19 142 = some (true, y20, prog_1_method_16_code, 2, (some .boolean), 1, 0) := pR_of (cR_of (by decide +kernel) rc_20 dn_20 dn_19 (sig := ⟨[.int], some .boolean⟩) (by decide +kernel) (by decide +kernel) rfl rfl) (by decide +kernel) (by decide +kernel)
theorem m19_2 (a0 : Int32) : M19 2 ls [.int a0, .ref (b + 1)] (put (b + 1) pre s A post) Q = M20 0 [.val (.ref (b + 1)), .val (.int a0)] [] (put (b + 1) pre s A post) (fun v H1 => M19 5 ls (v.toList ++ []) H1 Q) := w_virt (as := [.int a0]) (rest := []) (a := (b + 1)) (show decode kb19 2 = .ok (.invokevirtual 142, 3) from by decide +kernel) cr19_142 put_o rfl rfl (Nat.le_of_ble_eq_true rfl) (by show 2 ≤ 2; omega) rfl
theorem m19_5 : M19 5 ls (.int x :: st) H Q = if x = 0 then M19 8 ls st H Q else M19 10 ls st H Q := w_ifN (show decode kb19 5 = .ok (.ifCond .ne 5, 3) from by decide +kernel) (z_ne x) rfl
theorem m19_8 : M19 8 ls st H Q = M19 9 ls (.int (-1) :: st) H Q := w_con (show decode kb19 8 = .ok (.iconst (-1), 1) from by decide +kernel) rfl (by decide)
theorem m19_9 : M19 9 ls (.int z :: st) H Q = Q (some (.int z)) H := w_iret (show decode kb19 9 = .ok (.ireturn, 1) from by decide +kernel) rfl
theorem m19_10 : M19 10 [.val (.ref r), l1] st H Q = M19 11 [.val (.ref r), l1] (.ref r :: st) H Q := w_x (show decode kb19 10 = .ok (.aload_n 0, 1) from by decide +kernel) rfl
theorem m19_11 : M19 11 ls (.ref (b + 1) :: st) (put (b + 1) pre s A post) Q = M19 14 ls (.ref ((b + 1) + 20) :: st) (put (b + 1) pre s A post) Q := w_get (show decode kb19 11 = .ok (.getfield 68, 3) from by decide +kernel) gf_68 put_o rfl
theorem m19_14 : M19 14 [l0, .val (.int v)] st H Q = M19 15 [l0, .val (.int v)] (.int v :: st) H Q := w_x (show decode kb19 14 = .ok (.iload_n 1, 1) from by decide +kernel) rfl
theorem m19_15  : M19 15 ls (.int j :: .ref ((b + 1) + 20) :: st) (put (b + 1) pre s A post) Q = (inB j (A 19) ∧ M19 16 ls (.int (getA (A 19) j) :: st) (put (b + 1) pre s A post) Q) := w_ild (show decode kb19 15 = .ok (.iaload, 1) from by decide +kernel) rfl put_a19
theorem m19_16 : M19 16 ls (.int z :: st) H Q = Q (some (.int z)) H := w_iret (show decode kb19 16 = .ok (.ireturn, 1) from by decide +kernel) rfl
theorem m20_0 : M20 0 [l0, .val (.int v)] st H Q = M20 1 [l0, .val (.int v)] (.int v :: st) H Q := w_x (show decode kb20 0 = .ok (.iload_n 1, 1) from by decide +kernel) rfl
theorem m20_1 : M20 1 ls (.int x :: st) H Q = if x < 0 then M20 16 ls st H Q else M20 4 ls st H Q := w_if (show decode kb20 1 = .ok (.ifCond .lt 15, 3) from by decide +kernel) (z_lt x) rfl
theorem m20_4 : M20 4 [l0, .val (.int v)] st H Q = M20 5 [l0, .val (.int v)] (.int v :: st) H Q := w_x (show decode kb20 4 = .ok (.iload_n 1, 1) from by decide +kernel) rfl
theorem m20_5 : M20 5 [.val (.ref r), l1] st H Q = M20 6 [.val (.ref r), l1] (.ref r :: st) H Q := w_x (show decode kb20 5 = .ok (.aload_n 0, 1) from by decide +kernel) rfl
theorem m20_6 : M20 6 ls (.ref (b + 1) :: st) (put (b + 1) pre s A post) Q = M20 9 ls (.int (s 1) :: st) (put (b + 1) pre s A post) Q := w_get (show decode kb20 6 = .ok (.getfield 75, 3) from by decide +kernel) gf_75 put_o rfl
theorem m20_9 : M20 9 ls (.int y :: .int x :: st) H Q = if x < y then M20 12 ls st H Q else M20 16 ls st H Q := w_icmpN (show decode kb20 9 = .ok (.if_icmp .ge 7, 3) from by decide +kernel) (i_ge x y) rfl
theorem m20_12 : M20 12 ls st H Q = M20 13 ls (.int 1 :: st) H Q := w_con (show decode kb20 12 = .ok (.iconst 1, 1) from by decide +kernel) rfl (by decide)
theorem m20_13 : M20 13 ls st H Q = M20 17 ls st H Q := w_x (show decode kb20 13 = .ok (.goto 4, 3) from by decide +kernel) rfl
theorem m20_16 : M20 16 ls st H Q = M20 17 ls (.int 0 :: st) H Q := w_con (show decode kb20 16 = .ok (.iconst 0, 1) from by decide +kernel) rfl (by decide)
theorem m20_17 : M20 17 ls (.int z :: st) H Q = Q (some (.int (nar .boolean z))) H := w_iretN (show decode kb20 17 = .ok (.ireturn, 1) from by decide +kernel) rfl (by simp)
theorem m21_0 : M21 0 [.val (.ref r), l1] st H Q = M21 1 [.val (.ref r), l1] (.ref r :: st) H Q := w_x (show decode kb21 0 = .ok (.aload_n 0, 1) from by decide +kernel) rfl
theorem m21_1 : M21 1 [l0, .val (.int v)] st H Q = M21 2 [l0, .val (.int v)] (.int v :: st) H Q := w_x (show decode kb21 1 = .ok (.iload_n 1, 1) from by decide +kernel) rfl
theorem cr21_142 : vR tables_1 dn y21 142 = some (true, y20, prog_1_method_16_code, 2, (some .boolean), 1, 0) := pR_of (cR_of (by decide +kernel) rc_20 dn_20 dn_21 (sig := ⟨[.int], some .boolean⟩) (by decide +kernel) (by decide +kernel) rfl rfl) (by decide +kernel) (by decide +kernel)
theorem m21_2 (a0 : Int32) : M21 2 ls [.int a0, .ref (b + 1)] (put (b + 1) pre s A post) Q = M20 0 [.val (.ref (b + 1)), .val (.int a0)] [] (put (b + 1) pre s A post) (fun v H1 => M21 5 ls (v.toList ++ []) H1 Q) := w_virt (as := [.int a0]) (rest := []) (a := (b + 1)) (show decode kb21 2 = .ok (.invokevirtual 142, 3) from by decide +kernel) cr21_142 put_o rfl rfl (Nat.le_of_ble_eq_true rfl) (by show 2 ≤ 2; omega) rfl
theorem m21_5 : M21 5 ls (.int x :: st) H Q = if x = 0 then M21 8 ls st H Q else M21 10 ls st H Q := w_ifN (show decode kb21 5 = .ok (.ifCond .ne 5, 3) from by decide +kernel) (z_ne x) rfl
theorem m21_8 : M21 8 ls st H Q = M21 9 ls (.int (-1) :: st) H Q := w_con (show decode kb21 8 = .ok (.iconst (-1), 1) from by decide +kernel) rfl (by decide)
theorem m21_9 : M21 9 ls (.int z :: st) H Q = Q (some (.int z)) H := w_iret (show decode kb21 9 = .ok (.ireturn, 1) from by decide +kernel) rfl
theorem m21_10 : M21 10 [.val (.ref r), l1] st H Q = M21 11 [.val (.ref r), l1] (.ref r :: st) H Q := w_x (show decode kb21 10 = .ok (.aload_n 0, 1) from by decide +kernel) rfl
theorem m21_11 : M21 11 ls (.ref (b + 1) :: st) (put (b + 1) pre s A post) Q = M21 14 ls (.ref ((b + 1) + 7) :: st) (put (b + 1) pre s A post) Q := w_get (show decode kb21 11 = .ok (.getfield 28, 3) from by decide +kernel) gf_28 put_o rfl
theorem m21_14 : M21 14 [l0, .val (.int v)] st H Q = M21 15 [l0, .val (.int v)] (.int v :: st) H Q := w_x (show decode kb21 14 = .ok (.iload_n 1, 1) from by decide +kernel) rfl
theorem m21_15  : M21 15 ls (.int j :: .ref ((b + 1) + 7) :: st) (put (b + 1) pre s A post) Q = (inB j (A 6) ∧ M21 16 ls (.int (getA (A 6) j) :: st) (put (b + 1) pre s A post) Q) := w_ild (show decode kb21 15 = .ok (.iaload, 1) from by decide +kernel) rfl put_a6
theorem m21_16 : M21 16 ls (.int z :: st) H Q = Q (some (.int z)) H := w_iret (show decode kb21 16 = .ok (.ireturn, 1) from by decide +kernel) rfl
theorem m22_0 : M22 0 [.val (.ref r)] st H Q = M22 1 [.val (.ref r)] (.ref r :: st) H Q := w_x (show decode kb22 0 = .ok (.aload_n 0, 1) from by decide +kernel) rfl
theorem m22_1 : M22 1 ls (.ref (b + 1) :: st) (put (b + 1) pre s A post) Q = M22 4 ls (.int (s 9) :: st) (put (b + 1) pre s A post) Q := w_get (show decode kb22 1 = .ok (.getfield 145, 3) from by decide +kernel) gf_145 put_o rfl
theorem m22_4 : M22 4 ls (.int z :: st) H Q = Q (some (.int z)) H := w_iret (show decode kb22 4 = .ok (.ireturn, 1) from by decide +kernel) rfl
theorem m23_0 : M23 0 [l0, .val (.int v), l2, l3] st H Q = M23 1 [l0, .val (.int v), l2, l3] (.int v :: st) H Q := w_x (show decode kb23 0 = .ok (.iload_n 1, 1) from by decide +kernel) rfl
theorem m23_1u : M23 1 [l0, l1, .unset, l3] ((.int v) :: st) H Q = M23 2 [l0, l1, .val (.int v), l3] st H Q := w_st (i := 2) (p := isI) (show decode kb23 1 = .ok (.istore_n 2, 1) from by decide +kernel) rfl rfl rfl rfl rfl rfl
theorem m23_2 : M23 2 [l0, l1, .val (.int v), l3] st H Q = M23 3 [l0, l1, .val (.int v), l3] (.int v :: st) H Q := w_x (show decode kb23 2 = .ok (.iload_n 2, 1) from by decide +kernel) rfl
theorem m23_3 : M23 3 ls (.int x :: st) H Q = if x < 0 then M23 6 ls st H Q else M23 8 ls st H Q := w_ifN (show decode kb23 3 = .ok (.ifCond .ge 5, 3) from by decide +kernel) (z_ge x) rfl
theorem m23_6 : M23 6 ls st H Q = M23 7 ls (.int 0 :: st) H Q := w_con (show decode kb23 6 = .ok (.iconst 0, 1) from by decide +kernel) rfl (by decide)
theorem m23_7i : M23 7 [l0, l1, .val (.int z), l3] ((.int v) :: st) H Q = M23 8 [l0, l1, .val (.int v), l3] st H Q := w_st (i := 2) (p := isI) (show decode kb23 7 = .ok (.istore_n 2, 1) from by decide +kernel) rfl rfl rfl rfl rfl rfl
theorem m23_8 : M23 8 [l0, l1, .val (.int v), l3] st H Q = M23 9 [l0, l1, .val (.int v), l3] (.int v :: st) H Q := w_x (show decode kb23 8 = .ok (.iload_n 2, 1) from by decide +kernel) rfl
theorem m23_9 : M23 9 ls st H Q = M23 12 ls (.int 840 :: st) H Q := w_con (show decode kb23 9 = .ok (.sipush 840, 3) from by decide +kernel) rfl (by decide)
theorem m23_12 : M23 12 ls (.int y :: .int x :: st) H Q = if y < x then M23 15 ls st H Q else M23 19 ls st H Q := w_icmpN (show decode kb23 12 = .ok (.if_icmp .le 7, 3) from by decide +kernel) (i_le x y) rfl
theorem m23_15 : M23 15 ls st H Q = M23 18 ls (.int 840 :: st) H Q := w_con (show decode kb23 15 = .ok (.sipush 840, 3) from by decide +kernel) rfl (by decide)
theorem m23_18i : M23 18 [l0, l1, .val (.int z), l3] ((.int v) :: st) H Q = M23 19 [l0, l1, .val (.int v), l3] st H Q := w_st (i := 2) (p := isI) (show decode kb23 18 = .ok (.istore_n 2, 1) from by decide +kernel) rfl rfl rfl rfl rfl rfl
theorem m23_19 : M23 19 ls st H Q = M23 20 ls (.int 0 :: st) H Q := w_con (show decode kb23 19 = .ok (.iconst 0, 1) from by decide +kernel) rfl (by decide)
theorem m23_20u : M23 20 [l0, l1, l2, .unset] ((.int v) :: st) H Q = M23 21 [l0, l1, l2, .val (.int v)] st H Q := w_st (i := 3) (p := isI) (show decode kb23 20 = .ok (.istore_n 3, 1) from by decide +kernel) rfl rfl rfl rfl rfl rfl
theorem m23_21 : M23 21 ls st H Q = M23 22 ls (.int 0 :: st) H Q := w_con (show decode kb23 21 = .ok (.iconst 0, 1) from by decide +kernel) rfl (by decide)
theorem m23_22i : M23 22 [l0, l1, l2, .val (.int z)] ((.int v) :: st) H Q = M23 23 [l0, l1, l2, .val (.int v)] st H Q := w_st (i := 3) (p := isI) (show decode kb23 22 = .ok (.istore_n 3, 1) from by decide +kernel) rfl rfl rfl rfl rfl rfl
theorem m23_23 : M23 23 [l0, l1, l2, .val (.int v)] st H Q = M23 24 [l0, l1, l2, .val (.int v)] (.int v :: st) H Q := w_x (show decode kb23 23 = .ok (.iload_n 3, 1) from by decide +kernel) rfl
theorem m23_24 : M23 24 [l0, l1, .val (.int v), l3] st H Q = M23 25 [l0, l1, .val (.int v), l3] (.int v :: st) H Q := w_x (show decode kb23 24 = .ok (.iload_n 2, 1) from by decide +kernel) rfl
theorem m23_25 : M23 25 ls (.int y :: .int x :: st) H Q = if x < y then M23 28 ls st H Q else M23 52 ls st H Q := w_icmpN (show decode kb23 25 = .ok (.if_icmp .ge 27, 3) from by decide +kernel) (i_ge x y) rfl
theorem m23_28 : M23 28 [.val (.ref r), l1, l2, l3] st H Q = M23 29 [.val (.ref r), l1, l2, l3] (.ref r :: st) H Q := w_x (show decode kb23 28 = .ok (.aload_n 0, 1) from by decide +kernel) rfl
theorem m23_29 : M23 29 ls (.ref (b + 1) :: st) (put (b + 1) pre s A post) Q = M23 32 ls (.int (s 9) :: st) (put (b + 1) pre s A post) Q := w_get (show decode kb23 29 = .ok (.getfield 145, 3) from by decide +kernel) gf_145 put_o rfl
theorem m23_32 : M23 32 [.val (.ref r), l1, l2, l3] st H Q = M23 33 [.val (.ref r), l1, l2, l3] (.ref r :: st) H Q := w_x (show decode kb23 32 = .ok (.aload_n 0, 1) from by decide +kernel) rfl
theorem m23_33 : M23 33 ls (.ref (b + 1) :: st) (put (b + 1) pre s A post) Q = M23 36 ls (.int (s 2) :: st) (put (b + 1) pre s A post) Q := w_get (show decode kb23 33 = .ok (.getfield 85, 3) from by decide +kernel) gf_85 put_o rfl
theorem m23_36 : M23 36 ls (.int y :: .int x :: st) H Q = if x < y then M23 42 ls st H Q else M23 39 ls st H Q := w_icmp (show decode kb23 36 = .ok (.if_icmp .lt 6, 3) from by decide +kernel) (i_lt x y) rfl
theorem m23_39 : M23 39 ls st H Q = M23 52 ls st H Q := w_x (show decode kb23 39 = .ok (.goto 13, 3) from by decide +kernel) rfl
theorem m23_42 : M23 42 [.val (.ref r), l1, l2, l3] st H Q = M23 43 [.val (.ref r), l1, l2, l3] (.ref r :: st) H Q := w_x (show decode kb23 42 = .ok (.aload_n 0, 1) from by decide +kernel) rfl
theorem cr23_151 : vR tables_1 dn y23 151 = some (true, y24, prog_1_method_25_code, 2, none, 0, 0) := pR_of (cR_of (by decide +kernel) rc_24 dn_24 dn_23 (sig := ⟨[], none⟩) (by decide +kernel) (by decide +kernel) rfl rfl) (by decide +kernel) (by decide +kernel)
theorem m23_43 : M23 43 ls [.ref (b + 1)] (put (b + 1) pre s A post) Q = M24 0 [.val (.ref (b + 1)), .unset] [] (put (b + 1) pre s A post) (fun v H1 => M23 46 ls (v.toList ++ []) H1 Q) := w_virt (as := []) (rest := []) (a := (b + 1)) (show decode kb23 43 = .ok (.invokevirtual 151, 3) from by decide +kernel) cr23_151 put_o rfl rfl (Nat.le_of_ble_eq_true rfl) (by show 1 ≤ 2; omega) rfl
theorem m23_46 : M23 46 [l0, l1, l2, .val (.int v)] st H Q = M23 49 [l0, l1, l2, .val (.int (v + 1))] st H Q := w_iinc (show decode kb23 46 = .ok (.iinc 3 1, 3) from by decide +kernel) rfl (by decide) rfl
theorem m23_49 : M23 49 ls st H Q = M23 23 ls st H Q := w_x (show decode kb23 49 = .ok (.goto (-26), 3) from by decide +kernel) rfl
theorem m23_52 : M23 52 [l0, l1, l2, .val (.int v)] st H Q = M23 53 [l0, l1, l2, .val (.int v)] (.int v :: st) H Q := w_x (show decode kb23 52 = .ok (.iload_n 3, 1) from by decide +kernel) rfl
theorem m23_53 : M23 53 ls (.int z :: st) H Q = Q (some (.int z)) H := w_iret (show decode kb23 53 = .ok (.ireturn, 1) from by decide +kernel) rfl
theorem m24_0 : M24 0 [.val (.ref r), l1] st H Q = M24 1 [.val (.ref r), l1] (.ref r :: st) H Q := w_x (show decode kb24 0 = .ok (.aload_n 0, 1) from by decide +kernel) rfl
theorem cr24_154 : vR tables_1 dn y24 154 = some (true, y25, prog_1_method_26_code, 3, none, 0, 18) := pR_of (cR_of (by decide +kernel) rc_25 dn_25 dn_24 (sig := ⟨[], none⟩) (by decide +kernel) (by decide +kernel) rfl rfl) (by decide +kernel) (by decide +kernel)
theorem m24_1 : M24 1 ls [.ref (b + 1)] (put (b + 1) pre s A post) Q = M25 0 [.val (.ref (b + 1)), .unset, .unset] [] (put (b + 1) pre s A post) (fun v H1 => M24 4 ls (v.toList ++ []) H1 Q) := w_virt (as := []) (rest := []) (a := (b + 1)) (show decode kb24 1 = .ok (.invokevirtual 154, 3) from by decide +kernel) cr24_154 put_o rfl rfl (Nat.le_of_ble_eq_true rfl) (by show 1 ≤ 3; omega) rfl
theorem m24_4 : M24 4 [.val (.ref r), l1] st H Q = M24 5 [.val (.ref r), l1] (.ref r :: st) H Q := w_x (show decode kb24 4 = .ok (.aload_n 0, 1) from by decide +kernel) rfl
theorem cr24_157 : vR tables_1 dn y24 157 = some (true, y26, prog_1_method_28_code, 7, (some .int), 0, 0) := pR_of (cR_of (by decide +kernel) rc_26 dn_26 dn_24 (sig := ⟨[], some .int⟩) (by decide +kernel) (by decide +kernel) rfl rfl) (by decide +kernel) (by decide +kernel)
theorem m24_5 : M24 5 ls [.ref (b + 1)] (put (b + 1) pre s A post) Q = M26 0 [.val (.ref (b + 1)), .unset, .unset, .unset, .unset, .unset, .unset] [] (put (b + 1) pre s A post) (fun v H1 => M24 8 ls (v.toList ++ []) H1 Q) := w_virt (as := []) (rest := []) (a := (b + 1)) (show decode kb24 5 = .ok (.invokevirtual 157, 3) from by decide +kernel) cr24_157 put_o rfl rfl (Nat.le_of_ble_eq_true rfl) (by show 1 ≤ 7; omega) rfl
theorem m24_8u : M24 8 [l0, .unset] ((.int v) :: st) H Q = M24 9 [l0, .val (.int v)] st H Q := w_st (i := 1) (p := isI) (show decode kb24 8 = .ok (.istore_n 1, 1) from by decide +kernel) rfl rfl rfl rfl rfl rfl
theorem m24_9 : M24 9 [l0, .val (.int v)] st H Q = M24 10 [l0, .val (.int v)] (.int v :: st) H Q := w_x (show decode kb24 9 = .ok (.iload_n 1, 1) from by decide +kernel) rfl
theorem m24_10 : M24 10 ls (.int x :: st) H Q = if x < 0 then M24 18 ls st H Q else M24 13 ls st H Q := w_if (show decode kb24 10 = .ok (.ifCond .lt 8, 3) from by decide +kernel) (z_lt x) rfl
theorem m24_13 : M24 13 [.val (.ref r), l1] st H Q = M24 14 [.val (.ref r), l1] (.ref r :: st) H Q := w_x (show decode kb24 13 = .ok (.aload_n 0, 1) from by decide +kernel) rfl
theorem m24_14 : M24 14 [l0, .val (.int v)] st H Q = M24 15 [l0, .val (.int v)] (.int v :: st) H Q := w_x (show decode kb24 14 = .ok (.iload_n 1, 1) from by decide +kernel) rfl
theorem cr24_161 : vR tables_1 dn y24 161 = some (true, y28, prog_1_method_30_code, 3, none, 1, 4) := pR_of (cR_of (by decide +kernel) rc_28 dn_28 dn_24 (sig := ⟨[.int], none⟩) (by decide +kernel) (by decide +kernel) rfl rfl) (by decide +kernel) (by decide +kernel)
theorem m24_15 (a0 : Int32) : M24 15 ls [.int a0, .ref (b + 1)] (put (b + 1) pre s A post) Q = M28 0 [.val (.ref (b + 1)), .val (.int a0), .unset] [] (put (b + 1) pre s A post) (fun v H1 => M24 18 ls (v.toList ++ []) H1 Q) := w_virt (as := [.int a0]) (rest := []) (a := (b + 1)) (show decode kb24 15 = .ok (.invokevirtual 161, 3) from by decide +kernel) cr24_161 put_o rfl rfl (Nat.le_of_ble_eq_true rfl) (by show 2 ≤ 3; omega) rfl
theorem m24_18 : M24 18 [.val (.ref r), l1] st H Q = M24 19 [.val (.ref r), l1] (.ref r :: st) H Q := w_x (show decode kb24 18 = .ok (.aload_n 0, 1) from by decide +kernel) rfl
theorem m24_19 : M24 19 ls ((.ref r) :: st) H Q = M24 20 ls ((.ref r) :: (.ref r) :: st) H Q := w_x (show decode kb24 19 = .ok (.dup, 1) from by decide +kernel) rfl
theorem m24_20 : M24 20 ls (.ref (b + 1) :: st) (put (b + 1) pre s A post) Q = M24 23 ls (.int (s 9) :: st) (put (b + 1) pre s A post) Q := w_get (show decode kb24 20 = .ok (.getfield 145, 3) from by decide +kernel) gf_145 put_o rfl
theorem m24_23 : M24 23 ls st H Q = M24 24 ls (.int 1 :: st) H Q := w_con (show decode kb24 23 = .ok (.iconst 1, 1) from by decide +kernel) rfl (by decide)
theorem m24_24 : M24 24 ls (.int y :: .int x :: st) H Q = M24 25 ls (.int (x + y) :: st) H Q := w_x (show decode kb24 24 = .ok (.iadd, 1) from by decide +kernel) rfl
theorem pf24_145 : pfR tables_1 y24.cls y24.name 145 = some ("ResponseTimeGate", 25, .int) := by decide +kernel
theorem m24_25 : M24 25 ls (.int v :: .ref (b + 1) :: st) (put (b + 1) pre s A post) Q = M24 28 ls st (put (b + 1) pre (ou s 9 v) A post) Q := w_put (show decode kb24 25 = .ok (.putfield 145, 3) from by decide +kernel) pf24_145 put_o (Nat.succ_le_succ (Nat.zero_le _)) (by show 25 < 31; omega) rfl put_s9
theorem m24_28 : M24 28 [.val (.ref r), l1] st H Q = M24 29 [.val (.ref r), l1] (.ref r :: st) H Q := w_x (show decode kb24 28 = .ok (.aload_n 0, 1) from by decide +kernel) rfl
theorem cr24_164 : vR tables_1 dn y24 164 = some (true, y30, prog_1_method_32_code, 2, none, 0, 19) := pR_of (cR_of (by decide +kernel) rc_30 dn_30 dn_24 (sig := ⟨[], none⟩) (by decide +kernel) (by decide +kernel) rfl rfl) (by decide +kernel) (by decide +kernel)
theorem m24_29 : M24 29 ls [.ref (b + 1)] (put (b + 1) pre s A post) Q = M30 0 [.val (.ref (b + 1)), .unset] [] (put (b + 1) pre s A post) (fun v H1 => M24 32 ls (v.toList ++ []) H1 Q) := w_virt (as := []) (rest := []) (a := (b + 1)) (show decode kb24 29 = .ok (.invokevirtual 164, 3) from by decide +kernel) cr24_164 put_o rfl rfl (Nat.le_of_ble_eq_true rfl) (by show 1 ≤ 2; omega) rfl
theorem m24_32 : M24 32 ls [] H Q = Q none H := w_vret (show decode kb24 32 = .ok (.return_, 1) from by decide +kernel) rfl
theorem m25_0 : M25 0 ls st H Q = M25 1 ls (.int 0 :: st) H Q := w_con (show decode kb25 0 = .ok (.iconst 0, 1) from by decide +kernel) rfl (by decide)
theorem m25_1u : M25 1 [l0, .unset, l2] ((.int v) :: st) H Q = M25 2 [l0, .val (.int v), l2] st H Q := w_st (i := 1) (p := isI) (show decode kb25 1 = .ok (.istore_n 1, 1) from by decide +kernel) rfl rfl rfl rfl rfl rfl
theorem m25_2 : M25 2 [l0, .val (.int v), l2] st H Q = M25 3 [l0, .val (.int v), l2] (.int v :: st) H Q := w_x (show decode kb25 2 = .ok (.iload_n 1, 1) from by decide +kernel) rfl
theorem m25_3 : M25 3 [.val (.ref r), l1, l2] st H Q = M25 4 [.val (.ref r), l1, l2] (.ref r :: st) H Q := w_x (show decode kb25 3 = .ok (.aload_n 0, 1) from by decide +kernel) rfl
theorem m25_4 : M25 4 ls (.ref (b + 1) :: st) (put (b + 1) pre s A post) Q = M25 7 ls (.int (s 1) :: st) (put (b + 1) pre s A post) Q := w_get (show decode kb25 4 = .ok (.getfield 75, 3) from by decide +kernel) gf_75 put_o rfl
theorem m25_7 : M25 7 ls (.int y :: .int x :: st) H Q = if x < y then M25 10 ls st H Q else M25 67 ls st H Q := w_icmpN (show decode kb25 7 = .ok (.if_icmp .ge 60, 3) from by decide +kernel) (i_ge x y) rfl
theorem m25_10 : M25 10 [.val (.ref r), l1, l2] st H Q = M25 11 [.val (.ref r), l1, l2] (.ref r :: st) H Q := w_x (show decode kb25 10 = .ok (.aload_n 0, 1) from by decide +kernel) rfl
theorem m25_11 : M25 11 ls (.ref (b + 1) :: st) (put (b + 1) pre s A post) Q = M25 14 ls (.ref ((b + 1) + 1) :: st) (put (b + 1) pre s A post) Q := w_get (show decode kb25 11 = .ok (.getfield 7, 3) from by decide +kernel) gf_7 put_o rfl
theorem m25_14 : M25 14 [l0, .val (.int v), l2] st H Q = M25 15 [l0, .val (.int v), l2] (.int v :: st) H Q := w_x (show decode kb25 14 = .ok (.iload_n 1, 1) from by decide +kernel) rfl
theorem m25_15  : M25 15 ls (.int j :: .ref ((b + 1) + 1) :: st) (put (b + 1) pre s A post) Q = (inB j (A 0) ∧ M25 16 ls (.int (getA (A 0) j) :: st) (put (b + 1) pre s A post) Q) := w_ild (show decode kb25 15 = .ok (.iaload, 1) from by decide +kernel) rfl put_a0
theorem m25_16u : M25 16 [l0, l1, .unset] ((.int v) :: st) H Q = M25 17 [l0, l1, .val (.int v)] st H Q := w_st (i := 2) (p := isI) (show decode kb25 16 = .ok (.istore_n 2, 1) from by decide +kernel) rfl rfl rfl rfl rfl rfl
theorem m25_16i : M25 16 [l0, l1, .val (.int z)] ((.int v) :: st) H Q = M25 17 [l0, l1, .val (.int v)] st H Q := w_st (i := 2) (p := isI) (show decode kb25 16 = .ok (.istore_n 2, 1) from by decide +kernel) rfl rfl rfl rfl rfl rfl
theorem m25_16r : M25 16 [l0, l1, .val (.ref q)] ((.int v) :: st) H Q = M25 17 [l0, l1, .val (.int v)] st H Q := w_st (i := 2) (p := isI) (show decode kb25 16 = .ok (.istore_n 2, 1) from by decide +kernel) rfl rfl rfl rfl rfl rfl
theorem m25_16g (h : okS l2) : M25 16 [l0, l1, l2] ((.int v) :: st) H Q = M25 17 [l0, l1, .val (.int v)] st H Q := by rcases h with rfl | ⟨z, rfl⟩ <;> first | exact m25_16u | exact m25_16i
theorem m25_17 : M25 17 [l0, l1, .val (.int v)] st H Q = M25 18 [l0, l1, .val (.int v)] (.int v :: st) H Q := w_x (show decode kb25 17 = .ok (.iload_n 2, 1) from by decide +kernel) rfl
theorem m25_18 : M25 18 ls (.int x :: st) H Q = if 0 < x then M25 21 ls st H Q else M25 61 ls st H Q := w_ifN (show decode kb25 18 = .ok (.ifCond .le 43, 3) from by decide +kernel) (z_le x) rfl
theorem m25_21 : M25 21 [.val (.ref r), l1, l2] st H Q = M25 22 [.val (.ref r), l1, l2] (.ref r :: st) H Q := w_x (show decode kb25 21 = .ok (.aload_n 0, 1) from by decide +kernel) rfl
theorem m25_22 : M25 22 ls (.ref (b + 1) :: st) (put (b + 1) pre s A post) Q = M25 25 ls (.int (s 9) :: st) (put (b + 1) pre s A post) Q := w_get (show decode kb25 22 = .ok (.getfield 145, 3) from by decide +kernel) gf_145 put_o rfl
theorem m25_25 : M25 25 [l0, l1, .val (.int v)] st H Q = M25 26 [l0, l1, .val (.int v)] (.int v :: st) H Q := w_x (show decode kb25 25 = .ok (.iload_n 2, 1) from by decide +kernel) rfl
theorem m25_26 : M25 26 ls (.int y :: .int x :: st) H Q = (y ≠ 0 ∧ M25 27 ls (.int (x % y) :: st) H Q) := w_div (f := fun x y => x % y) (show decode kb25 26 = .ok (.irem, 1) from by decide +kernel) (fun _ => rfl) rfl rfl
theorem m25_27 : M25 27 ls (.int x :: st) H Q = if x = 0 then M25 30 ls st H Q else M25 61 ls st H Q := w_ifN (show decode kb25 27 = .ok (.ifCond .ne 34, 3) from by decide +kernel) (z_ne x) rfl
theorem m25_30 : M25 30 [.val (.ref r), l1, l2] st H Q = M25 31 [.val (.ref r), l1, l2] (.ref r :: st) H Q := w_x (show decode kb25 30 = .ok (.aload_n 0, 1) from by decide +kernel) rfl
theorem m25_31 : M25 31 ls (.ref (b + 1) :: st) (put (b + 1) pre s A post) Q = M25 34 ls (.ref ((b + 1) + 15) :: st) (put (b + 1) pre s A post) Q := w_get (show decode kb25 31 = .ok (.getfield 52, 3) from by decide +kernel) gf_52 put_o rfl
theorem m25_34 : M25 34 [l0, .val (.int v), l2] st H Q = M25 35 [l0, .val (.int v), l2] (.int v :: st) H Q := w_x (show decode kb25 34 = .ok (.iload_n 1, 1) from by decide +kernel) rfl
theorem m25_35 : M25 35 ls st H Q = M25 36 ls (.int 1 :: st) H Q := w_con (show decode kb25 35 = .ok (.iconst 1, 1) from by decide +kernel) rfl (by decide)
theorem m25_36  : M25 36 ls (.int v :: .int j :: .ref ((b + 1) + 15) :: st) (put (b + 1) pre s A post) Q = (inB j (A 14) ∧ M25 37 ls st (put (b + 1) pre s (ou A 14 (setA (A 14) j (nar .boolean v))) post) Q) := w_ist (show decode kb25 36 = .ok (.bastore, 1) from by decide +kernel) rfl put_a14 (by omega) rfl put_w14
theorem m25_37 : M25 37 [.val (.ref r), l1, l2] st H Q = M25 38 [.val (.ref r), l1, l2] (.ref r :: st) H Q := w_x (show decode kb25 37 = .ok (.aload_n 0, 1) from by decide +kernel) rfl
theorem m25_38 : M25 38 ls (.ref (b + 1) :: st) (put (b + 1) pre s A post) Q = M25 41 ls (.ref ((b + 1) + 16) :: st) (put (b + 1) pre s A post) Q := w_get (show decode kb25 38 = .ok (.getfield 56, 3) from by decide +kernel) gf_56 put_o rfl
theorem m25_41 : M25 41 [l0, .val (.int v), l2] st H Q = M25 42 [l0, .val (.int v), l2] (.int v :: st) H Q := w_x (show decode kb25 41 = .ok (.iload_n 1, 1) from by decide +kernel) rfl
theorem m25_42 : M25 42 [.val (.ref r), l1, l2] st H Q = M25 43 [.val (.ref r), l1, l2] (.ref r :: st) H Q := w_x (show decode kb25 42 = .ok (.aload_n 0, 1) from by decide +kernel) rfl
theorem m25_43 : M25 43 ls (.ref (b + 1) :: st) (put (b + 1) pre s A post) Q = M25 46 ls (.int (s 9) :: st) (put (b + 1) pre s A post) Q := w_get (show decode kb25 43 = .ok (.getfield 145, 3) from by decide +kernel) gf_145 put_o rfl
theorem m25_46  : M25 46 ls (.int v :: .int j :: .ref ((b + 1) + 16) :: st) (put (b + 1) pre s A post) Q = (inB j (A 15) ∧ M25 47 ls st (put (b + 1) pre s (ou A 15 (setA (A 15) j v)) post) Q) := w_ist (show decode kb25 46 = .ok (.iastore, 1) from by decide +kernel) rfl put_a15 (by omega) rfl put_w15
theorem m25_47 : M25 47 [.val (.ref r), l1, l2] st H Q = M25 48 [.val (.ref r), l1, l2] (.ref r :: st) H Q := w_x (show decode kb25 47 = .ok (.aload_n 0, 1) from by decide +kernel) rfl
theorem m25_48 : M25 48 ls (.ref (b + 1) :: st) (put (b + 1) pre s A post) Q = M25 51 ls (.ref ((b + 1) + 17) :: st) (put (b + 1) pre s A post) Q := w_get (show decode kb25 48 = .ok (.getfield 59, 3) from by decide +kernel) gf_59 put_o rfl
theorem m25_51 : M25 51 [l0, .val (.int v), l2] st H Q = M25 52 [l0, .val (.int v), l2] (.int v :: st) H Q := w_x (show decode kb25 51 = .ok (.iload_n 1, 1) from by decide +kernel) rfl
theorem m25_52 : M25 52 ls st H Q = M25 53 ls (.int 0 :: st) H Q := w_con (show decode kb25 52 = .ok (.iconst 0, 1) from by decide +kernel) rfl (by decide)
theorem m25_53  : M25 53 ls (.int v :: .int j :: .ref ((b + 1) + 17) :: st) (put (b + 1) pre s A post) Q = (inB j (A 16) ∧ M25 54 ls st (put (b + 1) pre s (ou A 16 (setA (A 16) j v)) post) Q) := w_ist (show decode kb25 53 = .ok (.iastore, 1) from by decide +kernel) rfl put_a16 (by omega) rfl put_w16
theorem m25_54 : M25 54 [.val (.ref r), l1, l2] st H Q = M25 55 [.val (.ref r), l1, l2] (.ref r :: st) H Q := w_x (show decode kb25 54 = .ok (.aload_n 0, 1) from by decide +kernel) rfl
theorem m25_55 : M25 55 ls (.ref (b + 1) :: st) (put (b + 1) pre s A post) Q = M25 58 ls (.ref ((b + 1) + 18) :: st) (put (b + 1) pre s A post) Q := w_get (show decode kb25 55 = .ok (.getfield 62, 3) from by decide +kernel) gf_62 put_o rfl
theorem m25_58 : M25 58 [l0, .val (.int v), l2] st H Q = M25 59 [l0, .val (.int v), l2] (.int v :: st) H Q := w_x (show decode kb25 58 = .ok (.iload_n 1, 1) from by decide +kernel) rfl
theorem m25_59 : M25 59 ls st H Q = M25 60 ls (.int (-1) :: st) H Q := w_con (show decode kb25 59 = .ok (.iconst (-1), 1) from by decide +kernel) rfl (by decide)
theorem m25_60  : M25 60 ls (.int v :: .int j :: .ref ((b + 1) + 18) :: st) (put (b + 1) pre s A post) Q = (inB j (A 17) ∧ M25 61 ls st (put (b + 1) pre s (ou A 17 (setA (A 17) j v)) post) Q) := w_ist (show decode kb25 60 = .ok (.iastore, 1) from by decide +kernel) rfl put_a17 (by omega) rfl put_w17
theorem m25_61 : M25 61 [l0, .val (.int v), l2] st H Q = M25 64 [l0, .val (.int (v + 1)), l2] st H Q := w_iinc (show decode kb25 61 = .ok (.iinc 1 1, 3) from by decide +kernel) rfl (by decide) rfl
theorem m25_64 : M25 64 ls st H Q = M25 2 ls st H Q := w_x (show decode kb25 64 = .ok (.goto (-62), 3) from by decide +kernel) rfl
theorem m25_67 : M25 67 ls [] H Q = Q none H := w_vret (show decode kb25 67 = .ok (.return_, 1) from by decide +kernel) rfl
theorem m26_0 : M26 0 ls st H Q = M26 1 ls (.int (-1) :: st) H Q := w_con (show decode kb26 0 = .ok (.iconst (-1), 1) from by decide +kernel) rfl (by decide)
theorem m26_1u : M26 1 [l0, .unset, l2, l3, l4, l5, l6] ((.int v) :: st) H Q = M26 2 [l0, .val (.int v), l2, l3, l4, l5, l6] st H Q := w_st (i := 1) (p := isI) (show decode kb26 1 = .ok (.istore_n 1, 1) from by decide +kernel) rfl rfl rfl rfl rfl rfl
theorem m26_2 : M26 2 ls st H Q = M26 3 ls (.int (-1) :: st) H Q := w_con (show decode kb26 2 = .ok (.iconst (-1), 1) from by decide +kernel) rfl (by decide)
theorem m26_3u : M26 3 [l0, l1, .unset, l3, l4, l5, l6] ((.int v) :: st) H Q = M26 4 [l0, l1, .val (.int v), l3, l4, l5, l6] st H Q := w_st (i := 2) (p := isI) (show decode kb26 3 = .ok (.istore_n 2, 1) from by decide +kernel) rfl rfl rfl rfl rfl rfl
theorem m26_4 : M26 4 ls st H Q = M26 5 ls (.int 0 :: st) H Q := w_con (show decode kb26 4 = .ok (.iconst 0, 1) from by decide +kernel) rfl (by decide)
theorem m26_5u : M26 5 [l0, l1, l2, .unset, l4, l5, l6] ((.int v) :: st) H Q = M26 6 [l0, l1, l2, .val (.int v), l4, l5, l6] st H Q := w_st (i := 3) (p := isI) (show decode kb26 5 = .ok (.istore_n 3, 1) from by decide +kernel) rfl rfl rfl rfl rfl rfl
theorem m26_6 : M26 6 ls st H Q = M26 7 ls (.int 0 :: st) H Q := w_con (show decode kb26 6 = .ok (.iconst 0, 1) from by decide +kernel) rfl (by decide)
theorem m26_7u : M26 7 [l0, l1, l2, l3, .unset, l5, l6] ((.int v) :: st) H Q = M26 9 [l0, l1, l2, l3, .val (.int v), l5, l6] st H Q := w_st (i := 4) (p := isI) (show decode kb26 7 = .ok (.istore 4, 2) from by decide +kernel) rfl rfl rfl rfl rfl rfl
theorem m26_9 : M26 9 [l0, l1, l2, l3, .val (.int v), l5, l6] st H Q = M26 11 [l0, l1, l2, l3, .val (.int v), l5, l6] (.int v :: st) H Q := w_x (show decode kb26 9 = .ok (.iload 4, 2) from by decide +kernel) rfl
theorem m26_11 : M26 11 [.val (.ref r), l1, l2, l3, l4, l5, l6] st H Q = M26 12 [.val (.ref r), l1, l2, l3, l4, l5, l6] (.ref r :: st) H Q := w_x (show decode kb26 11 = .ok (.aload_n 0, 1) from by decide +kernel) rfl
theorem m26_12 : M26 12 ls (.ref (b + 1) :: st) (put (b + 1) pre s A post) Q = M26 15 ls (.int (s 1) :: st) (put (b + 1) pre s A post) Q := w_get (show decode kb26 12 = .ok (.getfield 75, 3) from by decide +kernel) gf_75 put_o rfl
theorem m26_15 : M26 15 ls (.int y :: .int x :: st) H Q = if x < y then M26 18 ls st H Q else M26 96 ls st H Q := w_icmpN (show decode kb26 15 = .ok (.if_icmp .ge 81, 3) from by decide +kernel) (i_ge x y) rfl
theorem m26_18 : M26 18 [.val (.ref r), l1, l2, l3, l4, l5, l6] st H Q = M26 19 [.val (.ref r), l1, l2, l3, l4, l5, l6] (.ref r :: st) H Q := w_x (show decode kb26 18 = .ok (.aload_n 0, 1) from by decide +kernel) rfl
theorem m26_19 : M26 19 ls (.ref (b + 1) :: st) (put (b + 1) pre s A post) Q = M26 22 ls (.ref ((b + 1) + 15) :: st) (put (b + 1) pre s A post) Q := w_get (show decode kb26 19 = .ok (.getfield 52, 3) from by decide +kernel) gf_52 put_o rfl
theorem m26_22 : M26 22 [l0, l1, l2, l3, .val (.int v), l5, l6] st H Q = M26 24 [l0, l1, l2, l3, .val (.int v), l5, l6] (.int v :: st) H Q := w_x (show decode kb26 22 = .ok (.iload 4, 2) from by decide +kernel) rfl
theorem m26_24  : M26 24 ls (.int j :: .ref ((b + 1) + 15) :: st) (put (b + 1) pre s A post) Q = (inB j (A 14) ∧ M26 25 ls (.int (getA (A 14) j) :: st) (put (b + 1) pre s A post) Q) := w_ild (show decode kb26 24 = .ok (.baload, 1) from by decide +kernel) rfl put_a14
theorem m26_25 : M26 25 ls (.int x :: st) H Q = if x = 0 then M26 28 ls st H Q else M26 31 ls st H Q := w_ifN (show decode kb26 25 = .ok (.ifCond .ne 6, 3) from by decide +kernel) (z_ne x) rfl
theorem m26_28 : M26 28 ls st H Q = M26 90 ls st H Q := w_x (show decode kb26 28 = .ok (.goto 62, 3) from by decide +kernel) rfl
theorem m26_31 : M26 31 [.val (.ref r), l1, l2, l3, l4, l5, l6] st H Q = M26 32 [.val (.ref r), l1, l2, l3, l4, l5, l6] (.ref r :: st) H Q := w_x (show decode kb26 31 = .ok (.aload_n 0, 1) from by decide +kernel) rfl
theorem m26_32 : M26 32 [l0, l1, l2, l3, .val (.int v), l5, l6] st H Q = M26 34 [l0, l1, l2, l3, .val (.int v), l5, l6] (.int v :: st) H Q := w_x (show decode kb26 32 = .ok (.iload 4, 2) from by decide +kernel) rfl
theorem cr26_167 : vR tables_1 dn y26 167 = some (true, y27, prog_1_method_27_code, 3, (some .int), 1, 0) := pR_of (cR_of (by decide +kernel) rc_27 dn_27 dn_26 (sig := ⟨[.int], some .int⟩) (by decide +kernel) (by decide +kernel) rfl rfl) (by decide +kernel) (by decide +kernel)
theorem m26_34 (a0 : Int32) : M26 34 ls [.int a0, .ref (b + 1)] (put (b + 1) pre s A post) Q = M27 0 [.val (.ref (b + 1)), .val (.int a0), .unset] [] (put (b + 1) pre s A post) (fun v H1 => M26 37 ls (v.toList ++ []) H1 Q) := w_virt (as := [.int a0]) (rest := []) (a := (b + 1)) (show decode kb26 34 = .ok (.invokevirtual 167, 3) from by decide +kernel) cr26_167 put_o rfl rfl (Nat.le_of_ble_eq_true rfl) (by show 2 ≤ 3; omega) rfl
theorem m26_37u : M26 37 [l0, l1, l2, l3, l4, .unset, l6] ((.int v) :: st) H Q = M26 39 [l0, l1, l2, l3, l4, .val (.int v), l6] st H Q := w_st (i := 5) (p := isI) (show decode kb26 37 = .ok (.istore 5, 2) from by decide +kernel) rfl rfl rfl rfl rfl rfl
theorem m26_37i : M26 37 [l0, l1, l2, l3, l4, .val (.int z), l6] ((.int v) :: st) H Q = M26 39 [l0, l1, l2, l3, l4, .val (.int v), l6] st H Q := w_st (i := 5) (p := isI) (show decode kb26 37 = .ok (.istore 5, 2) from by decide +kernel) rfl rfl rfl rfl rfl rfl
theorem m26_37r : M26 37 [l0, l1, l2, l3, l4, .val (.ref q), l6] ((.int v) :: st) H Q = M26 39 [l0, l1, l2, l3, l4, .val (.int v), l6] st H Q := w_st (i := 5) (p := isI) (show decode kb26 37 = .ok (.istore 5, 2) from by decide +kernel) rfl rfl rfl rfl rfl rfl
theorem m26_37g (h : okS l5) : M26 37 [l0, l1, l2, l3, l4, l5, l6] ((.int v) :: st) H Q = M26 39 [l0, l1, l2, l3, l4, .val (.int v), l6] st H Q := by rcases h with rfl | ⟨z, rfl⟩ <;> first | exact m26_37u | exact m26_37i
theorem m26_39 : M26 39 [.val (.ref r), l1, l2, l3, l4, l5, l6] st H Q = M26 40 [.val (.ref r), l1, l2, l3, l4, l5, l6] (.ref r :: st) H Q := w_x (show decode kb26 39 = .ok (.aload_n 0, 1) from by decide +kernel) rfl
theorem m26_40 : M26 40 ls (.ref (b + 1) :: st) (put (b + 1) pre s A post) Q = M26 43 ls (.ref ((b + 1) + 18) :: st) (put (b + 1) pre s A post) Q := w_get (show decode kb26 40 = .ok (.getfield 62, 3) from by decide +kernel) gf_62 put_o rfl
theorem m26_43 : M26 43 [l0, l1, l2, l3, .val (.int v), l5, l6] st H Q = M26 45 [l0, l1, l2, l3, .val (.int v), l5, l6] (.int v :: st) H Q := w_x (show decode kb26 43 = .ok (.iload 4, 2) from by decide +kernel) rfl
theorem m26_45  : M26 45 ls (.int j :: .ref ((b + 1) + 18) :: st) (put (b + 1) pre s A post) Q = (inB j (A 17) ∧ M26 46 ls (.int (getA (A 17) j) :: st) (put (b + 1) pre s A post) Q) := w_ild (show decode kb26 45 = .ok (.iaload, 1) from by decide +kernel) rfl put_a17
theorem m26_46 : M26 46 ls (.int x :: st) H Q = if x < 0 then M26 53 ls st H Q else M26 49 ls st H Q := w_if (show decode kb26 46 = .ok (.ifCond .lt 7, 3) from by decide +kernel) (z_lt x) rfl
theorem m26_49 : M26 49 ls st H Q = M26 50 ls (.int 1 :: st) H Q := w_con (show decode kb26 49 = .ok (.iconst 1, 1) from by decide +kernel) rfl (by decide)
theorem m26_50 : M26 50 ls st H Q = M26 54 ls st H Q := w_x (show decode kb26 50 = .ok (.goto 4, 3) from by decide +kernel) rfl
theorem m26_53 : M26 53 ls st H Q = M26 54 ls (.int 0 :: st) H Q := w_con (show decode kb26 53 = .ok (.iconst 0, 1) from by decide +kernel) rfl (by decide)
theorem m26_54u : M26 54 [l0, l1, l2, l3, l4, l5, .unset] ((.int v) :: st) H Q = M26 56 [l0, l1, l2, l3, l4, l5, .val (.int v)] st H Q := w_st (i := 6) (p := isI) (show decode kb26 54 = .ok (.istore 6, 2) from by decide +kernel) rfl rfl rfl rfl rfl rfl
theorem m26_54i : M26 54 [l0, l1, l2, l3, l4, l5, .val (.int z)] ((.int v) :: st) H Q = M26 56 [l0, l1, l2, l3, l4, l5, .val (.int v)] st H Q := w_st (i := 6) (p := isI) (show decode kb26 54 = .ok (.istore 6, 2) from by decide +kernel) rfl rfl rfl rfl rfl rfl
theorem m26_54r : M26 54 [l0, l1, l2, l3, l4, l5, .val (.ref q)] ((.int v) :: st) H Q = M26 56 [l0, l1, l2, l3, l4, l5, .val (.int v)] st H Q := w_st (i := 6) (p := isI) (show decode kb26 54 = .ok (.istore 6, 2) from by decide +kernel) rfl rfl rfl rfl rfl rfl
theorem m26_54g (h : okS l6) : M26 54 [l0, l1, l2, l3, l4, l5, l6] ((.int v) :: st) H Q = M26 56 [l0, l1, l2, l3, l4, l5, .val (.int v)] st H Q := by rcases h with rfl | ⟨z, rfl⟩ <;> first | exact m26_54u | exact m26_54i
theorem m26_56 : M26 56 [l0, .val (.int v), l2, l3, l4, l5, l6] st H Q = M26 57 [l0, .val (.int v), l2, l3, l4, l5, l6] (.int v :: st) H Q := w_x (show decode kb26 56 = .ok (.iload_n 1, 1) from by decide +kernel) rfl
theorem m26_57 : M26 57 ls (.int x :: st) H Q = if x < 0 then M26 81 ls st H Q else M26 60 ls st H Q := w_if (show decode kb26 57 = .ok (.ifCond .lt 24, 3) from by decide +kernel) (z_lt x) rfl
theorem m26_60 : M26 60 [l0, l1, l2, l3, l4, .val (.int v), l6] st H Q = M26 62 [l0, l1, l2, l3, l4, .val (.int v), l6] (.int v :: st) H Q := w_x (show decode kb26 60 = .ok (.iload 5, 2) from by decide +kernel) rfl
theorem m26_62 : M26 62 [l0, l1, .val (.int v), l3, l4, l5, l6] st H Q = M26 63 [l0, l1, .val (.int v), l3, l4, l5, l6] (.int v :: st) H Q := w_x (show decode kb26 62 = .ok (.iload_n 2, 1) from by decide +kernel) rfl
theorem m26_63 : M26 63 ls (.int y :: .int x :: st) H Q = if y < x then M26 81 ls st H Q else M26 66 ls st H Q := w_icmp (show decode kb26 63 = .ok (.if_icmp .gt 18, 3) from by decide +kernel) (i_gt x y) rfl
theorem m26_66 : M26 66 [l0, l1, l2, l3, l4, .val (.int v), l6] st H Q = M26 68 [l0, l1, l2, l3, l4, .val (.int v), l6] (.int v :: st) H Q := w_x (show decode kb26 66 = .ok (.iload 5, 2) from by decide +kernel) rfl
theorem m26_68 : M26 68 [l0, l1, .val (.int v), l3, l4, l5, l6] st H Q = M26 69 [l0, l1, .val (.int v), l3, l4, l5, l6] (.int v :: st) H Q := w_x (show decode kb26 68 = .ok (.iload_n 2, 1) from by decide +kernel) rfl
theorem m26_69 : M26 69 ls (.int y :: .int x :: st) H Q = if x = y then M26 72 ls st H Q else M26 90 ls st H Q := w_icmpN (show decode kb26 69 = .ok (.if_icmp .ne 21, 3) from by decide +kernel) (i_ne x y) rfl
theorem m26_72 : M26 72 [l0, l1, l2, l3, l4, l5, .val (.int v)] st H Q = M26 74 [l0, l1, l2, l3, l4, l5, .val (.int v)] (.int v :: st) H Q := w_x (show decode kb26 72 = .ok (.iload 6, 2) from by decide +kernel) rfl
theorem m26_74 : M26 74 ls (.int x :: st) H Q = if x = 0 then M26 90 ls st H Q else M26 77 ls st H Q := w_if (show decode kb26 74 = .ok (.ifCond .eq 16, 3) from by decide +kernel) (z_eq x) rfl
theorem m26_77 : M26 77 [l0, l1, l2, .val (.int v), l4, l5, l6] st H Q = M26 78 [l0, l1, l2, .val (.int v), l4, l5, l6] (.int v :: st) H Q := w_x (show decode kb26 77 = .ok (.iload_n 3, 1) from by decide +kernel) rfl
theorem m26_78 : M26 78 ls (.int x :: st) H Q = if x = 0 then M26 81 ls st H Q else M26 90 ls st H Q := w_ifN (show decode kb26 78 = .ok (.ifCond .ne 12, 3) from by decide +kernel) (z_ne x) rfl
theorem m26_81 : M26 81 [l0, l1, l2, l3, .val (.int v), l5, l6] st H Q = M26 83 [l0, l1, l2, l3, .val (.int v), l5, l6] (.int v :: st) H Q := w_x (show decode kb26 81 = .ok (.iload 4, 2) from by decide +kernel) rfl
theorem m26_83i : M26 83 [l0, .val (.int z), l2, l3, l4, l5, l6] ((.int v) :: st) H Q = M26 84 [l0, .val (.int v), l2, l3, l4, l5, l6] st H Q := w_st (i := 1) (p := isI) (show decode kb26 83 = .ok (.istore_n 1, 1) from by decide +kernel) rfl rfl rfl rfl rfl rfl
theorem m26_84 : M26 84 [l0, l1, l2, l3, l4, .val (.int v), l6] st H Q = M26 86 [l0, l1, l2, l3, l4, .val (.int v), l6] (.int v :: st) H Q := w_x (show decode kb26 84 = .ok (.iload 5, 2) from by decide +kernel) rfl
theorem m26_86i : M26 86 [l0, l1, .val (.int z), l3, l4, l5, l6] ((.int v) :: st) H Q = M26 87 [l0, l1, .val (.int v), l3, l4, l5, l6] st H Q := w_st (i := 2) (p := isI) (show decode kb26 86 = .ok (.istore_n 2, 1) from by decide +kernel) rfl rfl rfl rfl rfl rfl
theorem m26_87 : M26 87 [l0, l1, l2, l3, l4, l5, .val (.int v)] st H Q = M26 89 [l0, l1, l2, l3, l4, l5, .val (.int v)] (.int v :: st) H Q := w_x (show decode kb26 87 = .ok (.iload 6, 2) from by decide +kernel) rfl
theorem m26_89i : M26 89 [l0, l1, l2, .val (.int z), l4, l5, l6] ((.int v) :: st) H Q = M26 90 [l0, l1, l2, .val (.int v), l4, l5, l6] st H Q := w_st (i := 3) (p := isI) (show decode kb26 89 = .ok (.istore_n 3, 1) from by decide +kernel) rfl rfl rfl rfl rfl rfl
theorem m26_90 : M26 90 [l0, l1, l2, l3, .val (.int v), l5, l6] st H Q = M26 93 [l0, l1, l2, l3, .val (.int (v + 1)), l5, l6] st H Q := w_iinc (show decode kb26 90 = .ok (.iinc 4 1, 3) from by decide +kernel) rfl (by decide) rfl
theorem m26_93 : M26 93 ls st H Q = M26 9 ls st H Q := w_x (show decode kb26 93 = .ok (.goto (-84), 3) from by decide +kernel) rfl
theorem m26_96 : M26 96 [l0, .val (.int v), l2, l3, l4, l5, l6] st H Q = M26 97 [l0, .val (.int v), l2, l3, l4, l5, l6] (.int v :: st) H Q := w_x (show decode kb26 96 = .ok (.iload_n 1, 1) from by decide +kernel) rfl
theorem m26_97 : M26 97 ls (.int z :: st) H Q = Q (some (.int z)) H := w_iret (show decode kb26 97 = .ok (.ireturn, 1) from by decide +kernel) rfl
theorem m27_0 : M27 0 [.val (.ref r), l1, l2] st H Q = M27 1 [.val (.ref r), l1, l2] (.ref r :: st) H Q := w_x (show decode kb27 0 = .ok (.aload_n 0, 1) from by decide +kernel) rfl
theorem m27_1 : M27 1 ls (.ref (b + 1) :: st) (put (b + 1) pre s A post) Q = M27 4 ls (.ref ((b + 1) + 18) :: st) (put (b + 1) pre s A post) Q := w_get (show decode kb27 1 = .ok (.getfield 62, 3) from by decide +kernel) gf_62 put_o rfl
theorem m27_4 : M27 4 [l0, .val (.int v), l2] st H Q = M27 5 [l0, .val (.int v), l2] (.int v :: st) H Q := w_x (show decode kb27 4 = .ok (.iload_n 1, 1) from by decide +kernel) rfl
theorem m27_5  : M27 5 ls (.int j :: .ref ((b + 1) + 18) :: st) (put (b + 1) pre s A post) Q = (inB j (A 17) ∧ M27 6 ls (.int (getA (A 17) j) :: st) (put (b + 1) pre s A post) Q) := w_ild (show decode kb27 5 = .ok (.iaload, 1) from by decide +kernel) rfl put_a17
theorem m27_6u : M27 6 [l0, l1, .unset] ((.int v) :: st) H Q = M27 7 [l0, l1, .val (.int v)] st H Q := w_st (i := 2) (p := isI) (show decode kb27 6 = .ok (.istore_n 2, 1) from by decide +kernel) rfl rfl rfl rfl rfl rfl
theorem m27_7 : M27 7 [l0, l1, .val (.int v)] st H Q = M27 8 [l0, l1, .val (.int v)] (.int v :: st) H Q := w_x (show decode kb27 7 = .ok (.iload_n 2, 1) from by decide +kernel) rfl
theorem m27_8 : M27 8 ls (.int x :: st) H Q = if x < 0 then M27 23 ls st H Q else M27 11 ls st H Q := w_if (show decode kb27 8 = .ok (.ifCond .lt 15, 3) from by decide +kernel) (z_lt x) rfl
theorem m27_11 : M27 11 [l0, l1, .val (.int v)] st H Q = M27 12 [l0, l1, .val (.int v)] (.int v :: st) H Q := w_x (show decode kb27 11 = .ok (.iload_n 2, 1) from by decide +kernel) rfl
theorem m27_12 : M27 12 ls st H Q = M27 13 ls (.int 4 :: st) H Q := w_con (show decode kb27 12 = .ok (.iconst 4, 1) from by decide +kernel) rfl (by decide)
theorem m27_13 : M27 13 ls (.int y :: .int x :: st) H Q = if x < y then M27 16 ls st H Q else M27 23 ls st H Q := w_icmpN (show decode kb27 13 = .ok (.if_icmp .ge 10, 3) from by decide +kernel) (i_ge x y) rfl
theorem m27_16 : M27 16 [.val (.ref r), l1, l2] st H Q = M27 17 [.val (.ref r), l1, l2] (.ref r :: st) H Q := w_x (show decode kb27 16 = .ok (.aload_n 0, 1) from by decide +kernel) rfl
theorem m27_17 : M27 17 ls (.ref (b + 1) :: st) (put (b + 1) pre s A post) Q = M27 20 ls (.ref ((b + 1) + 9) :: st) (put (b + 1) pre s A post) Q := w_get (show decode kb27 17 = .ok (.getfield 34, 3) from by decide +kernel) gf_34 put_o rfl
theorem m27_20 : M27 20 [l0, l1, .val (.int v)] st H Q = M27 21 [l0, l1, .val (.int v)] (.int v :: st) H Q := w_x (show decode kb27 20 = .ok (.iload_n 2, 1) from by decide +kernel) rfl
theorem m27_21  : M27 21 ls (.int j :: .ref ((b + 1) + 9) :: st) (put (b + 1) pre s A post) Q = (inB j (A 8) ∧ M27 22 ls (.int (getA (A 8) j) :: st) (put (b + 1) pre s A post) Q) := w_ild (show decode kb27 21 = .ok (.iaload, 1) from by decide +kernel) rfl put_a8
theorem m27_22 : M27 22 ls (.int z :: st) H Q = Q (some (.int z)) H := w_iret (show decode kb27 22 = .ok (.ireturn, 1) from by decide +kernel) rfl
theorem m27_23 : M27 23 [.val (.ref r), l1, l2] st H Q = M27 24 [.val (.ref r), l1, l2] (.ref r :: st) H Q := w_x (show decode kb27 23 = .ok (.aload_n 0, 1) from by decide +kernel) rfl
theorem m27_24 : M27 24 ls (.ref (b + 1) :: st) (put (b + 1) pre s A post) Q = M27 27 ls (.ref ((b + 1) + 4) :: st) (put (b + 1) pre s A post) Q := w_get (show decode kb27 24 = .ok (.getfield 19, 3) from by decide +kernel) gf_19 put_o rfl
theorem m27_27 : M27 27 [l0, .val (.int v), l2] st H Q = M27 28 [l0, .val (.int v), l2] (.int v :: st) H Q := w_x (show decode kb27 27 = .ok (.iload_n 1, 1) from by decide +kernel) rfl
theorem m27_28  : M27 28 ls (.int j :: .ref ((b + 1) + 4) :: st) (put (b + 1) pre s A post) Q = (inB j (A 3) ∧ M27 29 ls (.int (getA (A 3) j) :: st) (put (b + 1) pre s A post) Q) := w_ild (show decode kb27 28 = .ok (.iaload, 1) from by decide +kernel) rfl put_a3
theorem m27_29 : M27 29 ls (.int z :: st) H Q = Q (some (.int z)) H := w_iret (show decode kb27 29 = .ok (.ireturn, 1) from by decide +kernel) rfl
theorem m28_0 : M28 0 [.val (.ref r), l1, l2] st H Q = M28 1 [.val (.ref r), l1, l2] (.ref r :: st) H Q := w_x (show decode kb28 0 = .ok (.aload_n 0, 1) from by decide +kernel) rfl
theorem m28_1 : M28 1 [l0, .val (.int v), l2] st H Q = M28 2 [l0, .val (.int v), l2] (.int v :: st) H Q := w_x (show decode kb28 1 = .ok (.iload_n 1, 1) from by decide +kernel) rfl
theorem cr28_170 : vR tables_1 dn y28 170 = some (true, y29, prog_1_method_29_code, 3, none, 1, 0) := pR_of (cR_of (by decide +kernel) rc_29 dn_29 dn_28 (sig := ⟨[.int], none⟩) (by decide +kernel) (by decide +kernel) rfl rfl) (by decide +kernel) (by decide +kernel)
theorem m28_2 (a0 : Int32) : M28 2 ls [.int a0, .ref (b + 1)] (put (b + 1) pre s A post) Q = M29 0 [.val (.ref (b + 1)), .val (.int a0), .unset] [] (put (b + 1) pre s A post) (fun v H1 => M28 5 ls (v.toList ++ []) H1 Q) := w_virt (as := [.int a0]) (rest := []) (a := (b + 1)) (show decode kb28 2 = .ok (.invokevirtual 170, 3) from by decide +kernel) cr28_170 put_o rfl rfl (Nat.le_of_ble_eq_true rfl) (by show 2 ≤ 3; omega) rfl
theorem m28_5 : M28 5 [.val (.ref r), l1, l2] st H Q = M28 6 [.val (.ref r), l1, l2] (.ref r :: st) H Q := w_x (show decode kb28 5 = .ok (.aload_n 0, 1) from by decide +kernel) rfl
theorem m28_6 : M28 6 ls (.ref (b + 1) :: st) (put (b + 1) pre s A post) Q = M28 9 ls (.ref ((b + 1) + 17) :: st) (put (b + 1) pre s A post) Q := w_get (show decode kb28 6 = .ok (.getfield 59, 3) from by decide +kernel) gf_59 put_o rfl
theorem m28_9 : M28 9 [l0, .val (.int v), l2] st H Q = M28 10 [l0, .val (.int v), l2] (.int v :: st) H Q := w_x (show decode kb28 9 = .ok (.iload_n 1, 1) from by decide +kernel) rfl
theorem m28_10 : M28 10 [.val (.ref r), l1, l2] st H Q = M28 11 [.val (.ref r), l1, l2] (.ref r :: st) H Q := w_x (show decode kb28 10 = .ok (.aload_n 0, 1) from by decide +kernel) rfl
theorem m28_11 : M28 11 ls (.ref (b + 1) :: st) (put (b + 1) pre s A post) Q = M28 14 ls (.ref ((b + 1) + 17) :: st) (put (b + 1) pre s A post) Q := w_get (show decode kb28 11 = .ok (.getfield 59, 3) from by decide +kernel) gf_59 put_o rfl
theorem m28_14 : M28 14 [l0, .val (.int v), l2] st H Q = M28 15 [l0, .val (.int v), l2] (.int v :: st) H Q := w_x (show decode kb28 14 = .ok (.iload_n 1, 1) from by decide +kernel) rfl
theorem m28_15  : M28 15 ls (.int j :: .ref ((b + 1) + 17) :: st) (put (b + 1) pre s A post) Q = (inB j (A 16) ∧ M28 16 ls (.int (getA (A 16) j) :: st) (put (b + 1) pre s A post) Q) := w_ild (show decode kb28 15 = .ok (.iaload, 1) from by decide +kernel) rfl put_a16
theorem m28_16 : M28 16 ls st H Q = M28 17 ls (.int 1 :: st) H Q := w_con (show decode kb28 16 = .ok (.iconst 1, 1) from by decide +kernel) rfl (by decide)
theorem m28_17 : M28 17 ls (.int y :: .int x :: st) H Q = M28 18 ls (.int (x + y) :: st) H Q := w_x (show decode kb28 17 = .ok (.iadd, 1) from by decide +kernel) rfl
theorem m28_18  : M28 18 ls (.int v :: .int j :: .ref ((b + 1) + 17) :: st) (put (b + 1) pre s A post) Q = (inB j (A 16) ∧ M28 19 ls st (put (b + 1) pre s (ou A 16 (setA (A 16) j v)) post) Q) := w_ist (show decode kb28 18 = .ok (.iastore, 1) from by decide +kernel) rfl put_a16 (by omega) rfl put_w16
theorem m28_19 : M28 19 [.val (.ref r), l1, l2] st H Q = M28 20 [.val (.ref r), l1, l2] (.ref r :: st) H Q := w_x (show decode kb28 19 = .ok (.aload_n 0, 1) from by decide +kernel) rfl
theorem m28_20 : M28 20 ls (.ref (b + 1) :: st) (put (b + 1) pre s A post) Q = M28 23 ls (.ref ((b + 1) + 18) :: st) (put (b + 1) pre s A post) Q := w_get (show decode kb28 20 = .ok (.getfield 62, 3) from by decide +kernel) gf_62 put_o rfl
theorem m28_23 : M28 23 [l0, .val (.int v), l2] st H Q = M28 24 [l0, .val (.int v), l2] (.int v :: st) H Q := w_x (show decode kb28 23 = .ok (.iload_n 1, 1) from by decide +kernel) rfl
theorem m28_24  : M28 24 ls (.int j :: .ref ((b + 1) + 18) :: st) (put (b + 1) pre s A post) Q = (inB j (A 17) ∧ M28 25 ls (.int (getA (A 17) j) :: st) (put (b + 1) pre s A post) Q) := w_ild (show decode kb28 24 = .ok (.iaload, 1) from by decide +kernel) rfl put_a17
theorem m28_25u : M28 25 [l0, l1, .unset] ((.int v) :: st) H Q = M28 26 [l0, l1, .val (.int v)] st H Q := w_st (i := 2) (p := isI) (show decode kb28 25 = .ok (.istore_n 2, 1) from by decide +kernel) rfl rfl rfl rfl rfl rfl
theorem m28_26 : M28 26 [l0, l1, .val (.int v)] st H Q = M28 27 [l0, l1, .val (.int v)] (.int v :: st) H Q := w_x (show decode kb28 26 = .ok (.iload_n 2, 1) from by decide +kernel) rfl
theorem m28_27 : M28 27 ls (.int x :: st) H Q = if x < 0 then M28 72 ls st H Q else M28 30 ls st H Q := w_if (show decode kb28 27 = .ok (.ifCond .lt 45, 3) from by decide +kernel) (z_lt x) rfl
theorem m28_30 : M28 30 [l0, l1, .val (.int v)] st H Q = M28 31 [l0, l1, .val (.int v)] (.int v :: st) H Q := w_x (show decode kb28 30 = .ok (.iload_n 2, 1) from by decide +kernel) rfl
theorem m28_31 : M28 31 ls st H Q = M28 32 ls (.int 4 :: st) H Q := w_con (show decode kb28 31 = .ok (.iconst 4, 1) from by decide +kernel) rfl (by decide)
theorem m28_32 : M28 32 ls (.int y :: .int x :: st) H Q = if x < y then M28 35 ls st H Q else M28 72 ls st H Q := w_icmpN (show decode kb28 32 = .ok (.if_icmp .ge 40, 3) from by decide +kernel) (i_ge x y) rfl
theorem m28_35 : M28 35 [.val (.ref r), l1, l2] st H Q = M28 36 [.val (.ref r), l1, l2] (.ref r :: st) H Q := w_x (show decode kb28 35 = .ok (.aload_n 0, 1) from by decide +kernel) rfl
theorem m28_36 : M28 36 ls (.ref (b + 1) :: st) (put (b + 1) pre s A post) Q = M28 39 ls (.ref ((b + 1) + 17) :: st) (put (b + 1) pre s A post) Q := w_get (show decode kb28 36 = .ok (.getfield 59, 3) from by decide +kernel) gf_59 put_o rfl
theorem m28_39 : M28 39 [l0, .val (.int v), l2] st H Q = M28 40 [l0, .val (.int v), l2] (.int v :: st) H Q := w_x (show decode kb28 39 = .ok (.iload_n 1, 1) from by decide +kernel) rfl
theorem m28_40  : M28 40 ls (.int j :: .ref ((b + 1) + 17) :: st) (put (b + 1) pre s A post) Q = (inB j (A 16) ∧ M28 41 ls (.int (getA (A 16) j) :: st) (put (b + 1) pre s A post) Q) := w_ild (show decode kb28 40 = .ok (.iaload, 1) from by decide +kernel) rfl put_a16
theorem m28_41 : M28 41 [.val (.ref r), l1, l2] st H Q = M28 42 [.val (.ref r), l1, l2] (.ref r :: st) H Q := w_x (show decode kb28 41 = .ok (.aload_n 0, 1) from by decide +kernel) rfl
theorem m28_42 : M28 42 ls (.ref (b + 1) :: st) (put (b + 1) pre s A post) Q = M28 45 ls (.ref ((b + 1) + 5) :: st) (put (b + 1) pre s A post) Q := w_get (show decode kb28 42 = .ok (.getfield 22, 3) from by decide +kernel) gf_22 put_o rfl
theorem m28_45 : M28 45 [l0, .val (.int v), l2] st H Q = M28 46 [l0, .val (.int v), l2] (.int v :: st) H Q := w_x (show decode kb28 45 = .ok (.iload_n 1, 1) from by decide +kernel) rfl
theorem m28_46 : M28 46 ls st H Q = M28 47 ls (.int 4 :: st) H Q := w_con (show decode kb28 46 = .ok (.iconst 4, 1) from by decide +kernel) rfl (by decide)
theorem m28_47 : M28 47 ls (.int y :: .int x :: st) H Q = M28 48 ls (.int (x * y) :: st) H Q := w_x (show decode kb28 47 = .ok (.imul, 1) from by decide +kernel) rfl
theorem m28_48 : M28 48 [l0, l1, .val (.int v)] st H Q = M28 49 [l0, l1, .val (.int v)] (.int v :: st) H Q := w_x (show decode kb28 48 = .ok (.iload_n 2, 1) from by decide +kernel) rfl
theorem m28_49 : M28 49 ls (.int y :: .int x :: st) H Q = M28 50 ls (.int (x + y) :: st) H Q := w_x (show decode kb28 49 = .ok (.iadd, 1) from by decide +kernel) rfl
theorem m28_50  : M28 50 ls (.int j :: .ref ((b + 1) + 5) :: st) (put (b + 1) pre s A post) Q = (inB j (A 4) ∧ M28 51 ls (.int (getA (A 4) j) :: st) (put (b + 1) pre s A post) Q) := w_ild (show decode kb28 50 = .ok (.iaload, 1) from by decide +kernel) rfl put_a4
theorem m28_51 : M28 51 [.val (.ref r), l1, l2] st H Q = M28 52 [.val (.ref r), l1, l2] (.ref r :: st) H Q := w_x (show decode kb28 51 = .ok (.aload_n 0, 1) from by decide +kernel) rfl
theorem m28_52 : M28 52 ls (.ref (b + 1) :: st) (put (b + 1) pre s A post) Q = M28 55 ls (.ref ((b + 1) + 6) :: st) (put (b + 1) pre s A post) Q := w_get (show decode kb28 52 = .ok (.getfield 25, 3) from by decide +kernel) gf_25 put_o rfl
theorem m28_55 : M28 55 [l0, .val (.int v), l2] st H Q = M28 56 [l0, .val (.int v), l2] (.int v :: st) H Q := w_x (show decode kb28 55 = .ok (.iload_n 1, 1) from by decide +kernel) rfl
theorem m28_56 : M28 56 ls st H Q = M28 57 ls (.int 4 :: st) H Q := w_con (show decode kb28 56 = .ok (.iconst 4, 1) from by decide +kernel) rfl (by decide)
theorem m28_57 : M28 57 ls (.int y :: .int x :: st) H Q = M28 58 ls (.int (x * y) :: st) H Q := w_x (show decode kb28 57 = .ok (.imul, 1) from by decide +kernel) rfl
theorem m28_58 : M28 58 [l0, l1, .val (.int v)] st H Q = M28 59 [l0, l1, .val (.int v)] (.int v :: st) H Q := w_x (show decode kb28 58 = .ok (.iload_n 2, 1) from by decide +kernel) rfl
theorem m28_59 : M28 59 ls (.int y :: .int x :: st) H Q = M28 60 ls (.int (x + y) :: st) H Q := w_x (show decode kb28 59 = .ok (.iadd, 1) from by decide +kernel) rfl
theorem m28_60  : M28 60 ls (.int j :: .ref ((b + 1) + 6) :: st) (put (b + 1) pre s A post) Q = (inB j (A 5) ∧ M28 61 ls (.int (getA (A 5) j) :: st) (put (b + 1) pre s A post) Q) := w_ild (show decode kb28 60 = .ok (.iaload, 1) from by decide +kernel) rfl put_a5
theorem m28_61 : M28 61 ls (.int y :: .int x :: st) H Q = M28 62 ls (.int (x + y) :: st) H Q := w_x (show decode kb28 61 = .ok (.iadd, 1) from by decide +kernel) rfl
theorem m28_62 : M28 62 ls (.int y :: .int x :: st) H Q = if x = y then M28 65 ls st H Q else M28 72 ls st H Q := w_icmpN (show decode kb28 62 = .ok (.if_icmp .ne 10, 3) from by decide +kernel) (i_ne x y) rfl
theorem m28_65 : M28 65 [.val (.ref r), l1, l2] st H Q = M28 66 [.val (.ref r), l1, l2] (.ref r :: st) H Q := w_x (show decode kb28 65 = .ok (.aload_n 0, 1) from by decide +kernel) rfl
theorem m28_66 : M28 66 ls (.ref (b + 1) :: st) (put (b + 1) pre s A post) Q = M28 69 ls (.ref ((b + 1) + 18) :: st) (put (b + 1) pre s A post) Q := w_get (show decode kb28 66 = .ok (.getfield 62, 3) from by decide +kernel) gf_62 put_o rfl
theorem m28_69 : M28 69 [l0, .val (.int v), l2] st H Q = M28 70 [l0, .val (.int v), l2] (.int v :: st) H Q := w_x (show decode kb28 69 = .ok (.iload_n 1, 1) from by decide +kernel) rfl
theorem m28_70 : M28 70 ls st H Q = M28 71 ls (.int (-1) :: st) H Q := w_con (show decode kb28 70 = .ok (.iconst (-1), 1) from by decide +kernel) rfl (by decide)
theorem m28_71  : M28 71 ls (.int v :: .int j :: .ref ((b + 1) + 18) :: st) (put (b + 1) pre s A post) Q = (inB j (A 17) ∧ M28 72 ls st (put (b + 1) pre s (ou A 17 (setA (A 17) j v)) post) Q) := w_ist (show decode kb28 71 = .ok (.iastore, 1) from by decide +kernel) rfl put_a17 (by omega) rfl put_w17
theorem m28_72 : M28 72 [.val (.ref r), l1, l2] st H Q = M28 73 [.val (.ref r), l1, l2] (.ref r :: st) H Q := w_x (show decode kb28 72 = .ok (.aload_n 0, 1) from by decide +kernel) rfl
theorem m28_73 : M28 73 ls (.ref (b + 1) :: st) (put (b + 1) pre s A post) Q = M28 76 ls (.ref ((b + 1) + 17) :: st) (put (b + 1) pre s A post) Q := w_get (show decode kb28 73 = .ok (.getfield 59, 3) from by decide +kernel) gf_59 put_o rfl
theorem m28_76 : M28 76 [l0, .val (.int v), l2] st H Q = M28 77 [l0, .val (.int v), l2] (.int v :: st) H Q := w_x (show decode kb28 76 = .ok (.iload_n 1, 1) from by decide +kernel) rfl
theorem m28_77  : M28 77 ls (.int j :: .ref ((b + 1) + 17) :: st) (put (b + 1) pre s A post) Q = (inB j (A 16) ∧ M28 78 ls (.int (getA (A 16) j) :: st) (put (b + 1) pre s A post) Q) := w_ild (show decode kb28 77 = .ok (.iaload, 1) from by decide +kernel) rfl put_a16
theorem m28_78 : M28 78 [.val (.ref r), l1, l2] st H Q = M28 79 [.val (.ref r), l1, l2] (.ref r :: st) H Q := w_x (show decode kb28 78 = .ok (.aload_n 0, 1) from by decide +kernel) rfl
theorem m28_79 : M28 79 ls (.ref (b + 1) :: st) (put (b + 1) pre s A post) Q = M28 82 ls (.ref ((b + 1) + 3) :: st) (put (b + 1) pre s A post) Q := w_get (show decode kb28 79 = .ok (.getfield 16, 3) from by decide +kernel) gf_16 put_o rfl
theorem m28_82 : M28 82 [l0, .val (.int v), l2] st H Q = M28 83 [l0, .val (.int v), l2] (.int v :: st) H Q := w_x (show decode kb28 82 = .ok (.iload_n 1, 1) from by decide +kernel) rfl
theorem m28_83  : M28 83 ls (.int j :: .ref ((b + 1) + 3) :: st) (put (b + 1) pre s A post) Q = (inB j (A 2) ∧ M28 84 ls (.int (getA (A 2) j) :: st) (put (b + 1) pre s A post) Q) := w_ild (show decode kb28 83 = .ok (.iaload, 1) from by decide +kernel) rfl put_a2
theorem m28_84 : M28 84 ls (.int y :: .int x :: st) H Q = if x = y then M28 87 ls st H Q else M28 92 ls st H Q := w_icmpN (show decode kb28 84 = .ok (.if_icmp .ne 8, 3) from by decide +kernel) (i_ne x y) rfl
theorem m28_87 : M28 87 [.val (.ref r), l1, l2] st H Q = M28 88 [.val (.ref r), l1, l2] (.ref r :: st) H Q := w_x (show decode kb28 87 = .ok (.aload_n 0, 1) from by decide +kernel) rfl
theorem m28_88 : M28 88 [l0, .val (.int v), l2] st H Q = M28 89 [l0, .val (.int v), l2] (.int v :: st) H Q := w_x (show decode kb28 88 = .ok (.iload_n 1, 1) from by decide +kernel) rfl
theorem cr28_173 : vR tables_1 dn y28 173 = some (true, y31, prog_1_method_31_code, 3, none, 1, 0) := pR_of (cR_of (by decide +kernel) rc_31 dn_31 dn_28 (sig := ⟨[.int], none⟩) (by decide +kernel) (by decide +kernel) rfl rfl) (by decide +kernel) (by decide +kernel)
theorem m28_89 (a0 : Int32) : M28 89 ls [.int a0, .ref (b + 1)] (put (b + 1) pre s A post) Q = M31 0 [.val (.ref (b + 1)), .val (.int a0), .unset] [] (put (b + 1) pre s A post) (fun v H1 => M28 92 ls (v.toList ++ []) H1 Q) := w_virt (as := [.int a0]) (rest := []) (a := (b + 1)) (show decode kb28 89 = .ok (.invokevirtual 173, 3) from by decide +kernel) cr28_173 put_o rfl rfl (Nat.le_of_ble_eq_true rfl) (by show 2 ≤ 3; omega) rfl
theorem m28_92 : M28 92 ls [] H Q = Q none H := w_vret (show decode kb28 92 = .ok (.return_, 1) from by decide +kernel) rfl
theorem m29_0 : M29 0 [.val (.ref r), l1, l2] st H Q = M29 1 [.val (.ref r), l1, l2] (.ref r :: st) H Q := w_x (show decode kb29 0 = .ok (.aload_n 0, 1) from by decide +kernel) rfl
theorem m29_1 : M29 1 ls (.ref (b + 1) :: st) (put (b + 1) pre s A post) Q = M29 4 ls (.ref ((b + 1) + 18) :: st) (put (b + 1) pre s A post) Q := w_get (show decode kb29 1 = .ok (.getfield 62, 3) from by decide +kernel) gf_62 put_o rfl
theorem m29_4 : M29 4 [l0, .val (.int v), l2] st H Q = M29 5 [l0, .val (.int v), l2] (.int v :: st) H Q := w_x (show decode kb29 4 = .ok (.iload_n 1, 1) from by decide +kernel) rfl
theorem m29_5  : M29 5 ls (.int j :: .ref ((b + 1) + 18) :: st) (put (b + 1) pre s A post) Q = (inB j (A 17) ∧ M29 6 ls (.int (getA (A 17) j) :: st) (put (b + 1) pre s A post) Q) := w_ild (show decode kb29 5 = .ok (.iaload, 1) from by decide +kernel) rfl put_a17
theorem m29_6 : M29 6 ls (.int x :: st) H Q = if x < 0 then M29 10 ls st H Q else M29 9 ls st H Q := w_if (show decode kb29 6 = .ok (.ifCond .lt 4, 3) from by decide +kernel) (z_lt x) rfl
theorem m29_9 : M29 9 ls [] H Q = Q none H := w_vret (show decode kb29 9 = .ok (.return_, 1) from by decide +kernel) rfl
theorem m29_10 : M29 10 ls st H Q = M29 11 ls (.int 0 :: st) H Q := w_con (show decode kb29 10 = .ok (.iconst 0, 1) from by decide +kernel) rfl (by decide)
theorem m29_11u : M29 11 [l0, l1, .unset] ((.int v) :: st) H Q = M29 12 [l0, l1, .val (.int v)] st H Q := w_st (i := 2) (p := isI) (show decode kb29 11 = .ok (.istore_n 2, 1) from by decide +kernel) rfl rfl rfl rfl rfl rfl
theorem m29_12 : M29 12 [l0, l1, .val (.int v)] st H Q = M29 13 [l0, l1, .val (.int v)] (.int v :: st) H Q := w_x (show decode kb29 12 = .ok (.iload_n 2, 1) from by decide +kernel) rfl
theorem m29_13 : M29 13 ls st H Q = M29 14 ls (.int 4 :: st) H Q := w_con (show decode kb29 13 = .ok (.iconst 4, 1) from by decide +kernel) rfl (by decide)
theorem m29_14 : M29 14 ls (.int y :: .int x :: st) H Q = if x < y then M29 17 ls st H Q else M29 63 ls st H Q := w_icmpN (show decode kb29 14 = .ok (.if_icmp .ge 49, 3) from by decide +kernel) (i_ge x y) rfl
theorem m29_17 : M29 17 [.val (.ref r), l1, l2] st H Q = M29 18 [.val (.ref r), l1, l2] (.ref r :: st) H Q := w_x (show decode kb29 17 = .ok (.aload_n 0, 1) from by decide +kernel) rfl
theorem m29_18 : M29 18 ls (.ref (b + 1) :: st) (put (b + 1) pre s A post) Q = M29 21 ls (.ref ((b + 1) + 6) :: st) (put (b + 1) pre s A post) Q := w_get (show decode kb29 18 = .ok (.getfield 25, 3) from by decide +kernel) gf_25 put_o rfl
theorem m29_21 : M29 21 [l0, .val (.int v), l2] st H Q = M29 22 [l0, .val (.int v), l2] (.int v :: st) H Q := w_x (show decode kb29 21 = .ok (.iload_n 1, 1) from by decide +kernel) rfl
theorem m29_22 : M29 22 ls st H Q = M29 23 ls (.int 4 :: st) H Q := w_con (show decode kb29 22 = .ok (.iconst 4, 1) from by decide +kernel) rfl (by decide)
theorem m29_23 : M29 23 ls (.int y :: .int x :: st) H Q = M29 24 ls (.int (x * y) :: st) H Q := w_x (show decode kb29 23 = .ok (.imul, 1) from by decide +kernel) rfl
theorem m29_24 : M29 24 [l0, l1, .val (.int v)] st H Q = M29 25 [l0, l1, .val (.int v)] (.int v :: st) H Q := w_x (show decode kb29 24 = .ok (.iload_n 2, 1) from by decide +kernel) rfl
theorem m29_25 : M29 25 ls (.int y :: .int x :: st) H Q = M29 26 ls (.int (x + y) :: st) H Q := w_x (show decode kb29 25 = .ok (.iadd, 1) from by decide +kernel) rfl
theorem m29_26  : M29 26 ls (.int j :: .ref ((b + 1) + 6) :: st) (put (b + 1) pre s A post) Q = (inB j (A 5) ∧ M29 27 ls (.int (getA (A 5) j) :: st) (put (b + 1) pre s A post) Q) := w_ild (show decode kb29 26 = .ok (.iaload, 1) from by decide +kernel) rfl put_a5
theorem m29_27 : M29 27 ls (.int x :: st) H Q = if 0 < x then M29 30 ls st H Q else M29 57 ls st H Q := w_ifN (show decode kb29 27 = .ok (.ifCond .le 30, 3) from by decide +kernel) (z_le x) rfl
theorem m29_30 : M29 30 [.val (.ref r), l1, l2] st H Q = M29 31 [.val (.ref r), l1, l2] (.ref r :: st) H Q := w_x (show decode kb29 30 = .ok (.aload_n 0, 1) from by decide +kernel) rfl
theorem m29_31 : M29 31 ls (.ref (b + 1) :: st) (put (b + 1) pre s A post) Q = M29 34 ls (.ref ((b + 1) + 5) :: st) (put (b + 1) pre s A post) Q := w_get (show decode kb29 31 = .ok (.getfield 22, 3) from by decide +kernel) gf_22 put_o rfl
theorem m29_34 : M29 34 [l0, .val (.int v), l2] st H Q = M29 35 [l0, .val (.int v), l2] (.int v :: st) H Q := w_x (show decode kb29 34 = .ok (.iload_n 1, 1) from by decide +kernel) rfl
theorem m29_35 : M29 35 ls st H Q = M29 36 ls (.int 4 :: st) H Q := w_con (show decode kb29 35 = .ok (.iconst 4, 1) from by decide +kernel) rfl (by decide)
theorem m29_36 : M29 36 ls (.int y :: .int x :: st) H Q = M29 37 ls (.int (x * y) :: st) H Q := w_x (show decode kb29 36 = .ok (.imul, 1) from by decide +kernel) rfl
theorem m29_37 : M29 37 [l0, l1, .val (.int v)] st H Q = M29 38 [l0, l1, .val (.int v)] (.int v :: st) H Q := w_x (show decode kb29 37 = .ok (.iload_n 2, 1) from by decide +kernel) rfl
theorem m29_38 : M29 38 ls (.int y :: .int x :: st) H Q = M29 39 ls (.int (x + y) :: st) H Q := w_x (show decode kb29 38 = .ok (.iadd, 1) from by decide +kernel) rfl
theorem m29_39  : M29 39 ls (.int j :: .ref ((b + 1) + 5) :: st) (put (b + 1) pre s A post) Q = (inB j (A 4) ∧ M29 40 ls (.int (getA (A 4) j) :: st) (put (b + 1) pre s A post) Q) := w_ild (show decode kb29 39 = .ok (.iaload, 1) from by decide +kernel) rfl put_a4
theorem m29_40 : M29 40 [.val (.ref r), l1, l2] st H Q = M29 41 [.val (.ref r), l1, l2] (.ref r :: st) H Q := w_x (show decode kb29 40 = .ok (.aload_n 0, 1) from by decide +kernel) rfl
theorem m29_41 : M29 41 ls (.ref (b + 1) :: st) (put (b + 1) pre s A post) Q = M29 44 ls (.ref ((b + 1) + 17) :: st) (put (b + 1) pre s A post) Q := w_get (show decode kb29 41 = .ok (.getfield 59, 3) from by decide +kernel) gf_59 put_o rfl
theorem m29_44 : M29 44 [l0, .val (.int v), l2] st H Q = M29 45 [l0, .val (.int v), l2] (.int v :: st) H Q := w_x (show decode kb29 44 = .ok (.iload_n 1, 1) from by decide +kernel) rfl
theorem m29_45  : M29 45 ls (.int j :: .ref ((b + 1) + 17) :: st) (put (b + 1) pre s A post) Q = (inB j (A 16) ∧ M29 46 ls (.int (getA (A 16) j) :: st) (put (b + 1) pre s A post) Q) := w_ild (show decode kb29 45 = .ok (.iaload, 1) from by decide +kernel) rfl put_a16
theorem m29_46 : M29 46 ls (.int y :: .int x :: st) H Q = if x = y then M29 49 ls st H Q else M29 57 ls st H Q := w_icmpN (show decode kb29 46 = .ok (.if_icmp .ne 11, 3) from by decide +kernel) (i_ne x y) rfl
theorem m29_49 : M29 49 [.val (.ref r), l1, l2] st H Q = M29 50 [.val (.ref r), l1, l2] (.ref r :: st) H Q := w_x (show decode kb29 49 = .ok (.aload_n 0, 1) from by decide +kernel) rfl
theorem m29_50 : M29 50 ls (.ref (b + 1) :: st) (put (b + 1) pre s A post) Q = M29 53 ls (.ref ((b + 1) + 18) :: st) (put (b + 1) pre s A post) Q := w_get (show decode kb29 50 = .ok (.getfield 62, 3) from by decide +kernel) gf_62 put_o rfl
theorem m29_53 : M29 53 [l0, .val (.int v), l2] st H Q = M29 54 [l0, .val (.int v), l2] (.int v :: st) H Q := w_x (show decode kb29 53 = .ok (.iload_n 1, 1) from by decide +kernel) rfl
theorem m29_54 : M29 54 [l0, l1, .val (.int v)] st H Q = M29 55 [l0, l1, .val (.int v)] (.int v :: st) H Q := w_x (show decode kb29 54 = .ok (.iload_n 2, 1) from by decide +kernel) rfl
theorem m29_55  : M29 55 ls (.int v :: .int j :: .ref ((b + 1) + 18) :: st) (put (b + 1) pre s A post) Q = (inB j (A 17) ∧ M29 56 ls st (put (b + 1) pre s (ou A 17 (setA (A 17) j v)) post) Q) := w_ist (show decode kb29 55 = .ok (.iastore, 1) from by decide +kernel) rfl put_a17 (by omega) rfl put_w17
theorem m29_56 : M29 56 ls [] H Q = Q none H := w_vret (show decode kb29 56 = .ok (.return_, 1) from by decide +kernel) rfl
theorem m29_57 : M29 57 [l0, l1, .val (.int v)] st H Q = M29 60 [l0, l1, .val (.int (v + 1))] st H Q := w_iinc (show decode kb29 57 = .ok (.iinc 2 1, 3) from by decide +kernel) rfl (by decide) rfl
theorem m29_60 : M29 60 ls st H Q = M29 12 ls st H Q := w_x (show decode kb29 60 = .ok (.goto (-48), 3) from by decide +kernel) rfl
theorem m29_63 : M29 63 ls [] H Q = Q none H := w_vret (show decode kb29 63 = .ok (.return_, 1) from by decide +kernel) rfl
theorem m30_0 : M30 0 ls st H Q = M30 1 ls (.int 0 :: st) H Q := w_con (show decode kb30 0 = .ok (.iconst 0, 1) from by decide +kernel) rfl (by decide)
theorem m30_1u : M30 1 [l0, .unset] ((.int v) :: st) H Q = M30 2 [l0, .val (.int v)] st H Q := w_st (i := 1) (p := isI) (show decode kb30 1 = .ok (.istore_n 1, 1) from by decide +kernel) rfl rfl rfl rfl rfl rfl
theorem m30_2 : M30 2 [l0, .val (.int v)] st H Q = M30 3 [l0, .val (.int v)] (.int v :: st) H Q := w_x (show decode kb30 2 = .ok (.iload_n 1, 1) from by decide +kernel) rfl
theorem m30_3 : M30 3 [.val (.ref r), l1] st H Q = M30 4 [.val (.ref r), l1] (.ref r :: st) H Q := w_x (show decode kb30 3 = .ok (.aload_n 0, 1) from by decide +kernel) rfl
theorem m30_4 : M30 4 ls (.ref (b + 1) :: st) (put (b + 1) pre s A post) Q = M30 7 ls (.int (s 1) :: st) (put (b + 1) pre s A post) Q := w_get (show decode kb30 4 = .ok (.getfield 75, 3) from by decide +kernel) gf_75 put_o rfl
theorem m30_7 : M30 7 ls (.int y :: .int x :: st) H Q = if x < y then M30 10 ls st H Q else M30 69 ls st H Q := w_icmpN (show decode kb30 7 = .ok (.if_icmp .ge 62, 3) from by decide +kernel) (i_ge x y) rfl
theorem m30_10 : M30 10 [.val (.ref r), l1] st H Q = M30 11 [.val (.ref r), l1] (.ref r :: st) H Q := w_x (show decode kb30 10 = .ok (.aload_n 0, 1) from by decide +kernel) rfl
theorem m30_11 : M30 11 ls (.ref (b + 1) :: st) (put (b + 1) pre s A post) Q = M30 14 ls (.ref ((b + 1) + 15) :: st) (put (b + 1) pre s A post) Q := w_get (show decode kb30 11 = .ok (.getfield 52, 3) from by decide +kernel) gf_52 put_o rfl
theorem m30_14 : M30 14 [l0, .val (.int v)] st H Q = M30 15 [l0, .val (.int v)] (.int v :: st) H Q := w_x (show decode kb30 14 = .ok (.iload_n 1, 1) from by decide +kernel) rfl
theorem m30_15  : M30 15 ls (.int j :: .ref ((b + 1) + 15) :: st) (put (b + 1) pre s A post) Q = (inB j (A 14) ∧ M30 16 ls (.int (getA (A 14) j) :: st) (put (b + 1) pre s A post) Q) := w_ild (show decode kb30 15 = .ok (.baload, 1) from by decide +kernel) rfl put_a14
theorem m30_16 : M30 16 ls (.int x :: st) H Q = if x = 0 then M30 63 ls st H Q else M30 19 ls st H Q := w_if (show decode kb30 16 = .ok (.ifCond .eq 47, 3) from by decide +kernel) (z_eq x) rfl
theorem m30_19 : M30 19 [.val (.ref r), l1] st H Q = M30 20 [.val (.ref r), l1] (.ref r :: st) H Q := w_x (show decode kb30 19 = .ok (.aload_n 0, 1) from by decide +kernel) rfl
theorem m30_20 : M30 20 ls (.ref (b + 1) :: st) (put (b + 1) pre s A post) Q = M30 23 ls (.ref ((b + 1) + 16) :: st) (put (b + 1) pre s A post) Q := w_get (show decode kb30 20 = .ok (.getfield 56, 3) from by decide +kernel) gf_56 put_o rfl
theorem m30_23 : M30 23 [l0, .val (.int v)] st H Q = M30 24 [l0, .val (.int v)] (.int v :: st) H Q := w_x (show decode kb30 23 = .ok (.iload_n 1, 1) from by decide +kernel) rfl
theorem m30_24  : M30 24 ls (.int j :: .ref ((b + 1) + 16) :: st) (put (b + 1) pre s A post) Q = (inB j (A 15) ∧ M30 25 ls (.int (getA (A 15) j) :: st) (put (b + 1) pre s A post) Q) := w_ild (show decode kb30 24 = .ok (.iaload, 1) from by decide +kernel) rfl put_a15
theorem m30_25 : M30 25 [.val (.ref r), l1] st H Q = M30 26 [.val (.ref r), l1] (.ref r :: st) H Q := w_x (show decode kb30 25 = .ok (.aload_n 0, 1) from by decide +kernel) rfl
theorem m30_26 : M30 26 ls (.ref (b + 1) :: st) (put (b + 1) pre s A post) Q = M30 29 ls (.ref ((b + 1) + 2) :: st) (put (b + 1) pre s A post) Q := w_get (show decode kb30 26 = .ok (.getfield 13, 3) from by decide +kernel) gf_13 put_o rfl
theorem m30_29 : M30 29 [l0, .val (.int v)] st H Q = M30 30 [l0, .val (.int v)] (.int v :: st) H Q := w_x (show decode kb30 29 = .ok (.iload_n 1, 1) from by decide +kernel) rfl
theorem m30_30  : M30 30 ls (.int j :: .ref ((b + 1) + 2) :: st) (put (b + 1) pre s A post) Q = (inB j (A 1) ∧ M30 31 ls (.int (getA (A 1) j) :: st) (put (b + 1) pre s A post) Q) := w_ild (show decode kb30 30 = .ok (.iaload, 1) from by decide +kernel) rfl put_a1
theorem m30_31 : M30 31 ls (.int y :: .int x :: st) H Q = M30 32 ls (.int (x + y) :: st) H Q := w_x (show decode kb30 31 = .ok (.iadd, 1) from by decide +kernel) rfl
theorem m30_32 : M30 32 [.val (.ref r), l1] st H Q = M30 33 [.val (.ref r), l1] (.ref r :: st) H Q := w_x (show decode kb30 32 = .ok (.aload_n 0, 1) from by decide +kernel) rfl
theorem m30_33 : M30 33 ls (.ref (b + 1) :: st) (put (b + 1) pre s A post) Q = M30 36 ls (.int (s 9) :: st) (put (b + 1) pre s A post) Q := w_get (show decode kb30 33 = .ok (.getfield 145, 3) from by decide +kernel) gf_145 put_o rfl
theorem m30_36 : M30 36 ls (.int y :: .int x :: st) H Q = if x = y then M30 39 ls st H Q else M30 63 ls st H Q := w_icmpN (show decode kb30 36 = .ok (.if_icmp .ne 27, 3) from by decide +kernel) (i_ne x y) rfl
theorem m30_39 : M30 39 [.val (.ref r), l1] st H Q = M30 40 [.val (.ref r), l1] (.ref r :: st) H Q := w_x (show decode kb30 39 = .ok (.aload_n 0, 1) from by decide +kernel) rfl
theorem m30_40 : M30 40 ls ((.ref r) :: st) H Q = M30 41 ls ((.ref r) :: (.ref r) :: st) H Q := w_x (show decode kb30 40 = .ok (.dup, 1) from by decide +kernel) rfl
theorem m30_41 : M30 41 ls (.ref (b + 1) :: st) (put (b + 1) pre s A post) Q = M30 44 ls (.int (s 10) :: st) (put (b + 1) pre s A post) Q := w_get (show decode kb30 41 = .ok (.getfield 148, 3) from by decide +kernel) gf_148 put_o rfl
theorem m30_44 : M30 44 ls st H Q = M30 45 ls (.int 1 :: st) H Q := w_con (show decode kb30 44 = .ok (.iconst 1, 1) from by decide +kernel) rfl (by decide)
theorem m30_45 : M30 45 ls (.int y :: .int x :: st) H Q = M30 46 ls (.int (x + y) :: st) H Q := w_x (show decode kb30 45 = .ok (.iadd, 1) from by decide +kernel) rfl
theorem pf30_148 : pfR tables_1 y30.cls y30.name 148 = some ("ResponseTimeGate", 26, .int) := by decide +kernel
theorem m30_46 : M30 46 ls (.int v :: .ref (b + 1) :: st) (put (b + 1) pre s A post) Q = M30 49 ls st (put (b + 1) pre (ou s 10 v) A post) Q := w_put (show decode kb30 46 = .ok (.putfield 148, 3) from by decide +kernel) pf30_148 put_o (Nat.succ_le_succ (Nat.zero_le _)) (by show 26 < 31; omega) rfl put_s10
theorem m30_49 : M30 49 [.val (.ref r), l1] st H Q = M30 50 [.val (.ref r), l1] (.ref r :: st) H Q := w_x (show decode kb30 49 = .ok (.aload_n 0, 1) from by decide +kernel) rfl
theorem m30_50 : M30 50 ls (.ref (b + 1) :: st) (put (b + 1) pre s A post) Q = M30 53 ls (.ref ((b + 1) + 18) :: st) (put (b + 1) pre s A post) Q := w_get (show decode kb30 50 = .ok (.getfield 62, 3) from by decide +kernel) gf_62 put_o rfl
theorem m30_53 : M30 53 [l0, .val (.int v)] st H Q = M30 54 [l0, .val (.int v)] (.int v :: st) H Q := w_x (show decode kb30 53 = .ok (.iload_n 1, 1) from by decide +kernel) rfl
theorem m30_54 : M30 54 ls st H Q = M30 55 ls (.int (-1) :: st) H Q := w_con (show decode kb30 54 = .ok (.iconst (-1), 1) from by decide +kernel) rfl (by decide)
theorem m30_55  : M30 55 ls (.int v :: .int j :: .ref ((b + 1) + 18) :: st) (put (b + 1) pre s A post) Q = (inB j (A 17) ∧ M30 56 ls st (put (b + 1) pre s (ou A 17 (setA (A 17) j v)) post) Q) := w_ist (show decode kb30 55 = .ok (.iastore, 1) from by decide +kernel) rfl put_a17 (by omega) rfl put_w17
theorem m30_56 : M30 56 [.val (.ref r), l1] st H Q = M30 57 [.val (.ref r), l1] (.ref r :: st) H Q := w_x (show decode kb30 56 = .ok (.aload_n 0, 1) from by decide +kernel) rfl
theorem m30_57 : M30 57 ls (.ref (b + 1) :: st) (put (b + 1) pre s A post) Q = M30 60 ls (.ref ((b + 1) + 15) :: st) (put (b + 1) pre s A post) Q := w_get (show decode kb30 57 = .ok (.getfield 52, 3) from by decide +kernel) gf_52 put_o rfl
theorem m30_60 : M30 60 [l0, .val (.int v)] st H Q = M30 61 [l0, .val (.int v)] (.int v :: st) H Q := w_x (show decode kb30 60 = .ok (.iload_n 1, 1) from by decide +kernel) rfl
theorem m30_61 : M30 61 ls st H Q = M30 62 ls (.int 0 :: st) H Q := w_con (show decode kb30 61 = .ok (.iconst 0, 1) from by decide +kernel) rfl (by decide)
theorem m30_62  : M30 62 ls (.int v :: .int j :: .ref ((b + 1) + 15) :: st) (put (b + 1) pre s A post) Q = (inB j (A 14) ∧ M30 63 ls st (put (b + 1) pre s (ou A 14 (setA (A 14) j (nar .boolean v))) post) Q) := w_ist (show decode kb30 62 = .ok (.bastore, 1) from by decide +kernel) rfl put_a14 (by omega) rfl put_w14
theorem m30_63 : M30 63 [l0, .val (.int v)] st H Q = M30 66 [l0, .val (.int (v + 1))] st H Q := w_iinc (show decode kb30 63 = .ok (.iinc 1 1, 3) from by decide +kernel) rfl (by decide) rfl
theorem m30_66 : M30 66 ls st H Q = M30 2 ls st H Q := w_x (show decode kb30 66 = .ok (.goto (-64), 3) from by decide +kernel) rfl
theorem m30_69 : M30 69 ls [] H Q = Q none H := w_vret (show decode kb30 69 = .ok (.return_, 1) from by decide +kernel) rfl
theorem m31_0 : M31 0 [.val (.ref r), l1, l2] st H Q = M31 1 [.val (.ref r), l1, l2] (.ref r :: st) H Q := w_x (show decode kb31 0 = .ok (.aload_n 0, 1) from by decide +kernel) rfl
theorem m31_1 : M31 1 ls (.ref (b + 1) :: st) (put (b + 1) pre s A post) Q = M31 4 ls (.int (s 9) :: st) (put (b + 1) pre s A post) Q := w_get (show decode kb31 1 = .ok (.getfield 145, 3) from by decide +kernel) gf_145 put_o rfl
theorem m31_4 : M31 4 ls st H Q = M31 5 ls (.int 1 :: st) H Q := w_con (show decode kb31 4 = .ok (.iconst 1, 1) from by decide +kernel) rfl (by decide)
theorem m31_5 : M31 5 ls (.int y :: .int x :: st) H Q = M31 6 ls (.int (x + y) :: st) H Q := w_x (show decode kb31 5 = .ok (.iadd, 1) from by decide +kernel) rfl
theorem m31_6 : M31 6 [.val (.ref r), l1, l2] st H Q = M31 7 [.val (.ref r), l1, l2] (.ref r :: st) H Q := w_x (show decode kb31 6 = .ok (.aload_n 0, 1) from by decide +kernel) rfl
theorem m31_7 : M31 7 ls (.ref (b + 1) :: st) (put (b + 1) pre s A post) Q = M31 10 ls (.ref ((b + 1) + 16) :: st) (put (b + 1) pre s A post) Q := w_get (show decode kb31 7 = .ok (.getfield 56, 3) from by decide +kernel) gf_56 put_o rfl
theorem m31_10 : M31 10 [l0, .val (.int v), l2] st H Q = M31 11 [l0, .val (.int v), l2] (.int v :: st) H Q := w_x (show decode kb31 10 = .ok (.iload_n 1, 1) from by decide +kernel) rfl
theorem m31_11  : M31 11 ls (.int j :: .ref ((b + 1) + 16) :: st) (put (b + 1) pre s A post) Q = (inB j (A 15) ∧ M31 12 ls (.int (getA (A 15) j) :: st) (put (b + 1) pre s A post) Q) := w_ild (show decode kb31 11 = .ok (.iaload, 1) from by decide +kernel) rfl put_a15
theorem m31_12 : M31 12 ls (.int y :: .int x :: st) H Q = M31 13 ls (.int (x - y) :: st) H Q := w_x (show decode kb31 12 = .ok (.isub, 1) from by decide +kernel) rfl
theorem m31_13u : M31 13 [l0, l1, .unset] ((.int v) :: st) H Q = M31 14 [l0, l1, .val (.int v)] st H Q := w_st (i := 2) (p := isI) (show decode kb31 13 = .ok (.istore_n 2, 1) from by decide +kernel) rfl rfl rfl rfl rfl rfl
theorem m31_14 : M31 14 [.val (.ref r), l1, l2] st H Q = M31 15 [.val (.ref r), l1, l2] (.ref r :: st) H Q := w_x (show decode kb31 14 = .ok (.aload_n 0, 1) from by decide +kernel) rfl
theorem m31_15 : M31 15 ls (.ref (b + 1) :: st) (put (b + 1) pre s A post) Q = M31 18 ls (.ref ((b + 1) + 19) :: st) (put (b + 1) pre s A post) Q := w_get (show decode kb31 15 = .ok (.getfield 65, 3) from by decide +kernel) gf_65 put_o rfl
theorem m31_18 : M31 18 [l0, .val (.int v), l2] st H Q = M31 19 [l0, .val (.int v), l2] (.int v :: st) H Q := w_x (show decode kb31 18 = .ok (.iload_n 1, 1) from by decide +kernel) rfl
theorem m31_19 : M31 19 [.val (.ref r), l1, l2] st H Q = M31 20 [.val (.ref r), l1, l2] (.ref r :: st) H Q := w_x (show decode kb31 19 = .ok (.aload_n 0, 1) from by decide +kernel) rfl
theorem m31_20 : M31 20 ls (.ref (b + 1) :: st) (put (b + 1) pre s A post) Q = M31 23 ls (.ref ((b + 1) + 19) :: st) (put (b + 1) pre s A post) Q := w_get (show decode kb31 20 = .ok (.getfield 65, 3) from by decide +kernel) gf_65 put_o rfl
theorem m31_23 : M31 23 [l0, .val (.int v), l2] st H Q = M31 24 [l0, .val (.int v), l2] (.int v :: st) H Q := w_x (show decode kb31 23 = .ok (.iload_n 1, 1) from by decide +kernel) rfl
theorem m31_24  : M31 24 ls (.int j :: .ref ((b + 1) + 19) :: st) (put (b + 1) pre s A post) Q = (inB j (A 18) ∧ M31 25 ls (.int (getA (A 18) j) :: st) (put (b + 1) pre s A post) Q) := w_ild (show decode kb31 24 = .ok (.iaload, 1) from by decide +kernel) rfl put_a18
theorem m31_25 : M31 25 ls st H Q = M31 26 ls (.int 1 :: st) H Q := w_con (show decode kb31 25 = .ok (.iconst 1, 1) from by decide +kernel) rfl (by decide)
theorem m31_26 : M31 26 ls (.int y :: .int x :: st) H Q = M31 27 ls (.int (x + y) :: st) H Q := w_x (show decode kb31 26 = .ok (.iadd, 1) from by decide +kernel) rfl
theorem m31_27  : M31 27 ls (.int v :: .int j :: .ref ((b + 1) + 19) :: st) (put (b + 1) pre s A post) Q = (inB j (A 18) ∧ M31 28 ls st (put (b + 1) pre s (ou A 18 (setA (A 18) j v)) post) Q) := w_ist (show decode kb31 27 = .ok (.iastore, 1) from by decide +kernel) rfl put_a18 (by omega) rfl put_w18
theorem m31_28 : M31 28 [l0, l1, .val (.int v)] st H Q = M31 29 [l0, l1, .val (.int v)] (.int v :: st) H Q := w_x (show decode kb31 28 = .ok (.iload_n 2, 1) from by decide +kernel) rfl
theorem m31_29 : M31 29 [.val (.ref r), l1, l2] st H Q = M31 30 [.val (.ref r), l1, l2] (.ref r :: st) H Q := w_x (show decode kb31 29 = .ok (.aload_n 0, 1) from by decide +kernel) rfl
theorem m31_30 : M31 30 ls (.ref (b + 1) :: st) (put (b + 1) pre s A post) Q = M31 33 ls (.ref ((b + 1) + 20) :: st) (put (b + 1) pre s A post) Q := w_get (show decode kb31 30 = .ok (.getfield 68, 3) from by decide +kernel) gf_68 put_o rfl
theorem m31_33 : M31 33 [l0, .val (.int v), l2] st H Q = M31 34 [l0, .val (.int v), l2] (.int v :: st) H Q := w_x (show decode kb31 33 = .ok (.iload_n 1, 1) from by decide +kernel) rfl
theorem m31_34  : M31 34 ls (.int j :: .ref ((b + 1) + 20) :: st) (put (b + 1) pre s A post) Q = (inB j (A 19) ∧ M31 35 ls (.int (getA (A 19) j) :: st) (put (b + 1) pre s A post) Q) := w_ild (show decode kb31 34 = .ok (.iaload, 1) from by decide +kernel) rfl put_a19
theorem m31_35 : M31 35 ls (.int y :: .int x :: st) H Q = if y < x then M31 38 ls st H Q else M31 45 ls st H Q := w_icmpN (show decode kb31 35 = .ok (.if_icmp .le 10, 3) from by decide +kernel) (i_le x y) rfl
theorem m31_38 : M31 38 [.val (.ref r), l1, l2] st H Q = M31 39 [.val (.ref r), l1, l2] (.ref r :: st) H Q := w_x (show decode kb31 38 = .ok (.aload_n 0, 1) from by decide +kernel) rfl
theorem m31_39 : M31 39 ls (.ref (b + 1) :: st) (put (b + 1) pre s A post) Q = M31 42 ls (.ref ((b + 1) + 20) :: st) (put (b + 1) pre s A post) Q := w_get (show decode kb31 39 = .ok (.getfield 68, 3) from by decide +kernel) gf_68 put_o rfl
theorem m31_42 : M31 42 [l0, .val (.int v), l2] st H Q = M31 43 [l0, .val (.int v), l2] (.int v :: st) H Q := w_x (show decode kb31 42 = .ok (.iload_n 1, 1) from by decide +kernel) rfl
theorem m31_43 : M31 43 [l0, l1, .val (.int v)] st H Q = M31 44 [l0, l1, .val (.int v)] (.int v :: st) H Q := w_x (show decode kb31 43 = .ok (.iload_n 2, 1) from by decide +kernel) rfl
theorem m31_44  : M31 44 ls (.int v :: .int j :: .ref ((b + 1) + 20) :: st) (put (b + 1) pre s A post) Q = (inB j (A 19) ∧ M31 45 ls st (put (b + 1) pre s (ou A 19 (setA (A 19) j v)) post) Q) := w_ist (show decode kb31 44 = .ok (.iastore, 1) from by decide +kernel) rfl put_a19 (by omega) rfl put_w19
theorem m31_45 : M31 45 [.val (.ref r), l1, l2] st H Q = M31 46 [.val (.ref r), l1, l2] (.ref r :: st) H Q := w_x (show decode kb31 45 = .ok (.aload_n 0, 1) from by decide +kernel) rfl
theorem m31_46 : M31 46 ls (.ref (b + 1) :: st) (put (b + 1) pre s A post) Q = M31 49 ls (.ref ((b + 1) + 15) :: st) (put (b + 1) pre s A post) Q := w_get (show decode kb31 46 = .ok (.getfield 52, 3) from by decide +kernel) gf_52 put_o rfl
theorem m31_49 : M31 49 [l0, .val (.int v), l2] st H Q = M31 50 [l0, .val (.int v), l2] (.int v :: st) H Q := w_x (show decode kb31 49 = .ok (.iload_n 1, 1) from by decide +kernel) rfl
theorem m31_50 : M31 50 ls st H Q = M31 51 ls (.int 0 :: st) H Q := w_con (show decode kb31 50 = .ok (.iconst 0, 1) from by decide +kernel) rfl (by decide)
theorem m31_51  : M31 51 ls (.int v :: .int j :: .ref ((b + 1) + 15) :: st) (put (b + 1) pre s A post) Q = (inB j (A 14) ∧ M31 52 ls st (put (b + 1) pre s (ou A 14 (setA (A 14) j (nar .boolean v))) post) Q) := w_ist (show decode kb31 51 = .ok (.bastore, 1) from by decide +kernel) rfl put_a14 (by omega) rfl put_w14
theorem m31_52 : M31 52 [.val (.ref r), l1, l2] st H Q = M31 53 [.val (.ref r), l1, l2] (.ref r :: st) H Q := w_x (show decode kb31 52 = .ok (.aload_n 0, 1) from by decide +kernel) rfl
theorem m31_53 : M31 53 ls (.ref (b + 1) :: st) (put (b + 1) pre s A post) Q = M31 56 ls (.ref ((b + 1) + 18) :: st) (put (b + 1) pre s A post) Q := w_get (show decode kb31 53 = .ok (.getfield 62, 3) from by decide +kernel) gf_62 put_o rfl
theorem m31_56 : M31 56 [l0, .val (.int v), l2] st H Q = M31 57 [l0, .val (.int v), l2] (.int v :: st) H Q := w_x (show decode kb31 56 = .ok (.iload_n 1, 1) from by decide +kernel) rfl
theorem m31_57 : M31 57 ls st H Q = M31 58 ls (.int (-1) :: st) H Q := w_con (show decode kb31 57 = .ok (.iconst (-1), 1) from by decide +kernel) rfl (by decide)
theorem m31_58  : M31 58 ls (.int v :: .int j :: .ref ((b + 1) + 18) :: st) (put (b + 1) pre s A post) Q = (inB j (A 17) ∧ M31 59 ls st (put (b + 1) pre s (ou A 17 (setA (A 17) j v)) post) Q) := w_ist (show decode kb31 58 = .ok (.iastore, 1) from by decide +kernel) rfl put_a17 (by omega) rfl put_w17
theorem m31_59 : M31 59 ls [] H Q = Q none H := w_vret (show decode kb31 59 = .ok (.return_, 1) from by decide +kernel) rfl
theorem m32_0 : M32 0 [.val (.ref r), l1] st H Q = M32 1 [.val (.ref r), l1] (.ref r :: st) H Q := w_x (show decode kb32 0 = .ok (.aload_n 0, 1) from by decide +kernel) rfl
theorem m32_1 : M32 1 [l0, .val (.int v)] st H Q = M32 2 [l0, .val (.int v)] (.int v :: st) H Q := w_x (show decode kb32 1 = .ok (.iload_n 1, 1) from by decide +kernel) rfl
theorem cr32_142 : vR tables_1 dn y32 142 = some (true, y20, prog_1_method_16_code, 2, (some .boolean), 1, 0) := pR_of (cR_of (by decide +kernel) rc_20 dn_20 dn_32 (sig := ⟨[.int], some .boolean⟩) (by decide +kernel) (by decide +kernel) rfl rfl) (by decide +kernel) (by decide +kernel)
theorem m32_2 (a0 : Int32) : M32 2 ls [.int a0, .ref (b + 1)] (put (b + 1) pre s A post) Q = M20 0 [.val (.ref (b + 1)), .val (.int a0)] [] (put (b + 1) pre s A post) (fun v H1 => M32 5 ls (v.toList ++ []) H1 Q) := w_virt (as := [.int a0]) (rest := []) (a := (b + 1)) (show decode kb32 2 = .ok (.invokevirtual 142, 3) from by decide +kernel) cr32_142 put_o rfl rfl (Nat.le_of_ble_eq_true rfl) (by show 2 ≤ 2; omega) rfl
theorem m32_5 : M32 5 ls (.int x :: st) H Q = if x = 0 then M32 8 ls st H Q else M32 10 ls st H Q := w_ifN (show decode kb32 5 = .ok (.ifCond .ne 5, 3) from by decide +kernel) (z_ne x) rfl
theorem m32_8 : M32 8 ls st H Q = M32 9 ls (.int (-1) :: st) H Q := w_con (show decode kb32 8 = .ok (.iconst (-1), 1) from by decide +kernel) rfl (by decide)
theorem m32_9 : M32 9 ls (.int z :: st) H Q = Q (some (.int z)) H := w_iret (show decode kb32 9 = .ok (.ireturn, 1) from by decide +kernel) rfl
theorem m32_10 : M32 10 [.val (.ref r), l1] st H Q = M32 11 [.val (.ref r), l1] (.ref r :: st) H Q := w_x (show decode kb32 10 = .ok (.aload_n 0, 1) from by decide +kernel) rfl
theorem m32_11 : M32 11 ls (.ref (b + 1) :: st) (put (b + 1) pre s A post) Q = M32 14 ls (.ref ((b + 1) + 19) :: st) (put (b + 1) pre s A post) Q := w_get (show decode kb32 11 = .ok (.getfield 65, 3) from by decide +kernel) gf_65 put_o rfl
theorem m32_14 : M32 14 [l0, .val (.int v)] st H Q = M32 15 [l0, .val (.int v)] (.int v :: st) H Q := w_x (show decode kb32 14 = .ok (.iload_n 1, 1) from by decide +kernel) rfl
theorem m32_15  : M32 15 ls (.int j :: .ref ((b + 1) + 19) :: st) (put (b + 1) pre s A post) Q = (inB j (A 18) ∧ M32 16 ls (.int (getA (A 18) j) :: st) (put (b + 1) pre s A post) Q) := w_ild (show decode kb32 15 = .ok (.iaload, 1) from by decide +kernel) rfl put_a18
theorem m32_16 : M32 16 ls (.int z :: st) H Q = Q (some (.int z)) H := w_iret (show decode kb32 16 = .ok (.ireturn, 1) from by decide +kernel) rfl
theorem m33_0 : M33 0 [l0, .val (.int v)] st H Q = M33 1 [l0, .val (.int v)] (.int v :: st) H Q := w_x (show decode kb33 0 = .ok (.iload_n 1, 1) from by decide +kernel) rfl
theorem m33_1 : M33 1 [.val (.ref r), l1] st H Q = M33 2 [.val (.ref r), l1] (.ref r :: st) H Q := w_x (show decode kb33 1 = .ok (.aload_n 0, 1) from by decide +kernel) rfl
theorem m33_2 : M33 2 ls (.ref 0 :: st) ((.array .int, sc.map Value.int) :: R) Q = M33 3 ls (.int sc.length.toInt32 :: st) ((.array .int, sc.map Value.int) :: R) Q := by exact (w_len (show decode kb33 2 = .ok (.arraylength, 1) from by decide +kernel) rfl).trans (by rw [List.length_map]; rfl)
theorem m33_2p : M33 2 ls (.ref 0 :: st) (put (b + 1) ((.array .int, sc.map Value.int) :: pre) s A post) Q = M33 3 ls (.int sc.length.toInt32 :: st) (put (b + 1) ((.array .int, sc.map Value.int) :: pre) s A post) Q := by exact (w_len (show decode kb33 2 = .ok (.arraylength, 1) from by decide +kernel) rfl).trans (by rw [List.length_map]; rfl)
theorem m33_3 : M33 3 ls (.int y :: .int x :: st) H Q = if x < y then M33 6 ls st H Q else M33 12 ls st H Q := w_icmpN (show decode kb33 3 = .ok (.if_icmp .ge 9, 3) from by decide +kernel) (i_ge x y) rfl
theorem m33_6 : M33 6 [.val (.ref r), l1] st H Q = M33 7 [.val (.ref r), l1] (.ref r :: st) H Q := w_x (show decode kb33 6 = .ok (.aload_n 0, 1) from by decide +kernel) rfl
theorem m33_7 : M33 7 [l0, .val (.int v)] st H Q = M33 8 [l0, .val (.int v)] (.int v :: st) H Q := w_x (show decode kb33 7 = .ok (.iload_n 1, 1) from by decide +kernel) rfl
theorem m33_8 : M33 8 ls (.int j :: .ref 0 :: st) ((.array .int, sc.map Value.int) :: R) Q = (inB j sc ∧ M33 9 ls (.int (getA sc j) :: st) ((.array .int, sc.map Value.int) :: R) Q) := w_ild (show decode kb33 8 = .ok (.iaload, 1) from by decide +kernel) rfl rfl
theorem m33_8p : M33 8 ls (.int j :: .ref 0 :: st) (put (b + 1) ((.array .int, sc.map Value.int) :: pre) s A post) Q = (inB j sc ∧ M33 9 ls (.int (getA sc j) :: st) (put (b + 1) ((.array .int, sc.map Value.int) :: pre) s A post) Q) := w_ild (show decode kb33 8 = .ok (.iaload, 1) from by decide +kernel) rfl rfl
theorem m33_9 : M33 9 ls st H Q = M33 13 ls st H Q := w_x (show decode kb33 9 = .ok (.goto 4, 3) from by decide +kernel) rfl
theorem m33_12 : M33 12 ls st H Q = M33 13 ls (.int 0 :: st) H Q := w_con (show decode kb33 12 = .ok (.iconst 0, 1) from by decide +kernel) rfl (by decide)
theorem m33_13 : M33 13 ls (.int z :: st) H Q = Q (some (.int z)) H := w_iret (show decode kb33 13 = .ok (.ireturn, 1) from by decide +kernel) rfl
theorem m34_0 : M34 0 [.val (.int v), l1, l2] st H Q = M34 1 [.val (.int v), l1, l2] (.int v :: st) H Q := w_x (show decode kb34 0 = .ok (.iload_n 0, 1) from by decide +kernel) rfl
theorem m34_1 : M34 1 [l0, .val (.int v), l2] st H Q = M34 2 [l0, .val (.int v), l2] (.int v :: st) H Q := w_x (show decode kb34 1 = .ok (.iload_n 1, 1) from by decide +kernel) rfl
theorem m34_2 : M34 2 ls (.int y :: .int x :: st) H Q = (y ≠ 0 ∧ M34 3 ls (.int (x % y) :: st) H Q) := w_div (f := fun x y => x % y) (show decode kb34 2 = .ok (.irem, 1) from by decide +kernel) (fun _ => rfl) rfl rfl
theorem m34_3u : M34 3 [l0, l1, .unset] ((.int v) :: st) H Q = M34 4 [l0, l1, .val (.int v)] st H Q := w_st (i := 2) (p := isI) (show decode kb34 3 = .ok (.istore_n 2, 1) from by decide +kernel) rfl rfl rfl rfl rfl rfl
theorem m34_4 : M34 4 [l0, l1, .val (.int v)] st H Q = M34 5 [l0, l1, .val (.int v)] (.int v :: st) H Q := w_x (show decode kb34 4 = .ok (.iload_n 2, 1) from by decide +kernel) rfl
theorem m34_5 : M34 5 ls (.int x :: st) H Q = if x < 0 then M34 8 ls st H Q else M34 14 ls st H Q := w_ifN (show decode kb34 5 = .ok (.ifCond .ge 9, 3) from by decide +kernel) (z_ge x) rfl
theorem m34_8 : M34 8 [l0, l1, .val (.int v)] st H Q = M34 9 [l0, l1, .val (.int v)] (.int v :: st) H Q := w_x (show decode kb34 8 = .ok (.iload_n 2, 1) from by decide +kernel) rfl
theorem m34_9 : M34 9 [l0, .val (.int v), l2] st H Q = M34 10 [l0, .val (.int v), l2] (.int v :: st) H Q := w_x (show decode kb34 9 = .ok (.iload_n 1, 1) from by decide +kernel) rfl
theorem m34_10 : M34 10 ls (.int y :: .int x :: st) H Q = M34 11 ls (.int (x + y) :: st) H Q := w_x (show decode kb34 10 = .ok (.iadd, 1) from by decide +kernel) rfl
theorem m34_11 : M34 11 ls st H Q = M34 15 ls st H Q := w_x (show decode kb34 11 = .ok (.goto 4, 3) from by decide +kernel) rfl
theorem m34_14 : M34 14 [l0, l1, .val (.int v)] st H Q = M34 15 [l0, l1, .val (.int v)] (.int v :: st) H Q := w_x (show decode kb34 14 = .ok (.iload_n 2, 1) from by decide +kernel) rfl
theorem m34_15 : M34 15 ls (.int z :: st) H Q = Q (some (.int z)) H := w_iret (show decode kb34 15 = .ok (.ireturn, 1) from by decide +kernel) rfl
theorem m35_0 : M35 0 [.val (.int v)] st H Q = M35 1 [.val (.int v)] (.int v :: st) H Q := w_x (show decode kb35 0 = .ok (.iload_n 0, 1) from by decide +kernel) rfl
theorem m35_1_0 : M35 1 ls (.int 0 :: st) H Q = M35 76 ls st H Q := w_x (show decode kb35 1 = .ok (.tableswitch 118 0 14 #[75, 77, 79, 82, 85, 88, 91, 94, 97, 100, 103, 106, 109, 112, 115], 75) from by decide +kernel) rfl
theorem m35_1_1 : M35 1 ls (.int 1 :: st) H Q = M35 78 ls st H Q := w_x (show decode kb35 1 = .ok (.tableswitch 118 0 14 #[75, 77, 79, 82, 85, 88, 91, 94, 97, 100, 103, 106, 109, 112, 115], 75) from by decide +kernel) rfl
theorem m35_1_2 : M35 1 ls (.int 2 :: st) H Q = M35 80 ls st H Q := w_x (show decode kb35 1 = .ok (.tableswitch 118 0 14 #[75, 77, 79, 82, 85, 88, 91, 94, 97, 100, 103, 106, 109, 112, 115], 75) from by decide +kernel) rfl
theorem m35_1_3 : M35 1 ls (.int 3 :: st) H Q = M35 83 ls st H Q := w_x (show decode kb35 1 = .ok (.tableswitch 118 0 14 #[75, 77, 79, 82, 85, 88, 91, 94, 97, 100, 103, 106, 109, 112, 115], 75) from by decide +kernel) rfl
theorem m35_1_4 : M35 1 ls (.int 4 :: st) H Q = M35 86 ls st H Q := w_x (show decode kb35 1 = .ok (.tableswitch 118 0 14 #[75, 77, 79, 82, 85, 88, 91, 94, 97, 100, 103, 106, 109, 112, 115], 75) from by decide +kernel) rfl
theorem m35_1_5 : M35 1 ls (.int 5 :: st) H Q = M35 89 ls st H Q := w_x (show decode kb35 1 = .ok (.tableswitch 118 0 14 #[75, 77, 79, 82, 85, 88, 91, 94, 97, 100, 103, 106, 109, 112, 115], 75) from by decide +kernel) rfl
theorem m35_1_6 : M35 1 ls (.int 6 :: st) H Q = M35 92 ls st H Q := w_x (show decode kb35 1 = .ok (.tableswitch 118 0 14 #[75, 77, 79, 82, 85, 88, 91, 94, 97, 100, 103, 106, 109, 112, 115], 75) from by decide +kernel) rfl
theorem m35_1_7 : M35 1 ls (.int 7 :: st) H Q = M35 95 ls st H Q := w_x (show decode kb35 1 = .ok (.tableswitch 118 0 14 #[75, 77, 79, 82, 85, 88, 91, 94, 97, 100, 103, 106, 109, 112, 115], 75) from by decide +kernel) rfl
theorem m35_1_8 : M35 1 ls (.int 8 :: st) H Q = M35 98 ls st H Q := w_x (show decode kb35 1 = .ok (.tableswitch 118 0 14 #[75, 77, 79, 82, 85, 88, 91, 94, 97, 100, 103, 106, 109, 112, 115], 75) from by decide +kernel) rfl
theorem m35_1_9 : M35 1 ls (.int 9 :: st) H Q = M35 101 ls st H Q := w_x (show decode kb35 1 = .ok (.tableswitch 118 0 14 #[75, 77, 79, 82, 85, 88, 91, 94, 97, 100, 103, 106, 109, 112, 115], 75) from by decide +kernel) rfl
theorem m35_1_10 : M35 1 ls (.int 10 :: st) H Q = M35 104 ls st H Q := w_x (show decode kb35 1 = .ok (.tableswitch 118 0 14 #[75, 77, 79, 82, 85, 88, 91, 94, 97, 100, 103, 106, 109, 112, 115], 75) from by decide +kernel) rfl
theorem m35_1_11 : M35 1 ls (.int 11 :: st) H Q = M35 107 ls st H Q := w_x (show decode kb35 1 = .ok (.tableswitch 118 0 14 #[75, 77, 79, 82, 85, 88, 91, 94, 97, 100, 103, 106, 109, 112, 115], 75) from by decide +kernel) rfl
theorem m35_1_12 : M35 1 ls (.int 12 :: st) H Q = M35 110 ls st H Q := w_x (show decode kb35 1 = .ok (.tableswitch 118 0 14 #[75, 77, 79, 82, 85, 88, 91, 94, 97, 100, 103, 106, 109, 112, 115], 75) from by decide +kernel) rfl
theorem m35_1_13 : M35 1 ls (.int 13 :: st) H Q = M35 113 ls st H Q := w_x (show decode kb35 1 = .ok (.tableswitch 118 0 14 #[75, 77, 79, 82, 85, 88, 91, 94, 97, 100, 103, 106, 109, 112, 115], 75) from by decide +kernel) rfl
theorem m35_1_14 : M35 1 ls (.int 14 :: st) H Q = M35 116 ls st H Q := w_x (show decode kb35 1 = .ok (.tableswitch 118 0 14 #[75, 77, 79, 82, 85, 88, 91, 94, 97, 100, 103, 106, 109, 112, 115], 75) from by decide +kernel) rfl
theorem m35_1_d (hx : x.toInt < 0 ∨ x.toInt > 14) : M35 1 ls (.int x :: st) H Q = M35 119 ls st H Q := w_x (show decode kb35 1 = .ok (.tableswitch 118 0 14 #[75, 77, 79, 82, 85, 88, 91, 94, 97, 100, 103, 106, 109, 112, 115], 75) from by decide +kernel) (by simp only [xstep, sw, hx, if_true]; rfl)
theorem m35_76 : M35 76 ls st H Q = M35 77 ls (.int 4 :: st) H Q := w_con (show decode kb35 76 = .ok (.iconst 4, 1) from by decide +kernel) rfl (by decide)
theorem m35_77 : M35 77 ls (.int z :: st) H Q = Q (some (.int z)) H := w_iret (show decode kb35 77 = .ok (.ireturn, 1) from by decide +kernel) rfl
theorem m35_78 : M35 78 ls st H Q = M35 79 ls (.int 5 :: st) H Q := w_con (show decode kb35 78 = .ok (.iconst 5, 1) from by decide +kernel) rfl (by decide)
theorem m35_79 : M35 79 ls (.int z :: st) H Q = Q (some (.int z)) H := w_iret (show decode kb35 79 = .ok (.ireturn, 1) from by decide +kernel) rfl
theorem m35_80 : M35 80 ls st H Q = M35 82 ls (.int 6 :: st) H Q := w_con (show decode kb35 80 = .ok (.bipush 6, 2) from by decide +kernel) rfl (by decide)
theorem m35_82 : M35 82 ls (.int z :: st) H Q = Q (some (.int z)) H := w_iret (show decode kb35 82 = .ok (.ireturn, 1) from by decide +kernel) rfl
theorem m35_83 : M35 83 ls st H Q = M35 85 ls (.int 7 :: st) H Q := w_con (show decode kb35 83 = .ok (.bipush 7, 2) from by decide +kernel) rfl (by decide)
theorem m35_85 : M35 85 ls (.int z :: st) H Q = Q (some (.int z)) H := w_iret (show decode kb35 85 = .ok (.ireturn, 1) from by decide +kernel) rfl
theorem m35_86 : M35 86 ls st H Q = M35 88 ls (.int 8 :: st) H Q := w_con (show decode kb35 86 = .ok (.bipush 8, 2) from by decide +kernel) rfl (by decide)
theorem m35_88 : M35 88 ls (.int z :: st) H Q = Q (some (.int z)) H := w_iret (show decode kb35 88 = .ok (.ireturn, 1) from by decide +kernel) rfl
theorem m35_89 : M35 89 ls st H Q = M35 91 ls (.int 10 :: st) H Q := w_con (show decode kb35 89 = .ok (.bipush 10, 2) from by decide +kernel) rfl (by decide)
theorem m35_91 : M35 91 ls (.int z :: st) H Q = Q (some (.int z)) H := w_iret (show decode kb35 91 = .ok (.ireturn, 1) from by decide +kernel) rfl
theorem m35_92 : M35 92 ls st H Q = M35 94 ls (.int 12 :: st) H Q := w_con (show decode kb35 92 = .ok (.bipush 12, 2) from by decide +kernel) rfl (by decide)
theorem m35_94 : M35 94 ls (.int z :: st) H Q = Q (some (.int z)) H := w_iret (show decode kb35 94 = .ok (.ireturn, 1) from by decide +kernel) rfl
theorem m35_95 : M35 95 ls st H Q = M35 97 ls (.int 14 :: st) H Q := w_con (show decode kb35 95 = .ok (.bipush 14, 2) from by decide +kernel) rfl (by decide)
theorem m35_97 : M35 97 ls (.int z :: st) H Q = Q (some (.int z)) H := w_iret (show decode kb35 97 = .ok (.ireturn, 1) from by decide +kernel) rfl
theorem m35_98 : M35 98 ls st H Q = M35 100 ls (.int 15 :: st) H Q := w_con (show decode kb35 98 = .ok (.bipush 15, 2) from by decide +kernel) rfl (by decide)
theorem m35_100 : M35 100 ls (.int z :: st) H Q = Q (some (.int z)) H := w_iret (show decode kb35 100 = .ok (.ireturn, 1) from by decide +kernel) rfl
theorem m35_101 : M35 101 ls st H Q = M35 103 ls (.int 20 :: st) H Q := w_con (show decode kb35 101 = .ok (.bipush 20, 2) from by decide +kernel) rfl (by decide)
theorem m35_103 : M35 103 ls (.int z :: st) H Q = Q (some (.int z)) H := w_iret (show decode kb35 103 = .ok (.ireturn, 1) from by decide +kernel) rfl
theorem m35_104 : M35 104 ls st H Q = M35 106 ls (.int 21 :: st) H Q := w_con (show decode kb35 104 = .ok (.bipush 21, 2) from by decide +kernel) rfl (by decide)
theorem m35_106 : M35 106 ls (.int z :: st) H Q = Q (some (.int z)) H := w_iret (show decode kb35 106 = .ok (.ireturn, 1) from by decide +kernel) rfl
theorem m35_107 : M35 107 ls st H Q = M35 109 ls (.int 24 :: st) H Q := w_con (show decode kb35 107 = .ok (.bipush 24, 2) from by decide +kernel) rfl (by decide)
theorem m35_109 : M35 109 ls (.int z :: st) H Q = Q (some (.int z)) H := w_iret (show decode kb35 109 = .ok (.ireturn, 1) from by decide +kernel) rfl
theorem m35_110 : M35 110 ls st H Q = M35 112 ls (.int 28 :: st) H Q := w_con (show decode kb35 110 = .ok (.bipush 28, 2) from by decide +kernel) rfl (by decide)
theorem m35_112 : M35 112 ls (.int z :: st) H Q = Q (some (.int z)) H := w_iret (show decode kb35 112 = .ok (.ireturn, 1) from by decide +kernel) rfl
theorem m35_113 : M35 113 ls st H Q = M35 115 ls (.int 30 :: st) H Q := w_con (show decode kb35 113 = .ok (.bipush 30, 2) from by decide +kernel) rfl (by decide)
theorem m35_115 : M35 115 ls (.int z :: st) H Q = Q (some (.int z)) H := w_iret (show decode kb35 115 = .ok (.ireturn, 1) from by decide +kernel) rfl
theorem m35_116 : M35 116 ls st H Q = M35 118 ls (.int 35 :: st) H Q := w_con (show decode kb35 116 = .ok (.bipush 35, 2) from by decide +kernel) rfl (by decide)
theorem m35_118 : M35 118 ls (.int z :: st) H Q = Q (some (.int z)) H := w_iret (show decode kb35 118 = .ok (.ireturn, 1) from by decide +kernel) rfl
theorem m35_119 : M35 119 ls st H Q = M35 121 ls (.int 40 :: st) H Q := w_con (show decode kb35 119 = .ok (.bipush 40, 2) from by decide +kernel) rfl (by decide)
theorem m35_121 : M35 121 ls (.int z :: st) H Q = Q (some (.int z)) H := w_iret (show decode kb35 121 = .ok (.ireturn, 1) from by decide +kernel) rfl
theorem m36_0 : M36 0 ls st H Q = M36 3 ls (.long 65535 :: st) H Q := w_ldc2 (show decode kb36 0 = .ok (.ldc2_w 7, 3) from by decide +kernel) (by decide +kernel)
theorem m36_3 : M36 3 ls st H Q = M36 5 ls (.int 16 :: st) H Q := w_con (show decode kb36 3 = .ok (.bipush 16, 2) from by decide +kernel) rfl (by decide)
theorem m36_5 : M36 5 [l0, l1, .val (.int v), l3, l4, l5] st H Q = M36 6 [l0, l1, .val (.int v), l3, l4, l5] (.int v :: st) H Q := w_x (show decode kb36 5 = .ok (.iload_n 2, 1) from by decide +kernel) rfl
theorem m36_6 : M36 6 ls (.int y :: .int x :: st) H Q = M36 7 ls (.int (x * y) :: st) H Q := w_x (show decode kb36 6 = .ok (.imul, 1) from by decide +kernel) rfl
theorem m36_7 : M36 7 ls (.int y :: .long J1 :: st) H Q = M36 8 ls (.long (J1 <<< (y.toInt64 &&& 63)) :: st) H Q := w_x (show decode kb36 7 = .ok (.lshl, 1) from by decide +kernel) rfl
theorem m36_8 : M36 8 [l0, l1, l2, l3, .unset, .unset] (.long J1 :: st) H Q = M36 10 [l0, l1, l2, l3, .val (.long J1), .second] st H Q := w_x (show decode kb36 8 = .ok (.lstore 4, 2) from by decide +kernel) rfl
theorem m36_10 : M36 10 [.val (.long J1), l1, l2, l3, l4, l5] st H Q = M36 11 [.val (.long J1), l1, l2, l3, l4, l5] (.long J1 :: st) H Q := w_x (show decode kb36 10 = .ok (.lload_n 0, 1) from by decide +kernel) rfl
theorem m36_11 : M36 11 [l0, l1, l2, l3, .val (.long J1), l5] st H Q = M36 13 [l0, l1, l2, l3, .val (.long J1), l5] (.long J1 :: st) H Q := w_x (show decode kb36 11 = .ok (.lload 4, 2) from by decide +kernel) rfl
theorem m36_13 : M36 13 ls st H Q = M36 16 ls (.long (-1) :: st) H Q := w_ldc2 (show decode kb36 13 = .ok (.ldc2_w 9, 3) from by decide +kernel) (by decide +kernel)
theorem m36_16 : M36 16 ls (.long J2 :: .long J1 :: st) H Q = M36 17 ls (.long (J1 ^^^ J2) :: st) H Q := w_x (show decode kb36 16 = .ok (.lxor, 1) from by decide +kernel) rfl
theorem m36_17 : M36 17 ls (.long J2 :: .long J1 :: st) H Q = M36 18 ls (.long (J1 &&& J2) :: st) H Q := w_x (show decode kb36 17 = .ok (.land, 1) from by decide +kernel) rfl
theorem m36_18 : M36 18 [l0, l1, l2, .val (.int v), l4, l5] st H Q = M36 19 [l0, l1, l2, .val (.int v), l4, l5] (.int v :: st) H Q := w_x (show decode kb36 18 = .ok (.iload_n 3, 1) from by decide +kernel) rfl
theorem m36_19 : M36 19 ls (.int x :: st) H Q = M36 20 ls (.long x.toInt64 :: st) H Q := w_x (show decode kb36 19 = .ok (.i2l, 1) from by decide +kernel) rfl
theorem m36_20 : M36 20 ls st H Q = M36 23 ls (.long 65535 :: st) H Q := w_ldc2 (show decode kb36 20 = .ok (.ldc2_w 7, 3) from by decide +kernel) (by decide +kernel)
theorem m36_23 : M36 23 ls (.long J2 :: .long J1 :: st) H Q = M36 24 ls (.long (J1 &&& J2) :: st) H Q := w_x (show decode kb36 23 = .ok (.land, 1) from by decide +kernel) rfl
theorem m36_24 : M36 24 ls st H Q = M36 26 ls (.int 16 :: st) H Q := w_con (show decode kb36 24 = .ok (.bipush 16, 2) from by decide +kernel) rfl (by decide)
theorem m36_26 : M36 26 [l0, l1, .val (.int v), l3, l4, l5] st H Q = M36 27 [l0, l1, .val (.int v), l3, l4, l5] (.int v :: st) H Q := w_x (show decode kb36 26 = .ok (.iload_n 2, 1) from by decide +kernel) rfl
theorem m36_27 : M36 27 ls (.int y :: .int x :: st) H Q = M36 28 ls (.int (x * y) :: st) H Q := w_x (show decode kb36 27 = .ok (.imul, 1) from by decide +kernel) rfl
theorem m36_28 : M36 28 ls (.int y :: .long J1 :: st) H Q = M36 29 ls (.long (J1 <<< (y.toInt64 &&& 63)) :: st) H Q := w_x (show decode kb36 28 = .ok (.lshl, 1) from by decide +kernel) rfl
theorem m36_29 : M36 29 ls (.long J2 :: .long J1 :: st) H Q = M36 30 ls (.long (J1 ||| J2) :: st) H Q := w_x (show decode kb36 29 = .ok (.lor, 1) from by decide +kernel) rfl
theorem m36_30 : M36 30 ls [.long J1] H Q = Q (some (.long J1)) H := w_lret (show decode kb36 30 = .ok (.lreturn, 1) from by decide +kernel) rfl
theorem m37_0 : M37 0 [.val (.long J1), l1, l2] st H Q = M37 1 [.val (.long J1), l1, l2] (.long J1 :: st) H Q := w_x (show decode kb37 0 = .ok (.lload_n 0, 1) from by decide +kernel) rfl
theorem m37_1 : M37 1 ls st H Q = M37 3 ls (.int 16 :: st) H Q := w_con (show decode kb37 1 = .ok (.bipush 16, 2) from by decide +kernel) rfl (by decide)
theorem m37_3 : M37 3 [l0, l1, .val (.int v)] st H Q = M37 4 [l0, l1, .val (.int v)] (.int v :: st) H Q := w_x (show decode kb37 3 = .ok (.iload_n 2, 1) from by decide +kernel) rfl
theorem m37_4 : M37 4 ls (.int y :: .int x :: st) H Q = M37 5 ls (.int (x * y) :: st) H Q := w_x (show decode kb37 4 = .ok (.imul, 1) from by decide +kernel) rfl
theorem m37_5 : M37 5 ls (.int y :: .long J1 :: st) H Q = M37 6 ls (.long (XT.ushrL J1 y) :: st) H Q := w_x (show decode kb37 5 = .ok (.lushr, 1) from by decide +kernel) rfl
theorem m37_6 : M37 6 ls st H Q = M37 9 ls (.long 65535 :: st) H Q := w_ldc2 (show decode kb37 6 = .ok (.ldc2_w 7, 3) from by decide +kernel) (by decide +kernel)
theorem m37_9 : M37 9 ls (.long J2 :: .long J1 :: st) H Q = M37 10 ls (.long (J1 &&& J2) :: st) H Q := w_x (show decode kb37 9 = .ok (.land, 1) from by decide +kernel) rfl
theorem m37_10 : M37 10 ls (.long J1 :: st) H Q = M37 11 ls (.int J1.toInt32 :: st) H Q := w_x (show decode kb37 10 = .ok (.l2i, 1) from by decide +kernel) rfl
theorem m37_11 : M37 11 ls (.int z :: st) H Q = Q (some (.int z)) H := w_iret (show decode kb37 11 = .ok (.ireturn, 1) from by decide +kernel) rfl
theorem m38_0 : M38 0 ls st H Q = M38 3 ls (.ref H.length :: st) (H ++ [(.object "ResponseTimeGate", D0)]) Q := (w_new (C := "ResponseTimeGate") at_0 (by rw [hNew, show rCls tables_1 y38.cls 11 = some "ResponseTimeGate" from by decide +kernel]; dsimp only; rw [if_pos (by decide +kernel)])).trans (by rw [lay0]; rfl)
theorem m38_3 : M38 3 ls ((.ref r) :: st) H Q = M38 4 ls ((.ref r) :: (.ref r) :: st) H Q := w_x at_3 rfl
theorem m38_4 : M38 4 [.val (.ref r), l1, l2, l3, l4, l5, l6, l7, l8, l9, l10, l11, l12, l13, l14, l15, l16, l17, l18, l19, l20, l21, l22] st H Q = M38 5 [.val (.ref r), l1, l2, l3, l4, l5, l6, l7, l8, l9, l10, l11, l12, l13, l14, l15, l16, l17, l18, l19, l20, l21, l22] (.ref r :: st) H Q := w_x at_4 rfl
theorem m38_5 : M38 5 ls st H Q = M38 6 ls (.int 0 :: st) H Q := w_con at_5 rfl (by decide)
theorem cr38_13 : sR tables_1 dn y38 13 = some (y33, method_2_code, 2, (some .int), 2, 57) := sR_of (cR_of (by decide +kernel) rc_33 dn_33 dn_38 (sig := ⟨[.array .int, .int], some .int⟩) (by decide +kernel) (by decide +kernel) rfl rfl) (by decide +kernel)
theorem m38_6 (a0 : Nat) (a1 : Int32) (u0 : Nat) (u1 : Nat) : M38 6 ls [.int a1, .ref a0, .ref u0, .ref u1] H Q = M33 0 [.val (.ref a0), .val (.int a1)] [] H (fun v H1 => M38 9 ls (v.toList ++ [.ref u0, .ref u1]) H1 Q) := w_stat (as := [.int a1, .ref a0]) (rest := [.ref u0, .ref u1]) at_6 cr38_13 rfl (Nat.le_of_ble_eq_true rfl) (by show 2 ≤ 2; omega) rfl
theorem m38_9 : M38 9 ls st H Q = M38 11 ls (.int 10 :: st) H Q := w_con at_9 rfl (by decide)
theorem cr38_19 : sR tables_1 dn y38 19 = some (y34, method_3_code, 3, (some .int), 2, 56) := sR_of (cR_of (by decide +kernel) rc_34 dn_34 dn_38 (sig := ⟨[.int, .int], some .int⟩) (by decide +kernel) (by decide +kernel) rfl rfl) (by decide +kernel)
theorem m38_11 (a0 : Int32) (a1 : Int32) (u0 : Nat) (u1 : Nat) : M38 11 ls [.int a1, .int a0, .ref u0, .ref u1] H Q = M34 0 [.val (.int a0), .val (.int a1), .unset] [] H (fun v H1 => M38 14 ls (v.toList ++ [.ref u0, .ref u1]) H1 Q) := w_stat (as := [.int a1, .int a0]) (rest := [.ref u0, .ref u1]) at_11 cr38_19 rfl (Nat.le_of_ble_eq_true rfl) (by show 2 ≤ 3; omega) rfl
theorem cr38_23 : nR tables_1 dn y38 23 = some (y0, prog_1_method_1_code, 4, none, 1, 42) := nR_of (cR_of (by decide +kernel) rc_0 dn_0 dn_38 (sig := ⟨[.int], none⟩) (by decide +kernel) (by decide +kernel) rfl rfl) rfl (by decide +kernel) rfl
theorem cr38_23_o : oR tables_1 dn y38 23 = none := by decide +kernel
theorem m38_14 (a0 : Int32) (u0 : Nat) : M38 14 ls [.int a0, .ref r, .ref u0] H Q = M0 0 [.val (.ref r), .val (.int a0), .unset, .unset] [] H (fun v H1 => M38 17 ls (v.toList ++ [.ref u0]) H1 Q) := w_spec (as := [.int a0]) (rest := [.ref u0]) (a := r) at_14 cr38_23_o cr38_23 rfl (Nat.le_of_ble_eq_true rfl) (by show 2 ≤ 4; omega) rfl
theorem m38_17u : M38 17 [l0, .unset, l2, l3, l4, l5, l6, l7, l8, l9, l10, l11, l12, l13, l14, l15, l16, l17, l18, l19, l20, l21, l22] ((.ref r) :: st) H Q = M38 18 [l0, .val (.ref r), l2, l3, l4, l5, l6, l7, l8, l9, l10, l11, l12, l13, l14, l15, l16, l17, l18, l19, l20, l21, l22] st H Q := w_st (i := 1) (p := Value.isRef) at_17 rfl rfl rfl rfl rfl rfl
theorem m38_18 : M38 18 ls st H Q = M38 19 ls (.long 0 :: st) H Q := w_con at_18 rfl (by decide)
theorem m38_19 : M38 19 [l0, l1, .unset, .unset, l4, l5, l6, l7, l8, l9, l10, l11, l12, l13, l14, l15, l16, l17, l18, l19, l20, l21, l22] (.long J1 :: st) H Q = M38 20 [l0, l1, .val (.long J1), .second, l4, l5, l6, l7, l8, l9, l10, l11, l12, l13, l14, l15, l16, l17, l18, l19, l20, l21, l22] st H Q := w_x at_19 rfl
theorem m38_20 : M38 20 ls st H Q = M38 21 ls (.long 0 :: st) H Q := w_con at_20 rfl (by decide)
theorem m38_21 : M38 21 [l0, l1, l2, l3, .unset, .unset, l6, l7, l8, l9, l10, l11, l12, l13, l14, l15, l16, l17, l18, l19, l20, l21, l22] (.long J1 :: st) H Q = M38 23 [l0, l1, l2, l3, .val (.long J1), .second, l6, l7, l8, l9, l10, l11, l12, l13, l14, l15, l16, l17, l18, l19, l20, l21, l22] st H Q := w_x at_21 rfl
theorem m38_23 : M38 23 ls st H Q = M38 24 ls (.int 0 :: st) H Q := w_con at_23 rfl (by decide)
theorem m38_24u : M38 24 [l0, l1, l2, l3, l4, l5, .unset, l7, l8, l9, l10, l11, l12, l13, l14, l15, l16, l17, l18, l19, l20, l21, l22] ((.int v) :: st) H Q = M38 26 [l0, l1, l2, l3, l4, l5, .val (.int v), l7, l8, l9, l10, l11, l12, l13, l14, l15, l16, l17, l18, l19, l20, l21, l22] st H Q := w_st (i := 6) (p := isI) at_24 rfl rfl rfl rfl rfl rfl
theorem m38_26 : M38 26 [.val (.ref r), l1, l2, l3, l4, l5, l6, l7, l8, l9, l10, l11, l12, l13, l14, l15, l16, l17, l18, l19, l20, l21, l22] st H Q = M38 27 [.val (.ref r), l1, l2, l3, l4, l5, l6, l7, l8, l9, l10, l11, l12, l13, l14, l15, l16, l17, l18, l19, l20, l21, l22] (.ref r :: st) H Q := w_x at_26 rfl
theorem m38_27 : M38 27 ls (.ref 0 :: st) ((.array .int, sc.map Value.int) :: R) Q = M38 28 ls (.int sc.length.toInt32 :: st) ((.array .int, sc.map Value.int) :: R) Q := by exact (w_len at_27 rfl).trans (by rw [List.length_map]; rfl)
theorem m38_27p : M38 27 ls (.ref 0 :: st) (put (b + 1) ((.array .int, sc.map Value.int) :: pre) s A post) Q = M38 28 ls (.int sc.length.toInt32 :: st) (put (b + 1) ((.array .int, sc.map Value.int) :: pre) s A post) Q := by exact (w_len at_27 rfl).trans (by rw [List.length_map]; rfl)
theorem m38_28 : M38 28 ls st H Q = M38 29 ls (.int 5 :: st) H Q := w_con at_28 rfl (by decide)
theorem m38_29 : M38 29 ls (.int y :: .int x :: st) H Q = (y ≠ 0 ∧ M38 30 ls (.int (x / y) :: st) H Q) := w_div (f := fun x y => x / y) at_29 (fun _ => rfl) rfl rfl
theorem m38_30u : M38 30 [l0, l1, l2, l3, l4, l5, l6, .unset, l8, l9, l10, l11, l12, l13, l14, l15, l16, l17, l18, l19, l20, l21, l22] ((.int v) :: st) H Q = M38 32 [l0, l1, l2, l3, l4, l5, l6, .val (.int v), l8, l9, l10, l11, l12, l13, l14, l15, l16, l17, l18, l19, l20, l21, l22] st H Q := w_st (i := 7) (p := isI) at_30 rfl rfl rfl rfl rfl rfl
theorem m38_32 : M38 32 ls st H Q = M38 33 ls (.int 0 :: st) H Q := w_con at_32 rfl (by decide)
theorem m38_33u : M38 33 [l0, l1, l2, l3, l4, l5, l6, l7, .unset, l9, l10, l11, l12, l13, l14, l15, l16, l17, l18, l19, l20, l21, l22] ((.int v) :: st) H Q = M38 35 [l0, l1, l2, l3, l4, l5, l6, l7, .val (.int v), l9, l10, l11, l12, l13, l14, l15, l16, l17, l18, l19, l20, l21, l22] st H Q := w_st (i := 8) (p := isI) at_33 rfl rfl rfl rfl rfl rfl
theorem m38_35 : M38 35 [l0, l1, l2, l3, l4, l5, l6, l7, .val (.int v), l9, l10, l11, l12, l13, l14, l15, l16, l17, l18, l19, l20, l21, l22] st H Q = M38 37 [l0, l1, l2, l3, l4, l5, l6, l7, .val (.int v), l9, l10, l11, l12, l13, l14, l15, l16, l17, l18, l19, l20, l21, l22] (.int v :: st) H Q := w_x at_35 rfl
theorem m38_37 : M38 37 [l0, l1, l2, l3, l4, l5, l6, .val (.int v), l8, l9, l10, l11, l12, l13, l14, l15, l16, l17, l18, l19, l20, l21, l22] st H Q = M38 39 [l0, l1, l2, l3, l4, l5, l6, .val (.int v), l8, l9, l10, l11, l12, l13, l14, l15, l16, l17, l18, l19, l20, l21, l22] (.int v :: st) H Q := w_x at_37 rfl
theorem m38_39 : M38 39 ls (.int y :: .int x :: st) H Q = if y < x then M38 467 ls st H Q else M38 42 ls st H Q := w_icmp at_39 (i_gt x y) rfl
theorem m38_42 : M38 42 [l0, .val (.ref r), l2, l3, l4, l5, l6, l7, l8, l9, l10, l11, l12, l13, l14, l15, l16, l17, l18, l19, l20, l21, l22] st H Q = M38 43 [l0, .val (.ref r), l2, l3, l4, l5, l6, l7, l8, l9, l10, l11, l12, l13, l14, l15, l16, l17, l18, l19, l20, l21, l22] (.ref r :: st) H Q := w_x at_42 rfl
theorem cr38_26 : vR tables_1 dn y38 26 = some (false, y2, prog_1_method_36_code, 1, (some .int), 0, 58) := vR_of (cR_of (by decide +kernel) rc_2 dn_2 dn_38 (sig := ⟨[], some .int⟩) (by decide +kernel) (by decide +kernel) rfl rfl) (by decide +kernel) (by decide +kernel) (by decide +kernel)
theorem m38_43 : M38 43 ls [.ref (b + 1)] (put (b + 1) pre s A post) Q = M2 0 [.val (.ref (b + 1))] [] (put (b + 1) pre s A post) (fun v H1 => M38 46 ls (v.toList ++ []) H1 Q) := w_virt (as := []) (rest := []) (a := (b + 1)) at_43 cr38_26 put_o rfl rfl (Nat.le_of_ble_eq_true rfl) (by show 1 ≤ 1; omega) rfl
theorem m38_46 : M38 46 ls (.int x :: st) H Q = if x = 0 then M38 51 ls st H Q else M38 49 ls st H Q := w_if at_46 (z_eq x) rfl
theorem m38_49 : M38 49 ls st H Q = M38 50 ls (.int 0 :: st) H Q := w_con at_49 rfl (by decide)
theorem m38_50 : M38 50 ls (.int z :: st) H Q = Q (some (.int (nar .boolean z))) H := w_iretN at_50 rfl (by simp)
theorem m38_51 : M38 51 [l0, .val (.ref r), l2, l3, l4, l5, l6, l7, l8, l9, l10, l11, l12, l13, l14, l15, l16, l17, l18, l19, l20, l21, l22] st H Q = M38 52 [l0, .val (.ref r), l2, l3, l4, l5, l6, l7, l8, l9, l10, l11, l12, l13, l14, l15, l16, l17, l18, l19, l20, l21, l22] (.ref r :: st) H Q := w_x at_51 rfl
theorem cr38_30 : vR tables_1 dn y38 30 = some (false, y3, prog_1_method_17_code, 1, (some .int), 0, 58) := vR_of (cR_of (by decide +kernel) rc_3 dn_3 dn_38 (sig := ⟨[], some .int⟩) (by decide +kernel) (by decide +kernel) rfl rfl) (by decide +kernel) (by decide +kernel) (by decide +kernel)
theorem m38_52 : M38 52 ls [.ref (b + 1)] (put (b + 1) pre s A post) Q = M3 0 [.val (.ref (b + 1))] [] (put (b + 1) pre s A post) (fun v H1 => M38 55 ls (v.toList ++ []) H1 Q) := w_virt (as := []) (rest := []) (a := (b + 1)) at_52 cr38_30 put_o rfl rfl (Nat.le_of_ble_eq_true rfl) (by show 1 ≤ 1; omega) rfl
theorem m38_55u : M38 55 [l0, l1, l2, l3, l4, l5, l6, l7, l8, .unset, l10, l11, l12, l13, l14, l15, l16, l17, l18, l19, l20, l21, l22] ((.int v) :: st) H Q = M38 57 [l0, l1, l2, l3, l4, l5, l6, l7, l8, .val (.int v), l10, l11, l12, l13, l14, l15, l16, l17, l18, l19, l20, l21, l22] st H Q := w_st (i := 9) (p := isI) at_55 rfl rfl rfl rfl rfl rfl
theorem m38_55i : M38 55 [l0, l1, l2, l3, l4, l5, l6, l7, l8, .val (.int z), l10, l11, l12, l13, l14, l15, l16, l17, l18, l19, l20, l21, l22] ((.int v) :: st) H Q = M38 57 [l0, l1, l2, l3, l4, l5, l6, l7, l8, .val (.int v), l10, l11, l12, l13, l14, l15, l16, l17, l18, l19, l20, l21, l22] st H Q := w_st (i := 9) (p := isI) at_55 rfl rfl rfl rfl rfl rfl
theorem m38_55r : M38 55 [l0, l1, l2, l3, l4, l5, l6, l7, l8, .val (.ref q), l10, l11, l12, l13, l14, l15, l16, l17, l18, l19, l20, l21, l22] ((.int v) :: st) H Q = M38 57 [l0, l1, l2, l3, l4, l5, l6, l7, l8, .val (.int v), l10, l11, l12, l13, l14, l15, l16, l17, l18, l19, l20, l21, l22] st H Q := w_st (i := 9) (p := isI) at_55 rfl rfl rfl rfl rfl rfl
theorem m38_55g (h : okS l9) : M38 55 [l0, l1, l2, l3, l4, l5, l6, l7, l8, l9, l10, l11, l12, l13, l14, l15, l16, l17, l18, l19, l20, l21, l22] ((.int v) :: st) H Q = M38 57 [l0, l1, l2, l3, l4, l5, l6, l7, l8, .val (.int v), l10, l11, l12, l13, l14, l15, l16, l17, l18, l19, l20, l21, l22] st H Q := by rcases h with rfl | ⟨z, rfl⟩ <;> first | exact m38_55u | exact m38_55i
theorem m38_57 : M38 57 [l0, l1, l2, l3, l4, l5, l6, l7, l8, .val (.int v), l10, l11, l12, l13, l14, l15, l16, l17, l18, l19, l20, l21, l22] st H Q = M38 59 [l0, l1, l2, l3, l4, l5, l6, l7, l8, .val (.int v), l10, l11, l12, l13, l14, l15, l16, l17, l18, l19, l20, l21, l22] (.int v :: st) H Q := w_x at_57 rfl
theorem m38_59 : M38 59 ls st H Q = M38 61 ls (.int 8 :: st) H Q := w_con at_59 rfl (by decide)
theorem m38_61 : M38 61 ls (.int y :: .int x :: st) H Q = if x < y then M38 64 ls st H Q else M38 69 ls st H Q := w_icmpN at_61 (i_ge x y) rfl
theorem m38_64 : M38 64 [l0, l1, l2, l3, l4, l5, l6, l7, l8, .val (.int v), l10, l11, l12, l13, l14, l15, l16, l17, l18, l19, l20, l21, l22] st H Q = M38 66 [l0, l1, l2, l3, l4, l5, l6, l7, l8, .val (.int v), l10, l11, l12, l13, l14, l15, l16, l17, l18, l19, l20, l21, l22] (.int v :: st) H Q := w_x at_64 rfl
theorem m38_66 : M38 66 ls st H Q = M38 71 ls st H Q := w_x at_66 rfl
theorem m38_69 : M38 69 ls st H Q = M38 71 ls (.int 8 :: st) H Q := w_con at_69 rfl (by decide)
theorem m38_71u : M38 71 [l0, l1, l2, l3, l4, l5, l6, l7, l8, l9, .unset, l11, l12, l13, l14, l15, l16, l17, l18, l19, l20, l21, l22] ((.int v) :: st) H Q = M38 73 [l0, l1, l2, l3, l4, l5, l6, l7, l8, l9, .val (.int v), l11, l12, l13, l14, l15, l16, l17, l18, l19, l20, l21, l22] st H Q := w_st (i := 10) (p := isI) at_71 rfl rfl rfl rfl rfl rfl
theorem m38_71i : M38 71 [l0, l1, l2, l3, l4, l5, l6, l7, l8, l9, .val (.int z), l11, l12, l13, l14, l15, l16, l17, l18, l19, l20, l21, l22] ((.int v) :: st) H Q = M38 73 [l0, l1, l2, l3, l4, l5, l6, l7, l8, l9, .val (.int v), l11, l12, l13, l14, l15, l16, l17, l18, l19, l20, l21, l22] st H Q := w_st (i := 10) (p := isI) at_71 rfl rfl rfl rfl rfl rfl
theorem m38_71r : M38 71 [l0, l1, l2, l3, l4, l5, l6, l7, l8, l9, .val (.ref q), l11, l12, l13, l14, l15, l16, l17, l18, l19, l20, l21, l22] ((.int v) :: st) H Q = M38 73 [l0, l1, l2, l3, l4, l5, l6, l7, l8, l9, .val (.int v), l11, l12, l13, l14, l15, l16, l17, l18, l19, l20, l21, l22] st H Q := w_st (i := 10) (p := isI) at_71 rfl rfl rfl rfl rfl rfl
theorem m38_71g (h : okS l10) : M38 71 [l0, l1, l2, l3, l4, l5, l6, l7, l8, l9, l10, l11, l12, l13, l14, l15, l16, l17, l18, l19, l20, l21, l22] ((.int v) :: st) H Q = M38 73 [l0, l1, l2, l3, l4, l5, l6, l7, l8, l9, .val (.int v), l11, l12, l13, l14, l15, l16, l17, l18, l19, l20, l21, l22] st H Q := by rcases h with rfl | ⟨z, rfl⟩ <;> first | exact m38_71u | exact m38_71i
theorem m38_73 : M38 73 ls st H Q = M38 74 ls (.int 0 :: st) H Q := w_con at_73 rfl (by decide)
theorem m38_74u : M38 74 [l0, l1, l2, l3, l4, l5, l6, l7, l8, l9, l10, .unset, l12, l13, l14, l15, l16, l17, l18, l19, l20, l21, l22] ((.int v) :: st) H Q = M38 76 [l0, l1, l2, l3, l4, l5, l6, l7, l8, l9, l10, .val (.int v), l12, l13, l14, l15, l16, l17, l18, l19, l20, l21, l22] st H Q := w_st (i := 11) (p := isI) at_74 rfl rfl rfl rfl rfl rfl
theorem m38_74i : M38 74 [l0, l1, l2, l3, l4, l5, l6, l7, l8, l9, l10, .val (.int z), l12, l13, l14, l15, l16, l17, l18, l19, l20, l21, l22] ((.int v) :: st) H Q = M38 76 [l0, l1, l2, l3, l4, l5, l6, l7, l8, l9, l10, .val (.int v), l12, l13, l14, l15, l16, l17, l18, l19, l20, l21, l22] st H Q := w_st (i := 11) (p := isI) at_74 rfl rfl rfl rfl rfl rfl
theorem m38_74r : M38 74 [l0, l1, l2, l3, l4, l5, l6, l7, l8, l9, l10, .val (.ref q), l12, l13, l14, l15, l16, l17, l18, l19, l20, l21, l22] ((.int v) :: st) H Q = M38 76 [l0, l1, l2, l3, l4, l5, l6, l7, l8, l9, l10, .val (.int v), l12, l13, l14, l15, l16, l17, l18, l19, l20, l21, l22] st H Q := w_st (i := 11) (p := isI) at_74 rfl rfl rfl rfl rfl rfl
theorem m38_74g (h : okS l11) : M38 74 [l0, l1, l2, l3, l4, l5, l6, l7, l8, l9, l10, l11, l12, l13, l14, l15, l16, l17, l18, l19, l20, l21, l22] ((.int v) :: st) H Q = M38 76 [l0, l1, l2, l3, l4, l5, l6, l7, l8, l9, l10, .val (.int v), l12, l13, l14, l15, l16, l17, l18, l19, l20, l21, l22] st H Q := by rcases h with rfl | ⟨z, rfl⟩ <;> first | exact m38_74u | exact m38_74i
theorem m38_76 : M38 76 [l0, l1, l2, l3, l4, l5, l6, l7, l8, l9, l10, .val (.int v), l12, l13, l14, l15, l16, l17, l18, l19, l20, l21, l22] st H Q = M38 78 [l0, l1, l2, l3, l4, l5, l6, l7, l8, l9, l10, .val (.int v), l12, l13, l14, l15, l16, l17, l18, l19, l20, l21, l22] (.int v :: st) H Q := w_x at_76 rfl
theorem m38_78 : M38 78 [l0, l1, l2, l3, l4, l5, l6, l7, l8, l9, .val (.int v), l11, l12, l13, l14, l15, l16, l17, l18, l19, l20, l21, l22] st H Q = M38 80 [l0, l1, l2, l3, l4, l5, l6, l7, l8, l9, .val (.int v), l11, l12, l13, l14, l15, l16, l17, l18, l19, l20, l21, l22] (.int v :: st) H Q := w_x at_78 rfl
theorem m38_80 : M38 80 ls (.int y :: .int x :: st) H Q = if x < y then M38 83 ls st H Q else M38 106 ls st H Q := w_icmpN at_80 (i_ge x y) rfl
theorem m38_83 : M38 83 [l0, .val (.ref r), l2, l3, l4, l5, l6, l7, l8, l9, l10, l11, l12, l13, l14, l15, l16, l17, l18, l19, l20, l21, l22] st H Q = M38 84 [l0, .val (.ref r), l2, l3, l4, l5, l6, l7, l8, l9, l10, l11, l12, l13, l14, l15, l16, l17, l18, l19, l20, l21, l22] (.ref r :: st) H Q := w_x at_83 rfl
theorem m38_84 : M38 84 [l0, l1, l2, l3, l4, l5, l6, l7, l8, l9, l10, .val (.int v), l12, l13, l14, l15, l16, l17, l18, l19, l20, l21, l22] st H Q = M38 86 [l0, l1, l2, l3, l4, l5, l6, l7, l8, l9, l10, .val (.int v), l12, l13, l14, l15, l16, l17, l18, l19, l20, l21, l22] (.int v :: st) H Q := w_x at_84 rfl
theorem cr38_33 : vR tables_1 dn y38 33 = some (false, y19, prog_1_method_34_code, 2, (some .int), 1, 44) := vR_of (cR_of (by decide +kernel) rc_19 dn_19 dn_38 (sig := ⟨[.int], some .int⟩) (by decide +kernel) (by decide +kernel) rfl rfl) (by decide +kernel) (by decide +kernel) (by decide +kernel)
theorem m38_86 (a0 : Int32) : M38 86 ls [.int a0, .ref (b + 1)] (put (b + 1) pre s A post) Q = M19 0 [.val (.ref (b + 1)), .val (.int a0)] [] (put (b + 1) pre s A post) (fun v H1 => M38 89 ls (v.toList ++ []) H1 Q) := w_virt (as := [.int a0]) (rest := []) (a := (b + 1)) at_86 cr38_33 put_o rfl rfl (Nat.le_of_ble_eq_true rfl) (by show 2 ≤ 2; omega) rfl
theorem m38_89 : M38 89 [l0, .val (.ref r), l2, l3, l4, l5, l6, l7, l8, l9, l10, l11, l12, l13, l14, l15, l16, l17, l18, l19, l20, l21, l22] st H Q = M38 90 [l0, .val (.ref r), l2, l3, l4, l5, l6, l7, l8, l9, l10, l11, l12, l13, l14, l15, l16, l17, l18, l19, l20, l21, l22] (.ref r :: st) H Q := w_x at_89 rfl
theorem m38_90 : M38 90 [l0, l1, l2, l3, l4, l5, l6, l7, l8, l9, l10, .val (.int v), l12, l13, l14, l15, l16, l17, l18, l19, l20, l21, l22] st H Q = M38 92 [l0, l1, l2, l3, l4, l5, l6, l7, l8, l9, l10, .val (.int v), l12, l13, l14, l15, l16, l17, l18, l19, l20, l21, l22] (.int v :: st) H Q := w_x at_90 rfl
theorem cr38_37 : vR tables_1 dn y38 37 = some (false, y21, prog_1_method_18_code, 2, (some .int), 1, 44) := vR_of (cR_of (by decide +kernel) rc_21 dn_21 dn_38 (sig := ⟨[.int], some .int⟩) (by decide +kernel) (by decide +kernel) rfl rfl) (by decide +kernel) (by decide +kernel) (by decide +kernel)
theorem m38_92 (a0 : Int32) (u0 : Int32) : M38 92 ls [.int a0, .ref (b + 1), .int u0] (put (b + 1) pre s A post) Q = M21 0 [.val (.ref (b + 1)), .val (.int a0)] [] (put (b + 1) pre s A post) (fun v H1 => M38 95 ls (v.toList ++ [.int u0]) H1 Q) := w_virt (as := [.int a0]) (rest := [.int u0]) (a := (b + 1)) at_92 cr38_37 put_o rfl rfl (Nat.le_of_ble_eq_true rfl) (by show 2 ≤ 2; omega) rfl
theorem m38_95 : M38 95 ls (.int y :: .int x :: st) H Q = if y < x then M38 98 ls st H Q else M38 100 ls st H Q := w_icmpN at_95 (i_le x y) rfl
theorem m38_98 : M38 98 ls st H Q = M38 99 ls (.int 0 :: st) H Q := w_con at_98 rfl (by decide)
theorem m38_99 : M38 99 ls (.int z :: st) H Q = Q (some (.int (nar .boolean z))) H := w_iretN at_99 rfl (by simp)
theorem m38_100 : M38 100 [l0, l1, l2, l3, l4, l5, l6, l7, l8, l9, l10, .val (.int v), l12, l13, l14, l15, l16, l17, l18, l19, l20, l21, l22] st H Q = M38 103 [l0, l1, l2, l3, l4, l5, l6, l7, l8, l9, l10, .val (.int (v + 1)), l12, l13, l14, l15, l16, l17, l18, l19, l20, l21, l22] st H Q := w_iinc at_100 rfl (by decide) rfl
theorem m38_103 : M38 103 ls st H Q = M38 76 ls st H Q := w_x at_103 rfl
theorem m38_106 : M38 106 [l0, .val (.ref r), l2, l3, l4, l5, l6, l7, l8, l9, l10, l11, l12, l13, l14, l15, l16, l17, l18, l19, l20, l21, l22] st H Q = M38 107 [l0, .val (.ref r), l2, l3, l4, l5, l6, l7, l8, l9, l10, l11, l12, l13, l14, l15, l16, l17, l18, l19, l20, l21, l22] (.ref r :: st) H Q := w_x at_106 rfl
theorem cr38_40 : vR tables_1 dn y38 40 = some (false, y4, prog_1_method_21_code, 1, (some .int), 0, 58) := vR_of (cR_of (by decide +kernel) rc_4 dn_4 dn_38 (sig := ⟨[], some .int⟩) (by decide +kernel) (by decide +kernel) rfl rfl) (by decide +kernel) (by decide +kernel) (by decide +kernel)
theorem m38_107 : M38 107 ls [.ref (b + 1)] (put (b + 1) pre s A post) Q = M4 0 [.val (.ref (b + 1))] [] (put (b + 1) pre s A post) (fun v H1 => M38 110 ls (v.toList ++ []) H1 Q) := w_virt (as := []) (rest := []) (a := (b + 1)) at_107 cr38_40 put_o rfl rfl (Nat.le_of_ble_eq_true rfl) (by show 1 ≤ 1; omega) rfl
theorem m38_110i : M38 110 [l0, l1, l2, l3, l4, l5, l6, l7, l8, l9, l10, .val (.int z), l12, l13, l14, l15, l16, l17, l18, l19, l20, l21, l22] ((.int v) :: st) H Q = M38 112 [l0, l1, l2, l3, l4, l5, l6, l7, l8, l9, l10, .val (.int v), l12, l13, l14, l15, l16, l17, l18, l19, l20, l21, l22] st H Q := w_st (i := 11) (p := isI) at_110 rfl rfl rfl rfl rfl rfl
theorem m38_112 : M38 112 [l0, l1, l2, l3, l4, l5, l6, l7, l8, .val (.int v), l10, l11, l12, l13, l14, l15, l16, l17, l18, l19, l20, l21, l22] st H Q = M38 114 [l0, l1, l2, l3, l4, l5, l6, l7, l8, .val (.int v), l10, l11, l12, l13, l14, l15, l16, l17, l18, l19, l20, l21, l22] (.int v :: st) H Q := w_x at_112 rfl
theorem m38_114 : M38 114 ls (.int x :: st) H Q = if 0 < x then M38 117 ls st H Q else M38 191 ls st H Q := w_ifN at_114 (z_le x) rfl
theorem m38_117 : M38 117 [l0, .val (.ref r), l2, l3, l4, l5, l6, l7, l8, l9, l10, l11, l12, l13, l14, l15, l16, l17, l18, l19, l20, l21, l22] st H Q = M38 118 [l0, .val (.ref r), l2, l3, l4, l5, l6, l7, l8, l9, l10, l11, l12, l13, l14, l15, l16, l17, l18, l19, l20, l21, l22] (.ref r :: st) H Q := w_x at_117 rfl
theorem cr38_43 : vR tables_1 dn y38 43 = some (false, y22, prog_1_method_33_code, 1, (some .int), 0, 58) := vR_of (cR_of (by decide +kernel) rc_22 dn_22 dn_38 (sig := ⟨[], some .int⟩) (by decide +kernel) (by decide +kernel) rfl rfl) (by decide +kernel) (by decide +kernel) (by decide +kernel)
theorem m38_118 : M38 118 ls [.ref (b + 1)] (put (b + 1) pre s A post) Q = M22 0 [.val (.ref (b + 1))] [] (put (b + 1) pre s A post) (fun v H1 => M38 121 ls (v.toList ++ []) H1 Q) := w_virt (as := []) (rest := []) (a := (b + 1)) at_118 cr38_43 put_o rfl rfl (Nat.le_of_ble_eq_true rfl) (by show 1 ≤ 1; omega) rfl
theorem m38_121 : M38 121 [l0, l1, l2, l3, l4, l5, l6, l7, l8, l9, l10, .val (.int v), l12, l13, l14, l15, l16, l17, l18, l19, l20, l21, l22] st H Q = M38 123 [l0, l1, l2, l3, l4, l5, l6, l7, l8, l9, l10, .val (.int v), l12, l13, l14, l15, l16, l17, l18, l19, l20, l21, l22] (.int v :: st) H Q := w_x at_121 rfl
theorem m38_123 : M38 123 ls (.int y :: .int x :: st) H Q = if x = y then M38 126 ls st H Q else M38 191 ls st H Q := w_icmpN at_123 (i_ne x y) rfl
theorem m38_126 : M38 126 ls st H Q = M38 127 ls (.int 0 :: st) H Q := w_con at_126 rfl (by decide)
theorem m38_127u : M38 127 [l0, l1, l2, l3, l4, l5, l6, l7, l8, l9, l10, l11, .unset, l13, l14, l15, l16, l17, l18, l19, l20, l21, l22] ((.int v) :: st) H Q = M38 129 [l0, l1, l2, l3, l4, l5, l6, l7, l8, l9, l10, l11, .val (.int v), l13, l14, l15, l16, l17, l18, l19, l20, l21, l22] st H Q := w_st (i := 12) (p := isI) at_127 rfl rfl rfl rfl rfl rfl
theorem m38_127i : M38 127 [l0, l1, l2, l3, l4, l5, l6, l7, l8, l9, l10, l11, .val (.int z), l13, l14, l15, l16, l17, l18, l19, l20, l21, l22] ((.int v) :: st) H Q = M38 129 [l0, l1, l2, l3, l4, l5, l6, l7, l8, l9, l10, l11, .val (.int v), l13, l14, l15, l16, l17, l18, l19, l20, l21, l22] st H Q := w_st (i := 12) (p := isI) at_127 rfl rfl rfl rfl rfl rfl
theorem m38_127r : M38 127 [l0, l1, l2, l3, l4, l5, l6, l7, l8, l9, l10, l11, .val (.ref q), l13, l14, l15, l16, l17, l18, l19, l20, l21, l22] ((.int v) :: st) H Q = M38 129 [l0, l1, l2, l3, l4, l5, l6, l7, l8, l9, l10, l11, .val (.int v), l13, l14, l15, l16, l17, l18, l19, l20, l21, l22] st H Q := w_st (i := 12) (p := isI) at_127 rfl rfl rfl rfl rfl rfl
theorem m38_127g (h : okS l12) : M38 127 [l0, l1, l2, l3, l4, l5, l6, l7, l8, l9, l10, l11, l12, l13, l14, l15, l16, l17, l18, l19, l20, l21, l22] ((.int v) :: st) H Q = M38 129 [l0, l1, l2, l3, l4, l5, l6, l7, l8, l9, l10, l11, .val (.int v), l13, l14, l15, l16, l17, l18, l19, l20, l21, l22] st H Q := by rcases h with rfl | ⟨z, rfl⟩ <;> first | exact m38_127u | exact m38_127i
theorem m38_129 : M38 129 [l0, l1, l2, l3, l4, l5, l6, l7, l8, l9, l10, l11, .val (.int v), l13, l14, l15, l16, l17, l18, l19, l20, l21, l22] st H Q = M38 131 [l0, l1, l2, l3, l4, l5, l6, l7, l8, l9, l10, l11, .val (.int v), l13, l14, l15, l16, l17, l18, l19, l20, l21, l22] (.int v :: st) H Q := w_x at_129 rfl
theorem m38_131 : M38 131 [l0, l1, l2, l3, l4, l5, l6, l7, l8, l9, .val (.int v), l11, l12, l13, l14, l15, l16, l17, l18, l19, l20, l21, l22] st H Q = M38 133 [l0, l1, l2, l3, l4, l5, l6, l7, l8, l9, .val (.int v), l11, l12, l13, l14, l15, l16, l17, l18, l19, l20, l21, l22] (.int v :: st) H Q := w_x at_131 rfl
theorem m38_133 : M38 133 ls (.int y :: .int x :: st) H Q = if x < y then M38 136 ls st H Q else M38 191 ls st H Q := w_icmpN at_133 (i_ge x y) rfl
theorem m38_136 : M38 136 [l0, l1, l2, l3, l4, l5, l6, l7, l8, l9, l10, l11, .val (.int v), l13, l14, l15, l16, l17, l18, l19, l20, l21, l22] st H Q = M38 138 [l0, l1, l2, l3, l4, l5, l6, l7, l8, l9, l10, l11, .val (.int v), l13, l14, l15, l16, l17, l18, l19, l20, l21, l22] (.int v :: st) H Q := w_x at_136 rfl
theorem m38_138 : M38 138 ls st H Q = M38 139 ls (.int 4 :: st) H Q := w_con at_138 rfl (by decide)
theorem m38_139 : M38 139 ls (.int y :: .int x :: st) H Q = if x < y then M38 142 ls st H Q else M38 151 ls st H Q := w_icmpN at_139 (i_ge x y) rfl
theorem m38_142 : M38 142 [l0, l1, .val (.long J1), l3, l4, l5, l6, l7, l8, l9, l10, l11, l12, l13, l14, l15, l16, l17, l18, l19, l20, l21, l22] st H Q = M38 143 [l0, l1, .val (.long J1), l3, l4, l5, l6, l7, l8, l9, l10, l11, l12, l13, l14, l15, l16, l17, l18, l19, l20, l21, l22] (.long J1 :: st) H Q := w_x at_142 rfl
theorem m38_143 : M38 143 [l0, l1, l2, l3, l4, l5, l6, l7, l8, l9, l10, l11, .val (.int v), l13, l14, l15, l16, l17, l18, l19, l20, l21, l22] st H Q = M38 145 [l0, l1, l2, l3, l4, l5, l6, l7, l8, l9, l10, l11, .val (.int v), l13, l14, l15, l16, l17, l18, l19, l20, l21, l22] (.int v :: st) H Q := w_x at_143 rfl
theorem cr38_46 : sR tables_1 dn y38 46 = some (y37, method_6_code, 3, (some .int), 2, 56) := sR_of (cR_of (by decide +kernel) rc_37 dn_37 dn_38 (sig := ⟨[.long, .int], some .int⟩) (by decide +kernel) (by decide +kernel) rfl rfl) (by decide +kernel)
theorem m38_145 (a0 : Int64) (a1 : Int32) : M38 145 ls [.int a1, .long a0] H Q = M37 0 [.val (.long a0), .second, .val (.int a1)] [] H (fun v H1 => M38 148 ls (v.toList ++ []) H1 Q) := w_stat (as := [.int a1, .long a0]) (rest := []) at_145 cr38_46 rfl (Nat.le_of_ble_eq_true rfl) (by show 3 ≤ 3; omega) rfl
theorem m38_148 : M38 148 ls st H Q = M38 160 ls st H Q := w_x at_148 rfl
theorem m38_151 : M38 151 [l0, l1, l2, l3, .val (.long J1), l5, l6, l7, l8, l9, l10, l11, l12, l13, l14, l15, l16, l17, l18, l19, l20, l21, l22] st H Q = M38 153 [l0, l1, l2, l3, .val (.long J1), l5, l6, l7, l8, l9, l10, l11, l12, l13, l14, l15, l16, l17, l18, l19, l20, l21, l22] (.long J1 :: st) H Q := w_x at_151 rfl
theorem m38_153 : M38 153 [l0, l1, l2, l3, l4, l5, l6, l7, l8, l9, l10, l11, .val (.int v), l13, l14, l15, l16, l17, l18, l19, l20, l21, l22] st H Q = M38 155 [l0, l1, l2, l3, l4, l5, l6, l7, l8, l9, l10, l11, .val (.int v), l13, l14, l15, l16, l17, l18, l19, l20, l21, l22] (.int v :: st) H Q := w_x at_153 rfl
theorem m38_155 : M38 155 ls st H Q = M38 156 ls (.int 4 :: st) H Q := w_con at_155 rfl (by decide)
theorem m38_156 : M38 156 ls (.int y :: .int x :: st) H Q = M38 157 ls (.int (x - y) :: st) H Q := w_x at_156 rfl
theorem m38_157 (a0 : Int64) (a1 : Int32) : M38 157 ls [.int a1, .long a0] H Q = M37 0 [.val (.long a0), .second, .val (.int a1)] [] H (fun v H1 => M38 160 ls (v.toList ++ []) H1 Q) := w_stat (as := [.int a1, .long a0]) (rest := []) at_157 cr38_46 rfl (Nat.le_of_ble_eq_true rfl) (by show 3 ≤ 3; omega) rfl
theorem m38_160u : M38 160 [l0, l1, l2, l3, l4, l5, l6, l7, l8, l9, l10, l11, l12, .unset, l14, l15, l16, l17, l18, l19, l20, l21, l22] ((.int v) :: st) H Q = M38 162 [l0, l1, l2, l3, l4, l5, l6, l7, l8, l9, l10, l11, l12, .val (.int v), l14, l15, l16, l17, l18, l19, l20, l21, l22] st H Q := w_st (i := 13) (p := isI) at_160 rfl rfl rfl rfl rfl rfl
theorem m38_160i : M38 160 [l0, l1, l2, l3, l4, l5, l6, l7, l8, l9, l10, l11, l12, .val (.int z), l14, l15, l16, l17, l18, l19, l20, l21, l22] ((.int v) :: st) H Q = M38 162 [l0, l1, l2, l3, l4, l5, l6, l7, l8, l9, l10, l11, l12, .val (.int v), l14, l15, l16, l17, l18, l19, l20, l21, l22] st H Q := w_st (i := 13) (p := isI) at_160 rfl rfl rfl rfl rfl rfl
theorem m38_160r : M38 160 [l0, l1, l2, l3, l4, l5, l6, l7, l8, l9, l10, l11, l12, .val (.ref q), l14, l15, l16, l17, l18, l19, l20, l21, l22] ((.int v) :: st) H Q = M38 162 [l0, l1, l2, l3, l4, l5, l6, l7, l8, l9, l10, l11, l12, .val (.int v), l14, l15, l16, l17, l18, l19, l20, l21, l22] st H Q := w_st (i := 13) (p := isI) at_160 rfl rfl rfl rfl rfl rfl
theorem m38_160g (h : okS l13) : M38 160 [l0, l1, l2, l3, l4, l5, l6, l7, l8, l9, l10, l11, l12, l13, l14, l15, l16, l17, l18, l19, l20, l21, l22] ((.int v) :: st) H Q = M38 162 [l0, l1, l2, l3, l4, l5, l6, l7, l8, l9, l10, l11, l12, .val (.int v), l14, l15, l16, l17, l18, l19, l20, l21, l22] st H Q := by rcases h with rfl | ⟨z, rfl⟩ <;> first | exact m38_160u | exact m38_160i
theorem m38_162 : M38 162 [l0, l1, l2, l3, l4, l5, l6, l7, l8, l9, l10, l11, l12, .val (.int v), l14, l15, l16, l17, l18, l19, l20, l21, l22] st H Q = M38 164 [l0, l1, l2, l3, l4, l5, l6, l7, l8, l9, l10, l11, l12, .val (.int v), l14, l15, l16, l17, l18, l19, l20, l21, l22] (.int v :: st) H Q := w_x at_162 rfl
theorem m38_164 : M38 164 ls (.int x :: st) H Q = if x = 0 then M38 167 ls st H Q else M38 169 ls st H Q := w_ifN at_164 (z_ne x) rfl
theorem m38_167 : M38 167 ls st H Q = M38 168 ls (.int 0 :: st) H Q := w_con at_167 rfl (by decide)
theorem m38_168 : M38 168 ls (.int z :: st) H Q = Q (some (.int (nar .boolean z))) H := w_iretN at_168 rfl (by simp)
theorem m38_169 : M38 169 [l0, .val (.ref r), l2, l3, l4, l5, l6, l7, l8, l9, l10, l11, l12, l13, l14, l15, l16, l17, l18, l19, l20, l21, l22] st H Q = M38 170 [l0, .val (.ref r), l2, l3, l4, l5, l6, l7, l8, l9, l10, l11, l12, l13, l14, l15, l16, l17, l18, l19, l20, l21, l22] (.ref r :: st) H Q := w_x at_169 rfl
theorem m38_170 : M38 170 [l0, l1, l2, l3, l4, l5, l6, l7, l8, l9, l10, l11, .val (.int v), l13, l14, l15, l16, l17, l18, l19, l20, l21, l22] st H Q = M38 172 [l0, l1, l2, l3, l4, l5, l6, l7, l8, l9, l10, l11, .val (.int v), l13, l14, l15, l16, l17, l18, l19, l20, l21, l22] (.int v :: st) H Q := w_x at_170 rfl
theorem cr38_50 : vR tables_1 dn y38 50 = some (false, y32, prog_1_method_35_code, 2, (some .int), 1, 44) := vR_of (cR_of (by decide +kernel) rc_32 dn_32 dn_38 (sig := ⟨[.int], some .int⟩) (by decide +kernel) (by decide +kernel) rfl rfl) (by decide +kernel) (by decide +kernel) (by decide +kernel)
theorem m38_172 (a0 : Int32) : M38 172 ls [.int a0, .ref (b + 1)] (put (b + 1) pre s A post) Q = M32 0 [.val (.ref (b + 1)), .val (.int a0)] [] (put (b + 1) pre s A post) (fun v H1 => M38 175 ls (v.toList ++ []) H1 Q) := w_virt (as := [.int a0]) (rest := []) (a := (b + 1)) at_172 cr38_50 put_o rfl rfl (Nat.le_of_ble_eq_true rfl) (by show 2 ≤ 2; omega) rfl
theorem m38_175 : M38 175 [l0, l1, l2, l3, l4, l5, l6, l7, l8, l9, l10, .val (.int v), l12, l13, l14, l15, l16, l17, l18, l19, l20, l21, l22] st H Q = M38 177 [l0, l1, l2, l3, l4, l5, l6, l7, l8, l9, l10, .val (.int v), l12, l13, l14, l15, l16, l17, l18, l19, l20, l21, l22] (.int v :: st) H Q := w_x at_175 rfl
theorem m38_177 : M38 177 [l0, l1, l2, l3, l4, l5, l6, l7, l8, l9, l10, l11, l12, .val (.int v), l14, l15, l16, l17, l18, l19, l20, l21, l22] st H Q = M38 179 [l0, l1, l2, l3, l4, l5, l6, l7, l8, l9, l10, l11, l12, .val (.int v), l14, l15, l16, l17, l18, l19, l20, l21, l22] (.int v :: st) H Q := w_x at_177 rfl
theorem m38_179 : M38 179 ls (.int y :: .int x :: st) H Q = (y ≠ 0 ∧ M38 180 ls (.int (x / y) :: st) H Q) := w_div (f := fun x y => x / y) at_179 (fun _ => rfl) rfl rfl
theorem m38_180 : M38 180 ls (.int y :: .int x :: st) H Q = if x = y then M38 185 ls st H Q else M38 183 ls st H Q := w_icmp at_180 (i_eq x y) rfl
theorem m38_183 : M38 183 ls st H Q = M38 184 ls (.int 0 :: st) H Q := w_con at_183 rfl (by decide)
theorem m38_184 : M38 184 ls (.int z :: st) H Q = Q (some (.int (nar .boolean z))) H := w_iretN at_184 rfl (by simp)
theorem m38_185 : M38 185 [l0, l1, l2, l3, l4, l5, l6, l7, l8, l9, l10, l11, .val (.int v), l13, l14, l15, l16, l17, l18, l19, l20, l21, l22] st H Q = M38 188 [l0, l1, l2, l3, l4, l5, l6, l7, l8, l9, l10, l11, .val (.int (v + 1)), l13, l14, l15, l16, l17, l18, l19, l20, l21, l22] st H Q := w_iinc at_185 rfl (by decide) rfl
theorem m38_188 : M38 188 ls st H Q = M38 129 ls st H Q := w_x at_188 rfl
theorem m38_191 : M38 191 [l0, l1, l2, l3, l4, l5, l6, l7, .val (.int v), l9, l10, l11, l12, l13, l14, l15, l16, l17, l18, l19, l20, l21, l22] st H Q = M38 193 [l0, l1, l2, l3, l4, l5, l6, l7, .val (.int v), l9, l10, l11, l12, l13, l14, l15, l16, l17, l18, l19, l20, l21, l22] (.int v :: st) H Q := w_x at_191 rfl
theorem m38_193 : M38 193 [l0, l1, l2, l3, l4, l5, l6, .val (.int v), l8, l9, l10, l11, l12, l13, l14, l15, l16, l17, l18, l19, l20, l21, l22] st H Q = M38 195 [l0, l1, l2, l3, l4, l5, l6, .val (.int v), l8, l9, l10, l11, l12, l13, l14, l15, l16, l17, l18, l19, l20, l21, l22] (.int v :: st) H Q := w_x at_193 rfl
theorem m38_195 : M38 195 ls (.int y :: .int x :: st) H Q = if x = y then M38 198 ls st H Q else M38 201 ls st H Q := w_icmpN at_195 (i_ne x y) rfl
theorem m38_198 : M38 198 ls st H Q = M38 467 ls st H Q := w_x at_198 rfl
theorem m38_201 : M38 201 ls st H Q = M38 202 ls (.int 1 :: st) H Q := w_con at_201 rfl (by decide)
theorem m38_202 : M38 202 ls st H Q = M38 203 ls (.int 5 :: st) H Q := w_con at_202 rfl (by decide)
theorem m38_203 : M38 203 [l0, l1, l2, l3, l4, l5, l6, l7, .val (.int v), l9, l10, l11, l12, l13, l14, l15, l16, l17, l18, l19, l20, l21, l22] st H Q = M38 205 [l0, l1, l2, l3, l4, l5, l6, l7, .val (.int v), l9, l10, l11, l12, l13, l14, l15, l16, l17, l18, l19, l20, l21, l22] (.int v :: st) H Q := w_x at_203 rfl
theorem m38_205 : M38 205 ls (.int y :: .int x :: st) H Q = M38 206 ls (.int (x * y) :: st) H Q := w_x at_205 rfl
theorem m38_206 : M38 206 ls (.int y :: .int x :: st) H Q = M38 207 ls (.int (x + y) :: st) H Q := w_x at_206 rfl
theorem m38_207u : M38 207 [l0, l1, l2, l3, l4, l5, l6, l7, l8, l9, l10, l11, .unset, l13, l14, l15, l16, l17, l18, l19, l20, l21, l22] ((.int v) :: st) H Q = M38 209 [l0, l1, l2, l3, l4, l5, l6, l7, l8, l9, l10, l11, .val (.int v), l13, l14, l15, l16, l17, l18, l19, l20, l21, l22] st H Q := w_st (i := 12) (p := isI) at_207 rfl rfl rfl rfl rfl rfl
theorem m38_207i : M38 207 [l0, l1, l2, l3, l4, l5, l6, l7, l8, l9, l10, l11, .val (.int z), l13, l14, l15, l16, l17, l18, l19, l20, l21, l22] ((.int v) :: st) H Q = M38 209 [l0, l1, l2, l3, l4, l5, l6, l7, l8, l9, l10, l11, .val (.int v), l13, l14, l15, l16, l17, l18, l19, l20, l21, l22] st H Q := w_st (i := 12) (p := isI) at_207 rfl rfl rfl rfl rfl rfl
theorem m38_207r : M38 207 [l0, l1, l2, l3, l4, l5, l6, l7, l8, l9, l10, l11, .val (.ref q), l13, l14, l15, l16, l17, l18, l19, l20, l21, l22] ((.int v) :: st) H Q = M38 209 [l0, l1, l2, l3, l4, l5, l6, l7, l8, l9, l10, l11, .val (.int v), l13, l14, l15, l16, l17, l18, l19, l20, l21, l22] st H Q := w_st (i := 12) (p := isI) at_207 rfl rfl rfl rfl rfl rfl
theorem m38_207g (h : okS l12) : M38 207 [l0, l1, l2, l3, l4, l5, l6, l7, l8, l9, l10, l11, l12, l13, l14, l15, l16, l17, l18, l19, l20, l21, l22] ((.int v) :: st) H Q = M38 209 [l0, l1, l2, l3, l4, l5, l6, l7, l8, l9, l10, l11, .val (.int v), l13, l14, l15, l16, l17, l18, l19, l20, l21, l22] st H Q := by rcases h with rfl | ⟨z, rfl⟩ <;> first | exact m38_207u | exact m38_207i
theorem m38_209 : M38 209 [.val (.ref r), l1, l2, l3, l4, l5, l6, l7, l8, l9, l10, l11, l12, l13, l14, l15, l16, l17, l18, l19, l20, l21, l22] st H Q = M38 210 [.val (.ref r), l1, l2, l3, l4, l5, l6, l7, l8, l9, l10, l11, l12, l13, l14, l15, l16, l17, l18, l19, l20, l21, l22] (.ref r :: st) H Q := w_x at_209 rfl
theorem m38_210 : M38 210 [l0, l1, l2, l3, l4, l5, l6, l7, l8, l9, l10, l11, .val (.int v), l13, l14, l15, l16, l17, l18, l19, l20, l21, l22] st H Q = M38 212 [l0, l1, l2, l3, l4, l5, l6, l7, l8, l9, l10, l11, .val (.int v), l13, l14, l15, l16, l17, l18, l19, l20, l21, l22] (.int v :: st) H Q := w_x at_210 rfl
theorem m38_212 (a0 : Nat) (a1 : Int32) : M38 212 ls [.int a1, .ref a0] H Q = M33 0 [.val (.ref a0), .val (.int a1)] [] H (fun v H1 => M38 215 ls (v.toList ++ []) H1 Q) := w_stat (as := [.int a1, .ref a0]) (rest := []) at_212 cr38_13 rfl (Nat.le_of_ble_eq_true rfl) (by show 2 ≤ 2; omega) rfl
theorem m38_215 : M38 215 ls st H Q = M38 217 ls (.int 8 :: st) H Q := w_con at_215 rfl (by decide)
theorem m38_217 (a0 : Int32) (a1 : Int32) : M38 217 ls [.int a1, .int a0] H Q = M34 0 [.val (.int a0), .val (.int a1), .unset] [] H (fun v H1 => M38 220 ls (v.toList ++ []) H1 Q) := w_stat (as := [.int a1, .int a0]) (rest := []) at_217 cr38_19 rfl (Nat.le_of_ble_eq_true rfl) (by show 2 ≤ 3; omega) rfl
theorem m38_220u : M38 220 [l0, l1, l2, l3, l4, l5, l6, l7, l8, l9, l10, l11, l12, .unset, l14, l15, l16, l17, l18, l19, l20, l21, l22] ((.int v) :: st) H Q = M38 222 [l0, l1, l2, l3, l4, l5, l6, l7, l8, l9, l10, l11, l12, .val (.int v), l14, l15, l16, l17, l18, l19, l20, l21, l22] st H Q := w_st (i := 13) (p := isI) at_220 rfl rfl rfl rfl rfl rfl
theorem m38_220i : M38 220 [l0, l1, l2, l3, l4, l5, l6, l7, l8, l9, l10, l11, l12, .val (.int z), l14, l15, l16, l17, l18, l19, l20, l21, l22] ((.int v) :: st) H Q = M38 222 [l0, l1, l2, l3, l4, l5, l6, l7, l8, l9, l10, l11, l12, .val (.int v), l14, l15, l16, l17, l18, l19, l20, l21, l22] st H Q := w_st (i := 13) (p := isI) at_220 rfl rfl rfl rfl rfl rfl
theorem m38_220r : M38 220 [l0, l1, l2, l3, l4, l5, l6, l7, l8, l9, l10, l11, l12, .val (.ref q), l14, l15, l16, l17, l18, l19, l20, l21, l22] ((.int v) :: st) H Q = M38 222 [l0, l1, l2, l3, l4, l5, l6, l7, l8, l9, l10, l11, l12, .val (.int v), l14, l15, l16, l17, l18, l19, l20, l21, l22] st H Q := w_st (i := 13) (p := isI) at_220 rfl rfl rfl rfl rfl rfl
theorem m38_220g (h : okS l13) : M38 220 [l0, l1, l2, l3, l4, l5, l6, l7, l8, l9, l10, l11, l12, l13, l14, l15, l16, l17, l18, l19, l20, l21, l22] ((.int v) :: st) H Q = M38 222 [l0, l1, l2, l3, l4, l5, l6, l7, l8, l9, l10, l11, l12, .val (.int v), l14, l15, l16, l17, l18, l19, l20, l21, l22] st H Q := by rcases h with rfl | ⟨z, rfl⟩ <;> first | exact m38_220u | exact m38_220i
theorem m38_222 : M38 222 [.val (.ref r), l1, l2, l3, l4, l5, l6, l7, l8, l9, l10, l11, l12, l13, l14, l15, l16, l17, l18, l19, l20, l21, l22] st H Q = M38 223 [.val (.ref r), l1, l2, l3, l4, l5, l6, l7, l8, l9, l10, l11, l12, l13, l14, l15, l16, l17, l18, l19, l20, l21, l22] (.ref r :: st) H Q := w_x at_222 rfl
theorem m38_223 : M38 223 [l0, l1, l2, l3, l4, l5, l6, l7, l8, l9, l10, l11, .val (.int v), l13, l14, l15, l16, l17, l18, l19, l20, l21, l22] st H Q = M38 225 [l0, l1, l2, l3, l4, l5, l6, l7, l8, l9, l10, l11, .val (.int v), l13, l14, l15, l16, l17, l18, l19, l20, l21, l22] (.int v :: st) H Q := w_x at_223 rfl
theorem m38_225 : M38 225 ls st H Q = M38 226 ls (.int 1 :: st) H Q := w_con at_225 rfl (by decide)
theorem m38_226 : M38 226 ls (.int y :: .int x :: st) H Q = M38 227 ls (.int (x + y) :: st) H Q := w_x at_226 rfl
theorem m38_227 (a0 : Nat) (a1 : Int32) : M38 227 ls [.int a1, .ref a0] H Q = M33 0 [.val (.ref a0), .val (.int a1)] [] H (fun v H1 => M38 230 ls (v.toList ++ []) H1 Q) := w_stat (as := [.int a1, .ref a0]) (rest := []) at_227 cr38_13 rfl (Nat.le_of_ble_eq_true rfl) (by show 2 ≤ 2; omega) rfl
theorem m38_230u : M38 230 [l0, l1, l2, l3, l4, l5, l6, l7, l8, l9, l10, l11, l12, l13, .unset, l15, l16, l17, l18, l19, l20, l21, l22] ((.int v) :: st) H Q = M38 232 [l0, l1, l2, l3, l4, l5, l6, l7, l8, l9, l10, l11, l12, l13, .val (.int v), l15, l16, l17, l18, l19, l20, l21, l22] st H Q := w_st (i := 14) (p := isI) at_230 rfl rfl rfl rfl rfl rfl
theorem m38_230i : M38 230 [l0, l1, l2, l3, l4, l5, l6, l7, l8, l9, l10, l11, l12, l13, .val (.int z), l15, l16, l17, l18, l19, l20, l21, l22] ((.int v) :: st) H Q = M38 232 [l0, l1, l2, l3, l4, l5, l6, l7, l8, l9, l10, l11, l12, l13, .val (.int v), l15, l16, l17, l18, l19, l20, l21, l22] st H Q := w_st (i := 14) (p := isI) at_230 rfl rfl rfl rfl rfl rfl
theorem m38_230r : M38 230 [l0, l1, l2, l3, l4, l5, l6, l7, l8, l9, l10, l11, l12, l13, .val (.ref q), l15, l16, l17, l18, l19, l20, l21, l22] ((.int v) :: st) H Q = M38 232 [l0, l1, l2, l3, l4, l5, l6, l7, l8, l9, l10, l11, l12, l13, .val (.int v), l15, l16, l17, l18, l19, l20, l21, l22] st H Q := w_st (i := 14) (p := isI) at_230 rfl rfl rfl rfl rfl rfl
theorem m38_230g (h : okS l14) : M38 230 [l0, l1, l2, l3, l4, l5, l6, l7, l8, l9, l10, l11, l12, l13, l14, l15, l16, l17, l18, l19, l20, l21, l22] ((.int v) :: st) H Q = M38 232 [l0, l1, l2, l3, l4, l5, l6, l7, l8, l9, l10, l11, l12, l13, .val (.int v), l15, l16, l17, l18, l19, l20, l21, l22] st H Q := by rcases h with rfl | ⟨z, rfl⟩ <;> first | exact m38_230u | exact m38_230i
theorem m38_232 : M38 232 [.val (.ref r), l1, l2, l3, l4, l5, l6, l7, l8, l9, l10, l11, l12, l13, l14, l15, l16, l17, l18, l19, l20, l21, l22] st H Q = M38 233 [.val (.ref r), l1, l2, l3, l4, l5, l6, l7, l8, l9, l10, l11, l12, l13, l14, l15, l16, l17, l18, l19, l20, l21, l22] (.ref r :: st) H Q := w_x at_232 rfl
theorem m38_233 : M38 233 [l0, l1, l2, l3, l4, l5, l6, l7, l8, l9, l10, l11, .val (.int v), l13, l14, l15, l16, l17, l18, l19, l20, l21, l22] st H Q = M38 235 [l0, l1, l2, l3, l4, l5, l6, l7, l8, l9, l10, l11, .val (.int v), l13, l14, l15, l16, l17, l18, l19, l20, l21, l22] (.int v :: st) H Q := w_x at_233 rfl
theorem m38_235 : M38 235 ls st H Q = M38 236 ls (.int 2 :: st) H Q := w_con at_235 rfl (by decide)
theorem m38_236 : M38 236 ls (.int y :: .int x :: st) H Q = M38 237 ls (.int (x + y) :: st) H Q := w_x at_236 rfl
theorem m38_237 (a0 : Nat) (a1 : Int32) : M38 237 ls [.int a1, .ref a0] H Q = M33 0 [.val (.ref a0), .val (.int a1)] [] H (fun v H1 => M38 240 ls (v.toList ++ []) H1 Q) := w_stat (as := [.int a1, .ref a0]) (rest := []) at_237 cr38_13 rfl (Nat.le_of_ble_eq_true rfl) (by show 2 ≤ 2; omega) rfl
theorem m38_240u : M38 240 [l0, l1, l2, l3, l4, l5, l6, l7, l8, l9, l10, l11, l12, l13, l14, .unset, l16, l17, l18, l19, l20, l21, l22] ((.int v) :: st) H Q = M38 242 [l0, l1, l2, l3, l4, l5, l6, l7, l8, l9, l10, l11, l12, l13, l14, .val (.int v), l16, l17, l18, l19, l20, l21, l22] st H Q := w_st (i := 15) (p := isI) at_240 rfl rfl rfl rfl rfl rfl
theorem m38_240i : M38 240 [l0, l1, l2, l3, l4, l5, l6, l7, l8, l9, l10, l11, l12, l13, l14, .val (.int z), l16, l17, l18, l19, l20, l21, l22] ((.int v) :: st) H Q = M38 242 [l0, l1, l2, l3, l4, l5, l6, l7, l8, l9, l10, l11, l12, l13, l14, .val (.int v), l16, l17, l18, l19, l20, l21, l22] st H Q := w_st (i := 15) (p := isI) at_240 rfl rfl rfl rfl rfl rfl
theorem m38_240r : M38 240 [l0, l1, l2, l3, l4, l5, l6, l7, l8, l9, l10, l11, l12, l13, l14, .val (.ref q), l16, l17, l18, l19, l20, l21, l22] ((.int v) :: st) H Q = M38 242 [l0, l1, l2, l3, l4, l5, l6, l7, l8, l9, l10, l11, l12, l13, l14, .val (.int v), l16, l17, l18, l19, l20, l21, l22] st H Q := w_st (i := 15) (p := isI) at_240 rfl rfl rfl rfl rfl rfl
theorem m38_240g (h : okS l15) : M38 240 [l0, l1, l2, l3, l4, l5, l6, l7, l8, l9, l10, l11, l12, l13, l14, l15, l16, l17, l18, l19, l20, l21, l22] ((.int v) :: st) H Q = M38 242 [l0, l1, l2, l3, l4, l5, l6, l7, l8, l9, l10, l11, l12, l13, l14, .val (.int v), l16, l17, l18, l19, l20, l21, l22] st H Q := by rcases h with rfl | ⟨z, rfl⟩ <;> first | exact m38_240u | exact m38_240i
theorem m38_242 : M38 242 [.val (.ref r), l1, l2, l3, l4, l5, l6, l7, l8, l9, l10, l11, l12, l13, l14, l15, l16, l17, l18, l19, l20, l21, l22] st H Q = M38 243 [.val (.ref r), l1, l2, l3, l4, l5, l6, l7, l8, l9, l10, l11, l12, l13, l14, l15, l16, l17, l18, l19, l20, l21, l22] (.ref r :: st) H Q := w_x at_242 rfl
theorem m38_243 : M38 243 [l0, l1, l2, l3, l4, l5, l6, l7, l8, l9, l10, l11, .val (.int v), l13, l14, l15, l16, l17, l18, l19, l20, l21, l22] st H Q = M38 245 [l0, l1, l2, l3, l4, l5, l6, l7, l8, l9, l10, l11, .val (.int v), l13, l14, l15, l16, l17, l18, l19, l20, l21, l22] (.int v :: st) H Q := w_x at_243 rfl
theorem m38_245 : M38 245 ls st H Q = M38 246 ls (.int 3 :: st) H Q := w_con at_245 rfl (by decide)
theorem m38_246 : M38 246 ls (.int y :: .int x :: st) H Q = M38 247 ls (.int (x + y) :: st) H Q := w_x at_246 rfl
theorem m38_247 (a0 : Nat) (a1 : Int32) : M38 247 ls [.int a1, .ref a0] H Q = M33 0 [.val (.ref a0), .val (.int a1)] [] H (fun v H1 => M38 250 ls (v.toList ++ []) H1 Q) := w_stat (as := [.int a1, .ref a0]) (rest := []) at_247 cr38_13 rfl (Nat.le_of_ble_eq_true rfl) (by show 2 ≤ 2; omega) rfl
theorem m38_250u : M38 250 [l0, l1, l2, l3, l4, l5, l6, l7, l8, l9, l10, l11, l12, l13, l14, l15, .unset, l17, l18, l19, l20, l21, l22] ((.int v) :: st) H Q = M38 252 [l0, l1, l2, l3, l4, l5, l6, l7, l8, l9, l10, l11, l12, l13, l14, l15, .val (.int v), l17, l18, l19, l20, l21, l22] st H Q := w_st (i := 16) (p := isI) at_250 rfl rfl rfl rfl rfl rfl
theorem m38_250i : M38 250 [l0, l1, l2, l3, l4, l5, l6, l7, l8, l9, l10, l11, l12, l13, l14, l15, .val (.int z), l17, l18, l19, l20, l21, l22] ((.int v) :: st) H Q = M38 252 [l0, l1, l2, l3, l4, l5, l6, l7, l8, l9, l10, l11, l12, l13, l14, l15, .val (.int v), l17, l18, l19, l20, l21, l22] st H Q := w_st (i := 16) (p := isI) at_250 rfl rfl rfl rfl rfl rfl
theorem m38_250r : M38 250 [l0, l1, l2, l3, l4, l5, l6, l7, l8, l9, l10, l11, l12, l13, l14, l15, .val (.ref q), l17, l18, l19, l20, l21, l22] ((.int v) :: st) H Q = M38 252 [l0, l1, l2, l3, l4, l5, l6, l7, l8, l9, l10, l11, l12, l13, l14, l15, .val (.int v), l17, l18, l19, l20, l21, l22] st H Q := w_st (i := 16) (p := isI) at_250 rfl rfl rfl rfl rfl rfl
theorem m38_250g (h : okS l16) : M38 250 [l0, l1, l2, l3, l4, l5, l6, l7, l8, l9, l10, l11, l12, l13, l14, l15, l16, l17, l18, l19, l20, l21, l22] ((.int v) :: st) H Q = M38 252 [l0, l1, l2, l3, l4, l5, l6, l7, l8, l9, l10, l11, l12, l13, l14, l15, .val (.int v), l17, l18, l19, l20, l21, l22] st H Q := by rcases h with rfl | ⟨z, rfl⟩ <;> first | exact m38_250u | exact m38_250i
theorem m38_252 : M38 252 [.val (.ref r), l1, l2, l3, l4, l5, l6, l7, l8, l9, l10, l11, l12, l13, l14, l15, l16, l17, l18, l19, l20, l21, l22] st H Q = M38 253 [.val (.ref r), l1, l2, l3, l4, l5, l6, l7, l8, l9, l10, l11, l12, l13, l14, l15, l16, l17, l18, l19, l20, l21, l22] (.ref r :: st) H Q := w_x at_252 rfl
theorem m38_253 : M38 253 [l0, l1, l2, l3, l4, l5, l6, l7, l8, l9, l10, l11, .val (.int v), l13, l14, l15, l16, l17, l18, l19, l20, l21, l22] st H Q = M38 255 [l0, l1, l2, l3, l4, l5, l6, l7, l8, l9, l10, l11, .val (.int v), l13, l14, l15, l16, l17, l18, l19, l20, l21, l22] (.int v :: st) H Q := w_x at_253 rfl
theorem m38_255 : M38 255 ls st H Q = M38 256 ls (.int 4 :: st) H Q := w_con at_255 rfl (by decide)
theorem m38_256 : M38 256 ls (.int y :: .int x :: st) H Q = M38 257 ls (.int (x + y) :: st) H Q := w_x at_256 rfl
theorem m38_257 (a0 : Nat) (a1 : Int32) : M38 257 ls [.int a1, .ref a0] H Q = M33 0 [.val (.ref a0), .val (.int a1)] [] H (fun v H1 => M38 260 ls (v.toList ++ []) H1 Q) := w_stat (as := [.int a1, .ref a0]) (rest := []) at_257 cr38_13 rfl (Nat.le_of_ble_eq_true rfl) (by show 2 ≤ 2; omega) rfl
theorem m38_260u : M38 260 [l0, l1, l2, l3, l4, l5, l6, l7, l8, l9, l10, l11, l12, l13, l14, l15, l16, .unset, l18, l19, l20, l21, l22] ((.int v) :: st) H Q = M38 262 [l0, l1, l2, l3, l4, l5, l6, l7, l8, l9, l10, l11, l12, l13, l14, l15, l16, .val (.int v), l18, l19, l20, l21, l22] st H Q := w_st (i := 17) (p := isI) at_260 rfl rfl rfl rfl rfl rfl
theorem m38_260i : M38 260 [l0, l1, l2, l3, l4, l5, l6, l7, l8, l9, l10, l11, l12, l13, l14, l15, l16, .val (.int z), l18, l19, l20, l21, l22] ((.int v) :: st) H Q = M38 262 [l0, l1, l2, l3, l4, l5, l6, l7, l8, l9, l10, l11, l12, l13, l14, l15, l16, .val (.int v), l18, l19, l20, l21, l22] st H Q := w_st (i := 17) (p := isI) at_260 rfl rfl rfl rfl rfl rfl
theorem m38_260r : M38 260 [l0, l1, l2, l3, l4, l5, l6, l7, l8, l9, l10, l11, l12, l13, l14, l15, l16, .val (.ref q), l18, l19, l20, l21, l22] ((.int v) :: st) H Q = M38 262 [l0, l1, l2, l3, l4, l5, l6, l7, l8, l9, l10, l11, l12, l13, l14, l15, l16, .val (.int v), l18, l19, l20, l21, l22] st H Q := w_st (i := 17) (p := isI) at_260 rfl rfl rfl rfl rfl rfl
theorem m38_260g (h : okS l17) : M38 260 [l0, l1, l2, l3, l4, l5, l6, l7, l8, l9, l10, l11, l12, l13, l14, l15, l16, l17, l18, l19, l20, l21, l22] ((.int v) :: st) H Q = M38 262 [l0, l1, l2, l3, l4, l5, l6, l7, l8, l9, l10, l11, l12, l13, l14, l15, l16, .val (.int v), l18, l19, l20, l21, l22] st H Q := by rcases h with rfl | ⟨z, rfl⟩ <;> first | exact m38_260u | exact m38_260i
theorem m38_262 : M38 262 [l0, l1, l2, l3, l4, l5, l6, l7, l8, l9, l10, l11, l12, .val (.int v), l14, l15, l16, l17, l18, l19, l20, l21, l22] st H Q = M38 264 [l0, l1, l2, l3, l4, l5, l6, l7, l8, l9, l10, l11, l12, .val (.int v), l14, l15, l16, l17, l18, l19, l20, l21, l22] (.int v :: st) H Q := w_x at_262 rfl
theorem m38_264 : M38 264 ls st H Q = M38 265 ls (.int 2 :: st) H Q := w_con at_264 rfl (by decide)
theorem m38_265 : M38 265 ls (.int y :: .int x :: st) H Q = if y < x then M38 350 ls st H Q else M38 268 ls st H Q := w_icmp at_265 (i_gt x y) rfl
theorem m38_268 : M38 268 [l0, l1, l2, l3, l4, l5, l6, l7, l8, l9, l10, l11, l12, l13, .val (.int v), l15, l16, l17, l18, l19, l20, l21, l22] st H Q = M38 270 [l0, l1, l2, l3, l4, l5, l6, l7, l8, l9, l10, l11, l12, l13, .val (.int v), l15, l16, l17, l18, l19, l20, l21, l22] (.int v :: st) H Q := w_x at_268 rfl
theorem m38_270 : M38 270 ls st H Q = M38 272 ls (.int 16 :: st) H Q := w_con at_270 rfl (by decide)
theorem m38_272 (a0 : Int32) (a1 : Int32) : M38 272 ls [.int a1, .int a0] H Q = M34 0 [.val (.int a0), .val (.int a1), .unset] [] H (fun v H1 => M38 275 ls (v.toList ++ []) H1 Q) := w_stat (as := [.int a1, .int a0]) (rest := []) at_272 cr38_19 rfl (Nat.le_of_ble_eq_true rfl) (by show 2 ≤ 3; omega) rfl
theorem cr38_53 : sR tables_1 dn y38 53 = some (y35, method_4_code, 1, (some .int), 1, 58) := sR_of (cR_of (by decide +kernel) rc_35 dn_35 dn_38 (sig := ⟨[.int], some .int⟩) (by decide +kernel) (by decide +kernel) rfl rfl) (by decide +kernel)
theorem m38_275 (a0 : Int32) : M38 275 ls [.int a0] H Q = M35 0 [.val (.int a0)] [] H (fun v H1 => M38 278 ls (v.toList ++ []) H1 Q) := w_stat (as := [.int a0]) (rest := []) at_275 cr38_53 rfl (Nat.le_of_ble_eq_true rfl) (by show 1 ≤ 1; omega) rfl
theorem m38_278u : M38 278 [l0, l1, l2, l3, l4, l5, l6, l7, l8, l9, l10, l11, l12, l13, l14, l15, l16, l17, .unset, l19, l20, l21, l22] ((.int v) :: st) H Q = M38 280 [l0, l1, l2, l3, l4, l5, l6, l7, l8, l9, l10, l11, l12, l13, l14, l15, l16, l17, .val (.int v), l19, l20, l21, l22] st H Q := w_st (i := 18) (p := isI) at_278 rfl rfl rfl rfl rfl rfl
theorem m38_278i : M38 278 [l0, l1, l2, l3, l4, l5, l6, l7, l8, l9, l10, l11, l12, l13, l14, l15, l16, l17, .val (.int z), l19, l20, l21, l22] ((.int v) :: st) H Q = M38 280 [l0, l1, l2, l3, l4, l5, l6, l7, l8, l9, l10, l11, l12, l13, l14, l15, l16, l17, .val (.int v), l19, l20, l21, l22] st H Q := w_st (i := 18) (p := isI) at_278 rfl rfl rfl rfl rfl rfl
theorem m38_278r : M38 278 [l0, l1, l2, l3, l4, l5, l6, l7, l8, l9, l10, l11, l12, l13, l14, l15, l16, l17, .val (.ref q), l19, l20, l21, l22] ((.int v) :: st) H Q = M38 280 [l0, l1, l2, l3, l4, l5, l6, l7, l8, l9, l10, l11, l12, l13, l14, l15, l16, l17, .val (.int v), l19, l20, l21, l22] st H Q := w_st (i := 18) (p := isI) at_278 rfl rfl rfl rfl rfl rfl
theorem m38_278g (h : okS l18) : M38 278 [l0, l1, l2, l3, l4, l5, l6, l7, l8, l9, l10, l11, l12, l13, l14, l15, l16, l17, l18, l19, l20, l21, l22] ((.int v) :: st) H Q = M38 280 [l0, l1, l2, l3, l4, l5, l6, l7, l8, l9, l10, l11, l12, l13, l14, l15, l16, l17, .val (.int v), l19, l20, l21, l22] st H Q := by rcases h with rfl | ⟨z, rfl⟩ <;> first | exact m38_278u | exact m38_278i
theorem m38_280 : M38 280 [l0, l1, l2, l3, l4, l5, l6, l7, l8, l9, l10, l11, l12, l13, l14, l15, l16, l17, .val (.int v), l19, l20, l21, l22] st H Q = M38 282 [l0, l1, l2, l3, l4, l5, l6, l7, l8, l9, l10, l11, l12, l13, l14, l15, l16, l17, .val (.int v), l19, l20, l21, l22] (.int v :: st) H Q := w_x at_280 rfl
theorem m38_282 : M38 282 [l0, l1, l2, l3, l4, l5, l6, l7, l8, l9, l10, l11, l12, l13, l14, .val (.int v), l16, l17, l18, l19, l20, l21, l22] st H Q = M38 284 [l0, l1, l2, l3, l4, l5, l6, l7, l8, l9, l10, l11, l12, l13, l14, .val (.int v), l16, l17, l18, l19, l20, l21, l22] (.int v :: st) H Q := w_x at_282 rfl
theorem m38_284 : M38 284 [l0, l1, l2, l3, l4, l5, l6, l7, l8, l9, l10, l11, l12, l13, l14, l15, l16, l17, .val (.int v), l19, l20, l21, l22] st H Q = M38 286 [l0, l1, l2, l3, l4, l5, l6, l7, l8, l9, l10, l11, l12, l13, l14, l15, l16, l17, .val (.int v), l19, l20, l21, l22] (.int v :: st) H Q := w_x at_284 rfl
theorem m38_286 (a0 : Int32) (a1 : Int32) (u0 : Int32) : M38 286 ls [.int a1, .int a0, .int u0] H Q = M34 0 [.val (.int a0), .val (.int a1), .unset] [] H (fun v H1 => M38 289 ls (v.toList ++ [.int u0]) H1 Q) := w_stat (as := [.int a1, .int a0]) (rest := [.int u0]) at_286 cr38_19 rfl (Nat.le_of_ble_eq_true rfl) (by show 2 ≤ 3; omega) rfl
theorem m38_289 : M38 289 ls (.int y :: .int x :: st) H Q = M38 290 ls (.int (x - y) :: st) H Q := w_x at_289 rfl
theorem m38_290u : M38 290 [l0, l1, l2, l3, l4, l5, l6, l7, l8, l9, l10, l11, l12, l13, l14, l15, l16, l17, l18, .unset, l20, l21, l22] ((.int v) :: st) H Q = M38 292 [l0, l1, l2, l3, l4, l5, l6, l7, l8, l9, l10, l11, l12, l13, l14, l15, l16, l17, l18, .val (.int v), l20, l21, l22] st H Q := w_st (i := 19) (p := isI) at_290 rfl rfl rfl rfl rfl rfl
theorem m38_290i : M38 290 [l0, l1, l2, l3, l4, l5, l6, l7, l8, l9, l10, l11, l12, l13, l14, l15, l16, l17, l18, .val (.int z), l20, l21, l22] ((.int v) :: st) H Q = M38 292 [l0, l1, l2, l3, l4, l5, l6, l7, l8, l9, l10, l11, l12, l13, l14, l15, l16, l17, l18, .val (.int v), l20, l21, l22] st H Q := w_st (i := 19) (p := isI) at_290 rfl rfl rfl rfl rfl rfl
theorem m38_290r : M38 290 [l0, l1, l2, l3, l4, l5, l6, l7, l8, l9, l10, l11, l12, l13, l14, l15, l16, l17, l18, .val (.ref q), l20, l21, l22] ((.int v) :: st) H Q = M38 292 [l0, l1, l2, l3, l4, l5, l6, l7, l8, l9, l10, l11, l12, l13, l14, l15, l16, l17, l18, .val (.int v), l20, l21, l22] st H Q := w_st (i := 19) (p := isI) at_290 rfl rfl rfl rfl rfl rfl
theorem m38_290g (h : okS l19) : M38 290 [l0, l1, l2, l3, l4, l5, l6, l7, l8, l9, l10, l11, l12, l13, l14, l15, l16, l17, l18, l19, l20, l21, l22] ((.int v) :: st) H Q = M38 292 [l0, l1, l2, l3, l4, l5, l6, l7, l8, l9, l10, l11, l12, l13, l14, l15, l16, l17, l18, .val (.int v), l20, l21, l22] st H Q := by rcases h with rfl | ⟨z, rfl⟩ <;> first | exact m38_290u | exact m38_290i
theorem m38_292 : M38 292 [l0, l1, l2, l3, l4, l5, l6, l7, l8, l9, l10, l11, l12, l13, l14, l15, l16, l17, l18, .val (.int v), l20, l21, l22] st H Q = M38 294 [l0, l1, l2, l3, l4, l5, l6, l7, l8, l9, l10, l11, l12, l13, l14, l15, l16, l17, l18, .val (.int v), l20, l21, l22] (.int v :: st) H Q := w_x at_292 rfl
theorem m38_294 : M38 294 ls st H Q = M38 295 ls (.int 3 :: st) H Q := w_con at_294 rfl (by decide)
theorem m38_295 : M38 295 ls (.int y :: .int x :: st) H Q = if x < y then M38 298 ls st H Q else M38 303 ls st H Q := w_icmpN at_295 (i_ge x y) rfl
theorem m38_298 : M38 298 [l0, l1, l2, l3, l4, l5, l6, l7, l8, l9, l10, l11, l12, l13, l14, l15, l16, l17, l18, .val (.int v), l20, l21, l22] st H Q = M38 300 [l0, l1, l2, l3, l4, l5, l6, l7, l8, l9, l10, l11, l12, l13, l14, l15, l16, l17, l18, .val (.int v), l20, l21, l22] (.int v :: st) H Q := w_x at_298 rfl
theorem m38_300 : M38 300 ls st H Q = M38 304 ls st H Q := w_x at_300 rfl
theorem m38_303 : M38 303 ls st H Q = M38 304 ls (.int 3 :: st) H Q := w_con at_303 rfl (by decide)
theorem m38_304u : M38 304 [l0, l1, l2, l3, l4, l5, l6, l7, l8, l9, l10, l11, l12, l13, l14, l15, l16, l17, l18, l19, .unset, l21, l22] ((.int v) :: st) H Q = M38 306 [l0, l1, l2, l3, l4, l5, l6, l7, l8, l9, l10, l11, l12, l13, l14, l15, l16, l17, l18, l19, .val (.int v), l21, l22] st H Q := w_st (i := 20) (p := isI) at_304 rfl rfl rfl rfl rfl rfl
theorem m38_304i : M38 304 [l0, l1, l2, l3, l4, l5, l6, l7, l8, l9, l10, l11, l12, l13, l14, l15, l16, l17, l18, l19, .val (.int z), l21, l22] ((.int v) :: st) H Q = M38 306 [l0, l1, l2, l3, l4, l5, l6, l7, l8, l9, l10, l11, l12, l13, l14, l15, l16, l17, l18, l19, .val (.int v), l21, l22] st H Q := w_st (i := 20) (p := isI) at_304 rfl rfl rfl rfl rfl rfl
theorem m38_304r : M38 304 [l0, l1, l2, l3, l4, l5, l6, l7, l8, l9, l10, l11, l12, l13, l14, l15, l16, l17, l18, l19, .val (.ref q), l21, l22] ((.int v) :: st) H Q = M38 306 [l0, l1, l2, l3, l4, l5, l6, l7, l8, l9, l10, l11, l12, l13, l14, l15, l16, l17, l18, l19, .val (.int v), l21, l22] st H Q := w_st (i := 20) (p := isI) at_304 rfl rfl rfl rfl rfl rfl
theorem m38_304g (h : okS l20) : M38 304 [l0, l1, l2, l3, l4, l5, l6, l7, l8, l9, l10, l11, l12, l13, l14, l15, l16, l17, l18, l19, l20, l21, l22] ((.int v) :: st) H Q = M38 306 [l0, l1, l2, l3, l4, l5, l6, l7, l8, l9, l10, l11, l12, l13, l14, l15, l16, l17, l18, l19, .val (.int v), l21, l22] st H Q := by rcases h with rfl | ⟨z, rfl⟩ <;> first | exact m38_304u | exact m38_304i
theorem m38_306 : M38 306 ls st H Q = M38 307 ls (.int 1 :: st) H Q := w_con at_306 rfl (by decide)
theorem m38_307 : M38 307 [l0, l1, l2, l3, l4, l5, l6, l7, l8, l9, l10, l11, l12, l13, l14, l15, .val (.int v), l17, l18, l19, l20, l21, l22] st H Q = M38 309 [l0, l1, l2, l3, l4, l5, l6, l7, l8, l9, l10, l11, l12, l13, l14, l15, .val (.int v), l17, l18, l19, l20, l21, l22] (.int v :: st) H Q := w_x at_307 rfl
theorem m38_309 : M38 309 [l0, l1, l2, l3, l4, l5, l6, l7, l8, l9, l10, l11, l12, l13, l14, l15, l16, l17, l18, l19, .val (.int v), l21, l22] st H Q = M38 311 [l0, l1, l2, l3, l4, l5, l6, l7, l8, l9, l10, l11, l12, l13, l14, l15, l16, l17, l18, l19, .val (.int v), l21, l22] (.int v :: st) H Q := w_x at_309 rfl
theorem m38_311 (a0 : Int32) (a1 : Int32) (u0 : Int32) : M38 311 ls [.int a1, .int a0, .int u0] H Q = M34 0 [.val (.int a0), .val (.int a1), .unset] [] H (fun v H1 => M38 314 ls (v.toList ++ [.int u0]) H1 Q) := w_stat (as := [.int a1, .int a0]) (rest := [.int u0]) at_311 cr38_19 rfl (Nat.le_of_ble_eq_true rfl) (by show 2 ≤ 3; omega) rfl
theorem m38_314 : M38 314 ls (.int y :: .int x :: st) H Q = M38 315 ls (.int (x + y) :: st) H Q := w_x at_314 rfl
theorem m38_315u : M38 315 [l0, l1, l2, l3, l4, l5, l6, l7, l8, l9, l10, l11, l12, l13, l14, l15, l16, l17, l18, l19, l20, .unset, l22] ((.int v) :: st) H Q = M38 317 [l0, l1, l2, l3, l4, l5, l6, l7, l8, l9, l10, l11, l12, l13, l14, l15, l16, l17, l18, l19, l20, .val (.int v), l22] st H Q := w_st (i := 21) (p := isI) at_315 rfl rfl rfl rfl rfl rfl
theorem m38_315i : M38 315 [l0, l1, l2, l3, l4, l5, l6, l7, l8, l9, l10, l11, l12, l13, l14, l15, l16, l17, l18, l19, l20, .val (.int z), l22] ((.int v) :: st) H Q = M38 317 [l0, l1, l2, l3, l4, l5, l6, l7, l8, l9, l10, l11, l12, l13, l14, l15, l16, l17, l18, l19, l20, .val (.int v), l22] st H Q := w_st (i := 21) (p := isI) at_315 rfl rfl rfl rfl rfl rfl
theorem m38_315r : M38 315 [l0, l1, l2, l3, l4, l5, l6, l7, l8, l9, l10, l11, l12, l13, l14, l15, l16, l17, l18, l19, l20, .val (.ref q), l22] ((.int v) :: st) H Q = M38 317 [l0, l1, l2, l3, l4, l5, l6, l7, l8, l9, l10, l11, l12, l13, l14, l15, l16, l17, l18, l19, l20, .val (.int v), l22] st H Q := w_st (i := 21) (p := isI) at_315 rfl rfl rfl rfl rfl rfl
theorem m38_315g (h : okS l21) : M38 315 [l0, l1, l2, l3, l4, l5, l6, l7, l8, l9, l10, l11, l12, l13, l14, l15, l16, l17, l18, l19, l20, l21, l22] ((.int v) :: st) H Q = M38 317 [l0, l1, l2, l3, l4, l5, l6, l7, l8, l9, l10, l11, l12, l13, l14, l15, l16, l17, l18, l19, l20, .val (.int v), l22] st H Q := by rcases h with rfl | ⟨z, rfl⟩ <;> first | exact m38_315u | exact m38_315i
theorem m38_317 : M38 317 ls st H Q = M38 318 ls (.int 1 :: st) H Q := w_con at_317 rfl (by decide)
theorem m38_318 : M38 318 [l0, l1, l2, l3, l4, l5, l6, l7, l8, l9, l10, l11, l12, l13, l14, l15, l16, .val (.int v), l18, l19, l20, l21, l22] st H Q = M38 320 [l0, l1, l2, l3, l4, l5, l6, l7, l8, l9, l10, l11, l12, l13, l14, l15, l16, .val (.int v), l18, l19, l20, l21, l22] (.int v :: st) H Q := w_x at_318 rfl
theorem m38_320 : M38 320 ls st H Q = M38 322 ls (.int 63 :: st) H Q := w_con at_320 rfl (by decide)
theorem m38_322 (a0 : Int32) (a1 : Int32) (u0 : Int32) : M38 322 ls [.int a1, .int a0, .int u0] H Q = M34 0 [.val (.int a0), .val (.int a1), .unset] [] H (fun v H1 => M38 325 ls (v.toList ++ [.int u0]) H1 Q) := w_stat (as := [.int a1, .int a0]) (rest := [.int u0]) at_322 cr38_19 rfl (Nat.le_of_ble_eq_true rfl) (by show 2 ≤ 3; omega) rfl
theorem m38_325 : M38 325 ls (.int y :: .int x :: st) H Q = M38 326 ls (.int (x + y) :: st) H Q := w_x at_325 rfl
theorem m38_326u : M38 326 [l0, l1, l2, l3, l4, l5, l6, l7, l8, l9, l10, l11, l12, l13, l14, l15, l16, l17, l18, l19, l20, l21, .unset] ((.int v) :: st) H Q = M38 328 [l0, l1, l2, l3, l4, l5, l6, l7, l8, l9, l10, l11, l12, l13, l14, l15, l16, l17, l18, l19, l20, l21, .val (.int v)] st H Q := w_st (i := 22) (p := isI) at_326 rfl rfl rfl rfl rfl rfl
theorem m38_326i : M38 326 [l0, l1, l2, l3, l4, l5, l6, l7, l8, l9, l10, l11, l12, l13, l14, l15, l16, l17, l18, l19, l20, l21, .val (.int z)] ((.int v) :: st) H Q = M38 328 [l0, l1, l2, l3, l4, l5, l6, l7, l8, l9, l10, l11, l12, l13, l14, l15, l16, l17, l18, l19, l20, l21, .val (.int v)] st H Q := w_st (i := 22) (p := isI) at_326 rfl rfl rfl rfl rfl rfl
theorem m38_326r : M38 326 [l0, l1, l2, l3, l4, l5, l6, l7, l8, l9, l10, l11, l12, l13, l14, l15, l16, l17, l18, l19, l20, l21, .val (.ref q)] ((.int v) :: st) H Q = M38 328 [l0, l1, l2, l3, l4, l5, l6, l7, l8, l9, l10, l11, l12, l13, l14, l15, l16, l17, l18, l19, l20, l21, .val (.int v)] st H Q := w_st (i := 22) (p := isI) at_326 rfl rfl rfl rfl rfl rfl
theorem m38_326g (h : okS l22) : M38 326 [l0, l1, l2, l3, l4, l5, l6, l7, l8, l9, l10, l11, l12, l13, l14, l15, l16, l17, l18, l19, l20, l21, l22] ((.int v) :: st) H Q = M38 328 [l0, l1, l2, l3, l4, l5, l6, l7, l8, l9, l10, l11, l12, l13, l14, l15, l16, l17, l18, l19, l20, l21, .val (.int v)] st H Q := by rcases h with rfl | ⟨z, rfl⟩ <;> first | exact m38_326u | exact m38_326i
theorem m38_328 : M38 328 [l0, .val (.ref r), l2, l3, l4, l5, l6, l7, l8, l9, l10, l11, l12, l13, l14, l15, l16, l17, l18, l19, l20, l21, l22] st H Q = M38 329 [l0, .val (.ref r), l2, l3, l4, l5, l6, l7, l8, l9, l10, l11, l12, l13, l14, l15, l16, l17, l18, l19, l20, l21, l22] (.ref r :: st) H Q := w_x at_328 rfl
theorem m38_329 : M38 329 [l0, l1, l2, l3, l4, l5, l6, l7, l8, l9, l10, l11, l12, l13, l14, l15, l16, l17, .val (.int v), l19, l20, l21, l22] st H Q = M38 331 [l0, l1, l2, l3, l4, l5, l6, l7, l8, l9, l10, l11, l12, l13, l14, l15, l16, l17, .val (.int v), l19, l20, l21, l22] (.int v :: st) H Q := w_x at_329 rfl
theorem m38_331 : M38 331 [l0, l1, l2, l3, l4, l5, l6, l7, l8, l9, l10, l11, l12, l13, l14, l15, l16, l17, l18, .val (.int v), l20, l21, l22] st H Q = M38 333 [l0, l1, l2, l3, l4, l5, l6, l7, l8, l9, l10, l11, l12, l13, l14, l15, l16, l17, l18, .val (.int v), l20, l21, l22] (.int v :: st) H Q := w_x at_331 rfl
theorem m38_333 : M38 333 [l0, l1, l2, l3, l4, l5, l6, l7, l8, l9, l10, l11, l12, l13, l14, l15, l16, l17, l18, l19, l20, .val (.int v), l22] st H Q = M38 335 [l0, l1, l2, l3, l4, l5, l6, l7, l8, l9, l10, l11, l12, l13, l14, l15, l16, l17, l18, l19, l20, .val (.int v), l22] (.int v :: st) H Q := w_x at_333 rfl
theorem m38_335 : M38 335 [l0, l1, l2, l3, l4, l5, l6, l7, l8, l9, l10, l11, l12, l13, l14, l15, l16, l17, l18, l19, l20, l21, .val (.int v)] st H Q = M38 337 [l0, l1, l2, l3, l4, l5, l6, l7, l8, l9, l10, l11, l12, l13, l14, l15, l16, l17, l18, l19, l20, l21, .val (.int v)] (.int v :: st) H Q := w_x at_335 rfl
theorem cr38_56 : vR tables_1 dn y38 56 = some (false, y5, prog_1_method_2_code, 6, (some .int), 4, 39) := vR_of (cR_of (by decide +kernel) rc_5 dn_5 dn_38 (sig := ⟨[.int, .int, .int, .int], some .int⟩) (by decide +kernel) (by decide +kernel) rfl rfl) (by decide +kernel) (by decide +kernel) (by decide +kernel)
theorem m38_337 (a0 : Int32) (a1 : Int32) (a2 : Int32) (a3 : Int32) : M38 337 ls [.int a3, .int a2, .int a1, .int a0, .ref (b + 1)] (put (b + 1) pre s A post) Q = M5 0 [.val (.ref (b + 1)), .val (.int a0), .val (.int a1), .val (.int a2), .val (.int a3), .unset] [] (put (b + 1) pre s A post) (fun v H1 => M38 340 ls (v.toList ++ []) H1 Q) := w_virt (as := [.int a3, .int a2, .int a1, .int a0]) (rest := []) (a := (b + 1)) at_337 cr38_56 put_o rfl rfl (Nat.le_of_ble_eq_true rfl) (by show 5 ≤ 6; omega) rfl
theorem m38_340 : M38 340 ls (.int x :: st) H Q = if x = 0 then M38 343 ls st H Q else M38 347 ls st H Q := w_ifN at_340 (z_ne x) rfl
theorem m38_343 : M38 343 [l0, l1, l2, l3, l4, l5, l6, l7, l8, l9, l10, l11, l12, l13, l14, l15, l16, l17, .val (.int v), l19, l20, l21, l22] st H Q = M38 345 [l0, l1, l2, l3, l4, l5, l6, l7, l8, l9, l10, l11, l12, l13, l14, l15, l16, l17, .val (.int v), l19, l20, l21, l22] (.int v :: st) H Q := w_x at_343 rfl
theorem m38_345i : M38 345 [l0, l1, l2, l3, l4, l5, .val (.int z), l7, l8, l9, l10, l11, l12, l13, l14, l15, l16, l17, l18, l19, l20, l21, l22] ((.int v) :: st) H Q = M38 347 [l0, l1, l2, l3, l4, l5, .val (.int v), l7, l8, l9, l10, l11, l12, l13, l14, l15, l16, l17, l18, l19, l20, l21, l22] st H Q := w_st (i := 6) (p := isI) at_345 rfl rfl rfl rfl rfl rfl
theorem m38_347 : M38 347 ls st H Q = M38 461 ls st H Q := w_x at_347 rfl
theorem m38_350 : M38 350 [l0, l1, l2, l3, l4, l5, l6, l7, l8, l9, l10, l11, l12, .val (.int v), l14, l15, l16, l17, l18, l19, l20, l21, l22] st H Q = M38 352 [l0, l1, l2, l3, l4, l5, l6, l7, l8, l9, l10, l11, l12, .val (.int v), l14, l15, l16, l17, l18, l19, l20, l21, l22] (.int v :: st) H Q := w_x at_350 rfl
theorem m38_352 : M38 352 ls st H Q = M38 353 ls (.int 4 :: st) H Q := w_con at_352 rfl (by decide)
theorem m38_353 : M38 353 ls (.int y :: .int x :: st) H Q = if y < x then M38 384 ls st H Q else M38 356 ls st H Q := w_icmp at_353 (i_gt x y) rfl
theorem m38_356 : M38 356 [l0, .val (.ref r), l2, l3, l4, l5, l6, l7, l8, l9, l10, l11, l12, l13, l14, l15, l16, l17, l18, l19, l20, l21, l22] st H Q = M38 357 [l0, .val (.ref r), l2, l3, l4, l5, l6, l7, l8, l9, l10, l11, l12, l13, l14, l15, l16, l17, l18, l19, l20, l21, l22] (.ref r :: st) H Q := w_x at_356 rfl
theorem m38_357 : M38 357 [l0, l1, l2, l3, l4, l5, l6, l7, l8, l9, l10, l11, l12, l13, .val (.int v), l15, l16, l17, l18, l19, l20, l21, l22] st H Q = M38 359 [l0, l1, l2, l3, l4, l5, l6, l7, l8, l9, l10, l11, l12, l13, .val (.int v), l15, l16, l17, l18, l19, l20, l21, l22] (.int v :: st) H Q := w_x at_357 rfl
theorem m38_359 : M38 359 ls st H Q = M38 360 ls (.int 4 :: st) H Q := w_con at_359 rfl (by decide)
theorem m38_360 (a0 : Int32) (a1 : Int32) (u0 : Nat) : M38 360 ls [.int a1, .int a0, .ref u0] H Q = M34 0 [.val (.int a0), .val (.int a1), .unset] [] H (fun v H1 => M38 363 ls (v.toList ++ [.ref u0]) H1 Q) := w_stat (as := [.int a1, .int a0]) (rest := [.ref u0]) at_360 cr38_19 rfl (Nat.le_of_ble_eq_true rfl) (by show 2 ≤ 3; omega) rfl
theorem m38_363 : M38 363 [l0, l1, l2, l3, l4, l5, l6, l7, l8, l9, l10, l11, l12, l13, l14, .val (.int v), l16, l17, l18, l19, l20, l21, l22] st H Q = M38 365 [l0, l1, l2, l3, l4, l5, l6, l7, l8, l9, l10, l11, l12, l13, l14, .val (.int v), l16, l17, l18, l19, l20, l21, l22] (.int v :: st) H Q := w_x at_363 rfl
theorem m38_365 : M38 365 ls st H Q = M38 366 ls (.int 3 :: st) H Q := w_con at_365 rfl (by decide)
theorem m38_366 (a0 : Int32) (a1 : Int32) (u0 : Int32) (u1 : Nat) : M38 366 ls [.int a1, .int a0, .int u0, .ref u1] H Q = M34 0 [.val (.int a0), .val (.int a1), .unset] [] H (fun v H1 => M38 369 ls (v.toList ++ [.int u0, .ref u1]) H1 Q) := w_stat (as := [.int a1, .int a0]) (rest := [.int u0, .ref u1]) at_366 cr38_19 rfl (Nat.le_of_ble_eq_true rfl) (by show 2 ≤ 3; omega) rfl
theorem m38_369 : M38 369 ls st H Q = M38 370 ls (.int 1 :: st) H Q := w_con at_369 rfl (by decide)
theorem m38_370 : M38 370 [l0, l1, l2, l3, l4, l5, l6, l7, l8, l9, l10, l11, l12, l13, l14, l15, .val (.int v), l17, l18, l19, l20, l21, l22] st H Q = M38 372 [l0, l1, l2, l3, l4, l5, l6, l7, l8, l9, l10, l11, l12, l13, l14, l15, .val (.int v), l17, l18, l19, l20, l21, l22] (.int v :: st) H Q := w_x at_370 rfl
theorem m38_372 : M38 372 ls st H Q = M38 373 ls (.int 2 :: st) H Q := w_con at_372 rfl (by decide)
theorem m38_373 (a0 : Int32) (a1 : Int32) (u0 : Int32) (u1 : Int32) (u2 : Int32) (u3 : Nat) : M38 373 ls [.int a1, .int a0, .int u0, .int u1, .int u2, .ref u3] H Q = M34 0 [.val (.int a0), .val (.int a1), .unset] [] H (fun v H1 => M38 376 ls (v.toList ++ [.int u0, .int u1, .int u2, .ref u3]) H1 Q) := w_stat (as := [.int a1, .int a0]) (rest := [.int u0, .int u1, .int u2, .ref u3]) at_373 cr38_19 rfl (Nat.le_of_ble_eq_true rfl) (by show 2 ≤ 3; omega) rfl
theorem m38_376 : M38 376 ls (.int y :: .int x :: st) H Q = M38 377 ls (.int (x + y) :: st) H Q := w_x at_376 rfl
theorem cr38_60 : vR tables_1 dn y38 60 = some (false, y7, prog_1_method_4_code, 4, (some .int), 3, 38) := vR_of (cR_of (by decide +kernel) rc_7 dn_7 dn_38 (sig := ⟨[.int, .int, .int], some .int⟩) (by decide +kernel) (by decide +kernel) rfl rfl) (by decide +kernel) (by decide +kernel) (by decide +kernel)
theorem m38_377 (a0 : Int32) (a1 : Int32) (a2 : Int32) : M38 377 ls [.int a2, .int a1, .int a0, .ref (b + 1)] (put (b + 1) pre s A post) Q = M7 0 [.val (.ref (b + 1)), .val (.int a0), .val (.int a1), .val (.int a2)] [] (put (b + 1) pre s A post) (fun v H1 => M38 380 ls (v.toList ++ []) H1 Q) := w_virt (as := [.int a2, .int a1, .int a0]) (rest := []) (a := (b + 1)) at_377 cr38_60 put_o rfl rfl (Nat.le_of_ble_eq_true rfl) (by show 4 ≤ 4; omega) rfl
theorem m38_380 : M38 380 ls ((.int v) :: st) H Q = M38 381 ls st H Q := w_x at_380 rfl
theorem m38_381 : M38 381 ls st H Q = M38 461 ls st H Q := w_x at_381 rfl
theorem m38_384 : M38 384 [l0, l1, l2, l3, l4, l5, l6, l7, l8, l9, l10, l11, l12, .val (.int v), l14, l15, l16, l17, l18, l19, l20, l21, l22] st H Q = M38 386 [l0, l1, l2, l3, l4, l5, l6, l7, l8, l9, l10, l11, l12, .val (.int v), l14, l15, l16, l17, l18, l19, l20, l21, l22] (.int v :: st) H Q := w_x at_384 rfl
theorem m38_386 : M38 386 ls st H Q = M38 387 ls (.int 5 :: st) H Q := w_con at_386 rfl (by decide)
theorem m38_387 : M38 387 ls (.int y :: .int x :: st) H Q = if x = y then M38 390 ls st H Q else M38 448 ls st H Q := w_icmpN at_387 (i_ne x y) rfl
theorem m38_390 : M38 390 [l0, .val (.ref r), l2, l3, l4, l5, l6, l7, l8, l9, l10, l11, l12, l13, l14, l15, l16, l17, l18, l19, l20, l21, l22] st H Q = M38 391 [l0, .val (.ref r), l2, l3, l4, l5, l6, l7, l8, l9, l10, l11, l12, l13, l14, l15, l16, l17, l18, l19, l20, l21, l22] (.ref r :: st) H Q := w_x at_390 rfl
theorem cr38_64 : vR tables_1 dn y38 64 = some (false, y9, prog_1_method_6_code, 4, (some .int), 0, 0) := vR_of (cR_of (by decide +kernel) rc_9 dn_9 dn_38 (sig := ⟨[], some .int⟩) (by decide +kernel) (by decide +kernel) rfl rfl) (by decide +kernel) (by decide +kernel) (by decide +kernel)
theorem m38_391 : M38 391 ls [.ref (b + 1)] (put (b + 1) pre s A post) Q = M9 0 [.val (.ref (b + 1)), .unset, .unset, .unset] [] (put (b + 1) pre s A post) (fun v H1 => M38 394 ls (v.toList ++ []) H1 Q) := w_virt (as := []) (rest := []) (a := (b + 1)) at_391 cr38_64 put_o rfl rfl (Nat.le_of_ble_eq_true rfl) (by show 1 ≤ 4; omega) rfl
theorem m38_394u : M38 394 [l0, l1, l2, l3, l4, l5, l6, l7, l8, l9, l10, l11, l12, l13, l14, l15, l16, l17, .unset, l19, l20, l21, l22] ((.int v) :: st) H Q = M38 396 [l0, l1, l2, l3, l4, l5, l6, l7, l8, l9, l10, l11, l12, l13, l14, l15, l16, l17, .val (.int v), l19, l20, l21, l22] st H Q := w_st (i := 18) (p := isI) at_394 rfl rfl rfl rfl rfl rfl
theorem m38_394i : M38 394 [l0, l1, l2, l3, l4, l5, l6, l7, l8, l9, l10, l11, l12, l13, l14, l15, l16, l17, .val (.int z), l19, l20, l21, l22] ((.int v) :: st) H Q = M38 396 [l0, l1, l2, l3, l4, l5, l6, l7, l8, l9, l10, l11, l12, l13, l14, l15, l16, l17, .val (.int v), l19, l20, l21, l22] st H Q := w_st (i := 18) (p := isI) at_394 rfl rfl rfl rfl rfl rfl
theorem m38_394r : M38 394 [l0, l1, l2, l3, l4, l5, l6, l7, l8, l9, l10, l11, l12, l13, l14, l15, l16, l17, .val (.ref q), l19, l20, l21, l22] ((.int v) :: st) H Q = M38 396 [l0, l1, l2, l3, l4, l5, l6, l7, l8, l9, l10, l11, l12, l13, l14, l15, l16, l17, .val (.int v), l19, l20, l21, l22] st H Q := w_st (i := 18) (p := isI) at_394 rfl rfl rfl rfl rfl rfl
theorem m38_394g (h : okS l18) : M38 394 [l0, l1, l2, l3, l4, l5, l6, l7, l8, l9, l10, l11, l12, l13, l14, l15, l16, l17, l18, l19, l20, l21, l22] ((.int v) :: st) H Q = M38 396 [l0, l1, l2, l3, l4, l5, l6, l7, l8, l9, l10, l11, l12, l13, l14, l15, l16, l17, .val (.int v), l19, l20, l21, l22] st H Q := by rcases h with rfl | ⟨z, rfl⟩ <;> first | exact m38_394u | exact m38_394i
theorem m38_396 : M38 396 [l0, l1, l2, l3, l4, l5, l6, l7, l8, l9, l10, l11, l12, l13, l14, l15, l16, l17, .val (.int v), l19, l20, l21, l22] st H Q = M38 398 [l0, l1, l2, l3, l4, l5, l6, l7, l8, l9, l10, l11, l12, l13, l14, l15, l16, l17, .val (.int v), l19, l20, l21, l22] (.int v :: st) H Q := w_x at_396 rfl
theorem m38_398 : M38 398 ls (.int x :: st) H Q = if x < 0 then M38 419 ls st H Q else M38 401 ls st H Q := w_if at_398 (z_lt x) rfl
theorem m38_401 : M38 401 [l0, l1, l2, l3, l4, l5, l6, l7, l8, l9, l10, l11, l12, l13, l14, l15, l16, l17, .val (.int v), l19, l20, l21, l22] st H Q = M38 403 [l0, l1, l2, l3, l4, l5, l6, l7, l8, l9, l10, l11, l12, l13, l14, l15, l16, l17, .val (.int v), l19, l20, l21, l22] (.int v :: st) H Q := w_x at_401 rfl
theorem m38_403 : M38 403 ls st H Q = M38 404 ls (.int 4 :: st) H Q := w_con at_403 rfl (by decide)
theorem m38_404 : M38 404 ls (.int y :: .int x :: st) H Q = if x < y then M38 407 ls st H Q else M38 419 ls st H Q := w_icmpN at_404 (i_ge x y) rfl
theorem m38_407 : M38 407 [l0, l1, .val (.long J1), l3, l4, l5, l6, l7, l8, l9, l10, l11, l12, l13, l14, l15, l16, l17, l18, l19, l20, l21, l22] st H Q = M38 408 [l0, l1, .val (.long J1), l3, l4, l5, l6, l7, l8, l9, l10, l11, l12, l13, l14, l15, l16, l17, l18, l19, l20, l21, l22] (.long J1 :: st) H Q := w_x at_407 rfl
theorem m38_408 : M38 408 [l0, l1, l2, l3, l4, l5, l6, l7, l8, l9, l10, l11, l12, l13, l14, l15, l16, l17, .val (.int v), l19, l20, l21, l22] st H Q = M38 410 [l0, l1, l2, l3, l4, l5, l6, l7, l8, l9, l10, l11, l12, l13, l14, l15, l16, l17, .val (.int v), l19, l20, l21, l22] (.int v :: st) H Q := w_x at_408 rfl
theorem m38_410 : M38 410 [l0, l1, l2, l3, l4, l5, .val (.int v), l7, l8, l9, l10, l11, l12, l13, l14, l15, l16, l17, l18, l19, l20, l21, l22] st H Q = M38 412 [l0, l1, l2, l3, l4, l5, .val (.int v), l7, l8, l9, l10, l11, l12, l13, l14, l15, l16, l17, l18, l19, l20, l21, l22] (.int v :: st) H Q := w_x at_410 rfl
theorem cr38_67 : sR tables_1 dn y38 67 = some (y36, method_5_code, 6, (some .long), 3, 53) := sR_of (cR_of (by decide +kernel) rc_36 dn_36 dn_38 (sig := ⟨[.long, .int, .int], some .long⟩) (by decide +kernel) (by decide +kernel) rfl rfl) (by decide +kernel)
theorem m38_412 (a0 : Int64) (a1 : Int32) (a2 : Int32) : M38 412 ls [.int a2, .int a1, .long a0] H Q = M36 0 [.val (.long a0), .second, .val (.int a1), .val (.int a2), .unset, .unset] [] H (fun v H1 => M38 415 ls (v.toList ++ []) H1 Q) := w_stat (as := [.int a2, .int a1, .long a0]) (rest := []) at_412 cr38_67 rfl (Nat.le_of_ble_eq_true rfl) (by show 4 ≤ 6; omega) rfl
theorem m38_415 : M38 415 [l0, l1, .val (.long J2), .second, l4, l5, l6, l7, l8, l9, l10, l11, l12, l13, l14, l15, l16, l17, l18, l19, l20, l21, l22] (.long J1 :: st) H Q = M38 416 [l0, l1, .val (.long J1), .second, l4, l5, l6, l7, l8, l9, l10, l11, l12, l13, l14, l15, l16, l17, l18, l19, l20, l21, l22] st H Q := w_x at_415 rfl
theorem m38_416 : M38 416 ls st H Q = M38 445 ls st H Q := w_x at_416 rfl
theorem m38_419 : M38 419 [l0, l1, l2, l3, l4, l5, l6, l7, l8, l9, l10, l11, l12, l13, l14, l15, l16, l17, .val (.int v), l19, l20, l21, l22] st H Q = M38 421 [l0, l1, l2, l3, l4, l5, l6, l7, l8, l9, l10, l11, l12, l13, l14, l15, l16, l17, .val (.int v), l19, l20, l21, l22] (.int v :: st) H Q := w_x at_419 rfl
theorem m38_421 : M38 421 ls st H Q = M38 422 ls (.int 4 :: st) H Q := w_con at_421 rfl (by decide)
theorem m38_422 : M38 422 ls (.int y :: .int x :: st) H Q = if x < y then M38 445 ls st H Q else M38 425 ls st H Q := w_icmp at_422 (i_lt x y) rfl
theorem m38_425 : M38 425 [l0, l1, l2, l3, l4, l5, l6, l7, l8, l9, l10, l11, l12, l13, l14, l15, l16, l17, .val (.int v), l19, l20, l21, l22] st H Q = M38 427 [l0, l1, l2, l3, l4, l5, l6, l7, l8, l9, l10, l11, l12, l13, l14, l15, l16, l17, .val (.int v), l19, l20, l21, l22] (.int v :: st) H Q := w_x at_425 rfl
theorem m38_427 : M38 427 ls st H Q = M38 429 ls (.int 8 :: st) H Q := w_con at_427 rfl (by decide)
theorem m38_429 : M38 429 ls (.int y :: .int x :: st) H Q = if x < y then M38 432 ls st H Q else M38 445 ls st H Q := w_icmpN at_429 (i_ge x y) rfl
theorem m38_432 : M38 432 [l0, l1, l2, l3, .val (.long J1), l5, l6, l7, l8, l9, l10, l11, l12, l13, l14, l15, l16, l17, l18, l19, l20, l21, l22] st H Q = M38 434 [l0, l1, l2, l3, .val (.long J1), l5, l6, l7, l8, l9, l10, l11, l12, l13, l14, l15, l16, l17, l18, l19, l20, l21, l22] (.long J1 :: st) H Q := w_x at_432 rfl
theorem m38_434 : M38 434 [l0, l1, l2, l3, l4, l5, l6, l7, l8, l9, l10, l11, l12, l13, l14, l15, l16, l17, .val (.int v), l19, l20, l21, l22] st H Q = M38 436 [l0, l1, l2, l3, l4, l5, l6, l7, l8, l9, l10, l11, l12, l13, l14, l15, l16, l17, .val (.int v), l19, l20, l21, l22] (.int v :: st) H Q := w_x at_434 rfl
theorem m38_436 : M38 436 ls st H Q = M38 437 ls (.int 4 :: st) H Q := w_con at_436 rfl (by decide)
theorem m38_437 : M38 437 ls (.int y :: .int x :: st) H Q = M38 438 ls (.int (x - y) :: st) H Q := w_x at_437 rfl
theorem m38_438 : M38 438 [l0, l1, l2, l3, l4, l5, .val (.int v), l7, l8, l9, l10, l11, l12, l13, l14, l15, l16, l17, l18, l19, l20, l21, l22] st H Q = M38 440 [l0, l1, l2, l3, l4, l5, .val (.int v), l7, l8, l9, l10, l11, l12, l13, l14, l15, l16, l17, l18, l19, l20, l21, l22] (.int v :: st) H Q := w_x at_438 rfl
theorem m38_440 (a0 : Int64) (a1 : Int32) (a2 : Int32) : M38 440 ls [.int a2, .int a1, .long a0] H Q = M36 0 [.val (.long a0), .second, .val (.int a1), .val (.int a2), .unset, .unset] [] H (fun v H1 => M38 443 ls (v.toList ++ []) H1 Q) := w_stat (as := [.int a2, .int a1, .long a0]) (rest := []) at_440 cr38_67 rfl (Nat.le_of_ble_eq_true rfl) (by show 4 ≤ 6; omega) rfl
theorem m38_443 : M38 443 [l0, l1, l2, l3, .val (.long J2), .second, l6, l7, l8, l9, l10, l11, l12, l13, l14, l15, l16, l17, l18, l19, l20, l21, l22] (.long J1 :: st) H Q = M38 445 [l0, l1, l2, l3, .val (.long J1), .second, l6, l7, l8, l9, l10, l11, l12, l13, l14, l15, l16, l17, l18, l19, l20, l21, l22] st H Q := w_x at_443 rfl
theorem m38_445 : M38 445 ls st H Q = M38 461 ls st H Q := w_x at_445 rfl
theorem m38_448 : M38 448 [l0, .val (.ref r), l2, l3, l4, l5, l6, l7, l8, l9, l10, l11, l12, l13, l14, l15, l16, l17, l18, l19, l20, l21, l22] st H Q = M38 449 [l0, .val (.ref r), l2, l3, l4, l5, l6, l7, l8, l9, l10, l11, l12, l13, l14, l15, l16, l17, l18, l19, l20, l21, l22] (.ref r :: st) H Q := w_x at_448 rfl
theorem m38_449 : M38 449 [l0, l1, l2, l3, l4, l5, l6, l7, l8, l9, l10, l11, l12, l13, .val (.int v), l15, l16, l17, l18, l19, l20, l21, l22] st H Q = M38 451 [l0, l1, l2, l3, l4, l5, l6, l7, l8, l9, l10, l11, l12, l13, .val (.int v), l15, l16, l17, l18, l19, l20, l21, l22] (.int v :: st) H Q := w_x at_449 rfl
theorem m38_451 : M38 451 ls st H Q = M38 454 ls (.int 841 :: st) H Q := w_con at_451 rfl (by decide)
theorem m38_454 (a0 : Int32) (a1 : Int32) (u0 : Nat) : M38 454 ls [.int a1, .int a0, .ref u0] H Q = M34 0 [.val (.int a0), .val (.int a1), .unset] [] H (fun v H1 => M38 457 ls (v.toList ++ [.ref u0]) H1 Q) := w_stat (as := [.int a1, .int a0]) (rest := [.ref u0]) at_454 cr38_19 rfl (Nat.le_of_ble_eq_true rfl) (by show 2 ≤ 3; omega) rfl
theorem cr38_71 : vR tables_1 dn y38 71 = some (false, y23, prog_1_method_24_code, 4, (some .int), 1, 10) := vR_of (cR_of (by decide +kernel) rc_23 dn_23 dn_38 (sig := ⟨[.int], some .int⟩) (by decide +kernel) (by decide +kernel) rfl rfl) (by decide +kernel) (by decide +kernel) (by decide +kernel)
theorem m38_457 (a0 : Int32) : M38 457 ls [.int a0, .ref (b + 1)] (put (b + 1) pre s A post) Q = M23 0 [.val (.ref (b + 1)), .val (.int a0), .unset, .unset] [] (put (b + 1) pre s A post) (fun v H1 => M38 460 ls (v.toList ++ []) H1 Q) := w_virt (as := [.int a0]) (rest := []) (a := (b + 1)) at_457 cr38_71 put_o rfl rfl (Nat.le_of_ble_eq_true rfl) (by show 2 ≤ 4; omega) rfl
theorem m38_460 : M38 460 ls ((.int v) :: st) H Q = M38 461 ls st H Q := w_x at_460 rfl
theorem m38_461 : M38 461 [l0, l1, l2, l3, l4, l5, l6, l7, .val (.int v), l9, l10, l11, l12, l13, l14, l15, l16, l17, l18, l19, l20, l21, l22] st H Q = M38 464 [l0, l1, l2, l3, l4, l5, l6, l7, .val (.int (v + 1)), l9, l10, l11, l12, l13, l14, l15, l16, l17, l18, l19, l20, l21, l22] st H Q := w_iinc at_461 rfl (by decide) rfl
theorem m38_464 : M38 464 ls st H Q = M38 35 ls st H Q := w_x at_464 rfl
theorem m38_467 : M38 467 ls st H Q = M38 468 ls (.int 1 :: st) H Q := w_con at_467 rfl (by decide)
theorem m38_468 : M38 468 ls (.int z :: st) H Q = Q (some (.int (nar .boolean z))) H := w_iretN at_468 rfl (by simp)
theorem pf0_7 : pfR tables_1 y0.cls y0.name 7 = some ("ResponseTimeGate", 0, .array .int) := by decide +kernel
theorem m0_4a (hH : H.length = b) (hk : 1 ≤ b) {vs : List Value} {r : AHeap} (hj : 0 < vs.length) : M0 4 (.val (.ref b) :: [l1, l2, l3]) [] (H ++ (.object "ResponseTimeGate", vs) :: r) Q = M0 12 (.val (.ref b) :: [l1, l2, l3]) [] (H ++ (.object "ResponseTimeGate", vs.set 0 (.ref (b + (r.length + 1)))) :: (r ++ [(.array .int, List.replicate 9 (.int 0))])) Q := w_iarr (n := 9) rfl hH hk (show decode kb0 4 = .ok (.aload_n 0, 1) from by decide +kernel) rfl (show decode kb0 5 = .ok (.bipush 9, 2) from by decide +kernel) (fun _ => rfl) (by decide) (show decode kb0 7 = .ok (.newarray .int, 2) from by decide +kernel) rfl (by decide +kernel) (by decide) (by decide) rfl (show decode kb0 9 = .ok (.putfield 7, 3) from by decide +kernel) pf0_7 hj
theorem pf0_13 : pfR tables_1 y0.cls y0.name 13 = some ("ResponseTimeGate", 1, .array .int) := by decide +kernel
theorem m0_12a (hH : H.length = b) (hk : 1 ≤ b) {vs : List Value} {r : AHeap} (hj : 1 < vs.length) : M0 12 (.val (.ref b) :: [l1, l2, l3]) [] (H ++ (.object "ResponseTimeGate", vs) :: r) Q = M0 20 (.val (.ref b) :: [l1, l2, l3]) [] (H ++ (.object "ResponseTimeGate", vs.set 1 (.ref (b + (r.length + 1)))) :: (r ++ [(.array .int, List.replicate 9 (.int 0))])) Q := w_iarr (n := 9) rfl hH hk (show decode kb0 12 = .ok (.aload_n 0, 1) from by decide +kernel) rfl (show decode kb0 13 = .ok (.bipush 9, 2) from by decide +kernel) (fun _ => rfl) (by decide) (show decode kb0 15 = .ok (.newarray .int, 2) from by decide +kernel) rfl (by decide +kernel) (by decide) (by decide) rfl (show decode kb0 17 = .ok (.putfield 13, 3) from by decide +kernel) pf0_13 hj
theorem pf0_16 : pfR tables_1 y0.cls y0.name 16 = some ("ResponseTimeGate", 2, .array .int) := by decide +kernel
theorem m0_20a (hH : H.length = b) (hk : 1 ≤ b) {vs : List Value} {r : AHeap} (hj : 2 < vs.length) : M0 20 (.val (.ref b) :: [l1, l2, l3]) [] (H ++ (.object "ResponseTimeGate", vs) :: r) Q = M0 28 (.val (.ref b) :: [l1, l2, l3]) [] (H ++ (.object "ResponseTimeGate", vs.set 2 (.ref (b + (r.length + 1)))) :: (r ++ [(.array .int, List.replicate 9 (.int 0))])) Q := w_iarr (n := 9) rfl hH hk (show decode kb0 20 = .ok (.aload_n 0, 1) from by decide +kernel) rfl (show decode kb0 21 = .ok (.bipush 9, 2) from by decide +kernel) (fun _ => rfl) (by decide) (show decode kb0 23 = .ok (.newarray .int, 2) from by decide +kernel) rfl (by decide +kernel) (by decide) (by decide) rfl (show decode kb0 25 = .ok (.putfield 16, 3) from by decide +kernel) pf0_16 hj
theorem pf0_19 : pfR tables_1 y0.cls y0.name 19 = some ("ResponseTimeGate", 3, .array .int) := by decide +kernel
theorem m0_28a (hH : H.length = b) (hk : 1 ≤ b) {vs : List Value} {r : AHeap} (hj : 3 < vs.length) : M0 28 (.val (.ref b) :: [l1, l2, l3]) [] (H ++ (.object "ResponseTimeGate", vs) :: r) Q = M0 36 (.val (.ref b) :: [l1, l2, l3]) [] (H ++ (.object "ResponseTimeGate", vs.set 3 (.ref (b + (r.length + 1)))) :: (r ++ [(.array .int, List.replicate 9 (.int 0))])) Q := w_iarr (n := 9) rfl hH hk (show decode kb0 28 = .ok (.aload_n 0, 1) from by decide +kernel) rfl (show decode kb0 29 = .ok (.bipush 9, 2) from by decide +kernel) (fun _ => rfl) (by decide) (show decode kb0 31 = .ok (.newarray .int, 2) from by decide +kernel) rfl (by decide +kernel) (by decide) (by decide) rfl (show decode kb0 33 = .ok (.putfield 19, 3) from by decide +kernel) pf0_19 hj
theorem pf0_22 : pfR tables_1 y0.cls y0.name 22 = some ("ResponseTimeGate", 4, .array .int) := by decide +kernel
theorem m0_36a (hH : H.length = b) (hk : 1 ≤ b) {vs : List Value} {r : AHeap} (hj : 4 < vs.length) : M0 36 (.val (.ref b) :: [l1, l2, l3]) [] (H ++ (.object "ResponseTimeGate", vs) :: r) Q = M0 44 (.val (.ref b) :: [l1, l2, l3]) [] (H ++ (.object "ResponseTimeGate", vs.set 4 (.ref (b + (r.length + 1)))) :: (r ++ [(.array .int, List.replicate 36 (.int 0))])) Q := w_iarr (n := 36) rfl hH hk (show decode kb0 36 = .ok (.aload_n 0, 1) from by decide +kernel) rfl (show decode kb0 37 = .ok (.bipush 36, 2) from by decide +kernel) (fun _ => rfl) (by decide) (show decode kb0 39 = .ok (.newarray .int, 2) from by decide +kernel) rfl (by decide +kernel) (by decide) (by decide) rfl (show decode kb0 41 = .ok (.putfield 22, 3) from by decide +kernel) pf0_22 hj
theorem pf0_25 : pfR tables_1 y0.cls y0.name 25 = some ("ResponseTimeGate", 5, .array .int) := by decide +kernel
theorem m0_44a (hH : H.length = b) (hk : 1 ≤ b) {vs : List Value} {r : AHeap} (hj : 5 < vs.length) : M0 44 (.val (.ref b) :: [l1, l2, l3]) [] (H ++ (.object "ResponseTimeGate", vs) :: r) Q = M0 52 (.val (.ref b) :: [l1, l2, l3]) [] (H ++ (.object "ResponseTimeGate", vs.set 5 (.ref (b + (r.length + 1)))) :: (r ++ [(.array .int, List.replicate 36 (.int 0))])) Q := w_iarr (n := 36) rfl hH hk (show decode kb0 44 = .ok (.aload_n 0, 1) from by decide +kernel) rfl (show decode kb0 45 = .ok (.bipush 36, 2) from by decide +kernel) (fun _ => rfl) (by decide) (show decode kb0 47 = .ok (.newarray .int, 2) from by decide +kernel) rfl (by decide +kernel) (by decide) (by decide) rfl (show decode kb0 49 = .ok (.putfield 25, 3) from by decide +kernel) pf0_25 hj
theorem pf0_28 : pfR tables_1 y0.cls y0.name 28 = some ("ResponseTimeGate", 6, .array .int) := by decide +kernel
theorem m0_52a (hH : H.length = b) (hk : 1 ≤ b) {vs : List Value} {r : AHeap} (hj : 6 < vs.length) : M0 52 (.val (.ref b) :: [l1, l2, l3]) [] (H ++ (.object "ResponseTimeGate", vs) :: r) Q = M0 60 (.val (.ref b) :: [l1, l2, l3]) [] (H ++ (.object "ResponseTimeGate", vs.set 6 (.ref (b + (r.length + 1)))) :: (r ++ [(.array .int, List.replicate 9 (.int 0))])) Q := w_iarr (n := 9) rfl hH hk (show decode kb0 52 = .ok (.aload_n 0, 1) from by decide +kernel) rfl (show decode kb0 53 = .ok (.bipush 9, 2) from by decide +kernel) (fun _ => rfl) (by decide) (show decode kb0 55 = .ok (.newarray .int, 2) from by decide +kernel) rfl (by decide +kernel) (by decide) (by decide) rfl (show decode kb0 57 = .ok (.putfield 28, 3) from by decide +kernel) pf0_28 hj
theorem pf0_31 : pfR tables_1 y0.cls y0.name 31 = some ("ResponseTimeGate", 7, .array .int) := by decide +kernel
theorem m0_60a (hH : H.length = b) (hk : 1 ≤ b) {vs : List Value} {r : AHeap} (hj : 7 < vs.length) : M0 60 (.val (.ref b) :: [l1, l2, l3]) [] (H ++ (.object "ResponseTimeGate", vs) :: r) Q = M0 68 (.val (.ref b) :: [l1, l2, l3]) [] (H ++ (.object "ResponseTimeGate", vs.set 7 (.ref (b + (r.length + 1)))) :: (r ++ [(.array .int, List.replicate 9 (.int 0))])) Q := w_iarr (n := 9) rfl hH hk (show decode kb0 60 = .ok (.aload_n 0, 1) from by decide +kernel) rfl (show decode kb0 61 = .ok (.bipush 9, 2) from by decide +kernel) (fun _ => rfl) (by decide) (show decode kb0 63 = .ok (.newarray .int, 2) from by decide +kernel) rfl (by decide +kernel) (by decide) (by decide) rfl (show decode kb0 65 = .ok (.putfield 31, 3) from by decide +kernel) pf0_31 hj
theorem pf0_34 : pfR tables_1 y0.cls y0.name 34 = some ("ResponseTimeGate", 8, .array .int) := by decide +kernel
theorem m0_68a (hH : H.length = b) (hk : 1 ≤ b) {vs : List Value} {r : AHeap} (hj : 8 < vs.length) : M0 68 (.val (.ref b) :: [l1, l2, l3]) [] (H ++ (.object "ResponseTimeGate", vs) :: r) Q = M0 75 (.val (.ref b) :: [l1, l2, l3]) [] (H ++ (.object "ResponseTimeGate", vs.set 8 (.ref (b + (r.length + 1)))) :: (r ++ [(.array .int, List.replicate 4 (.int 0))])) Q := w_iarr (n := 4) rfl hH hk (show decode kb0 68 = .ok (.aload_n 0, 1) from by decide +kernel) rfl (show decode kb0 69 = .ok (.iconst 4, 1) from by decide +kernel) (fun _ => rfl) (by decide) (show decode kb0 70 = .ok (.newarray .int, 2) from by decide +kernel) rfl (by decide +kernel) (by decide) (by decide) rfl (show decode kb0 72 = .ok (.putfield 34, 3) from by decide +kernel) pf0_34 hj
theorem pf0_37 : pfR tables_1 y0.cls y0.name 37 = some ("ResponseTimeGate", 9, .array .int) := by decide +kernel
theorem m0_75a (hH : H.length = b) (hk : 1 ≤ b) {vs : List Value} {r : AHeap} (hj : 9 < vs.length) : M0 75 (.val (.ref b) :: [l1, l2, l3]) [] (H ++ (.object "ResponseTimeGate", vs) :: r) Q = M0 82 (.val (.ref b) :: [l1, l2, l3]) [] (H ++ (.object "ResponseTimeGate", vs.set 9 (.ref (b + (r.length + 1)))) :: (r ++ [(.array .int, List.replicate 4 (.int 0))])) Q := w_iarr (n := 4) rfl hH hk (show decode kb0 75 = .ok (.aload_n 0, 1) from by decide +kernel) rfl (show decode kb0 76 = .ok (.iconst 4, 1) from by decide +kernel) (fun _ => rfl) (by decide) (show decode kb0 77 = .ok (.newarray .int, 2) from by decide +kernel) rfl (by decide +kernel) (by decide) (by decide) rfl (show decode kb0 79 = .ok (.putfield 37, 3) from by decide +kernel) pf0_37 hj
theorem pf0_40 : pfR tables_1 y0.cls y0.name 40 = some ("ResponseTimeGate", 10, .array .int) := by decide +kernel
theorem m0_82a (hH : H.length = b) (hk : 1 ≤ b) {vs : List Value} {r : AHeap} (hj : 10 < vs.length) : M0 82 (.val (.ref b) :: [l1, l2, l3]) [] (H ++ (.object "ResponseTimeGate", vs) :: r) Q = M0 89 (.val (.ref b) :: [l1, l2, l3]) [] (H ++ (.object "ResponseTimeGate", vs.set 10 (.ref (b + (r.length + 1)))) :: (r ++ [(.array .int, List.replicate 4 (.int 0))])) Q := w_iarr (n := 4) rfl hH hk (show decode kb0 82 = .ok (.aload_n 0, 1) from by decide +kernel) rfl (show decode kb0 83 = .ok (.iconst 4, 1) from by decide +kernel) (fun _ => rfl) (by decide) (show decode kb0 84 = .ok (.newarray .int, 2) from by decide +kernel) rfl (by decide +kernel) (by decide) (by decide) rfl (show decode kb0 86 = .ok (.putfield 40, 3) from by decide +kernel) pf0_40 hj
theorem pf0_43 : pfR tables_1 y0.cls y0.name 43 = some ("ResponseTimeGate", 11, .array .int) := by decide +kernel
theorem m0_89a (hH : H.length = b) (hk : 1 ≤ b) {vs : List Value} {r : AHeap} (hj : 11 < vs.length) : M0 89 (.val (.ref b) :: [l1, l2, l3]) [] (H ++ (.object "ResponseTimeGate", vs) :: r) Q = M0 96 (.val (.ref b) :: [l1, l2, l3]) [] (H ++ (.object "ResponseTimeGate", vs.set 11 (.ref (b + (r.length + 1)))) :: (r ++ [(.array .int, List.replicate 4 (.int 0))])) Q := w_iarr (n := 4) rfl hH hk (show decode kb0 89 = .ok (.aload_n 0, 1) from by decide +kernel) rfl (show decode kb0 90 = .ok (.iconst 4, 1) from by decide +kernel) (fun _ => rfl) (by decide) (show decode kb0 91 = .ok (.newarray .int, 2) from by decide +kernel) rfl (by decide +kernel) (by decide) (by decide) rfl (show decode kb0 93 = .ok (.putfield 43, 3) from by decide +kernel) pf0_43 hj
theorem pf0_46 : pfR tables_1 y0.cls y0.name 46 = some ("ResponseTimeGate", 12, .array .int) := by decide +kernel
theorem m0_96a (hH : H.length = b) (hk : 1 ≤ b) {vs : List Value} {r : AHeap} (hj : 12 < vs.length) : M0 96 (.val (.ref b) :: [l1, l2, l3]) [] (H ++ (.object "ResponseTimeGate", vs) :: r) Q = M0 104 (.val (.ref b) :: [l1, l2, l3]) [] (H ++ (.object "ResponseTimeGate", vs.set 12 (.ref (b + (r.length + 1)))) :: (r ++ [(.array .int, List.replicate 9 (.int 0))])) Q := w_iarr (n := 9) rfl hH hk (show decode kb0 96 = .ok (.aload_n 0, 1) from by decide +kernel) rfl (show decode kb0 97 = .ok (.bipush 9, 2) from by decide +kernel) (fun _ => rfl) (by decide) (show decode kb0 99 = .ok (.newarray .int, 2) from by decide +kernel) rfl (by decide +kernel) (by decide) (by decide) rfl (show decode kb0 101 = .ok (.putfield 46, 3) from by decide +kernel) pf0_46 hj
theorem pf0_49 : pfR tables_1 y0.cls y0.name 49 = some ("ResponseTimeGate", 13, .array .int) := by decide +kernel
theorem m0_104a (hH : H.length = b) (hk : 1 ≤ b) {vs : List Value} {r : AHeap} (hj : 13 < vs.length) : M0 104 (.val (.ref b) :: [l1, l2, l3]) [] (H ++ (.object "ResponseTimeGate", vs) :: r) Q = M0 112 (.val (.ref b) :: [l1, l2, l3]) [] (H ++ (.object "ResponseTimeGate", vs.set 13 (.ref (b + (r.length + 1)))) :: (r ++ [(.array .int, List.replicate 9 (.int 0))])) Q := w_iarr (n := 9) rfl hH hk (show decode kb0 104 = .ok (.aload_n 0, 1) from by decide +kernel) rfl (show decode kb0 105 = .ok (.bipush 9, 2) from by decide +kernel) (fun _ => rfl) (by decide) (show decode kb0 107 = .ok (.newarray .int, 2) from by decide +kernel) rfl (by decide +kernel) (by decide) (by decide) rfl (show decode kb0 109 = .ok (.putfield 49, 3) from by decide +kernel) pf0_49 hj
theorem pf0_52 : pfR tables_1 y0.cls y0.name 52 = some ("ResponseTimeGate", 14, .array .boolean) := by decide +kernel
theorem m0_112a (hH : H.length = b) (hk : 1 ≤ b) {vs : List Value} {r : AHeap} (hj : 14 < vs.length) : M0 112 (.val (.ref b) :: [l1, l2, l3]) [] (H ++ (.object "ResponseTimeGate", vs) :: r) Q = M0 120 (.val (.ref b) :: [l1, l2, l3]) [] (H ++ (.object "ResponseTimeGate", vs.set 14 (.ref (b + (r.length + 1)))) :: (r ++ [(.array .boolean, List.replicate 9 (.int 0))])) Q := w_iarr (n := 9) rfl hH hk (show decode kb0 112 = .ok (.aload_n 0, 1) from by decide +kernel) rfl (show decode kb0 113 = .ok (.bipush 9, 2) from by decide +kernel) (fun _ => rfl) (by decide) (show decode kb0 115 = .ok (.newarray .boolean, 2) from by decide +kernel) rfl (by decide +kernel) (by decide) (by decide) rfl (show decode kb0 117 = .ok (.putfield 52, 3) from by decide +kernel) pf0_52 hj
theorem pf0_56 : pfR tables_1 y0.cls y0.name 56 = some ("ResponseTimeGate", 15, .array .int) := by decide +kernel
theorem m0_120a (hH : H.length = b) (hk : 1 ≤ b) {vs : List Value} {r : AHeap} (hj : 15 < vs.length) : M0 120 (.val (.ref b) :: [l1, l2, l3]) [] (H ++ (.object "ResponseTimeGate", vs) :: r) Q = M0 128 (.val (.ref b) :: [l1, l2, l3]) [] (H ++ (.object "ResponseTimeGate", vs.set 15 (.ref (b + (r.length + 1)))) :: (r ++ [(.array .int, List.replicate 9 (.int 0))])) Q := w_iarr (n := 9) rfl hH hk (show decode kb0 120 = .ok (.aload_n 0, 1) from by decide +kernel) rfl (show decode kb0 121 = .ok (.bipush 9, 2) from by decide +kernel) (fun _ => rfl) (by decide) (show decode kb0 123 = .ok (.newarray .int, 2) from by decide +kernel) rfl (by decide +kernel) (by decide) (by decide) rfl (show decode kb0 125 = .ok (.putfield 56, 3) from by decide +kernel) pf0_56 hj
theorem pf0_59 : pfR tables_1 y0.cls y0.name 59 = some ("ResponseTimeGate", 16, .array .int) := by decide +kernel
theorem m0_128a (hH : H.length = b) (hk : 1 ≤ b) {vs : List Value} {r : AHeap} (hj : 16 < vs.length) : M0 128 (.val (.ref b) :: [l1, l2, l3]) [] (H ++ (.object "ResponseTimeGate", vs) :: r) Q = M0 136 (.val (.ref b) :: [l1, l2, l3]) [] (H ++ (.object "ResponseTimeGate", vs.set 16 (.ref (b + (r.length + 1)))) :: (r ++ [(.array .int, List.replicate 9 (.int 0))])) Q := w_iarr (n := 9) rfl hH hk (show decode kb0 128 = .ok (.aload_n 0, 1) from by decide +kernel) rfl (show decode kb0 129 = .ok (.bipush 9, 2) from by decide +kernel) (fun _ => rfl) (by decide) (show decode kb0 131 = .ok (.newarray .int, 2) from by decide +kernel) rfl (by decide +kernel) (by decide) (by decide) rfl (show decode kb0 133 = .ok (.putfield 59, 3) from by decide +kernel) pf0_59 hj
theorem pf0_62 : pfR tables_1 y0.cls y0.name 62 = some ("ResponseTimeGate", 17, .array .int) := by decide +kernel
theorem m0_136a (hH : H.length = b) (hk : 1 ≤ b) {vs : List Value} {r : AHeap} (hj : 17 < vs.length) : M0 136 (.val (.ref b) :: [l1, l2, l3]) [] (H ++ (.object "ResponseTimeGate", vs) :: r) Q = M0 144 (.val (.ref b) :: [l1, l2, l3]) [] (H ++ (.object "ResponseTimeGate", vs.set 17 (.ref (b + (r.length + 1)))) :: (r ++ [(.array .int, List.replicate 9 (.int 0))])) Q := w_iarr (n := 9) rfl hH hk (show decode kb0 136 = .ok (.aload_n 0, 1) from by decide +kernel) rfl (show decode kb0 137 = .ok (.bipush 9, 2) from by decide +kernel) (fun _ => rfl) (by decide) (show decode kb0 139 = .ok (.newarray .int, 2) from by decide +kernel) rfl (by decide +kernel) (by decide) (by decide) rfl (show decode kb0 141 = .ok (.putfield 62, 3) from by decide +kernel) pf0_62 hj
theorem pf0_65 : pfR tables_1 y0.cls y0.name 65 = some ("ResponseTimeGate", 18, .array .int) := by decide +kernel
theorem m0_144a (hH : H.length = b) (hk : 1 ≤ b) {vs : List Value} {r : AHeap} (hj : 18 < vs.length) : M0 144 (.val (.ref b) :: [l1, l2, l3]) [] (H ++ (.object "ResponseTimeGate", vs) :: r) Q = M0 152 (.val (.ref b) :: [l1, l2, l3]) [] (H ++ (.object "ResponseTimeGate", vs.set 18 (.ref (b + (r.length + 1)))) :: (r ++ [(.array .int, List.replicate 9 (.int 0))])) Q := w_iarr (n := 9) rfl hH hk (show decode kb0 144 = .ok (.aload_n 0, 1) from by decide +kernel) rfl (show decode kb0 145 = .ok (.bipush 9, 2) from by decide +kernel) (fun _ => rfl) (by decide) (show decode kb0 147 = .ok (.newarray .int, 2) from by decide +kernel) rfl (by decide +kernel) (by decide) (by decide) rfl (show decode kb0 149 = .ok (.putfield 65, 3) from by decide +kernel) pf0_65 hj
theorem pf0_68 : pfR tables_1 y0.cls y0.name 68 = some ("ResponseTimeGate", 19, .array .int) := by decide +kernel
theorem m0_152a (hH : H.length = b) (hk : 1 ≤ b) {vs : List Value} {r : AHeap} (hj : 19 < vs.length) : M0 152 (.val (.ref b) :: [l1, l2, l3]) [] (H ++ (.object "ResponseTimeGate", vs) :: r) Q = M0 160 (.val (.ref b) :: [l1, l2, l3]) [] (H ++ (.object "ResponseTimeGate", vs.set 19 (.ref (b + (r.length + 1)))) :: (r ++ [(.array .int, List.replicate 9 (.int 0))])) Q := w_iarr (n := 9) rfl hH hk (show decode kb0 152 = .ok (.aload_n 0, 1) from by decide +kernel) rfl (show decode kb0 153 = .ok (.bipush 9, 2) from by decide +kernel) (fun _ => rfl) (by decide) (show decode kb0 155 = .ok (.newarray .int, 2) from by decide +kernel) rfl (by decide +kernel) (by decide) (by decide) rfl (show decode kb0 157 = .ok (.putfield 68, 3) from by decide +kernel) pf0_68 hj
def A0 : Nat → List Int32
  | 0 => List.replicate 9 0
  | 1 => List.replicate 9 0
  | 2 => List.replicate 9 0
  | 3 => List.replicate 9 0
  | 4 => List.replicate 36 0
  | 5 => List.replicate 36 0
  | 6 => List.replicate 9 0
  | 7 => List.replicate 9 0
  | 8 => List.replicate 4 0
  | 9 => List.replicate 4 0
  | 10 => List.replicate 4 0
  | 11 => List.replicate 4 0
  | 12 => List.replicate 9 0
  | 13 => List.replicate 9 0
  | 14 => List.replicate 9 0
  | 15 => List.replicate 9 0
  | 16 => List.replicate 9 0
  | 17 => List.replicate 9 0
  | 18 => List.replicate 9 0
  | 19 => List.replicate 9 0
  | _ => []
theorem A0l_0 : (A0 0).length = 9 := List.length_replicate
theorem A0g_0 (j : Int32) : getA (A0 0) j = 0 := getA_rep _ _
theorem A0l_1 : (A0 1).length = 9 := List.length_replicate
theorem A0g_1 (j : Int32) : getA (A0 1) j = 0 := getA_rep _ _
theorem A0l_2 : (A0 2).length = 9 := List.length_replicate
theorem A0g_2 (j : Int32) : getA (A0 2) j = 0 := getA_rep _ _
theorem A0l_3 : (A0 3).length = 9 := List.length_replicate
theorem A0g_3 (j : Int32) : getA (A0 3) j = 0 := getA_rep _ _
theorem A0l_4 : (A0 4).length = 36 := List.length_replicate
theorem A0g_4 (j : Int32) : getA (A0 4) j = 0 := getA_rep _ _
theorem A0l_5 : (A0 5).length = 36 := List.length_replicate
theorem A0g_5 (j : Int32) : getA (A0 5) j = 0 := getA_rep _ _
theorem A0l_6 : (A0 6).length = 9 := List.length_replicate
theorem A0g_6 (j : Int32) : getA (A0 6) j = 0 := getA_rep _ _
theorem A0l_7 : (A0 7).length = 9 := List.length_replicate
theorem A0g_7 (j : Int32) : getA (A0 7) j = 0 := getA_rep _ _
theorem A0l_8 : (A0 8).length = 4 := List.length_replicate
theorem A0g_8 (j : Int32) : getA (A0 8) j = 0 := getA_rep _ _
theorem A0l_9 : (A0 9).length = 4 := List.length_replicate
theorem A0g_9 (j : Int32) : getA (A0 9) j = 0 := getA_rep _ _
theorem A0l_10 : (A0 10).length = 4 := List.length_replicate
theorem A0g_10 (j : Int32) : getA (A0 10) j = 0 := getA_rep _ _
theorem A0l_11 : (A0 11).length = 4 := List.length_replicate
theorem A0g_11 (j : Int32) : getA (A0 11) j = 0 := getA_rep _ _
theorem A0l_12 : (A0 12).length = 9 := List.length_replicate
theorem A0g_12 (j : Int32) : getA (A0 12) j = 0 := getA_rep _ _
theorem A0l_13 : (A0 13).length = 9 := List.length_replicate
theorem A0g_13 (j : Int32) : getA (A0 13) j = 0 := getA_rep _ _
theorem A0l_14 : (A0 14).length = 9 := List.length_replicate
theorem A0g_14 (j : Int32) : getA (A0 14) j = 0 := getA_rep _ _
theorem A0l_15 : (A0 15).length = 9 := List.length_replicate
theorem A0g_15 (j : Int32) : getA (A0 15) j = 0 := getA_rep _ _
theorem A0l_16 : (A0 16).length = 9 := List.length_replicate
theorem A0g_16 (j : Int32) : getA (A0 16) j = 0 := getA_rep _ _
theorem A0l_17 : (A0 17).length = 9 := List.length_replicate
theorem A0g_17 (j : Int32) : getA (A0 17) j = 0 := getA_rep _ _
theorem A0l_18 : (A0 18).length = 9 := List.length_replicate
theorem A0g_18 (j : Int32) : getA (A0 18) j = 0 := getA_rep _ _
theorem A0l_19 : (A0 19).length = 9 := List.length_replicate
theorem A0g_19 (j : Int32) : getA (A0 19) j = 0 := getA_rep _ _
theorem own_ctor0 (hb : pre.length = b) (hk : 1 ≤ b) : M0 0 (.val (.ref b) :: [l1, l2, l3]) [] (pre ++ [(.object "ResponseTimeGate", D0)]) Q = M0 160 (.val (.ref b) :: [l1, l2, l3]) [] (put b pre (fun _ => 0) A0 []) Q := by
  rw [m0_0, m0_1, m0_4a hb hk (by (repeat rw [List.length_set]); exact Nat.le_of_ble_eq_true rfl), m0_12a hb hk (by (repeat rw [List.length_set]); exact Nat.le_of_ble_eq_true rfl), m0_20a hb hk (by (repeat rw [List.length_set]); exact Nat.le_of_ble_eq_true rfl), m0_28a hb hk (by (repeat rw [List.length_set]); exact Nat.le_of_ble_eq_true rfl), m0_36a hb hk (by (repeat rw [List.length_set]); exact Nat.le_of_ble_eq_true rfl), m0_44a hb hk (by (repeat rw [List.length_set]); exact Nat.le_of_ble_eq_true rfl), m0_52a hb hk (by (repeat rw [List.length_set]); exact Nat.le_of_ble_eq_true rfl), m0_60a hb hk (by (repeat rw [List.length_set]); exact Nat.le_of_ble_eq_true rfl), m0_68a hb hk (by (repeat rw [List.length_set]); exact Nat.le_of_ble_eq_true rfl), m0_75a hb hk (by (repeat rw [List.length_set]); exact Nat.le_of_ble_eq_true rfl), m0_82a hb hk (by (repeat rw [List.length_set]); exact Nat.le_of_ble_eq_true rfl), m0_89a hb hk (by (repeat rw [List.length_set]); exact Nat.le_of_ble_eq_true rfl), m0_96a hb hk (by (repeat rw [List.length_set]); exact Nat.le_of_ble_eq_true rfl), m0_104a hb hk (by (repeat rw [List.length_set]); exact Nat.le_of_ble_eq_true rfl), m0_112a hb hk (by (repeat rw [List.length_set]); exact Nat.le_of_ble_eq_true rfl), m0_120a hb hk (by (repeat rw [List.length_set]); exact Nat.le_of_ble_eq_true rfl), m0_128a hb hk (by (repeat rw [List.length_set]); exact Nat.le_of_ble_eq_true rfl), m0_136a hb hk (by (repeat rw [List.length_set]); exact Nat.le_of_ble_eq_true rfl), m0_144a hb hk (by (repeat rw [List.length_set]); exact Nat.le_of_ble_eq_true rfl), m0_152a hb hk (by (repeat rw [List.length_set]); exact Nat.le_of_ble_eq_true rfl)]
  simp only [put, pad_eq hb, objv, D0, A0, List.map_replicate, List.set_cons_succ, List.set_cons_zero, List.nil_append, List.cons_append, List.length_cons, List.length_nil, List.append_nil]
end Rules
/- methods: 0=ResponseTimeGate.<init>(I)V; 1=ResponseTimeGate.resetSim()V; 2=ResponseTimeGate.misses()I; 3=ResponseTimeGate.taskCount()I; 4=ResponseTimeGate.hyperperiod()I; 5=ResponseTimeGate.beginTask(IIII)I; 6=ResponseTimeGate.priorityTaken(I)Z; 7=ResponseTimeGate.addSection(III)I; 8=ResponseTimeGate.overlapsStaged(II)Z; 9=ResponseTimeGate.commitTask()I; 10=ResponseTimeGate.lcmWith(II)I; 11=ResponseTimeGate.gcd(II)I; 12=ResponseTimeGate.placeStaged(I)V; 13=ResponseTimeGate.analyze(I)I; 14=ResponseTimeGate.computeCeilings(I)V; 15=ResponseTimeGate.blockingOf(II)I; 16=ResponseTimeGate.responseOf(III)I; 17=ResponseTimeGate.interference(III)I; 18=ResponseTimeGate.adoptResults(I)V; 19=ResponseTimeGate.maxResponse(I)I; 20=ResponseTimeGate.admitted(I)Z; 21=ResponseTimeGate.bound(I)I; 22=ResponseTimeGate.time()I; 23=ResponseTimeGate.run(I)I; 24=ResponseTimeGate.tick()V; 25=ResponseTimeGate.releaseJobs()V; 26=ResponseTimeGate.pickRunning()I; 27=ResponseTimeGate.activePriority(I)I; 28=ResponseTimeGate.executeUnit(I)V; 29=ResponseTimeGate.takeResourceIfStart(I)V; 30=ResponseTimeGate.checkMisses()V; 31=ResponseTimeGate.completeJob(I)V; 32=ResponseTimeGate.jobsDone(I)I; 33=ResponseTimeGateOwnLaw.cell([II)I; 34=ResponseTimeGateOwnLaw.mod(II)I; 35=ResponseTimeGateOwnLaw.pick(I)I; 36=ResponseTimeGateOwnLaw.setP(JII)J; 37=ResponseTimeGateOwnLaw.getP(JI)I; 38=ResponseTimeGateOwnLaw.law([I)Z -/
def nI (n : Nat) : Int32 := Nat.toInt32 n
theorem nI_int {n : Nat} (h : n < 2147483648) : (nI n).toInt = n := len_toInt h
theorem nI_cl {n : Nat} (h : n < 2147483648) : (nI n).toNatClampNeg = n := by rw [toNat_eq, nI_int h]; rfl
theorem nI_add (a c : Nat) : nI a + nI c = nI (a + c) := (Int32.ofNat_add a c).symm
theorem nI_1 (a : Nat) : nI a + 1 = nI (a + 1) := nI_add a 1
theorem nI_sub {a c : Nat} (h : c ≤ a) : nI a - nI c = nI (a - c) := by
  have e : nI a = nI (a - c) + nI c := by rw [nI_add, Nat.sub_add_cancel h]
  rw [e, Int32.add_sub_cancel]
theorem nI_32 (v : Nat) : nI v * 32 = nI (v * 32) := (Int32.ofNat_mul v 32).symm
theorem nI_lt {a c : Nat} (ha : a < 2147483648) (hc : c < 2147483648) : nI a < nI c ↔ a < c := by
  rw [lt_i, nI_int ha, nI_int hc]
  omega
theorem nI_nn {a : Nat} (ha : a < 2147483648) : ¬ nI a < 0 := by
  rw [nn_i, nI_int ha]
  omega
theorem nI_inj {a c : Nat} (ha : a < 2147483648) (hc : c < 2147483648) : nI a = nI c ↔ a = c := by
  constructor
  · intro h
    have := congrArg Int32.toInt h
    rw [nI_int ha, nI_int hc] at this
    omega
  · intro h; rw [h]
theorem nI_ne {a c : Nat} (ha : a < 2147483648) (hc : c < 2147483648) (h : a ≠ c) : ¬ nI a = nI c := fun e => h ((nI_inj ha hc).mp e)
theorem nI_in {l : List Int32} {i : Nat} (h : i < l.length) (hl : l.length ≤ 4096) : inB (nI i) l := by
  rw [inB_iff, nI_int (by omega)]
  omega
theorem lT {a c : Nat} (h : a < c) (hc : c < 2147483648) : (nI a < nI c) = True := eq_true ((nI_lt (by omega) hc).mpr h)
theorem lF {a c : Nat} (h : c ≤ a) (ha : a < 2147483648) : (nI a < nI c) = False := eq_false (fun q => by rw [nI_lt ha (by omega)] at q; omega)
theorem cf_set {l : List Int32} {i j : Nat} {x : Int32} (hj : j < l.length) (hl : l.length ≤ 4096) (hi : i < 4096) : getA (setA l (nI j) x) (nI i) = if i = j then x else getA l (nI i) := by
  rw [getA_set2, nI_cl (by omega), nI_cl (by omega)]
  simp [hj]
def CF (l : List Int32) (f : Nat → Int32) (k : Nat) : Prop := ∀ i, i < k → getA l (nI i) = f i
def CN (l : List Int32) (f : Nat → Nat) (k : Nat) : Prop := ∀ i, i < k → getA l (nI i) = nI (f i)
section Cells
variable {l : List Int32} {f : Nat → Int32} {g : Nat → Nat} {k j w : Nat} {x : Int32}
theorem CF_set (h : CF l f k) (hj : j < l.length) (hl : l.length ≤ 4096) (hk : k ≤ 4096) : CF (setA l (nI j) x) (ou f j x) k := by
  intro i hi
  rw [cf_set hj hl (by omega), ou_a]
  split
  · rfl
  · exact h i hi
theorem CF_push (h : CF l f k) (hk : k < l.length) (hl : l.length ≤ 4096) : CF (setA l (nI k) x) (ou f k x) (k + 1) := by
  intro i hi
  rw [cf_set hk hl (by omega), ou_a]
  split
  · rfl
  · exact h i (by omega)
theorem CN_set (h : CN l g k) (hj : j < l.length) (hl : l.length ≤ 4096) (hk : k ≤ 4096) : CN (setA l (nI j) (nI w)) (ou g j w) k := by
  intro i hi
  rw [cf_set hj hl (by omega), ou_a]
  split
  · rfl
  · exact h i hi
theorem CN_push (h : CN l g k) (hk : k < l.length) (hl : l.length ≤ 4096) : CN (setA l (nI k) (nI w)) (ou g k w) (k + 1) := by
  intro i hi
  rw [cf_set hk hl (by omega), ou_a]
  split
  · rfl
  · exact h i (by omega)
end Cells
theorem okS_n (n : Nat) : okS (.val (.int (nI n))) := okS_i _
def LN (A : Nat → List Int32) : Prop := ∀ i, (A i).length = (A0 i).length
theorem LN_ou {A : Nat → List Int32} {j : Nat} {l : List Int32} (h : LN A) (hl : l.length = (A0 j).length) : LN (ou A j l) := len_ou h hl
theorem LN_set {A : Nat → List Int32} {j : Nat} {x v : Int32} (h : LN A) : LN (ou A j (setA (A j) x v)) := LN_ou h (by rw [setA_len]; exact h _)
theorem ln0 {A : Nat → List Int32} (h : LN A) : (A 0).length = 9 := (h 0).trans A0l_0
theorem in0 {A : Nat → List Int32} {i : Nat} (h : LN A) (hi : i < 9) : inB (nI i) (A 0) := nI_in (by rw [ln0 h]; exact hi) (by rw [ln0 h]; decide)
theorem ln1 {A : Nat → List Int32} (h : LN A) : (A 1).length = 9 := (h 1).trans A0l_1
theorem in1 {A : Nat → List Int32} {i : Nat} (h : LN A) (hi : i < 9) : inB (nI i) (A 1) := nI_in (by rw [ln1 h]; exact hi) (by rw [ln1 h]; decide)
theorem ln2 {A : Nat → List Int32} (h : LN A) : (A 2).length = 9 := (h 2).trans A0l_2
theorem in2 {A : Nat → List Int32} {i : Nat} (h : LN A) (hi : i < 9) : inB (nI i) (A 2) := nI_in (by rw [ln2 h]; exact hi) (by rw [ln2 h]; decide)
theorem ln3 {A : Nat → List Int32} (h : LN A) : (A 3).length = 9 := (h 3).trans A0l_3
theorem in3 {A : Nat → List Int32} {i : Nat} (h : LN A) (hi : i < 9) : inB (nI i) (A 3) := nI_in (by rw [ln3 h]; exact hi) (by rw [ln3 h]; decide)
theorem ln4 {A : Nat → List Int32} (h : LN A) : (A 4).length = 36 := (h 4).trans A0l_4
theorem in4 {A : Nat → List Int32} {i : Nat} (h : LN A) (hi : i < 36) : inB (nI i) (A 4) := nI_in (by rw [ln4 h]; exact hi) (by rw [ln4 h]; decide)
theorem ln5 {A : Nat → List Int32} (h : LN A) : (A 5).length = 36 := (h 5).trans A0l_5
theorem in5 {A : Nat → List Int32} {i : Nat} (h : LN A) (hi : i < 36) : inB (nI i) (A 5) := nI_in (by rw [ln5 h]; exact hi) (by rw [ln5 h]; decide)
theorem ln6 {A : Nat → List Int32} (h : LN A) : (A 6).length = 9 := (h 6).trans A0l_6
theorem in6 {A : Nat → List Int32} {i : Nat} (h : LN A) (hi : i < 9) : inB (nI i) (A 6) := nI_in (by rw [ln6 h]; exact hi) (by rw [ln6 h]; decide)
theorem ln7 {A : Nat → List Int32} (h : LN A) : (A 7).length = 9 := (h 7).trans A0l_7
theorem in7 {A : Nat → List Int32} {i : Nat} (h : LN A) (hi : i < 9) : inB (nI i) (A 7) := nI_in (by rw [ln7 h]; exact hi) (by rw [ln7 h]; decide)
theorem ln8 {A : Nat → List Int32} (h : LN A) : (A 8).length = 4 := (h 8).trans A0l_8
theorem in8 {A : Nat → List Int32} {i : Nat} (h : LN A) (hi : i < 4) : inB (nI i) (A 8) := nI_in (by rw [ln8 h]; exact hi) (by rw [ln8 h]; decide)
theorem ln9 {A : Nat → List Int32} (h : LN A) : (A 9).length = 4 := (h 9).trans A0l_9
theorem in9 {A : Nat → List Int32} {i : Nat} (h : LN A) (hi : i < 4) : inB (nI i) (A 9) := nI_in (by rw [ln9 h]; exact hi) (by rw [ln9 h]; decide)
theorem ln10 {A : Nat → List Int32} (h : LN A) : (A 10).length = 4 := (h 10).trans A0l_10
theorem in10 {A : Nat → List Int32} {i : Nat} (h : LN A) (hi : i < 4) : inB (nI i) (A 10) := nI_in (by rw [ln10 h]; exact hi) (by rw [ln10 h]; decide)
theorem ln11 {A : Nat → List Int32} (h : LN A) : (A 11).length = 4 := (h 11).trans A0l_11
theorem in11 {A : Nat → List Int32} {i : Nat} (h : LN A) (hi : i < 4) : inB (nI i) (A 11) := nI_in (by rw [ln11 h]; exact hi) (by rw [ln11 h]; decide)
theorem ln12 {A : Nat → List Int32} (h : LN A) : (A 12).length = 9 := (h 12).trans A0l_12
theorem in12 {A : Nat → List Int32} {i : Nat} (h : LN A) (hi : i < 9) : inB (nI i) (A 12) := nI_in (by rw [ln12 h]; exact hi) (by rw [ln12 h]; decide)
theorem ln13 {A : Nat → List Int32} (h : LN A) : (A 13).length = 9 := (h 13).trans A0l_13
theorem in13 {A : Nat → List Int32} {i : Nat} (h : LN A) (hi : i < 9) : inB (nI i) (A 13) := nI_in (by rw [ln13 h]; exact hi) (by rw [ln13 h]; decide)
theorem ln14 {A : Nat → List Int32} (h : LN A) : (A 14).length = 9 := (h 14).trans A0l_14
theorem in14 {A : Nat → List Int32} {i : Nat} (h : LN A) (hi : i < 9) : inB (nI i) (A 14) := nI_in (by rw [ln14 h]; exact hi) (by rw [ln14 h]; decide)
theorem ln15 {A : Nat → List Int32} (h : LN A) : (A 15).length = 9 := (h 15).trans A0l_15
theorem in15 {A : Nat → List Int32} {i : Nat} (h : LN A) (hi : i < 9) : inB (nI i) (A 15) := nI_in (by rw [ln15 h]; exact hi) (by rw [ln15 h]; decide)
theorem ln16 {A : Nat → List Int32} (h : LN A) : (A 16).length = 9 := (h 16).trans A0l_16
theorem in16 {A : Nat → List Int32} {i : Nat} (h : LN A) (hi : i < 9) : inB (nI i) (A 16) := nI_in (by rw [ln16 h]; exact hi) (by rw [ln16 h]; decide)
theorem ln17 {A : Nat → List Int32} (h : LN A) : (A 17).length = 9 := (h 17).trans A0l_17
theorem in17 {A : Nat → List Int32} {i : Nat} (h : LN A) (hi : i < 9) : inB (nI i) (A 17) := nI_in (by rw [ln17 h]; exact hi) (by rw [ln17 h]; decide)
theorem ln18 {A : Nat → List Int32} (h : LN A) : (A 18).length = 9 := (h 18).trans A0l_18
theorem in18 {A : Nat → List Int32} {i : Nat} (h : LN A) (hi : i < 9) : inB (nI i) (A 18) := nI_in (by rw [ln18 h]; exact hi) (by rw [ln18 h]; decide)
theorem ln19 {A : Nat → List Int32} (h : LN A) : (A 19).length = 9 := (h 19).trans A0l_19
theorem in19 {A : Nat → List Int32} {i : Nat} (h : LN A) (hi : i < 9) : inB (nI i) (A 19) := nI_in (by rw [ln19 h]; exact hi) (by rw [ln19 h]; decide)
/-! response times: a plain model of the ticks -/
def up {α : Type} (f : Nat → α) (i : Nat) (v : α) : Nat → α := fun j => if j = i then v else f j
/-- a sum below c -/
def sg (f : Nat → Int) : Nat → Int
  | 0 => 0
  | k + 1 => sg f k + f k
theorem sg_ext {f g : Nat → Int} : ∀ c, (∀ i, i < c → f i = g i) → sg f c = sg g c := by
  intro c
  induction c with
  | zero => intro _; rfl
  | succ c ih => intro h; rw [sg, sg, ih (fun i hi => h i (by omega)), h c (by omega)]
theorem sg_le {f g : Nat → Int} : ∀ c, (∀ i, i < c → f i ≤ g i) → sg f c ≤ sg g c := by
  intro c
  induction c with
  | zero => intro _; exact Int.le_refl _
  | succ c ih => intro h; rw [sg, sg]; have := ih (fun i hi => h i (by omega)); have := h c (by omega); omega
theorem sg_add (f g : Nat → Int) : ∀ c, sg (fun i => f i + g i) c = sg f c + sg g c := by
  intro c
  induction c with
  | zero => rfl
  | succ c ih => rw [sg, sg, sg, ih]; omega
/-- one place changes by v -/
theorem sg_one {f g : Nat → Int} {k : Nat} {v : Int} : ∀ c, k < c → (∀ i, i < c → i ≠ k → f i = g i) → f k = g k + v → sg f c = sg g c + v := by
  intro c
  induction c with
  | zero => intro h; omega
  | succ c ih =>
    intro h h1 h2
    rw [sg, sg]
    by_cases e : k = c
    · subst e
      rw [sg_ext k (fun i hi => h1 i (by omega) (by omega)), h2]
      omega
    · rw [ih (by omega) (fun i hi => h1 i (by omega)) h2, h1 c (by omega) (fun q => e q.symm)]
      omega
theorem sg_nn {f : Nat → Int} : ∀ c, (∀ i, i < c → 0 ≤ f i) → 0 ≤ sg f c := by
  intro c
  induction c with
  | zero => intro _; exact Int.le_refl _
  | succ c ih => intro h; rw [sg]; have := ih (fun i hi => h i (by omega)); have := h c (by omega); omega
theorem sg_ge {f : Nat → Int} {k : Nat} : ∀ c, k < c → (∀ i, i < c → 0 ≤ f i) → f k ≤ sg f c := by
  intro c
  induction c with
  | zero => intro h; omega
  | succ c ih =>
    intro h h1
    rw [sg]
    by_cases e : k = c
    · subst e; have := sg_nn k (fun i hi => h1 i (by omega)); omega
    · have := ih (by omega) (fun i hi => h1 i (by omega)); have := h1 c (by omega); omega
/-- multiples of T below t -/
def rels (T t : Nat) : Nat := (t + T - 1) / T
theorem rels_0 {T : Nat} (hT : 0 < T) : rels T 0 = 0 := by
  unfold rels
  exact Nat.div_eq_of_lt (by omega)
theorem rels_s {T t : Nat} (hT : 0 < T) : rels T (t + 1) = rels T t + (if t % T = 0 then 1 else 0) := by
  unfold rels
  have hd := Nat.div_add_mod t T
  have hm := Nat.mod_lt t hT
  generalize t / T = q at *
  by_cases z : t % T = 0
  · rw [if_pos z]
    have e : t = T * q := by omega
    have e1 : (t + 1 + T - 1) / T = q + 1 := by
      rw [show t + 1 + T - 1 = T * q + T * 1 by omega, ← Nat.mul_add, Nat.mul_div_cancel_left _ hT]
    have e2 : (t + T - 1) / T = q := by
      rw [show t + T - 1 = (T - 1) + T * q by omega, Nat.add_mul_div_left _ _ hT, Nat.div_eq_of_lt (by omega)]
      omega
    omega
  · rw [if_neg z]
    generalize hr : t % T = r at *
    have e1 : (t + 1 + T - 1) / T = q + 1 := by
      rw [show t + 1 + T - 1 = r + (T * q + T * 1) by omega, ← Nat.mul_add, Nat.add_mul_div_left _ _ hT, Nat.div_eq_of_lt hm]
      omega
    have e2 : (t + T - 1) / T = q + 1 := by
      rw [show t + T - 1 = (r - 1) + (T * q + T * 1) by omega, ← Nat.mul_add, Nat.add_mul_div_left _ _ hT, Nat.div_eq_of_lt (by omega)]
      omega
    omega
/-- releases within a stretch of length x are at most the ceiling of x / T -/
theorem rels_w {T : Nat} (hT : 0 < T) (t0 : Nat) : ∀ x, rels T (t0 + x) ≤ rels T t0 + rels T x := by
  -- by counting: (a + b + T - 1) / T <= (a + T - 1) / T + (b + T - 1) / T
  intro x
  unfold rels
  have h1 := Nat.div_add_mod (t0 + T - 1) T
  have h2 := Nat.div_add_mod (x + T - 1) T
  have h3 := Nat.mod_lt (t0 + T - 1) hT
  have h4 := Nat.mod_lt (x + T - 1) hT
  generalize (t0 + T - 1) / T = q1 at *
  generalize (x + T - 1) / T = q2 at *
  have : t0 + x + T - 1 < T * (q1 + q2 + 1) := by
    rw [Nat.mul_add, Nat.mul_add, Nat.mul_one]
    omega
  have := (Nat.div_lt_iff_lt_mul hT).mpr (by rw [Nat.mul_comm]; exact this)
  omega
/-! the tasks -/
section RT
variable {c : Nat} {T D C p R B : Nat → Nat} {S L : Nat → Nat → Nat} {cl : Nat → Nat}
/-- pend, rel, prog, held (0: none, r + 1: resource r) -/
abbrev SS : Type := (Nat → Bool) × (Nat → Nat) × (Nat → Nat) × (Nat → Nat)
def ap (p cl : Nat → Nat) (s : SS) (i : Nat) : Nat := if s.2.2.2 i = 0 then p i else cl (s.2.2.2 i - 1)
/-- release at time t -/
def rl0 (T : Nat → Nat) (t : Nat) (s : SS) : SS := (fun i => if t % T i = 0 then true else s.1 i, fun i => if t % T i = 0 then t else s.2.1 i, fun i => if t % T i = 0 then 0 else s.2.2.1 i, fun i => if t % T i = 0 then 0 else s.2.2.2 i)
/-- the resource that i takes at its place, or what it holds -/
def tk (S L : Nat → Nat → Nat) (s : SS) (i : Nat) : Nat :=
  if s.2.2.2 i = 0 then (if 0 < L i 0 ∧ S i 0 = s.2.2.1 i then 1 else if 0 < L i 1 ∧ S i 1 = s.2.2.1 i then 2 else if 0 < L i 2 ∧ S i 2 = s.2.2.1 i then 3 else if 0 < L i 3 ∧ S i 3 = s.2.2.1 i then 4 else 0) else s.2.2.2 i
/-- what it holds behind the unit -/
def hd2 (S L : Nat → Nat → Nat) (s : SS) (i : Nat) : Nat := if tk S L s i ≠ 0 ∧ s.2.2.1 i + 1 = S i (tk S L s i - 1) + L i (tk S L s i - 1) then 0 else tk S L s i
/-- a unit of k -/
def ex1 (C : Nat → Nat) (S L : Nat → Nat → Nat) (k : Nat) (s : SS) : SS :=
  if s.2.2.1 k + 1 = C k then (up s.1 k false, s.2.1, up s.2.2.1 k (s.2.2.1 k + 1), up s.2.2.2 k 0) else (s.1, s.2.1, up s.2.2.1 k (s.2.2.1 k + 1), up s.2.2.2 k (hd2 S L s k))
/-- what the analysis has shown -/
def AN (c : Nat) (T D C p R B : Nat → Nat) (S L : Nat → Nat → Nat) (cl : Nat → Nat) : Prop :=
  (∀ i, i < c → 0 < T i ∧ 0 < C i ∧ R i ≤ D i ∧ D i ≤ T i ∧ (R i : Int) = C i + B i + sg (fun j => if p i < p j then (rels (T j) (R i) : Int) * C j else 0) c) ∧
  (∀ i j, i < c → j < c → p i = p j → i = j) ∧
  (∀ i j r, i < c → j < c → r < 4 → p j < p i → 0 < L j r → p i ≤ cl r → L j r ≤ B i) ∧
  (∀ i r, i < c → r < 4 → 0 < L i r → S i r + L i r ≤ C i) ∧
  (∀ i r, i < c → r < 4 → 0 < L i r → p i ≤ cl r)
/-- a sane state at time t, ahead of the release -/
def SN (c : Nat) (T C : Nat → Nat) (S L : Nat → Nat → Nat) (t : Nat) (s : SS) : Prop := ∀ i, i < c → (s.1 i = true → s.2.2.1 i < C i ∧ s.2.1 i < t ∧ s.2.1 i % T i = 0) ∧ (s.2.2.2 i ≠ 0 → s.1 i = true ∧ s.2.2.2 i ≤ 4 ∧ 0 < L i (s.2.2.2 i - 1) ∧ S i (s.2.2.2 i - 1) < s.2.2.1 i ∧ s.2.2.1 i < S i (s.2.2.2 i - 1) + L i (s.2.2.2 i - 1))
/-- j blocks the level of i -/
abbrev bk (p cl : Nat → Nat) (s : SS) (i j : Nat) : Prop := p j < p i ∧ s.2.2.2 j ≠ 0 ∧ p i ≤ cl (s.2.2.2 j - 1)
def UB (c : Nat) (p cl : Nat → Nat) (s : SS) : Prop := ∀ i j k, i < c → j < c → k < c → bk p cl s i j → bk p cl s i k → j = k
def wk (C p : Nat → Nat) (s : SS) (i j : Nat) : Int := if p i ≤ p j ∧ s.1 j = true then (C j : Int) - s.2.2.1 j else 0
def bl (p cl : Nat → Nat) (S L : Nat → Nat → Nat) (s : SS) (i j : Nat) : Int := if p j < p i ∧ s.2.2.2 j ≠ 0 ∧ p i ≤ cl (s.2.2.2 j - 1) then (S j (s.2.2.2 j - 1) : Int) + L j (s.2.2.2 j - 1) - s.2.2.1 j else 0
/-- level i is still, or its busy stretch has begun at t0 -/
def IV (c : Nat) (T C p R B : Nat → Nat) (S L : Nat → Nat → Nat) (cl : Nat → Nat) (t : Nat) (s : SS) (i : Nat) : Prop :=
  (∀ j, j < c → p i ≤ p j → s.1 j = false) ∨ ∃ t0, t0 ≤ t ∧ t - t0 < R i ∧ (∀ j, j < c → p i ≤ p j → s.1 j = true → t0 ≤ s.2.1 j) ∧
    sg (wk C p s i) c + sg (bl p cl S L s i) c + ((t : Int) - t0) ≤ B i + sg (fun j => if p i ≤ p j then ((rels (T j) t : Int) - rels (T j) t0) * C j else 0) c
/-- blocking is short -/
theorem bl_le (hA : AN c T D C p R B S L cl) {t : Nat} {s : SS} (hS : SN c T C S L t s) (hU : UB c p cl s) {i : Nat} (hi : i < c) : sg (bl p cl S L s i) c ≤ B i := by
  have nn : ∀ j, j < c → 0 ≤ bl p cl S L s i j := fun j hj => by
    unfold bl
    split
    · rename_i q
      have := (hS j hj).2 q.2.1
      omega
    · exact Int.le_refl _
  by_cases e : ∃ j, j < c ∧ bk p cl s i j
  · obtain ⟨j, hj, hb⟩ := e
    have z : sg (bl p cl S L s i) c = sg (fun _ => 0) c + bl p cl S L s i j := sg_one c hj (fun k hk hne => by
      show bl p cl S L s i k = 0
      unfold bl
      rw [if_neg (fun q => hne (hU i k j hi hk hj q hb))]) (by omega)
    have z0 : ∀ c, sg (fun _ => 0) c = 0 := fun c => by
      induction c with
      | zero => rfl
      | succ c ih => rw [sg, ih]; rfl
    have h := (hS j hj).2 hb.2.1
    have := hA.2.2.1 i j (s.2.2.2 j - 1) hi hj (by omega) hb.1 h.2.2.1 hb.2.2
    have v : bl p cl S L s i j = (S j (s.2.2.2 j - 1) : Int) + L j (s.2.2.2 j - 1) - s.2.2.1 j := by
      unfold bl
      rw [if_pos hb]
    rw [z, z0, v]
    omega
  · have z0 : ∀ c', c' ≤ c → sg (bl p cl S L s i) c' = 0 := fun c' => by
      induction c' with
      | zero => intro _; rfl
      | succ c' ih =>
        intro h
        rw [sg, ih (by omega)]
        unfold bl
        rw [if_neg (fun q => e ⟨c', by omega, q⟩)]
        rfl
    rw [z0 c (Nat.le_refl _)]
    omega
/-- remaining work of a level that is not still -/
theorem wk_nn {s : SS} (hS : ∀ j, j < c → s.1 j = true → s.2.2.1 j ≤ C j) {i : Nat} : ∀ j, j < c → 0 ≤ wk C p s i j := fun j hj => by
  unfold wk
  split
  · rename_i q
    have := hS j hj q.2
    omega
  · exact Int.le_refl _
theorem bl_nn {t : Nat} {s : SS} (hS : SN c T C S L t s) {i : Nat} : ∀ j, j < c → 0 ≤ bl p cl S L s i j := fun j hj => by
  unfold bl
  split
  · rename_i q
    have := (hS j hj).2 q.2.1
    omega
  · exact Int.le_refl _
/-- no job overruns: at a release the last job is done -/
theorem no_over (hA : AN c T D C p R B S L cl) {t : Nat} {s : SS} (hS : SN c T C S L t s) {i : Nat} (hi : i < c) (hI : IV c T C p R B S L cl t s i) (ht : t % T i = 0) : s.1 i = false := by
  cases q : s.1 i with
  | false => rfl
  | true =>
    exfalso
    obtain ⟨a1, a2, a3, a4, _⟩ := hA.1 i hi
    have h := (hS i hi).1 q
    rcases hI with hI | ⟨t0, h1, h2, h3, _⟩
    · rw [hI i hi (Nat.le_refl _)] at q; cases q
    · have := h3 i hi (Nat.le_refl _) q
      have d1 := Nat.div_add_mod t (T i)
      have d2 := Nat.div_add_mod (s.2.1 i) (T i)
      rw [ht] at d1
      rw [h.2.2] at d2
      have lt : s.2.1 i / T i < t / T i := by
        apply Nat.lt_of_mul_lt_mul_left (a := T i)
        omega
      have : T i * (s.2.1 i / T i) + T i ≤ T i * (t / T i) := by
        rw [← Nat.mul_succ]
        exact Nat.mul_le_mul_left _ lt
      omega
/-- in time: at now a pending job of i is younger than its bound -/
theorem young {t : Nat} {s : SS} {i : Nat} (hi : i < c) (hI : IV c T C p R B S L cl t s i) (q : s.1 i = true) : t - s.2.1 i < R i := by
  rcases hI with hI | ⟨t0, h1, h2, h3, _⟩
  · rw [hI i hi (Nat.le_refl _)] at q; cases q
  · have := h3 i hi (Nat.le_refl _) q
    omega
/-- behind the release at t -/
theorem IV_r (hA : AN c T D C p R B S L cl) {t : Nat} {s : SS} (hS : SN c T C S L t s) (hU : UB c p cl s) (hI : ∀ i, i < c → IV c T C p R B S L cl t s i) {i : Nat} (hi : i < c) :
    (∀ j, j < c → p i ≤ p j → (rl0 T t s).1 j = false) ∨ ∃ t0, t0 ≤ t ∧ t - t0 < R i ∧ (∀ j, j < c → p i ≤ p j → (rl0 T t s).1 j = true → t0 ≤ (rl0 T t s).2.1 j) ∧
      sg (wk C p (rl0 T t s) i) c + sg (bl p cl S L (rl0 T t s) i) c + ((t : Int) - t0) ≤ B i + sg (fun j => if p i ≤ p j then ((rels (T j) (t + 1) : Int) - rels (T j) t0) * C j else 0) c := by
  have no : ∀ j, j < c → t % T j = 0 → s.1 j = false := fun j hj h => no_over hA hS hj (hI j hj) h
  have bs : sg (bl p cl S L (rl0 T t s) i) c ≤ sg (bl p cl S L s i) c := sg_le c (fun j hj => by
    by_cases z : t % T j = 0
    · have e : bl p cl S L (rl0 T t s) i j = 0 := by
        unfold bl rl0
        simp [z]
      rw [e]
      exact bl_nn hS j hj
    · have e : bl p cl S L (rl0 T t s) i j = bl p cl S L s i j := by
        unfold bl rl0
        simp [z]
      rw [e]
      exact Int.le_refl _)
  have bB := bl_le hA hS hU hi
  have ws : ∀ t0, sg (wk C p (rl0 T t s) i) c = sg (wk C p s i) c + (sg (fun j => if p i ≤ p j then ((rels (T j) (t + 1) : Int) - rels (T j) t0) * C j else 0) c - sg (fun j => if p i ≤ p j then ((rels (T j) t : Int) - rels (T j) t0) * C j else 0) c) := by
    intro t0
    have e : ∀ c', c' ≤ c → sg (wk C p (rl0 T t s) i) c' = sg (wk C p s i) c' + (sg (fun j => if p i ≤ p j then ((rels (T j) (t + 1) : Int) - rels (T j) t0) * C j else 0) c' - sg (fun j => if p i ≤ p j then ((rels (T j) t : Int) - rels (T j) t0) * C j else 0) c') := by
      intro c'
      induction c' with
      | zero => intro _; rfl
      | succ c' ih =>
        intro hc
        rw [sg, sg, sg, sg, ih (by omega)]
        have hT := (hA.1 c' (by omega)).1
        have hC := (hA.1 c' (by omega)).2.1
        have key : wk C p (rl0 T t s) i c' = wk C p s i c' + ((if p i ≤ p c' then ((rels (T c') (t + 1) : Int) - rels (T c') t0) * C c' else 0) - (if p i ≤ p c' then ((rels (T c') t : Int) - rels (T c') t0) * C c' else 0)) := by
          by_cases lv : p i ≤ p c'
          · rw [if_pos lv, if_pos lv, rels_s hT]
            by_cases z : t % T c' = 0
            · have f := no c' (by omega) z
              rw [if_pos z]
              unfold wk rl0
              simp [z, lv, f]
              rw [Int.sub_mul, Int.sub_mul, Int.add_mul]
              omega
            · rw [if_neg z]
              unfold wk rl0
              simp [z]
          · rw [if_neg lv, if_neg lv]
            unfold wk
            rw [if_neg (fun q => lv q.1), if_neg (fun q => lv q.1)]
            rfl
        omega
    exact e c (Nat.le_refl _)
  have a1 := hA.1 i hi
  have rpos : 0 < R i := by
    have nn : 0 ≤ sg (fun j => if p i < p j then (rels (T j) (R i) : Int) * C j else 0) c := sg_nn c (fun j _ => by
      show (0 : Int) ≤ if p i < p j then (rels (T j) (R i) : Int) * C j else 0
      split
      · exact Int.mul_nonneg (by omega) (by omega)
      · exact Int.le_refl _)
    have := a1.2.2.2.2
    omega
  rcases hI i hi with h | ⟨t0, h1, h2, h3, h4⟩
  · by_cases any : ∃ j, j < c ∧ p i ≤ p j ∧ t % T j = 0
    · refine Or.inr ⟨t, Nat.le_refl _, by omega, fun j hj lv q => ?_, ?_⟩
      · unfold rl0 at q ⊢
        by_cases z : t % T j = 0
        · simp [z]
        · have := h j hj lv
          simp [z, this] at q
      · have w0 : sg (wk C p s i) c = 0 := by
          have e : ∀ c', c' ≤ c → sg (wk C p s i) c' = 0 := by
            intro c'
            induction c' with
            | zero => intro _; rfl
            | succ c' ih =>
              intro hc
              rw [sg, ih (by omega)]
              unfold wk
              rw [if_neg (fun q => by rw [h c' (by omega) q.1] at q; cases q.2)]
              rfl
          exact e c (Nat.le_refl _)
        have r0 : sg (fun j => if p i ≤ p j then ((rels (T j) t : Int) - rels (T j) t) * C j else 0) c = 0 := by
          have e : ∀ c', sg (fun j => if p i ≤ p j then ((rels (T j) t : Int) - rels (T j) t) * C j else 0) c' = 0 := by
            intro c'
            induction c' with
            | zero => rfl
            | succ c' ih =>
              rw [sg, ih]
              show (0 : Int) + (if p i ≤ p c' then ((rels (T c') t : Int) - rels (T c') t) * C c' else 0) = 0
              split
              · rw [Int.sub_self, Int.zero_mul]; rfl
              · rfl
          exact e c
        rw [ws t, w0, r0]
        omega
    · refine Or.inl (fun j hj lv => ?_)
      have z : ¬ t % T j = 0 := fun q => any ⟨j, hj, lv, q⟩
      unfold rl0
      simp [z, h j hj lv]
  · refine Or.inr ⟨t0, h1, h2, fun j hj lv q => ?_, ?_⟩
    · unfold rl0 at q ⊢
      by_cases z : t % T j = 0
      · simp [z]; omega
      · simp [z] at q ⊢
        exact h3 j hj lv q
    · rw [ws t0]
      omega
/-- a sane state behind the release at t -/
def SN1 (c : Nat) (T C : Nat → Nat) (S L : Nat → Nat → Nat) (t : Nat) (s : SS) : Prop := ∀ i, i < c → (s.1 i = true → s.2.2.1 i < C i ∧ s.2.1 i ≤ t ∧ s.2.1 i % T i = 0) ∧ (s.2.2.2 i ≠ 0 → s.1 i = true ∧ s.2.2.2 i ≤ 4 ∧ 0 < L i (s.2.2.2 i - 1) ∧ S i (s.2.2.2 i - 1) < s.2.2.1 i ∧ s.2.2.1 i < S i (s.2.2.2 i - 1) + L i (s.2.2.2 i - 1))
theorem SN_r (hA : AN c T D C p R B S L cl) {t : Nat} {s : SS} (hS : SN c T C S L t s) : SN1 c T C S L t (rl0 T t s) := by
  intro i hi
  have a := hA.1 i hi
  obtain ⟨h1, h2⟩ := hS i hi
  unfold rl0
  by_cases z : t % T i = 0
  · simp [z]
    exact a.2.1
  · simp [z]
    refine ⟨fun q => ?_, fun q => ?_⟩
    · have := h1 q
      exact ⟨this.1, by omega, this.2.2⟩
    · exact h2 q
theorem UB_r {t : Nat} {s : SS} (hU : UB c p cl s) : UB c p cl (rl0 T t s) := by
  have e : ∀ i j, bk p cl (rl0 T t s) i j → bk p cl s i j := fun i j h => by
    unfold bk rl0 at h
    by_cases z : t % T j = 0
    · simp [z] at h
    · simp [z] at h
      exact h
  exact fun i j k hi hj hk h1 h2 => hU i j k hi hj hk (e i j h1) (e i k h2)
/-- k is the task that runs -/
def RN (c : Nat) (p cl : Nat → Nat) (s : SS) (k : Nat) : Prop := k < c ∧ s.1 k = true ∧ ∀ l, l < c → s.1 l = true → ap p cl s l ≤ ap p cl s k
theorem ap_ge (hA : AN c T D C p R B S L cl) {t : Nat} {s : SS} (hS : SN1 c T C S L t s) {l : Nat} (hl : l < c) : p l ≤ ap p cl s l := by
  unfold ap
  split
  · exact Nat.le_refl _
  · rename_i q
    have h := (hS l hl).2 q
    exact hA.2.2.2.2 l _ hl (by omega) h.2.2.1
theorem tk_ok (S L : Nat → Nat → Nat) (s : SS) (k : Nat) (h0 : s.2.2.2 k = 0) (h : tk S L s k ≠ 0) : tk S L s k ≤ 4 ∧ 0 < L k (tk S L s k - 1) ∧ S k (tk S L s k - 1) = s.2.2.1 k := by
  unfold tk at h ⊢
  rw [if_pos h0] at h ⊢
  by_cases a0 : 0 < L k 0 ∧ S k 0 = s.2.2.1 k
  · rw [if_pos a0]; exact ⟨by decide, a0⟩
  rw [if_neg a0] at h ⊢
  by_cases a1 : 0 < L k 1 ∧ S k 1 = s.2.2.1 k
  · rw [if_pos a1]; exact ⟨by decide, a1⟩
  rw [if_neg a1] at h ⊢
  by_cases a2 : 0 < L k 2 ∧ S k 2 = s.2.2.1 k
  · rw [if_pos a2]; exact ⟨by decide, a2⟩
  rw [if_neg a2] at h ⊢
  by_cases a3 : 0 < L k 3 ∧ S k 3 = s.2.2.1 k
  · rw [if_pos a3]; exact ⟨by decide, a3⟩
  rw [if_neg a3] at h
  exact absurd rfl h
theorem tk_h (S L : Nat → Nat → Nat) (s : SS) (k : Nat) (h0 : s.2.2.2 k ≠ 0) : tk S L s k = s.2.2.2 k := by
  unfold tk
  rw [if_neg h0]
theorem up_a {α : Type} (f : Nat → α) (i : Nat) (v : α) (j : Nat) : up f i v j = if j = i then v else f j := rfl
/-- other tasks stand still -/
theorem ex_o {k j : Nat} {s : SS} (h : j ≠ k) : (ex1 C S L k s).1 j = s.1 j ∧ (ex1 C S L k s).2.1 j = s.2.1 j ∧ (ex1 C S L k s).2.2.1 j = s.2.2.1 j ∧ (ex1 C S L k s).2.2.2 j = s.2.2.2 j := by
  unfold ex1
  split
  · refine ⟨?_, rfl, ?_, ?_⟩
    · show up s.1 k _ j = _; rw [up_a, if_neg h]
    · show up s.2.2.1 k _ j = _; rw [up_a, if_neg h]
    · show up s.2.2.2 k _ j = _; rw [up_a, if_neg h]
  · refine ⟨rfl, rfl, ?_, ?_⟩
    · show up s.2.2.1 k _ j = _; rw [up_a, if_neg h]
    · show up s.2.2.2 k _ j = _; rw [up_a, if_neg h]
/-- the running task -/
theorem ex_k {k : Nat} {s : SS} : (s.2.2.1 k + 1 = C k ∧ (ex1 C S L k s).1 k = false ∧ (ex1 C S L k s).2.2.2 k = 0) ∨ (¬ s.2.2.1 k + 1 = C k ∧ (ex1 C S L k s).1 k = s.1 k ∧ (ex1 C S L k s).2.2.1 k = s.2.2.1 k + 1 ∧ (ex1 C S L k s).2.1 k = s.2.1 k ∧ (ex1 C S L k s).2.2.2 k = hd2 S L s k) := by
  unfold ex1
  by_cases z : s.2.2.1 k + 1 = C k
  · rw [if_pos z]
    refine Or.inl ⟨z, ?_, ?_⟩
    · show up s.1 k false k = false; rw [up_a, if_pos rfl]
    · show up s.2.2.2 k 0 k = 0; rw [up_a, if_pos rfl]
  · rw [if_neg z]
    refine Or.inr ⟨z, rfl, ?_, rfl, ?_⟩
    · show up s.2.2.1 k _ k = _; rw [up_a, if_pos rfl]
    · show up s.2.2.2 k _ k = _; rw [up_a, if_pos rfl]
/-- what k holds behind its unit -/
theorem hd_k (hA : AN c T D C p R B S L cl) {t k : Nat} {s : SS} (hS : SN1 c T C S L t s) (hk : k < c) (h : hd2 S L s k ≠ 0) : hd2 S L s k ≤ 4 ∧ 0 < L k (hd2 S L s k - 1) ∧ S k (hd2 S L s k - 1) < s.2.2.1 k + 1 ∧ s.2.2.1 k + 1 < S k (hd2 S L s k - 1) + L k (hd2 S L s k - 1) := by
  unfold hd2 at h ⊢
  by_cases z : tk S L s k ≠ 0 ∧ s.2.2.1 k + 1 = S k (tk S L s k - 1) + L k (tk S L s k - 1)
  · rw [if_pos z] at h; exact absurd rfl h
  rw [if_neg z] at h ⊢
  have z2 : ¬ s.2.2.1 k + 1 = S k (tk S L s k - 1) + L k (tk S L s k - 1) := fun q => z ⟨h, q⟩
  by_cases h0 : s.2.2.2 k = 0
  · obtain ⟨t1, t2, t3⟩ := tk_ok S L s k h0 h
    exact ⟨t1, t2, by omega, by omega⟩
  · rw [tk_h S L s k h0] at z2 ⊢
    obtain ⟨_, u1, u2, u3, u4⟩ := (hS k hk).2 h0
    exact ⟨u1, u2, by omega, by omega⟩
theorem SN_x (hA : AN c T D C p R B S L cl) {t k : Nat} {s : SS} (hS : SN1 c T C S L t s) (hk : k < c) (hp : s.1 k = true) : SN c T C S L (t + 1) (ex1 C S L k s) := by
  intro i hi
  obtain ⟨h1, h2⟩ := hS i hi
  by_cases e : i = k
  · subst e
    rcases ex_k (C := C) (S := S) (L := L) (k := i) (s := s) with ⟨q1, q2, q3⟩ | ⟨q1, q2, q3, q4, q5⟩
    · rw [q2, q3]
      refine ⟨fun q => ?_, fun q => ?_⟩
      · exact absurd q (by decide)
      · exact absurd rfl q
    · rw [q2, q3, q4, q5]
      refine ⟨fun q => ?_, fun q => ?_⟩
      · have := h1 q
        exact ⟨by omega, by omega, this.2.2⟩
      · obtain ⟨u1, u2, u3, u4⟩ := hd_k hA hS hk q
        exact ⟨hp, u1, u2, u3, u4⟩
  · obtain ⟨o1, o2, o3, o4⟩ := ex_o (C := C) (S := S) (L := L) (k := k) (s := s) e
    rw [o1, o2, o3, o4]
    exact ⟨fun q => by have := h1 q; exact ⟨this.1, by omega, this.2.2⟩, h2⟩
theorem UB_x (hA : AN c T D C p R B S L cl) {t k : Nat} {s : SS} (hS : SN1 c T C S L t s) (hU : UB c p cl s) (hR : RN c p cl s k) : UB c p cl (ex1 C S L k s) := by
  -- whoever blocks behind the unit is k, or blocked ahead of it
  have one : ∀ i j, i < c → j < c → j ≠ k → bk p cl (ex1 C S L k s) i j → bk p cl (ex1 C S L k s) i k → False := by
    intro i j hi hj hne h1 h2
    obtain ⟨o1, o2, o3, o4⟩ := ex_o (C := C) (S := S) (L := L) (k := k) (s := s) hne
    unfold bk at h1 h2
    rw [o4] at h1
    have hpj := ((hS j hj).2 h1.2.1).1
    by_cases h0 : s.2.2.2 k = 0
    · have m := hR.2.2 j hj hpj
      unfold ap at m
      rw [if_neg h1.2.1, if_pos h0] at m
      omega
    · have : bk p cl s i k := by
        rcases ex_k (C := C) (S := S) (L := L) (k := k) (s := s) with ⟨q1, q2, q3⟩ | ⟨q1, q2, q3, q4, q5⟩
        · rw [q3] at h2; exact absurd rfl h2.2.1
        · rw [q5] at h2
          have e : hd2 S L s k = s.2.2.2 k := by
            have := h2.2.1
            unfold hd2 at this ⊢
            by_cases z : tk S L s k ≠ 0 ∧ s.2.2.1 k + 1 = S k (tk S L s k - 1) + L k (tk S L s k - 1)
            · rw [if_pos z] at this; exact absurd rfl this
            · rw [if_neg z, tk_h S L s k h0]
          rw [e] at h2
          exact h2
      exact hne (hU i j k hi hj hR.1 h1 this)
  intro i j l hi hj hl h1 h2
  by_cases e1 : j = k
  · by_cases e2 : l = k
    · rw [e1, e2]
    · exact (one i l hi hl e2 h2 (e1 ▸ h1)).elim
  · by_cases e2 : l = k
    · exact (one i j hi hj e1 h1 (e2 ▸ h2)).elim
    · have b1 : bk p cl s i j := by
        have o := (ex_o (C := C) (S := S) (L := L) (k := k) (s := s) e1).2.2.2
        unfold bk at h1 ⊢
        rw [o] at h1
        exact h1
      have b2 : bk p cl s i l := by
        have o := (ex_o (C := C) (S := S) (L := L) (k := k) (s := s) e2).2.2.2
        unfold bk at h2 ⊢
        rw [o] at h2
        exact h2
      exact hU i j l hi hj hl b1 b2
/-- the state behind the release at t, level i -/
def IR (c : Nat) (T C p R B : Nat → Nat) (S L : Nat → Nat → Nat) (cl : Nat → Nat) (t : Nat) (s : SS) (i : Nat) : Prop :=
  (∀ j, j < c → p i ≤ p j → s.1 j = false) ∨ ∃ t0, t0 ≤ t ∧ t - t0 < R i ∧ (∀ j, j < c → p i ≤ p j → s.1 j = true → t0 ≤ s.2.1 j) ∧
    sg (wk C p s i) c + sg (bl p cl S L s i) c + ((t : Int) - t0) ≤ B i + sg (fun j => if p i ≤ p j then ((rels (T j) (t + 1) : Int) - rels (T j) t0) * C j else 0) c
theorem rels_one {T x : Nat} (hx : 0 < x) (h : x ≤ T) : rels T x = 1 := by
  unfold rels
  rw [show x + T - 1 = (x - 1) + T * 1 by omega, Nat.add_mul_div_left _ _ (by omega), Nat.div_eq_of_lt (by omega)]
theorem sg_z : ∀ c, sg (fun _ => 0) c = 0 := fun c => by
  induction c with
  | zero => rfl
  | succ c ih => rw [sg, ih]; rfl
/-- the demand of a stretch of length R i -/
theorem dem (hA : AN c T D C p R B S L cl) {i : Nat} (hi : i < c) (hr : 0 < R i) (t0 : Nat) : sg (fun j => if p i ≤ p j then ((rels (T j) (t0 + R i) : Int) - rels (T j) t0) * C j else 0) c ≤ (C i : Int) + sg (fun j => if p i < p j then (rels (T j) (R i) : Int) * C j else 0) c := by
  have a := hA.1 i hi
  have e : sg (fun j => if p i ≤ p j then (rels (T j) (R i) : Int) * C j else 0) c = sg (fun j => if p i < p j then (rels (T j) (R i) : Int) * C j else 0) c + C i := sg_one c hi (fun j hj hne => by
      show (if p i ≤ p j then (rels (T j) (R i) : Int) * C j else 0) = if p i < p j then (rels (T j) (R i) : Int) * C j else 0
      by_cases q : p i < p j
      · rw [if_pos q, if_pos (by omega)]
      · rw [if_neg q, if_neg (fun q2 => hne (hA.2.1 i j hi hj (by omega)).symm)]) (by
      show (if p i ≤ p i then (rels (T i) (R i) : Int) * C i else 0) = (if p i < p i then (rels (T i) (R i) : Int) * C i else 0) + C i
      rw [if_pos (Nat.le_refl _), if_neg (Nat.lt_irrefl _), rels_one hr (by omega)]
      omega)
  have l : sg (fun j => if p i ≤ p j then ((rels (T j) (t0 + R i) : Int) - rels (T j) t0) * C j else 0) c ≤ sg (fun j => if p i ≤ p j then (rels (T j) (R i) : Int) * C j else 0) c := sg_le c (fun j hj => by
    show (if p i ≤ p j then ((rels (T j) (t0 + R i) : Int) - rels (T j) t0) * C j else 0) ≤ if p i ≤ p j then (rels (T j) (R i) : Int) * C j else 0
    by_cases q : p i ≤ p j
    · rw [if_pos q, if_pos q]
      have := rels_w (hA.1 j hj).1 t0 (R i)
      exact Int.mul_le_mul_of_nonneg_right (by omega) (by omega)
    · rw [if_neg q, if_neg q]
      exact Int.le_refl _)
  omega
theorem R_pos (hA : AN c T D C p R B S L cl) {i : Nat} (hi : i < c) : 0 < R i := by
  have a1 := hA.1 i hi
  have nn : 0 ≤ sg (fun j => if p i < p j then (rels (T j) (R i) : Int) * C j else 0) c := sg_nn c (fun j _ => by
    show (0 : Int) ≤ if p i < p j then (rels (T j) (R i) : Int) * C j else 0
    split
    · exact Int.mul_nonneg (by omega) (by omega)
    · exact Int.le_refl _)
  have := a1.2.2.2.2
  omega
/-- nobody is pending: the level is still -/
theorem IV_0 {t : Nat} {s : SS} {i : Nat} (h : ∀ j, j < c → s.1 j = false) : IV c T C p R B S L cl t s i := Or.inl (fun j hj _ => h j hj)
theorem IV_x (hA : AN c T D C p R B S L cl) {t k : Nat} {s : SS} (hS : SN1 c T C S L t s) (hR : RN c p cl s k) {i : Nat} (hi : i < c) (hI : IR c T C p R B S L cl t s i) : IV c T C p R B S L cl (t + 1) (ex1 C S L k s) i := by
  have pd : ∀ j, (ex1 C S L k s).1 j = true → s.1 j = true := fun j q => by
    by_cases e : j = k
    · rw [e]; exact hR.2.1
    · rw [← (ex_o (C := C) (S := S) (L := L) (k := k) (s := s) e).1]; exact q
  have rl : (ex1 C S L k s).2.1 = s.2.1 := by
    unfold ex1
    split <;> rfl
  by_cases still : ∀ j, j < c → p i ≤ p j → (ex1 C S L k s).1 j = false
  · exact Or.inl still
  rcases hI with h | ⟨t0, h1, h2, h3, h4⟩
  · refine absurd (fun j hj lv => ?_) still
    cases q : (ex1 C S L k s).1 j with
    | false => rfl
    | true => rw [← pd j q, h j hj lv]
  -- somebody of the level is pending behind the unit
  have ⟨j0, hj0, lv0, q0⟩ : ∃ j, j < c ∧ p i ≤ p j ∧ (ex1 C S L k s).1 j = true := by
    refine Classical.byContradiction (fun no => still (fun j hj lv => ?_))
    cases q : (ex1 C S L k s).1 j with
    | false => rfl
    | true => exact absurd ⟨j, hj, lv, q⟩ no
  have hk := hR.1
  have hpk := ((hS k hk).1 hR.2.1).1
  have S2 := SN_x hA hS hk hR.2.1
  have less : sg (wk C p (ex1 C S L k s) i) c + sg (bl p cl S L (ex1 C S L k s) i) c + 1 = sg (wk C p s i) c + sg (bl p cl S L s i) c := by
    have wo : ∀ j, j < c → j ≠ k → wk C p s i j = wk C p (ex1 C S L k s) i j := fun j _ hne => by
      obtain ⟨o1, o2, o3, o4⟩ := ex_o (C := C) (S := S) (L := L) (k := k) (s := s) hne
      unfold wk
      rw [o1, o3]
    have bo : ∀ j, j < c → j ≠ k → bl p cl S L s i j = bl p cl S L (ex1 C S L k s) i j := fun j _ hne => by
      obtain ⟨o1, o2, o3, o4⟩ := ex_o (C := C) (S := S) (L := L) (k := k) (s := s) hne
      unfold bl
      rw [o4, o3]
    by_cases lv : p i ≤ p k
    · have w1 : wk C p s i k = wk C p (ex1 C S L k s) i k + 1 := by
        unfold wk
        rw [if_pos ⟨lv, hR.2.1⟩]
        rcases ex_k (C := C) (S := S) (L := L) (k := k) (s := s) with ⟨q1, q2, q3⟩ | ⟨q1, q2, q3, q4, q5⟩
        · rw [q2, if_neg (fun q => by cases q.2)]
          omega
        · rw [q2, q3, if_pos ⟨lv, hR.2.1⟩]
          omega
      have b1 : bl p cl S L s i k = bl p cl S L (ex1 C S L k s) i k + 0 := by
        unfold bl
        rw [if_neg (fun q => by omega), if_neg (fun q => by omega)]
        rfl
      rw [sg_one c hk wo w1, sg_one c hk bo b1]
      omega
    · have ho : s.2.2.2 k ≠ 0 := fun h0 => by
        have m := hR.2.2 j0 hj0 (pd j0 q0)
        have := ap_ge hA hS hj0
        unfold ap at m
        rw [if_pos h0] at m
        unfold ap at this
        omega
      have hb : bk p cl s i k := by
        refine ⟨by omega, ho, ?_⟩
        have m := hR.2.2 j0 hj0 (pd j0 q0)
        have := ap_ge hA hS hj0
        have e : ap p cl s k = cl (s.2.2.2 k - 1) := by
          unfold ap
          rw [if_neg ho]
        rw [e] at m
        omega
      obtain ⟨_, u1, u2, u3, u4⟩ := (hS k hk).2 ho
      have u5 := hA.2.2.2.1 k (s.2.2.2 k - 1) hk (by omega) u2
      have w1 : wk C p s i k = wk C p (ex1 C S L k s) i k + 0 := by
        unfold wk
        rw [if_neg (fun q => lv q.1), if_neg (fun q => lv q.1)]
        rfl
      have b1 : bl p cl S L s i k = bl p cl S L (ex1 C S L k s) i k + 1 := by
        unfold bl
        rw [if_pos hb]
        rcases ex_k (C := C) (S := S) (L := L) (k := k) (s := s) with ⟨q1, q2, q3⟩ | ⟨q1, q2, q3, q4, q5⟩
        · rw [q3, if_neg (fun q => absurd rfl q.2.1)]
          omega
        · rw [q3, q5]
          by_cases z : s.2.2.1 k + 1 = S k (s.2.2.2 k - 1) + L k (s.2.2.2 k - 1)
          · have e : hd2 S L s k = 0 := by
              unfold hd2
              rw [tk_h S L s k ho, if_pos ⟨ho, z⟩]
            rw [e, if_neg (fun q => absurd rfl q.2.1)]
            omega
          · have e : hd2 S L s k = s.2.2.2 k := by
              unfold hd2
              rw [tk_h S L s k ho, if_neg (fun q => z q.2)]
            rw [e, if_pos hb]
            omega
      rw [sg_one c hk wo w1, sg_one c hk bo b1]
      omega
  have pos : 1 ≤ sg (wk C p (ex1 C S L k s) i) c := by
    have g := sg_ge (f := wk C p (ex1 C S L k s) i) c hj0 (wk_nn (fun j hj q => by have := ((S2 j hj).1 q).1; omega))
    have v : wk C p (ex1 C S L k s) i j0 = (C j0 : Int) - (ex1 C S L k s).2.2.1 j0 := by
      unfold wk
      rw [if_pos ⟨lv0, q0⟩]
    have := ((S2 j0 hj0).1 q0).1
    omega
  have bn := sg_nn c (bl_nn (p := p) (cl := cl) S2 (i := i))
  refine Or.inr ⟨t0, by omega, ?_, fun j hj lv q => ?_, ?_⟩
  · refine Classical.byContradiction (fun far => ?_)
    have ee : t + 1 = t0 + R i := by omega
    have d := dem hA hi (R_pos hA hi) t0
    have a := (hA.1 i hi).2.2.2.2
    rw [← ee] at d
    omega
  · rw [rl]
    exact h3 j hj lv (pd j q)
  · have : ((t + 1 : Nat) : Int) = t + 1 := rfl
    omega
/-- the whole invariant at t: state, jobs done, longest responses -/
def FI (c : Nat) (T C p R B : Nat → Nat) (S L : Nat → Nat → Nat) (cl : Nat → Nat) (t : Nat) (s : SS) (dn mr : Nat → Nat) : Prop :=
  SN c T C S L t s ∧ UB c p cl s ∧ (∀ i, i < c → IV c T C p R B S L cl t s i) ∧ (∀ i, i < c → dn i + (if s.1 i = true then 1 else 0) = rels (T i) t) ∧ ∀ i, i < c → mr i ≤ R i
/-- behind the release -/
def FR (c : Nat) (T C p R B : Nat → Nat) (S L : Nat → Nat → Nat) (cl : Nat → Nat) (t : Nat) (s : SS) (dn mr : Nat → Nat) : Prop :=
  SN1 c T C S L t s ∧ UB c p cl s ∧ (∀ i, i < c → IR c T C p R B S L cl t s i) ∧ (∀ i, i < c → dn i + (if s.1 i = true then 1 else 0) = rels (T i) (t + 1)) ∧ ∀ i, i < c → mr i ≤ R i
theorem FI_0 (hA : AN c T D C p R B S L cl) {s : SS} {dn mr : Nat → Nat} (h1 : ∀ i, i < c → s.1 i = false) (h2 : ∀ i, i < c → s.2.2.2 i = 0) (h3 : ∀ i, i < c → dn i = 0) (h4 : ∀ i, i < c → mr i = 0) : FI c T C p R B S L cl 0 s dn mr := by
  refine ⟨fun i hi => ⟨fun q => ?_, fun q => absurd (h2 i hi) q⟩, fun i j k hi hj hk q => absurd (h2 j hj) q.2.1, fun i hi => IV_0 h1, fun i hi => ?_, fun i hi => ?_⟩
  · rw [h1 i hi] at q; cases q
  · rw [h1 i hi, h3 i hi, rels_0 (hA.1 i hi).1]; rfl
  · rw [h4 i hi]; omega
theorem FI_r (hA : AN c T D C p R B S L cl) {t : Nat} {s : SS} {dn mr : Nat → Nat} (h : FI c T C p R B S L cl t s dn mr) : FR c T C p R B S L cl t (rl0 T t s) dn mr := by
  obtain ⟨h1, h2, h3, h4, h5⟩ := h
  refine ⟨SN_r hA h1, UB_r h2, fun i hi => IV_r hA h1 h2 h3 hi, fun i hi => ?_, h5⟩
  rw [rels_s (hA.1 i hi).1, ← h4 i hi]
  by_cases z : t % T i = 0
  · have := no_over hA h1 hi (h3 i hi) z
    unfold rl0
    simp [z, this]
  · unfold rl0
    simp [z]
/-- nobody runs -/
theorem FR_n {t : Nat} {s : SS} {dn mr : Nat → Nat} (h : FR c T C p R B S L cl t s dn mr) (hn : ∀ i, i < c → s.1 i = false) : FI c T C p R B S L cl (t + 1) s dn mr := by
  obtain ⟨h1, h2, h3, h4, h5⟩ := h
  refine ⟨fun i hi => ⟨fun q => ?_, (h1 i hi).2⟩, h2, fun i hi => IV_0 hn, h4, h5⟩
  rw [hn i hi] at q; cases q
/-- jobs done, longest responses behind a unit of k at t -/
def exD (C : Nat → Nat) (k : Nat) (s : SS) (dn : Nat → Nat) : Nat → Nat := if s.2.2.1 k + 1 = C k then up dn k (dn k + 1) else dn
def exM (C : Nat → Nat) (k t : Nat) (s : SS) (mr : Nat → Nat) : Nat → Nat := if s.2.2.1 k + 1 = C k then (if mr k < t + 1 - s.2.1 k then up mr k (t + 1 - s.2.1 k) else mr) else mr
theorem FR_x (hA : AN c T D C p R B S L cl) {t k : Nat} {s : SS} {dn mr : Nat → Nat} (h : FR c T C p R B S L cl t s dn mr) (hR : RN c p cl s k) : FI c T C p R B S L cl (t + 1) (ex1 C S L k s) (exD C k s dn) (exM C k t s mr) := by
  obtain ⟨h1, h2, h3, h4, h5⟩ := h
  refine ⟨SN_x hA h1 hR.1 hR.2.1, UB_x hA h1 h2 hR, fun i hi => IV_x hA h1 hR hi (h3 i hi), fun i hi => ?_, fun i hi => ?_⟩
  · rw [← h4 i hi]
    by_cases e : i = k
    · subst e
      unfold exD
      rcases ex_k (C := C) (S := S) (L := L) (k := i) (s := s) with ⟨q1, q2, q3⟩ | ⟨q1, q2, q3, q4, q5⟩
      · rw [q2, if_pos q1, up_a, if_pos rfl, hR.2.1]
        rfl
      · rw [q2, if_neg q1]
    · rw [(ex_o (C := C) (S := S) (L := L) (k := k) (s := s) e).1]
      unfold exD
      split
      · rw [up_a, if_neg e]
      · rfl
  · unfold exM
    split
    · split
      · rw [up_a]
        split
        · rename_i e
          rw [e]
          rw [e] at hi
          rcases h3 k hi with h | ⟨t0, q1, q2, q3, _⟩
          · have := h k hi (Nat.le_refl _)
            rw [hR.2.1] at this; cases this
          · have := q3 k hi (Nat.le_refl _) hR.2.1
            omega
        · exact h5 i hi
      · exact h5 i hi
    · exact h5 i hi
/-- no miss -/
theorem FI_m (hA : AN c T D C p R B S L cl) {t : Nat} {s : SS} {dn mr : Nat → Nat} (h : FI c T C p R B S L cl t s dn mr) {i : Nat} (hi : i < c) (q : s.1 i = true) : s.2.1 i + D i ≠ t := by
  have y := young hi (h.2.2.1 i hi) q
  have := (hA.1 i hi).2.2.1
  omega
/-- at a multiple of the period all is done -/
theorem FI_d (hA : AN c T D C p R B S L cl) {t : Nat} {s : SS} {dn mr : Nat → Nat} (h : FI c T C p R B S L cl t s dn mr) {i : Nat} (hi : i < c) (hd : t % T i = 0) : dn i = t / T i := by
  have e := h.2.2.2.1 i hi
  rw [no_over hA h.1 hi (h.2.2.1 i hi) hd] at e
  have d := Nat.div_add_mod t (T i)
  have hT := (hA.1 i hi).1
  have v : rels (T i) t = t / T i := by
    unfold rels
    rw [hd] at d
    generalize t / T i = q at *
    rw [show t + T i - 1 = (T i - 1) + T i * q by omega, Nat.add_mul_div_left _ _ hT, Nat.div_eq_of_lt (by omega)]
    omega
  rw [← v, ← e]
  rfl
end RT
theorem nI_4 (v : Nat) : nI v * 4 = nI (v * 4) := (Int32.ofNat_mul v 4).symm
theorem nI_mul (a c : Nat) : nI a * nI c = nI (a * c) := (Int32.ofNat_mul a c).symm
theorem nI_div {a c : Nat} (ha : a < 2147483648) (hc : c < 2147483648) : nI a / nI c = nI (a / c) := by
  have hq : a / c ≤ a := Nat.div_le_self a c
  apply Int32.toInt_inj.mp
  rw [Int32.toInt_div, nI_int ha, nI_int hc, nI_int (by omega), ← Int.ofNat_tdiv]
  generalize a / c = q at *
  exact Int.bmod_eq_of_le (by omega) (by omega)
theorem nI_mod {a c : Nat} (ha : a < 2147483648) (hc : c < 2147483648) : nI a % nI c = nI (a % c) := by
  have hq : a % c ≤ a := Nat.mod_le a c
  apply Int32.toInt_inj.mp
  rw [Int32.toInt_mod, nI_int ha, nI_int hc, nI_int (by omega), Int.tmod_eq_emod_of_nonneg (by omega)]
  rfl
theorem n0T {a : Nat} (h : 0 < a) (ha : a < 2147483648) : (nI a = 0) = False := eq_false (nI_ne (c := 0) ha (by decide) (by omega))
theorem nnF {a : Nat} (ha : a < 2147483648) : (nI a < 0) = False := eq_false (nI_nn ha)
theorem eT {a c : Nat} (h : a = c) : (nI a = nI c) = True := eq_true (congrArg nI h)
theorem eF {a c : Nat} (h : a ≠ c) (ha : a < 2147483648) (hc : c < 2147483648) : (nI a = nI c) = False := eq_false (nI_ne ha hc h)
def CM {α : Type} (F : α → Int32) (l : List Int32) (h : Nat → α) (k : Nat) : Prop := ∀ i, i < k → getA l (nI i) = F (h i)
def fB (b : Bool) : Int32 := if b = true then 1 else 0
def fH (n : Nat) : Int32 := nI n - 1
def mix {α : Type} (i : Nat) (a o : Nat → α) : Nat → α := fun j => if j < i then a j else o j
section Cm
variable {α : Type} {F : α → Int32} {l : List Int32} {h a o : Nat → α} {k j i : Nat} {w : α} {v : Int32}
theorem CM_set (H : CM F l h k) (e : v = F w) (hj : j < l.length) (hl : l.length ≤ 4096) (hk : k ≤ 4096) : CM F (setA l (nI j) v) (up h j w) k := by
  intro i hi
  rw [cf_set hj hl (by omega), up_a]
  split
  · exact e
  · exact H i hi
theorem CM_push (H : CM F l h k) (e : v = F w) (hk : k < l.length) (hl : l.length ≤ 4096) : CM F (setA l (nI k) v) (up h k w) (k + 1) := by
  intro i hi
  rw [cf_set hk hl (by omega), up_a]
  split
  · exact e
  · exact H i (by omega)
theorem CM_step (H : CM F l h k) (e : v = F (h k)) (hk : k < l.length) (hl : l.length ≤ 4096) : CM F (setA l (nI k) v) h (k + 1) := by
  intro i hi
  rw [cf_set hk hl (by omega)]
  split
  · rename_i q; rw [e, q]
  · exact H i (by omega)
theorem CM_ext {g : Nat → α} (H : CM F l h k) (e : ∀ i, i < k → h i = g i) : CM F l g k := fun i hi => by rw [H i hi, e i hi]
theorem CM_le (H : CM F l h k) (e : j ≤ k) : CM F l h j := fun i hi => H i (by omega)
theorem CM_mixS (H : CM F l (mix i a o) k) (e : v = F (a i)) (hi : i < l.length) (hl : l.length ≤ 4096) (hk : k ≤ 4096) : CM F (setA l (nI i) v) (mix (i + 1) a o) k := by
  intro q hq
  rw [cf_set hi hl (by omega)]
  unfold mix
  by_cases z : q = i
  · rw [if_pos z, if_pos (by omega), z]; exact e
  · have := H q hq
    unfold mix at this
    rw [if_neg z, this]
    by_cases y : q < i
    · rw [if_pos y, if_pos (by omega)]
    · rw [if_neg y, if_neg (by omega)]
theorem CM_mixN (H : CM F l (mix i a o) k) (e : a i = o i) : CM F l (mix (i + 1) a o) k := by
  refine CM_ext H (fun q hq => ?_)
  unfold mix
  by_cases z : q = i
  · rw [if_neg (by omega), if_pos (by omega), z, e]
  · by_cases y : q < i
    · rw [if_pos y, if_pos (by omega)]
    · rw [if_neg y, if_neg (by omega)]
theorem CM_mix0 (H : CM F l o k) : CM F l (mix 0 a o) k := H
theorem CM_mixE (H : CM F l (mix k a o) k) : CM F l a k := CM_ext H (fun q hq => if_pos hq)
theorem mix_g {q : Nat} : mix i a o q = if q < i then a q else o q := rfl
end Cm
def inf (T C p : Nat → Nat) (i r : Nat) : Nat → Nat
  | 0 => 0
  | k + 1 => inf T C p i r k + if p i < p k then rels (T k) r * C k else 0
theorem inf_sg (T C p : Nat → Nat) (i r : Nat) : ∀ k, (inf T C p i r k : Int) = sg (fun j => if p i < p j then (rels (T j) r : Int) * C j else 0) k := by
  intro k
  induction k with
  | zero => rfl
  | succ k ih =>
    rw [inf, sg, ← ih]
    by_cases q : p i < p k
    · simp [q]
    · simp [q]
theorem rels_le {T r : Nat} (hT : 0 < T) : rels T r ≤ r := by
  unfold rels
  have : (r + T - 1) / T < r + 1 := by
    rw [Nat.div_lt_iff_lt_mul hT, Nat.add_mul, Nat.one_mul]
    have := Nat.le_mul_of_pos_right r hT
    omega
  omega
theorem inf_le {T C p : Nat → Nat} {i r : Nat} (hr : r ≤ 40) : ∀ k, (∀ j, j < k → 0 < T j ∧ C j ≤ 3) → inf T C p i r k ≤ k * 120 := by
  intro k
  induction k with
  | zero => intro _; exact Nat.le_refl _
  | succ k ih =>
    intro h
    have h1 := ih (fun j hj => h j (by omega))
    have h2 := h k (by omega)
    have h3 : rels (T k) r * C k ≤ 40 * 3 := Nat.mul_le_mul (Nat.le_trans (rels_le h2.1) hr) h2.2
    rw [inf]
    split <;> omega
def TA (m : Nat) (T D C p Sf Lf : Nat → Nat) (A : Nat → List Int32) : Prop := (LN A) ∧ (m ≤ 9) ∧ (CM nI (A 0) T m) ∧ (CM nI (A 1) D m) ∧ (CM nI (A 2) C m) ∧ (CM nI (A 3) p m) ∧ (CM nI (A 4) Sf (m * 4)) ∧ (CM nI (A 5) Lf (m * 4)) ∧ (∀ i, i < m → 0 < T i ∧ T i ≤ 40 ∧ D i ≤ T i ∧ 0 < C i ∧ C i ≤ 3 ∧ 0 < p i ∧ p i ≤ 63) ∧ (∀ q, q < m * 4 → Sf q ≤ 3 ∧ Lf q ≤ 3)
theorem TA.ln {m : Nat} {T D C p Sf Lf : Nat → Nat} {A : Nat → List Int32} (h : TA m T D C p Sf Lf A) : LN A := h.1
theorem TA.m9 {m : Nat} {T D C p Sf Lf : Nat → Nat} {A : Nat → List Int32} (h : TA m T D C p Sf Lf A) : m ≤ 9 := h.2.1
theorem TA.a0 {m : Nat} {T D C p Sf Lf : Nat → Nat} {A : Nat → List Int32} (h : TA m T D C p Sf Lf A) : CM nI (A 0) T m := h.2.2.1
theorem TA.a1 {m : Nat} {T D C p Sf Lf : Nat → Nat} {A : Nat → List Int32} (h : TA m T D C p Sf Lf A) : CM nI (A 1) D m := h.2.2.2.1
theorem TA.a2 {m : Nat} {T D C p Sf Lf : Nat → Nat} {A : Nat → List Int32} (h : TA m T D C p Sf Lf A) : CM nI (A 2) C m := h.2.2.2.2.1
theorem TA.a3 {m : Nat} {T D C p Sf Lf : Nat → Nat} {A : Nat → List Int32} (h : TA m T D C p Sf Lf A) : CM nI (A 3) p m := h.2.2.2.2.2.1
theorem TA.a4 {m : Nat} {T D C p Sf Lf : Nat → Nat} {A : Nat → List Int32} (h : TA m T D C p Sf Lf A) : CM nI (A 4) Sf (m * 4) := h.2.2.2.2.2.2.1
theorem TA.a5 {m : Nat} {T D C p Sf Lf : Nat → Nat} {A : Nat → List Int32} (h : TA m T D C p Sf Lf A) : CM nI (A 5) Lf (m * 4) := h.2.2.2.2.2.2.2.1
theorem TA.rg {m : Nat} {T D C p Sf Lf : Nat → Nat} {A : Nat → List Int32} (h : TA m T D C p Sf Lf A) : ∀ i, i < m → 0 < T i ∧ T i ≤ 40 ∧ D i ≤ T i ∧ 0 < C i ∧ C i ≤ 3 ∧ 0 < p i ∧ p i ≤ 63 := h.2.2.2.2.2.2.2.2.1
theorem TA.rs {m : Nat} {T D C p Sf Lf : Nat → Nat} {A : Nat → List Int32} (h : TA m T D C p Sf Lf A) : ∀ q, q < m * 4 → Sf q ≤ 3 ∧ Lf q ≤ 3 := h.2.2.2.2.2.2.2.2.2
section Gate
variable {b : Nat} {pre post : AHeap} {Q : Option Value → AHeap → Prop} {s : Nat → Int32} {A : Nat → List Int32} {m c : Nat} {T D C p Sf Lf cl : Nat → Nat}
theorem TA.ar {A' : Nat → List Int32} (h : TA m T D C p Sf Lf A) (hl : LN A') (e : ∀ k, k < 6 → A' k = A k) : TA m T D C p Sf Lf A' := by
  obtain ⟨h1, h2, h3, h4, h5, h6, h7, h8, h9, h10⟩ := h
  refine ⟨hl, h2, ?_, ?_, ?_, ?_, ?_, ?_, h9, h10⟩
  · rw [e 0 (by omega)]; exact h3
  · rw [e 1 (by omega)]; exact h4
  · rw [e 2 (by omega)]; exact h5
  · rw [e 3 (by omega)]; exact h6
  · rw [e 4 (by omega)]; exact h7
  · rw [e 5 (by omega)]; exact h8
def FA (A A' : Nat → List Int32) : Prop := ∀ k, k < 11 ∨ 13 < k → A' k = A k
theorem FA_r (A : Nat → List Int32) : FA A A := fun _ _ => rfl
theorem FA_t {A A' A'' : Nat → List Int32} (h : FA A A') (h' : FA A' A'') : FA A A'' := fun k a => (h' k a).trans (h k a)
theorem FA_o {A : Nat → List Int32} {j : Nat} {l : List Int32} (h : 11 ≤ j) (h' : j ≤ 13) : FA A (ou A j l) := fun k a => by rw [ou_a, if_neg (by omega)]
theorem ou_ne {A : Nat → List Int32} {j k : Nat} {l : List Int32} (h : k ≠ j) : ou A j l k = A k := by rw [ou_a, if_neg h]
theorem ou_eq {A : Nat → List Int32} {j : Nat} {l : List Int32} : ou A j l j = l := by rw [ou_a, if_pos rfl]
set_option maxRecDepth 1000000 in
set_option maxHeartbeats 20000000 in
theorem gcW {a e : Int32} : ∀ (n k x y : Nat) (l6 : Slot), k + n = 64 → y < n → x ≤ 840 → okS l6 → Q (some (.int (nI (Nat.gcd x y)))) (put (b + 1) pre s A post) → M11 8 [.val (.ref (b + 1)), .val (.int (a)), .val (.int (e)), .val (.int (nI x)), .val (.int (nI y)), .val (.int (nI k)), l6] [] (put (b + 1) pre s A post) Q := by
  intro n
  induction n with
  | zero => intro k x y l6 _ h; omega
  | succ n ih =>
    intro k x y l6 e h hx o6 hq
    have c1 : (nI k < 64) = True := lT (c := 64) (by omega) (by decide)
    rw [m11_8]
    by_cases z : y = 0
    · subst z
      have z1 : (nI 0 = 0) = True := eq_true rfl
      rw [Nat.gcd_zero_right] at hq
      simp [c1, z1, m11_0, m11_1u, m11_2, m11_3u, m11_5, m11_6u, m11_10, m11_12, m11_15, m11_17, m11_20, m11_23, m11_24, m11_26, m11_27u, m11_27i, m11_27r, m11_27g, m11_29, m11_31i, m11_32, m11_34i, m11_36, m11_39, m11_42, m11_43, nb0, nb1, ou_a, Option.toList_some, Option.toList_none, List.nil_append, List.cons_append]
      exact hq
    · have z1 : (nI y = 0) = False := n0T (by omega) (by omega)
      have e1 := nI_mod (a := x) (c := y) (by omega) (by omega)
      have lt := Nat.mod_lt x (show 0 < y by omega)
      simp [c1, z1, e1, o6, nI_1, m11_0, m11_1u, m11_2, m11_3u, m11_5, m11_6u, m11_10, m11_12, m11_15, m11_17, m11_20, m11_23, m11_24, m11_26, m11_27u, m11_27i, m11_27r, m11_27g, m11_29, m11_31i, m11_32, m11_34i, m11_36, m11_39, m11_42, m11_43, nb0, nb1, ou_a, Option.toList_some, Option.toList_none, List.nil_append, List.cons_append]
      refine ih (k + 1) y (x % y) _ (by omega) (by omega) (by omega) (okS_n _) ?_
      rw [Nat.gcd_comm, Nat.gcd_rec] at hq
      rw [Nat.gcd_comm]
      exact hq
theorem lcW {x y : Nat} (hx : 0 < x) (hx1 : x ≤ 840) (hy : 0 < y) (hy1 : y ≤ 40) (hq : Q (some (.int (nI (x / Nat.gcd x y * y)))) (put (b + 1) pre s A post)) : M10 0 [.val (.ref (b + 1)), .val (.int (nI x)), .val (.int (nI y)), .unset] [] (put (b + 1) pre s A post) Q := by
  have c1 : (nI x < 1) = False := lF (c := 1) hx (by omega)
  have c2 : (nI y < 1) = False := lF (c := 1) hy (by omega)
  have g0 : 0 < Nat.gcd x y := Nat.gcd_pos_of_pos_left _ hx
  have g1 : Nat.gcd x y ≤ y := Nat.gcd_le_right _ hy
  have c3 : (nI (Nat.gcd x y) < 1) = False := lF (c := 1) g0 (by omega)
  have d0 := n0T g0 (by omega)
  have e1 := nI_div (a := x) (c := Nat.gcd x y) (by omega) (by omega)
  simp [c1, c2, m10_0, m10_1, m10_2, m10_5, m10_6, m10_7, m10_10, m10_13, m10_14, m10_15, m10_16, m10_17, m10_20u, m10_21, m10_22, m10_23, m10_26, m10_29, m10_30, m10_31, m10_32, m10_33, m10_34, m10_35, nb0, nb1, ou_a, Option.toList_some, Option.toList_none, List.nil_append, List.cons_append, m11_0, m11_1u, m11_2, m11_3u, m11_5, m11_6u, m11_10, m11_12, m11_15, m11_17, m11_20, m11_23, m11_24, m11_26, m11_27u, m11_27i, m11_27r, m11_27g, m11_29, m11_31i, m11_32, m11_34i, m11_36, m11_39, m11_42, m11_43, nb0, nb1, ou_a, Option.toList_some, Option.toList_none, List.nil_append, List.cons_append]
  refine gcW 64 0 x y _ rfl (by omega) hx1 okS_u ?_
  simp [c3, d0, e1, nI_mul, m10_0, m10_1, m10_2, m10_5, m10_6, m10_7, m10_10, m10_13, m10_14, m10_15, m10_16, m10_17, m10_20u, m10_21, m10_22, m10_23, m10_26, m10_29, m10_30, m10_31, m10_32, m10_33, m10_34, m10_35, nb0, nb1, ou_a, Option.toList_some, Option.toList_none, List.nil_append, List.cons_append]
  exact hq
set_option maxRecDepth 1000000 in
set_option maxHeartbeats 20000000 in
theorem ccJ {r : Nat} (hr : r < 4) (hT : TA m T D C p Sf Lf A) : ∀ (k j c : Nat), j + k = m → c ≤ 63 → (∀ i, i < j → 0 < Lf (i * 4 + r) → p i ≤ c) →
    (∀ c', c' ≤ 63 → (∀ i, i < m → 0 < Lf (i * 4 + r) → p i ≤ c') → M14 57 [.val (.ref (b + 1)), .val (.int (nI m)), .val (.int (nI r)), .val (.int (nI c')), .val (.int (nI m))] [] (put (b + 1) pre s A post) Q) →
    M14 12 [.val (.ref (b + 1)), .val (.int (nI m)), .val (.int (nI r)), .val (.int (nI c)), .val (.int (nI j))] [] (put (b + 1) pre s A post) Q := by
  intro k
  have m9 := hT.m9
  induction k with
  | zero =>
    intro j c e hc h hq
    obtain rfl : j = m := by omega
    have c1 : (nI j < nI j) = False := lF (by omega) (by omega)
    rw [m14_12]
    simp [c1, m14_0, m14_1u, m14_3, m14_4, m14_7, m14_8u, m14_8i, m14_8r, m14_8g, m14_9, m14_10u, m14_10i, m14_10r, m14_10g, m14_14, m14_15, m14_18, m14_19, m14_22, m14_24, m14_25, m14_26, m14_27, m14_28, m14_29, m14_32, m14_33, m14_36, m14_38, m14_39, m14_40, m14_43, m14_44, m14_47, m14_49, m14_50i, m14_51, m14_54, m14_58, m14_61, m14_62, m14_63, m14_64, m14_67, m14_70, nb0, nb1, ou_a, Option.toList_some, Option.toList_none, List.nil_append, List.cons_append]
    exact hq c hc h
  | succ k ih =>
    intro j c e hc h hq
    have c1 : (nI j < nI m) = True := lT (by omega) (by omega)
    have q5 := in5 hT.ln (i := j * 4 + r) (by omega)
    have v5 := hT.a5 (j * 4 + r) (by omega)
    have q3 := in3 hT.ln (i := j) (by omega)
    have v3 := hT.a3 j (by omega)
    have rg := hT.rg j (by omega)
    have rs := hT.rs (j * 4 + r) (by omega)
    rw [m14_12]
    by_cases z : 0 < Lf (j * 4 + r)
    · have z1 : (0 < nI (Lf (j * 4 + r))) = True := lT (a := 0) z (by omega)
      by_cases y : c < p j
      · have y1 : (nI c < nI (p j)) = True := lT y (by omega)
        simp [c1, q5, v5, q3, v3, z1, y1, nI_1, nI_4, nI_add, m14_0, m14_1u, m14_3, m14_4, m14_7, m14_8u, m14_8i, m14_8r, m14_8g, m14_9, m14_10u, m14_10i, m14_10r, m14_10g, m14_14, m14_15, m14_18, m14_19, m14_22, m14_24, m14_25, m14_26, m14_27, m14_28, m14_29, m14_32, m14_33, m14_36, m14_38, m14_39, m14_40, m14_43, m14_44, m14_47, m14_49, m14_50i, m14_51, m14_54, m14_58, m14_61, m14_62, m14_63, m14_64, m14_67, m14_70, nb0, nb1, ou_a, Option.toList_some, Option.toList_none, List.nil_append, List.cons_append]
        refine ih (j + 1) (p j) (by omega) (by omega) (fun i hi hl => ?_) hq
        by_cases e : i = j
        · rw [e]; exact Nat.le_refl _
        · have := h i (by omega) hl; omega
      · have y1 : (nI c < nI (p j)) = False := lF (by omega) (by omega)
        simp [c1, q5, v5, q3, v3, z1, y1, nI_1, nI_4, nI_add, m14_0, m14_1u, m14_3, m14_4, m14_7, m14_8u, m14_8i, m14_8r, m14_8g, m14_9, m14_10u, m14_10i, m14_10r, m14_10g, m14_14, m14_15, m14_18, m14_19, m14_22, m14_24, m14_25, m14_26, m14_27, m14_28, m14_29, m14_32, m14_33, m14_36, m14_38, m14_39, m14_40, m14_43, m14_44, m14_47, m14_49, m14_50i, m14_51, m14_54, m14_58, m14_61, m14_62, m14_63, m14_64, m14_67, m14_70, nb0, nb1, ou_a, Option.toList_some, Option.toList_none, List.nil_append, List.cons_append]
        refine ih (j + 1) c (by omega) hc (fun i hi hl => ?_) hq
        by_cases e : i = j
        · rw [e]; omega
        · exact h i (by omega) hl
    · have z1 : (0 < nI (Lf (j * 4 + r))) = False := lF (c := Lf (j * 4 + r)) (a := 0) (by omega) (by decide)
      simp [c1, q5, v5, z1, nI_1, nI_4, nI_add, m14_0, m14_1u, m14_3, m14_4, m14_7, m14_8u, m14_8i, m14_8r, m14_8g, m14_9, m14_10u, m14_10i, m14_10r, m14_10g, m14_14, m14_15, m14_18, m14_19, m14_22, m14_24, m14_25, m14_26, m14_27, m14_28, m14_29, m14_32, m14_33, m14_36, m14_38, m14_39, m14_40, m14_43, m14_44, m14_47, m14_49, m14_50i, m14_51, m14_54, m14_58, m14_61, m14_62, m14_63, m14_64, m14_67, m14_70, nb0, nb1, ou_a, Option.toList_some, Option.toList_none, List.nil_append, List.cons_append]
      refine ih (j + 1) c (by omega) hc (fun i hi hl => ?_) hq
      by_cases e : i = j
      · rw [e] at hl; exact absurd hl z
      · exact h i (by omega) hl
theorem ccR : ∀ (k r : Nat) (l3 l4 : Slot) (cl : Nat → Nat) (A : Nat → List Int32), r + k = 4 → TA m T D C p Sf Lf A → okS l3 → okS l4 → CM nI (A 11) cl r → (∀ q, q < r → cl q ≤ 63 ∧ ∀ i, i < m → 0 < Lf (i * 4 + q) → p i ≤ cl q) →
    (∀ A' cl', LN A' → FA A A' → CM nI (A' 11) cl' 4 → (∀ q, q < 4 → cl' q ≤ 63 ∧ ∀ i, i < m → 0 < Lf (i * 4 + q) → p i ≤ cl' q) → Q none (put (b + 1) pre s A' post)) →
    M14 2 [.val (.ref (b + 1)), .val (.int (nI m)), .val (.int (nI r)), l3, l4] [] (put (b + 1) pre s A post) Q := by
  intro k
  induction k with
  | zero =>
    intro r l3 l4 cl A e hT o3 o4 h11 hp hq
    obtain rfl : r = 4 := by omega
    have c1 : (nI 4 < 4) = False := lF (c := 4) (by omega) (by omega)
    rw [m14_2]
    simp [c1, m14_0, m14_1u, m14_3, m14_4, m14_7, m14_8u, m14_8i, m14_8r, m14_8g, m14_9, m14_10u, m14_10i, m14_10r, m14_10g, m14_14, m14_15, m14_18, m14_19, m14_22, m14_24, m14_25, m14_26, m14_27, m14_28, m14_29, m14_32, m14_33, m14_36, m14_38, m14_39, m14_40, m14_43, m14_44, m14_47, m14_49, m14_50i, m14_51, m14_54, m14_57, m14_58, m14_61, m14_62, m14_63, m14_64, m14_67, m14_70, nb0, nb1, ou_a, Option.toList_some, Option.toList_none, List.nil_append, List.cons_append]
    exact hq A cl hT.ln (FA_r _) h11 hp
  | succ k ih =>
    intro r l3 l4 cl A e hT o3 o4 h11 hp hq
    have c1 : (nI r < 4) = True := lT (c := 4) (by omega) (by omega)
    have q11 := in11 hT.ln (i := r) (by omega)
    have l11 := ln11 hT.ln
    rw [m14_2]
    simp [c1, o3, o4, m14_0, m14_1u, m14_3, m14_4, m14_7, m14_8u, m14_8i, m14_8r, m14_8g, m14_9, m14_10u, m14_10i, m14_10r, m14_10g, m14_14, m14_15, m14_18, m14_19, m14_22, m14_24, m14_25, m14_26, m14_27, m14_28, m14_29, m14_32, m14_33, m14_36, m14_38, m14_39, m14_40, m14_43, m14_44, m14_47, m14_49, m14_50i, m14_51, m14_54, m14_57, m14_58, m14_61, m14_62, m14_63, m14_64, m14_67, m14_70, nb0, nb1, ou_a, Option.toList_some, Option.toList_none, List.nil_append, List.cons_append]
    refine ccJ (by omega) hT m 0 0 (by omega) (by decide) (fun i hi => absurd hi (by omega)) (fun c' hc' hp' => ?_)
    simp [q11, nI_1, m14_0, m14_1u, m14_3, m14_4, m14_7, m14_8u, m14_8i, m14_8r, m14_8g, m14_9, m14_10u, m14_10i, m14_10r, m14_10g, m14_14, m14_15, m14_18, m14_19, m14_22, m14_24, m14_25, m14_26, m14_27, m14_28, m14_29, m14_32, m14_33, m14_36, m14_38, m14_39, m14_40, m14_43, m14_44, m14_47, m14_49, m14_50i, m14_51, m14_54, m14_57, m14_58, m14_61, m14_62, m14_63, m14_64, m14_67, m14_70, nb0, nb1, ou_a, Option.toList_some, Option.toList_none, List.nil_append, List.cons_append]
    refine ih (r + 1) _ _ (up cl r c') _ (by omega) (hT.ar (LN_set hT.ln) (fun k hk => ou_ne (by omega))) (okS_n _) (okS_n _) ?_ (fun q hq' => ?_) (fun A' cl' a1 a2 a3 a4 => hq A' cl' a1 (FA_t (FA_o (by omega) (by omega)) a2) a3 a4)
    · rw [ou_eq]; exact CM_push h11 rfl (by omega) (by omega)
    · rw [up_a]
      by_cases e : q = r
      · rw [if_pos e]; subst e; exact ⟨hc', hp'⟩
      · rw [if_neg e]; exact hp q (by omega)
theorem ccW (hT : TA m T D C p Sf Lf A) (hq : ∀ A' cl', LN A' → FA A A' → CM nI (A' 11) cl' 4 → (∀ q, q < 4 → cl' q ≤ 63 ∧ ∀ i, i < m → 0 < Lf (i * 4 + q) → p i ≤ cl' q) → Q none (put (b + 1) pre s A' post)) : M14 0 [.val (.ref (b + 1)), .val (.int (nI m)), .unset, .unset, .unset] [] (put (b + 1) pre s A post) Q := by
  simp [m14_0, m14_1u, m14_3, m14_4, m14_7, m14_8u, m14_8i, m14_8r, m14_8g, m14_9, m14_10u, m14_10i, m14_10r, m14_10g, m14_14, m14_15, m14_18, m14_19, m14_22, m14_24, m14_25, m14_26, m14_27, m14_28, m14_29, m14_32, m14_33, m14_36, m14_38, m14_39, m14_40, m14_43, m14_44, m14_47, m14_49, m14_50i, m14_51, m14_54, m14_57, m14_58, m14_61, m14_62, m14_63, m14_64, m14_67, m14_70, nb0, nb1, ou_a, Option.toList_some, Option.toList_none, List.nil_append, List.cons_append]
  exact ccR 4 0 _ _ (fun _ => 0) A rfl hT okS_u okS_u (fun i hi => absurd hi (by omega)) (fun i hi => absurd hi (by omega)) hq
set_option maxRecDepth 1000000 in
set_option maxHeartbeats 20000000 in
theorem boR {i j : Nat} (hT : TA m T D C p Sf Lf A) (hi : i < m) (hj : j < m) (h11 : CM nI (A 11) cl 4) (hcl : ∀ r, r < 4 → cl r ≤ 63) : ∀ (k r bb : Nat) (l7 : Slot), r + k = 4 → bb ≤ 3 → okS l7 → (∀ r', r' < r → 0 < Lf (j * 4 + r') → p i ≤ cl r' → Lf (j * 4 + r') ≤ bb) →
    (∀ b' l6 l7, b' ≤ 3 → bb ≤ b' → okS l6 → okS l7 → (∀ r', r' < 4 → 0 < Lf (j * 4 + r') → p i ≤ cl r' → Lf (j * 4 + r') ≤ b') → M15 89 [.val (.ref (b + 1)), .val (.int (nI i)), .val (.int (nI m)), .val (.int (nI b')), .val (.int (nI (p i))), .val (.int (nI j)), l6, l7] [] (put (b + 1) pre s A post) Q) →
    M15 37 [.val (.ref (b + 1)), .val (.int (nI i)), .val (.int (nI m)), .val (.int (nI bb)), .val (.int (nI (p i))), .val (.int (nI j)), .val (.int (nI r)), l7] [] (put (b + 1) pre s A post) Q := by
  intro k
  have m9 := hT.m9
  induction k with
  | zero =>
    intro r bb l7 e hb o7 h hq
    obtain rfl : r = 4 := by omega
    have c1 : (nI 4 < 4) = False := lF (c := 4) (by omega) (by omega)
    rw [m15_37]
    simp [c1, m15_0, m15_1u, m15_2, m15_3, m15_6, m15_7, m15_8u, m15_10, m15_11u, m15_15, m15_16, m15_19, m15_20, m15_23, m15_25, m15_26, m15_28, m15_31, m15_34, m15_35u, m15_35i, m15_35r, m15_35g, m15_39, m15_40, m15_43, m15_44, m15_47, m15_49, m15_50, m15_51, m15_53, m15_54, m15_55u, m15_55i, m15_55r, m15_55g, m15_57, m15_59, m15_62, m15_63, m15_66, m15_68, m15_69, m15_71, m15_74, m15_76, m15_77, m15_80, m15_82i, m15_83, m15_86, m15_92, m15_95, m15_96, nb0, nb1, ou_a, Option.toList_some, Option.toList_none, List.nil_append, List.cons_append]
    exact hq bb _ _ hb (Nat.le_refl _) (okS_n _) o7 h
  | succ k ih =>
    intro r bb l7 e hb o7 h hq
    have c1 : (nI r < 4) = True := lT (c := 4) (by omega) (by omega)
    have q5 := in5 hT.ln (i := j * 4 + r) (by omega)
    have v5 := hT.a5 (j * 4 + r) (by omega)
    have q11 := in11 hT.ln (i := r) (by omega)
    have v11 := h11 r (by omega)
    have rg := hT.rg i hi
    have rs := hT.rs (j * 4 + r) (by omega)
    have hc := hcl r (by omega)
    rw [m15_37]
    by_cases z : 0 < Lf (j * 4 + r)
    · have z1 : (0 < nI (Lf (j * 4 + r))) = True := lT (a := 0) z (by omega)
      by_cases y : cl r < p i
      · have y1 : (nI (cl r) < nI (p i)) = True := lT y (by omega)
        simp [c1, q5, v5, q11, v11, z1, y1, o7, nI_1, nI_4, nI_add, m15_0, m15_1u, m15_2, m15_3, m15_6, m15_7, m15_8u, m15_10, m15_11u, m15_15, m15_16, m15_19, m15_20, m15_23, m15_25, m15_26, m15_28, m15_31, m15_34, m15_35u, m15_35i, m15_35r, m15_35g, m15_39, m15_40, m15_43, m15_44, m15_47, m15_49, m15_50, m15_51, m15_53, m15_54, m15_55u, m15_55i, m15_55r, m15_55g, m15_57, m15_59, m15_62, m15_63, m15_66, m15_68, m15_69, m15_71, m15_74, m15_76, m15_77, m15_80, m15_82i, m15_83, m15_86, m15_92, m15_95, m15_96, nb0, nb1, ou_a, Option.toList_some, Option.toList_none, List.nil_append, List.cons_append]
        refine ih (r + 1) bb _ (by omega) hb (okS_n _) (fun r' hr' a1 a2 => ?_) hq
        by_cases e : r' = r
        · rw [e] at a2; omega
        · exact h r' (by omega) a1 a2
      · have y1 : (nI (cl r) < nI (p i)) = False := lF (by omega) (by omega)
        by_cases x : bb < Lf (j * 4 + r)
        · have x1 : (nI bb < nI (Lf (j * 4 + r))) = True := lT x (by omega)
          simp [c1, q5, v5, q11, v11, z1, y1, x1, o7, nI_1, nI_4, nI_add, m15_0, m15_1u, m15_2, m15_3, m15_6, m15_7, m15_8u, m15_10, m15_11u, m15_15, m15_16, m15_19, m15_20, m15_23, m15_25, m15_26, m15_28, m15_31, m15_34, m15_35u, m15_35i, m15_35r, m15_35g, m15_39, m15_40, m15_43, m15_44, m15_47, m15_49, m15_50, m15_51, m15_53, m15_54, m15_55u, m15_55i, m15_55r, m15_55g, m15_57, m15_59, m15_62, m15_63, m15_66, m15_68, m15_69, m15_71, m15_74, m15_76, m15_77, m15_80, m15_82i, m15_83, m15_86, m15_92, m15_95, m15_96, nb0, nb1, ou_a, Option.toList_some, Option.toList_none, List.nil_append, List.cons_append]
          refine ih (r + 1) (Lf (j * 4 + r)) _ (by omega) (by omega) (okS_n _) (fun r' hr' a1 a2 => ?_) (fun b' l6 l7 u1 u2 => hq b' l6 l7 u1 (by omega))
          by_cases e : r' = r
          · rw [e]; exact Nat.le_refl _
          · have := h r' (by omega) a1 a2; omega
        · have x1 : (nI bb < nI (Lf (j * 4 + r))) = False := lF (by omega) (by omega)
          simp [c1, q5, v5, q11, v11, z1, y1, x1, o7, nI_1, nI_4, nI_add, m15_0, m15_1u, m15_2, m15_3, m15_6, m15_7, m15_8u, m15_10, m15_11u, m15_15, m15_16, m15_19, m15_20, m15_23, m15_25, m15_26, m15_28, m15_31, m15_34, m15_35u, m15_35i, m15_35r, m15_35g, m15_39, m15_40, m15_43, m15_44, m15_47, m15_49, m15_50, m15_51, m15_53, m15_54, m15_55u, m15_55i, m15_55r, m15_55g, m15_57, m15_59, m15_62, m15_63, m15_66, m15_68, m15_69, m15_71, m15_74, m15_76, m15_77, m15_80, m15_82i, m15_83, m15_86, m15_92, m15_95, m15_96, nb0, nb1, ou_a, Option.toList_some, Option.toList_none, List.nil_append, List.cons_append]
          refine ih (r + 1) bb _ (by omega) hb (okS_n _) (fun r' hr' a1 a2 => ?_) hq
          by_cases e : r' = r
          · rw [e]; omega
          · exact h r' (by omega) a1 a2
    · have z1 : (0 < nI (Lf (j * 4 + r))) = False := lF (c := Lf (j * 4 + r)) (a := 0) (by omega) (by decide)
      simp [c1, q5, v5, z1, o7, nI_1, nI_4, nI_add, m15_0, m15_1u, m15_2, m15_3, m15_6, m15_7, m15_8u, m15_10, m15_11u, m15_15, m15_16, m15_19, m15_20, m15_23, m15_25, m15_26, m15_28, m15_31, m15_34, m15_35u, m15_35i, m15_35r, m15_35g, m15_39, m15_40, m15_43, m15_44, m15_47, m15_49, m15_50, m15_51, m15_53, m15_54, m15_55u, m15_55i, m15_55r, m15_55g, m15_57, m15_59, m15_62, m15_63, m15_66, m15_68, m15_69, m15_71, m15_74, m15_76, m15_77, m15_80, m15_82i, m15_83, m15_86, m15_92, m15_95, m15_96, nb0, nb1, ou_a, Option.toList_some, Option.toList_none, List.nil_append, List.cons_append]
      refine ih (r + 1) bb _ (by omega) hb (okS_n _) (fun r' hr' a1 a2 => ?_) hq
      by_cases e : r' = r
      · rw [e] at a1; exact absurd a1 z
      · exact h r' (by omega) a1 a2
theorem boJ {i : Nat} (hT : TA m T D C p Sf Lf A) (hi : i < m) (h11 : CM nI (A 11) cl 4) (hcl : ∀ r, r < 4 → cl r ≤ 63) : ∀ (k j bb : Nat) (l6 l7 : Slot), j + k = m → bb ≤ 3 → okS l6 → okS l7 → (∀ j' r', j' < j → r' < 4 → p j' < p i → 0 < Lf (j' * 4 + r') → p i ≤ cl r' → Lf (j' * 4 + r') ≤ bb) →
    (∀ b', b' ≤ 3 → (∀ j' r', j' < m → r' < 4 → p j' < p i → 0 < Lf (j' * 4 + r') → p i ≤ cl r' → Lf (j' * 4 + r') ≤ b') → Q (some (.int (nI b'))) (put (b + 1) pre s A post)) →
    M15 13 [.val (.ref (b + 1)), .val (.int (nI i)), .val (.int (nI m)), .val (.int (nI bb)), .val (.int (nI (p i))), .val (.int (nI j)), l6, l7] [] (put (b + 1) pre s A post) Q := by
  intro k
  have m9 := hT.m9
  induction k with
  | zero =>
    intro j bb l6 l7 e hb o6 o7 h hq
    obtain rfl : j = m := by omega
    have c1 : (nI j < nI j) = False := lF (by omega) (by omega)
    rw [m15_13]
    simp [c1, m15_0, m15_1u, m15_2, m15_3, m15_6, m15_7, m15_8u, m15_10, m15_11u, m15_15, m15_16, m15_19, m15_20, m15_23, m15_25, m15_26, m15_28, m15_31, m15_34, m15_35u, m15_35i, m15_35r, m15_35g, m15_39, m15_40, m15_43, m15_44, m15_47, m15_49, m15_50, m15_51, m15_53, m15_54, m15_55u, m15_55i, m15_55r, m15_55g, m15_57, m15_59, m15_62, m15_63, m15_66, m15_68, m15_69, m15_71, m15_74, m15_76, m15_77, m15_80, m15_82i, m15_83, m15_86, m15_89, m15_92, m15_95, m15_96, nb0, nb1, ou_a, Option.toList_some, Option.toList_none, List.nil_append, List.cons_append]
    exact hq bb hb h
  | succ k ih =>
    intro j bb l6 l7 e hb o6 o7 h hq
    have c1 : (nI j < nI m) = True := lT (by omega) (by omega)
    have q3 := in3 hT.ln (i := j) (by omega)
    have v3 := hT.a3 j (by omega)
    have rg := hT.rg i hi
    have rj := hT.rg j (by omega)
    rw [m15_13]
    by_cases z : p j < p i
    · have z1 : (nI (p j) < nI (p i)) = True := lT z (by omega)
      simp [c1, q3, v3, z1, o6, m15_0, m15_1u, m15_2, m15_3, m15_6, m15_7, m15_8u, m15_10, m15_11u, m15_15, m15_16, m15_19, m15_20, m15_23, m15_25, m15_26, m15_28, m15_31, m15_34, m15_35u, m15_35i, m15_35r, m15_35g, m15_39, m15_40, m15_43, m15_44, m15_47, m15_49, m15_50, m15_51, m15_53, m15_54, m15_55u, m15_55i, m15_55r, m15_55g, m15_57, m15_59, m15_62, m15_63, m15_66, m15_68, m15_69, m15_71, m15_74, m15_76, m15_77, m15_80, m15_82i, m15_83, m15_86, m15_89, m15_92, m15_95, m15_96, nb0, nb1, ou_a, Option.toList_some, Option.toList_none, List.nil_append, List.cons_append]
      refine boR hT hi (by omega) h11 hcl 4 0 bb _ rfl hb o7 (fun _ hr => absurd hr (by omega)) (fun b' l6 l7 u1 u2 u3 u4 u5 => ?_)
      simp [nI_1, m15_0, m15_1u, m15_2, m15_3, m15_6, m15_7, m15_8u, m15_10, m15_11u, m15_15, m15_16, m15_19, m15_20, m15_23, m15_25, m15_26, m15_28, m15_31, m15_34, m15_35u, m15_35i, m15_35r, m15_35g, m15_39, m15_40, m15_43, m15_44, m15_47, m15_49, m15_50, m15_51, m15_53, m15_54, m15_55u, m15_55i, m15_55r, m15_55g, m15_57, m15_59, m15_62, m15_63, m15_66, m15_68, m15_69, m15_71, m15_74, m15_76, m15_77, m15_80, m15_82i, m15_83, m15_86, m15_89, m15_92, m15_95, m15_96, nb0, nb1, ou_a, Option.toList_some, Option.toList_none, List.nil_append, List.cons_append]
      refine ih (j + 1) b' _ _ (by omega) u1 u3 u4 (fun j' r' a1 a2 a3 a4 a5 => ?_) hq
      by_cases e : j' = j
      · subst e; exact u5 r' a2 a4 a5
      · have := h j' r' (by omega) a2 a3 a4 a5; omega
    · have z1 : (nI (p j) < nI (p i)) = False := lF (by omega) (by omega)
      simp [c1, q3, v3, z1, nI_1, m15_0, m15_1u, m15_2, m15_3, m15_6, m15_7, m15_8u, m15_10, m15_11u, m15_15, m15_16, m15_19, m15_20, m15_23, m15_25, m15_26, m15_28, m15_31, m15_34, m15_35u, m15_35i, m15_35r, m15_35g, m15_39, m15_40, m15_43, m15_44, m15_47, m15_49, m15_50, m15_51, m15_53, m15_54, m15_55u, m15_55i, m15_55r, m15_55g, m15_57, m15_59, m15_62, m15_63, m15_66, m15_68, m15_69, m15_71, m15_74, m15_76, m15_77, m15_80, m15_82i, m15_83, m15_86, m15_89, m15_92, m15_95, m15_96, nb0, nb1, ou_a, Option.toList_some, Option.toList_none, List.nil_append, List.cons_append]
      refine ih (j + 1) bb _ _ (by omega) hb o6 o7 (fun j' r' a1 a2 a3 a4 a5 => ?_) hq
      by_cases e : j' = j
      · rw [e] at a3; exact absurd a3 z
      · exact h j' r' (by omega) a2 a3 a4 a5
theorem boW {i : Nat} (hT : TA m T D C p Sf Lf A) (hi : i < m) (h11 : CM nI (A 11) cl 4) (hcl : ∀ r, r < 4 → cl r ≤ 63) (hq : ∀ b', b' ≤ 3 → (∀ j' r', j' < m → r' < 4 → p j' < p i → 0 < Lf (j' * 4 + r') → p i ≤ cl r' → Lf (j' * 4 + r') ≤ b') → Q (some (.int (nI b'))) (put (b + 1) pre s A post)) : M15 0 [.val (.ref (b + 1)), .val (.int (nI i)), .val (.int (nI m)), .unset, .unset, .unset, .unset, .unset] [] (put (b + 1) pre s A post) Q := by
  have m9 := hT.m9
  have q3 := in3 hT.ln (i := i) (by omega)
  have v3 := hT.a3 i hi
  simp [q3, v3, m15_0, m15_1u, m15_2, m15_3, m15_6, m15_7, m15_8u, m15_10, m15_11u, m15_15, m15_16, m15_19, m15_20, m15_23, m15_25, m15_26, m15_28, m15_31, m15_34, m15_35u, m15_35i, m15_35r, m15_35g, m15_39, m15_40, m15_43, m15_44, m15_47, m15_49, m15_50, m15_51, m15_53, m15_54, m15_55u, m15_55i, m15_55r, m15_55g, m15_57, m15_59, m15_62, m15_63, m15_66, m15_68, m15_69, m15_71, m15_74, m15_76, m15_77, m15_80, m15_82i, m15_83, m15_86, m15_89, m15_92, m15_95, m15_96, nb0, nb1, ou_a, Option.toList_some, Option.toList_none, List.nil_append, List.cons_append]
  exact boJ hT hi h11 hcl m 0 0 _ _ (by omega) (by decide) okS_u okS_u (fun _ _ h => absurd h (by omega)) hq
set_option maxRecDepth 1000000 in
set_option maxHeartbeats 20000000 in
theorem inJ {i r : Nat} (hT : TA m T D C p Sf Lf A) (hi : i < m) (hr : r ≤ 40) (hq : Q (some (.int (nI (inf T C p i r m)))) (put (b + 1) pre s A post)) : ∀ (k j : Nat) (l7 : Slot), j + k = m → okS l7 →
    M17 14 [.val (.ref (b + 1)), .val (.int (nI i)), .val (.int (nI m)), .val (.int (nI r)), .val (.int (nI (inf T C p i r j))), .val (.int (nI (p i))), .val (.int (nI j)), l7] [] (put (b + 1) pre s A post) Q := by
  intro k
  have m9 := hT.m9
  induction k with
  | zero =>
    intro j l7 e o7
    obtain rfl : j = m := by omega
    have c1 : (nI j < nI j) = False := lF (by omega) (by omega)
    rw [m17_14]
    simp [c1, m17_0, m17_1u, m17_3, m17_4, m17_7, m17_8, m17_9u, m17_11, m17_12u, m17_16, m17_17, m17_20, m17_21, m17_24, m17_26, m17_27u, m17_27i, m17_27r, m17_27g, m17_29, m17_30, m17_33, m17_35, m17_36, m17_38, m17_41, m17_43, m17_46, m17_48, m17_49, m17_51, m17_52, m17_53, m17_54, m17_56, m17_57, m17_58, m17_61, m17_63, m17_64, m17_65, m17_66i, m17_68, m17_71, m17_74, m17_76, nb0, nb1, ou_a, Option.toList_some, Option.toList_none, List.nil_append, List.cons_append]
    exact hq
  | succ k ih =>
    intro j l7 e o7
    have c1 : (nI j < nI m) = True := lT (by omega) (by omega)
    have q3 := in3 hT.ln (i := j) (by omega)
    have v3 := hT.a3 j (by omega)
    have q0 := in0 hT.ln (i := j) (by omega)
    have v0 := hT.a0 j (by omega)
    have q2 := in2 hT.ln (i := j) (by omega)
    have v2 := hT.a2 j (by omega)
    have rg := hT.rg i hi
    have rj := hT.rg j (by omega)
    have go := ih (j + 1) (.val (.int (nI (T j)))) (by omega) (okS_n _)
    rw [inf] at go
    have z0 : (0 < nI (T j)) = True := lT (a := 0) rj.1 (by omega)
    have d0 := n0T rj.1 (by omega)
    rw [m17_14]
    by_cases z : p i < p j
    · have z1 : (nI (p i) < nI (p j)) = True := lT z (by omega)
      have e1 : nI (r + T j) - 1 = nI (r + T j - 1) := nI_sub (c := 1) (by omega)
      have e2 : nI (r + T j - 1) / nI (T j) = nI (rels (T j) r) := nI_div (by omega) (by omega)
      rw [if_pos z] at go
      simp [c1, q3, v3, q0, v0, q2, v2, z0, d0, z1, e1, e2, o7, nI_mul, nI_1, nI_add, m17_0, m17_1u, m17_3, m17_4, m17_7, m17_8, m17_9u, m17_11, m17_12u, m17_16, m17_17, m17_20, m17_21, m17_24, m17_26, m17_27u, m17_27i, m17_27r, m17_27g, m17_29, m17_30, m17_33, m17_35, m17_36, m17_38, m17_41, m17_43, m17_46, m17_48, m17_49, m17_51, m17_52, m17_53, m17_54, m17_56, m17_57, m17_58, m17_61, m17_63, m17_64, m17_65, m17_66i, m17_68, m17_71, m17_74, m17_76, nb0, nb1, ou_a, Option.toList_some, Option.toList_none, List.nil_append, List.cons_append]
      exact go
    · have z1 : (nI (p i) < nI (p j)) = False := lF (by omega) (by omega)
      rw [if_neg z] at go
      simp [c1, q3, v3, q0, v0, z1, o7, nI_1, m17_0, m17_1u, m17_3, m17_4, m17_7, m17_8, m17_9u, m17_11, m17_12u, m17_16, m17_17, m17_20, m17_21, m17_24, m17_26, m17_27u, m17_27i, m17_27r, m17_27g, m17_29, m17_30, m17_33, m17_35, m17_36, m17_38, m17_41, m17_43, m17_46, m17_48, m17_49, m17_51, m17_52, m17_53, m17_54, m17_56, m17_57, m17_58, m17_61, m17_63, m17_64, m17_65, m17_66i, m17_68, m17_71, m17_74, m17_76, nb0, nb1, ou_a, Option.toList_some, Option.toList_none, List.nil_append, List.cons_append]
      exact go
theorem inW {i r : Nat} (hT : TA m T D C p Sf Lf A) (hi : i < m) (hr : r ≤ 40) (hq : Q (some (.int (nI (inf T C p i r m)))) (put (b + 1) pre s A post)) : M17 0 [.val (.ref (b + 1)), .val (.int (nI i)), .val (.int (nI m)), .val (.int (nI r)), .unset, .unset, .unset, .unset] [] (put (b + 1) pre s A post) Q := by
  have m9 := hT.m9
  have q3 := in3 hT.ln (i := i) (by omega)
  have v3 := hT.a3 i hi
  simp [q3, v3, m17_0, m17_1u, m17_3, m17_4, m17_7, m17_8, m17_9u, m17_11, m17_12u, m17_16, m17_17, m17_20, m17_21, m17_24, m17_26, m17_27u, m17_27i, m17_27r, m17_27g, m17_29, m17_30, m17_33, m17_35, m17_36, m17_38, m17_41, m17_43, m17_46, m17_48, m17_49, m17_51, m17_52, m17_53, m17_54, m17_56, m17_57, m17_58, m17_61, m17_63, m17_64, m17_65, m17_66i, m17_68, m17_71, m17_74, m17_76, nb0, nb1, ou_a, Option.toList_some, Option.toList_none, List.nil_append, List.cons_append]
  exact inJ hT hi hr hq m 0 _ (by omega) okS_u
theorem roK {i bb : Nat} (hT : TA m T D C p Sf Lf A) (hi : i < m) (hb : bb ≤ 3) (hq1 : ∀ r, r ≤ D i → r = C i + bb + inf T C p i r m → Q (some (.int (nI r))) (put (b + 1) pre s A post)) (hq2 : Q (some (.int (-1))) (put (b + 1) pre s A post)) : ∀ (n k r : Nat) (l7 : Slot), k + n = 842 → r ≤ 2000 → okS l7 →
    M16 17 [.val (.ref (b + 1)), .val (.int (nI i)), .val (.int (nI m)), .val (.int (nI bb)), .val (.int (nI (C i + bb))), .val (.int (nI r)), .val (.int (nI k)), l7] [] (put (b + 1) pre s A post) Q := by
  intro n
  have m9 := hT.m9
  have rg := hT.rg i hi
  induction n with
  | zero =>
    intro k r l7 e hr o7
    obtain rfl : k = 842 := by omega
    have c1 : (nI 842 < 842) = False := lF (c := 842) (by omega) (by omega)
    rw [m16_17]
    simp [c1, m16_0, m16_1, m16_4, m16_5, m16_6, m16_7, m16_8u, m16_10, m16_12u, m16_14, m16_15u, m16_19, m16_22, m16_25, m16_27, m16_28, m16_31, m16_32, m16_33, m16_36, m16_37, m16_38, m16_40, m16_41, m16_42, m16_43, m16_45, m16_48, m16_49u, m16_49i, m16_49r, m16_49g, m16_51, m16_53, m16_55, m16_58, m16_60, m16_61, m16_63i, m16_65, m16_68, m16_71, m16_72, nb0, nb1, ou_a, Option.toList_some, Option.toList_none, List.nil_append, List.cons_append]
    exact hq2
  | succ n ih =>
    intro k r l7 e hr o7
    have c1 : (nI k < 842) = True := lT (c := 842) (by omega) (by omega)
    have q1 := in1 hT.ln (i := i) (by omega)
    have v1 := hT.a1 i hi
    rw [m16_17]
    by_cases z : D i < r
    · have z1 : (nI (D i) < nI r) = True := lT z (by omega)
      simp [c1, q1, v1, z1, m16_0, m16_1, m16_4, m16_5, m16_6, m16_7, m16_8u, m16_10, m16_12u, m16_14, m16_15u, m16_19, m16_22, m16_25, m16_27, m16_28, m16_31, m16_32, m16_33, m16_36, m16_37, m16_38, m16_40, m16_41, m16_42, m16_43, m16_45, m16_48, m16_49u, m16_49i, m16_49r, m16_49g, m16_51, m16_53, m16_55, m16_58, m16_60, m16_61, m16_63i, m16_65, m16_68, m16_71, m16_72, nb0, nb1, ou_a, Option.toList_some, Option.toList_none, List.nil_append, List.cons_append]
      exact hq2
    · have z1 : (nI (D i) < nI r) = False := lF (by omega) (by omega)
      have il := inf_le (T := T) (C := C) (p := p) (i := i) (r := r) (by omega) m (fun j hj => ⟨(hT.rg j hj).1, (hT.rg j hj).2.2.2.2.1⟩)
      simp [c1, q1, v1, z1, m16_0, m16_1, m16_4, m16_5, m16_6, m16_7, m16_8u, m16_10, m16_12u, m16_14, m16_15u, m16_19, m16_22, m16_25, m16_27, m16_28, m16_31, m16_32, m16_33, m16_36, m16_37, m16_38, m16_40, m16_41, m16_42, m16_43, m16_45, m16_48, m16_49u, m16_49i, m16_49r, m16_49g, m16_51, m16_53, m16_55, m16_58, m16_60, m16_61, m16_63i, m16_65, m16_68, m16_71, m16_72, nb0, nb1, ou_a, Option.toList_some, Option.toList_none, List.nil_append, List.cons_append]
      refine inW hT hi (by omega) ?_
      by_cases y : C i + bb + inf T C p i r m = r
      · have y1 : (nI (C i + bb + inf T C p i r m) = nI r) = True := eT y
        simp [y1, o7, nI_add, m16_0, m16_1, m16_4, m16_5, m16_6, m16_7, m16_8u, m16_10, m16_12u, m16_14, m16_15u, m16_19, m16_22, m16_25, m16_27, m16_28, m16_31, m16_32, m16_33, m16_36, m16_37, m16_38, m16_40, m16_41, m16_42, m16_43, m16_45, m16_48, m16_49u, m16_49i, m16_49r, m16_49g, m16_51, m16_53, m16_55, m16_58, m16_60, m16_61, m16_63i, m16_65, m16_68, m16_71, m16_72, nb0, nb1, ou_a, Option.toList_some, Option.toList_none, List.nil_append, List.cons_append]
        exact hq1 r (by omega) y.symm
      · have y1 : (nI (C i + bb + inf T C p i r m) = nI r) = False := eF y (by omega) (by omega)
        simp [y1, o7, nI_add, nI_1, m16_0, m16_1, m16_4, m16_5, m16_6, m16_7, m16_8u, m16_10, m16_12u, m16_14, m16_15u, m16_19, m16_22, m16_25, m16_27, m16_28, m16_31, m16_32, m16_33, m16_36, m16_37, m16_38, m16_40, m16_41, m16_42, m16_43, m16_45, m16_48, m16_49u, m16_49i, m16_49r, m16_49g, m16_51, m16_53, m16_55, m16_58, m16_60, m16_61, m16_63i, m16_65, m16_68, m16_71, m16_72, nb0, nb1, ou_a, Option.toList_some, Option.toList_none, List.nil_append, List.cons_append]
        exact ih (k + 1) _ _ (by omega) (by omega) (okS_n _)
theorem roW {i bb : Nat} (hT : TA m T D C p Sf Lf A) (hi : i < m) (hb : bb ≤ 3) (hq1 : ∀ r, r ≤ D i → r = C i + bb + inf T C p i r m → Q (some (.int (nI r))) (put (b + 1) pre s A post)) (hq2 : Q (some (.int (-1))) (put (b + 1) pre s A post)) : M16 0 [.val (.ref (b + 1)), .val (.int (nI i)), .val (.int (nI m)), .val (.int (nI bb)), .unset, .unset, .unset, .unset] [] (put (b + 1) pre s A post) Q := by
  have m9 := hT.m9
  have rg := hT.rg i hi
  have q2 := in2 hT.ln (i := i) (by omega)
  have v2 := hT.a2 i hi
  simp [q2, v2, nI_add, m16_0, m16_1, m16_4, m16_5, m16_6, m16_7, m16_8u, m16_10, m16_12u, m16_14, m16_15u, m16_19, m16_22, m16_25, m16_27, m16_28, m16_31, m16_32, m16_33, m16_36, m16_37, m16_38, m16_40, m16_41, m16_42, m16_43, m16_45, m16_48, m16_49u, m16_49i, m16_49r, m16_49g, m16_51, m16_53, m16_55, m16_58, m16_60, m16_61, m16_63i, m16_65, m16_68, m16_71, m16_72, nb0, nb1, ou_a, Option.toList_some, Option.toList_none, List.nil_append, List.cons_append]
  exact roK hT hi hb hq1 hq2 842 0 _ _ rfl (by omega) okS_u
def PI (m : Nat) (T D C p Lf cl : Nat → Nat) (i Ri Bi : Nat) : Prop := Ri ≤ D i ∧ Ri = C i + Bi + inf T C p i Ri m ∧ ∀ j' r', j' < m → r' < 4 → p j' < p i → 0 < Lf (j' * 4 + r') → p i ≤ cl r' → Lf (j' * 4 + r') ≤ Bi
set_option maxRecDepth 1000000 in
set_option maxHeartbeats 20000000 in
theorem anL (hcl : ∀ r, r < 4 → cl r ≤ 63) : ∀ (k i : Nat) (l3 l4 : Slot) (Bb Rb : Nat → Nat) (A : Nat → List Int32), i + k = m → TA m T D C p Sf Lf A → CM nI (A 11) cl 4 → CM nI (A 13) Rb i → (∀ i', i' < i → PI m T D C p Lf cl i' (Rb i') (Bb i')) → okS l3 → okS l4 →
    (∀ (A' : Nat → List Int32) (Rb' Bb' : Nat → Nat), LN A' → FA A A' → CM nI (A' 11) cl 4 → CM nI (A' 13) Rb' m → (∀ i', i' < m → PI m T D C p Lf cl i' (Rb' i') (Bb' i')) → Q (some (.int (-1))) (put (b + 1) pre s A' post)) →
    (∀ A' i', i' < m → LN A' → FA A A' → Q (some (.int (nI i'))) (put (b + 1) pre s A' post)) →
    M13 7 [.val (.ref (b + 1)), .val (.int (nI m)), .val (.int (nI i)), l3, l4] [] (put (b + 1) pre s A post) Q := by
  intro k
  induction k with
  | zero =>
    intro i l3 l4 Bb Rb A e hT h11 h13 hp o3 o4 hq1 hq2
    have m9 := hT.m9
    obtain rfl : i = m := by omega
    have c1 : (nI i < nI i) = False := lF (by omega) (by omega)
    rw [m13_7]
    simp [c1, m13_0, m13_1, m13_2, m13_5, m13_6u, m13_8, m13_9, m13_12, m13_13, m13_14, m13_15, m13_18u, m13_18i, m13_18r, m13_18g, m13_19, m13_20, m13_23, m13_24, m13_25, m13_26, m13_27, m13_28, m13_29, m13_30, m13_33u, m13_33i, m13_33r, m13_33g, m13_35, m13_37, m13_40, m13_41, m13_42, m13_43, m13_46, m13_47, m13_49, m13_50, m13_53, m13_56, m13_57, nb0, nb1, ou_a, Option.toList_some, Option.toList_none, List.nil_append, List.cons_append]
    exact hq1 A Rb Bb hT.ln (FA_r _) h11 h13 hp
  | succ k ih =>
    intro i l3 l4 Bb Rb A e hT h11 h13 hp o3 o4 hq1 hq2
    have m9 := hT.m9
    have c1 : (nI i < nI m) = True := lT (by omega) (by omega)
    have q12 := in12 hT.ln (i := i) (by omega)
    rw [m13_7]
    simp [c1, m13_0, m13_1, m13_2, m13_5, m13_6u, m13_8, m13_9, m13_12, m13_13, m13_14, m13_15, m13_18u, m13_18i, m13_18r, m13_18g, m13_19, m13_20, m13_23, m13_24, m13_25, m13_26, m13_27, m13_28, m13_29, m13_30, m13_33u, m13_33i, m13_33r, m13_33g, m13_35, m13_37, m13_40, m13_41, m13_42, m13_43, m13_46, m13_47, m13_49, m13_50, m13_53, m13_56, m13_57, nb0, nb1, ou_a, Option.toList_some, Option.toList_none, List.nil_append, List.cons_append]
    refine boW hT (by omega) h11 hcl (fun b' hb' hB => ?_)
    simp [q12, o3, m13_0, m13_1, m13_2, m13_5, m13_6u, m13_8, m13_9, m13_12, m13_13, m13_14, m13_15, m13_18u, m13_18i, m13_18r, m13_18g, m13_19, m13_20, m13_23, m13_24, m13_25, m13_26, m13_27, m13_28, m13_29, m13_30, m13_33u, m13_33i, m13_33r, m13_33g, m13_35, m13_37, m13_40, m13_41, m13_42, m13_43, m13_46, m13_47, m13_49, m13_50, m13_53, m13_56, m13_57, nb0, nb1, ou_a, Option.toList_some, Option.toList_none, List.nil_append, List.cons_append]
    have hL1 : LN (ou A 12 (setA (A 12) (nI i) (nI b'))) := LN_set hT.ln
    have hT1 : TA m T D C p Sf Lf (ou A 12 (setA (A 12) (nI i) (nI b'))) := hT.ar hL1 (fun k hk => ou_ne (by omega))
    refine roW hT1 (by omega) hb' (fun r hr er => ?_) ?_
    · have q13 := in13 hL1 (i := i) (by omega)
      rw [ou_ne (by decide)] at q13
      have l13 := ln13 hT.ln
      have rg := hT.rg i (by omega)
      have nn : (nI r < 0) = False := nnF (by omega)
      simp [nn, q13, o4, nI_1, m13_0, m13_1, m13_2, m13_5, m13_6u, m13_8, m13_9, m13_12, m13_13, m13_14, m13_15, m13_18u, m13_18i, m13_18r, m13_18g, m13_19, m13_20, m13_23, m13_24, m13_25, m13_26, m13_27, m13_28, m13_29, m13_30, m13_33u, m13_33i, m13_33r, m13_33g, m13_35, m13_37, m13_40, m13_41, m13_42, m13_43, m13_46, m13_47, m13_49, m13_50, m13_53, m13_56, m13_57, nb0, nb1, ou_a, Option.toList_some, Option.toList_none, List.nil_append, List.cons_append]
      have hL2 : LN (ou (ou A 12 (setA (A 12) (nI i) (nI b'))) 13 (setA (A 13) (nI i) (nI r))) := LN_ou hL1 (by rw [setA_len]; exact hT.ln _)
      have f2 : FA A (ou (ou A 12 (setA (A 12) (nI i) (nI b'))) 13 (setA (A 13) (nI i) (nI r))) := FA_t (FA_o (by decide) (by decide)) (FA_o (by decide) (by decide))
      refine ih (i + 1) _ _ (up Bb i b') (up Rb i r) _ (by omega) (hT.ar hL2 (fun k hk => f2 k (by omega))) ?_ ?_ (fun i' hi' => ?_) (okS_n _) (okS_n _) (fun A' R' B' a1 a2 => hq1 A' R' B' a1 (FA_t f2 a2)) (fun A' i' a0 a1 a2 => hq2 A' i' a0 a1 (FA_t f2 a2))
      · rw [ou_ne (by decide), ou_ne (by decide)]; exact h11
      · rw [ou_eq]; exact CM_push h13 rfl (by omega) (by omega)
      · rw [up_a, up_a]
        by_cases e : i' = i
        · rw [if_pos e, if_pos e]; subst e; exact ⟨hr, er, hB⟩
        · rw [if_neg e, if_neg e]; exact hp i' (by omega)
    · simp [o4, m13_0, m13_1, m13_2, m13_5, m13_6u, m13_8, m13_9, m13_12, m13_13, m13_14, m13_15, m13_18u, m13_18i, m13_18r, m13_18g, m13_19, m13_20, m13_23, m13_24, m13_25, m13_26, m13_27, m13_28, m13_29, m13_30, m13_33u, m13_33i, m13_33r, m13_33g, m13_35, m13_37, m13_40, m13_41, m13_42, m13_43, m13_46, m13_47, m13_49, m13_50, m13_53, m13_56, m13_57, nb0, nb1, ou_a, Option.toList_some, Option.toList_none, List.nil_append, List.cons_append]
      exact hq2 _ i (by omega) hL1 (FA_o (by decide) (by decide))
theorem anW (hT : TA m T D C p Sf Lf A) (hq1 : ∀ (A' : Nat → List Int32) (cl Rb Bb : Nat → Nat), LN A' → FA A A' → CM nI (A' 11) cl 4 → CM nI (A' 13) Rb m → (∀ q, q < 4 → cl q ≤ 63 ∧ ∀ i, i < m → 0 < Lf (i * 4 + q) → p i ≤ cl q) → (∀ i', i' < m → PI m T D C p Lf cl i' (Rb i') (Bb i')) → Q (some (.int (-1))) (put (b + 1) pre s A' post))
    (hq2 : ∀ A' i', i' < m → LN A' → FA A A' → Q (some (.int (nI i'))) (put (b + 1) pre s A' post)) : M13 0 [.val (.ref (b + 1)), .val (.int (nI m)), .unset, .unset, .unset] [] (put (b + 1) pre s A post) Q := by
  simp [m13_0, m13_1, m13_2, m13_5, m13_6u, m13_8, m13_9, m13_12, m13_13, m13_14, m13_15, m13_18u, m13_18i, m13_18r, m13_18g, m13_19, m13_20, m13_23, m13_24, m13_25, m13_26, m13_27, m13_28, m13_29, m13_30, m13_33u, m13_33i, m13_33r, m13_33g, m13_35, m13_37, m13_40, m13_41, m13_42, m13_43, m13_46, m13_47, m13_49, m13_50, m13_53, m13_56, m13_57, nb0, nb1, ou_a, Option.toList_some, Option.toList_none, List.nil_append, List.cons_append]
  refine ccW hT (fun A1 cl1 L1 f1 h11 hc => ?_)
  simp [m13_0, m13_1, m13_2, m13_5, m13_6u, m13_8, m13_9, m13_12, m13_13, m13_14, m13_15, m13_18u, m13_18i, m13_18r, m13_18g, m13_19, m13_20, m13_23, m13_24, m13_25, m13_26, m13_27, m13_28, m13_29, m13_30, m13_33u, m13_33i, m13_33r, m13_33g, m13_35, m13_37, m13_40, m13_41, m13_42, m13_43, m13_46, m13_47, m13_49, m13_50, m13_53, m13_56, m13_57, nb0, nb1, ou_a, Option.toList_some, Option.toList_none, List.nil_append, List.cons_append]
  exact anL (fun r hr => (hc r hr).1) m 0 _ _ (fun _ => 0) (fun _ => 0) A1 (by omega) (hT.ar L1 (fun k hk => f1 k (by omega))) h11 (fun i hi => absurd hi (by omega)) (fun i hi => absurd hi (by omega)) okS_u okS_u (fun A' R' B' a1 a2 a3 a4 a5 => hq1 A' cl1 R' B' a1 (FA_t f1 a2) a3 a4 hc a5) (fun A' i' a0 a1 a2 => hq2 A' i' a0 a1 (FA_t f1 a2))
def FD (A A' : Nat → List Int32) : Prop := ∀ k, k < 6 ∨ 8 < k → A' k = A k
theorem FD_r (A : Nat → List Int32) : FD A A := fun _ _ => rfl
theorem FD_t {A A' A'' : Nat → List Int32} (h : FD A A') (h' : FD A' A'') : FD A A'' := fun k a => (h' k a).trans (h k a)
theorem FD_o {A : Nat → List Int32} {j : Nat} {l : List Int32} (h : 6 ≤ j) (h' : j ≤ 8) : FD A (ou A j l) := fun k a => by rw [ou_a, if_neg (by omega)]
theorem adC {Rb : Nat → Nat} (m9 : m ≤ 9) : ∀ (k r : Nat) (A : Nat → List Int32), r + k = 4 → LN A → CM nI (A 11) cl 4 → CM nI (A 6) Rb m → CM nI (A 8) cl r →
    (∀ A', LN A' → FD A A' → CM nI (A' 6) Rb m → CM nI (A' 8) cl 4 → Q none (put (b + 1) pre s A' post)) →
    M18 39 [.val (.ref (b + 1)), .val (.int (nI m)), .val (.int (nI r))] [] (put (b + 1) pre s A post) Q := by
  intro k
  induction k with
  | zero =>
    intro r A e hL h11 h6 h8 hq
    obtain rfl : r = 4 := by omega
    have c1 : (nI 4 < 4) = False := lF (c := 4) (by omega) (by omega)
    rw [m18_39]
    simp [c1, m18_0, m18_1u, m18_3, m18_4, m18_7, m18_8, m18_11, m18_12, m18_13, m18_16, m18_17, m18_18, m18_19, m18_20, m18_23, m18_24, m18_25, m18_28, m18_29, m18_30, m18_31, m18_34, m18_37, m18_38i, m18_40, m18_41, m18_44, m18_45, m18_48, m18_49, m18_50, m18_53, m18_54, m18_55, m18_56, m18_59, m18_62, nb0, nb1, ou_a, Option.toList_some, Option.toList_none, List.nil_append, List.cons_append]
    exact hq A hL (FD_r _) h6 h8
  | succ k ih =>
    intro r A e hL h11 h6 h8 hq
    have c1 : (nI r < 4) = True := lT (c := 4) (by omega) (by omega)
    have q11 := in11 hL (i := r) (by omega)
    have v11 := h11 r (by omega)
    have q8 := in8 hL (i := r) (by omega)
    have l8 := ln8 hL
    rw [m18_39]
    simp [c1, q11, v11, q8, nI_1, m18_0, m18_1u, m18_3, m18_4, m18_7, m18_8, m18_11, m18_12, m18_13, m18_16, m18_17, m18_18, m18_19, m18_20, m18_23, m18_24, m18_25, m18_28, m18_29, m18_30, m18_31, m18_34, m18_37, m18_38i, m18_40, m18_41, m18_44, m18_45, m18_48, m18_49, m18_50, m18_53, m18_54, m18_55, m18_56, m18_59, m18_62, nb0, nb1, ou_a, Option.toList_some, Option.toList_none, List.nil_append, List.cons_append]
    refine ih (r + 1) _ (by omega) (LN_set hL) ?_ ?_ ?_ (fun A' a1 a2 => hq A' a1 (FD_t (FD_o (by decide) (by decide)) a2))
    · rw [ou_ne (by decide)]; exact h11
    · rw [ou_ne (by decide)]; exact h6
    · rw [ou_eq]; exact CM_step h8 rfl (by omega) (by omega)
theorem adL {Rb : Nat → Nat} (m9 : m ≤ 9) : ∀ (k i : Nat) (A : Nat → List Int32), i + k = m → LN A → CM nI (A 11) cl 4 → CM nI (A 13) Rb m → CM nI (A 6) Rb i →
    (∀ A', LN A' → FD A A' → CM nI (A' 6) Rb m → CM nI (A' 8) cl 4 → Q none (put (b + 1) pre s A' post)) →
    M18 2 [.val (.ref (b + 1)), .val (.int (nI m)), .val (.int (nI i))] [] (put (b + 1) pre s A post) Q := by
  intro k
  induction k with
  | zero =>
    intro i A e hL h11 h13 h6 hq
    obtain rfl : i = m := by omega
    have c1 : (nI i < nI i) = False := lF (by omega) (by omega)
    rw [m18_2]
    simp [c1, m18_0, m18_1u, m18_3, m18_4, m18_7, m18_8, m18_11, m18_12, m18_13, m18_16, m18_17, m18_18, m18_19, m18_20, m18_23, m18_24, m18_25, m18_28, m18_29, m18_30, m18_31, m18_34, m18_37, m18_38i, m18_40, m18_41, m18_44, m18_45, m18_48, m18_49, m18_50, m18_53, m18_54, m18_55, m18_56, m18_59, m18_62, nb0, nb1, ou_a, Option.toList_some, Option.toList_none, List.nil_append, List.cons_append]
    exact adC m9 4 0 A rfl hL h11 h6 (fun i hi => absurd hi (by omega)) hq
  | succ k ih =>
    intro i A e hL h11 h13 h6 hq
    have c1 : (nI i < nI m) = True := lT (by omega) (by omega)
    have q13 := in13 hL (i := i) (by omega)
    have v13 := h13 i (by omega)
    have q12 := in12 hL (i := i) (by omega)
    have q6 := in6 hL (i := i) (by omega)
    have q7 := in7 hL (i := i) (by omega)
    have l6 := ln6 hL
    rw [m18_2]
    simp [c1, q13, v13, q12, q6, q7, nI_1, m18_0, m18_1u, m18_3, m18_4, m18_7, m18_8, m18_11, m18_12, m18_13, m18_16, m18_17, m18_18, m18_19, m18_20, m18_23, m18_24, m18_25, m18_28, m18_29, m18_30, m18_31, m18_34, m18_37, m18_38i, m18_40, m18_41, m18_44, m18_45, m18_48, m18_49, m18_50, m18_53, m18_54, m18_55, m18_56, m18_59, m18_62, nb0, nb1, ou_a, Option.toList_some, Option.toList_none, List.nil_append, List.cons_append]
    refine ih (i + 1) _ (by omega) (LN_ou (LN_ou hL (by rw [setA_len]; exact hL _)) (by rw [setA_len]; exact hL _)) ?_ ?_ ?_ (fun A' a1 a2 => hq A' a1 (FD_t (FD_t (FD_o (by decide) (by decide)) (FD_o (by decide) (by decide))) a2))
    · rw [ou_ne (by decide), ou_ne (by decide)]; exact h11
    · rw [ou_ne (by decide), ou_ne (by decide)]; exact h13
    · rw [ou_ne (by decide), ou_eq]; exact CM_step h6 rfl (by omega) (by omega)
theorem adW {Rb : Nat → Nat} (m9 : m ≤ 9) (hL : LN A) (h11 : CM nI (A 11) cl 4) (h13 : CM nI (A 13) Rb m) (hq : ∀ A', LN A' → FD A A' → CM nI (A' 6) Rb m → CM nI (A' 8) cl 4 → Q none (put (b + 1) pre s A' post)) : M18 0 [.val (.ref (b + 1)), .val (.int (nI m)), .unset] [] (put (b + 1) pre s A post) Q := by
  simp [m18_0, m18_1u, m18_3, m18_4, m18_7, m18_8, m18_11, m18_12, m18_13, m18_16, m18_17, m18_18, m18_19, m18_20, m18_23, m18_24, m18_25, m18_28, m18_29, m18_30, m18_31, m18_34, m18_37, m18_38i, m18_40, m18_41, m18_44, m18_45, m18_48, m18_49, m18_50, m18_53, m18_54, m18_55, m18_56, m18_59, m18_62, nb0, nb1, ou_a, Option.toList_some, Option.toList_none, List.nil_append, List.cons_append]
  exact adL m9 m 0 A (by omega) hL h11 h13 (fun i hi => absurd hi (by omega)) hq
set_option maxRecDepth 1000000 in
set_option maxHeartbeats 20000000 in
theorem plR {n : Nat} {sS sL : Nat → Nat} (n8 : n < 9) (eS : ∀ r, r < 4 → Sf (n * 4 + r) = sS r) (eL : ∀ r, r < 4 → Lf (n * 4 + r) = sL r) : ∀ (k r : Nat) (A : Nat → List Int32), r + k = 4 → LN A → CM nI (A 9) sS 4 → CM nI (A 10) sL 4 → CM nI (A 4) Sf (n * 4 + r) → CM nI (A 5) Lf (n * 4 + r) →
    (∀ A', LN A' → (∀ k, k ≠ 4 → k ≠ 5 → A' k = A k) → CM nI (A' 4) Sf (n * 4 + 4) → CM nI (A' 5) Lf (n * 4 + 4) → Q none (put (b + 1) pre s A' post)) →
    M12 42 [.val (.ref (b + 1)), .val (.int (nI n)), .val (.int (nI r))] [] (put (b + 1) pre s A post) Q := by
  intro k
  induction k with
  | zero =>
    intro r A e hL h9 h10 h4 h5 hq
    obtain rfl : r = 4 := by omega
    have c1 : (nI 4 < 4) = False := lF (c := 4) (by omega) (by omega)
    rw [m12_42]
    simp [c1, m12_0, m12_1, m12_4, m12_5, m12_6, m12_9, m12_10, m12_11, m12_14, m12_15, m12_16, m12_19, m12_20, m12_21, m12_24, m12_25, m12_26, m12_29, m12_30, m12_31, m12_34, m12_35, m12_36, m12_39, m12_40, m12_41u, m12_43, m12_44, m12_47, m12_48, m12_51, m12_52, m12_53, m12_54, m12_55, m12_56, m12_57, m12_60, m12_61, m12_62, m12_63, m12_64, m12_67, m12_68, m12_69, m12_70, m12_71, m12_72, m12_73, m12_76, m12_77, m12_78, m12_79, m12_82, m12_85, nb0, nb1, ou_a, Option.toList_some, Option.toList_none, List.nil_append, List.cons_append]
    exact hq A hL (fun _ _ _ => rfl) h4 h5
  | succ k ih =>
    intro r A e hL h9 h10 h4 h5 hq
    have c1 : (nI r < 4) = True := lT (c := 4) (by omega) (by omega)
    have q9 := in9 hL (i := r) (by omega)
    have v9 := h9 r (by omega)
    have q10 := in10 hL (i := r) (by omega)
    have v10 := h10 r (by omega)
    have q4 := in4 hL (i := n * 4 + r) (by omega)
    have q5 := in5 hL (i := n * 4 + r) (by omega)
    have l4 := ln4 hL
    have l5 := ln5 hL
    rw [m12_42]
    simp [c1, q9, v9, q10, v10, q4, q5, nI_1, nI_4, nI_add, m12_0, m12_1, m12_4, m12_5, m12_6, m12_9, m12_10, m12_11, m12_14, m12_15, m12_16, m12_19, m12_20, m12_21, m12_24, m12_25, m12_26, m12_29, m12_30, m12_31, m12_34, m12_35, m12_36, m12_39, m12_40, m12_41u, m12_43, m12_44, m12_47, m12_48, m12_51, m12_52, m12_53, m12_54, m12_55, m12_56, m12_57, m12_60, m12_61, m12_62, m12_63, m12_64, m12_67, m12_68, m12_69, m12_70, m12_71, m12_72, m12_73, m12_76, m12_77, m12_78, m12_79, m12_82, m12_85, nb0, nb1, ou_a, Option.toList_some, Option.toList_none, List.nil_append, List.cons_append]
    refine ih (r + 1) _ (by omega) (LN_ou (LN_ou hL (by rw [setA_len]; exact hL _)) (by rw [setA_len]; exact hL _)) ?_ ?_ ?_ ?_ (fun A' a1 a2 => hq A' a1 (fun k k4 k5 => by rw [a2 k k4 k5, ou_ne k5, ou_ne k4]))
    · (repeat rw [ou_ne (by decide)]); exact h9
    · (repeat rw [ou_ne (by decide)]); exact h10
    · rw [ou_ne (by decide), ou_eq]; exact CM_step h4 (by rw [eS r (by omega)]) (by omega) (by omega)
    · rw [ou_eq]; exact CM_step h5 (by rw [eL r (by omega)]) (by omega) (by omega)
def app (n : Nat) (f g : Nat → Nat) : Nat → Nat := fun q => if q < n * 4 then f q else g (q - n * 4)
theorem app_l {n q : Nat} {f g : Nat → Nat} (h : q < n * 4) : app n f g q = f q := if_pos h
theorem app_r {n r : Nat} {f g : Nat → Nat} : app n f g (n * 4 + r) = g r := by
  unfold app
  rw [if_neg (by omega), Nat.add_sub_cancel_left]
theorem plW {n tT tD tC tP : Nat} {sS sL : Nat → Nat} (hT : TA n T D C p Sf Lf A) (n8 : n < 8) (e5 : s 5 = nI tT) (e6 : s 6 = nI tD) (e7 : s 7 = nI tC) (e8 : s 8 = nI tP) (rg : 0 < tT ∧ tT ≤ 40 ∧ tD ≤ tT ∧ 0 < tC ∧ tC ≤ 3 ∧ 0 < tP ∧ tP ≤ 63) (h9 : CM nI (A 9) sS 4) (h10 : CM nI (A 10) sL 4) (rs : ∀ r, r < 4 → sS r + sL r ≤ tC)
    (hq : ∀ A', TA (n + 1) (up T n tT) (up D n tD) (up C n tC) (up p n tP) (app n Sf sS) (app n Lf sL) A' → (∀ k, 6 ≤ k → A' k = A k) → Q none (put (b + 1) pre s A' post)) : M12 0 [.val (.ref (b + 1)), .val (.int (nI n)), .unset] [] (put (b + 1) pre s A post) Q := by
  have q0 := in0 hT.ln (i := n) (by omega)
  have q1 := in1 hT.ln (i := n) (by omega)
  have q2 := in2 hT.ln (i := n) (by omega)
  have q3 := in3 hT.ln (i := n) (by omega)
  have l0 := ln0 hT.ln
  have l1 := ln1 hT.ln
  have l2 := ln2 hT.ln
  have l3 := ln3 hT.ln
  simp [e5, e6, e7, e8, q0, q1, q2, q3, m12_0, m12_1, m12_4, m12_5, m12_6, m12_9, m12_10, m12_11, m12_14, m12_15, m12_16, m12_19, m12_20, m12_21, m12_24, m12_25, m12_26, m12_29, m12_30, m12_31, m12_34, m12_35, m12_36, m12_39, m12_40, m12_41u, m12_43, m12_44, m12_47, m12_48, m12_51, m12_52, m12_53, m12_54, m12_55, m12_56, m12_57, m12_60, m12_61, m12_62, m12_63, m12_64, m12_67, m12_68, m12_69, m12_70, m12_71, m12_72, m12_73, m12_76, m12_77, m12_78, m12_79, m12_82, m12_85, nb0, nb1, ou_a, Option.toList_some, Option.toList_none, List.nil_append, List.cons_append]
  obtain ⟨hL, h2, h3, h4, h5, h6, h7, h8, hr, hs⟩ := hT
  refine plR (Sf := app n Sf sS) (Lf := app n Lf sL) (sS := sS) (sL := sL) (by omega) (fun r _ => app_r) (fun r _ => app_r) 4 0 _ rfl ?_ ?_ ?_ ?_ ?_ (fun A' a1 a2 a3 a4 => hq A' ⟨a1, by omega, ?_, ?_, ?_, ?_, ?_, ?_, fun i hi => ?_, fun q hq => ?_⟩ (fun k hk => ?_))
  · (repeat refine LN_ou ?_ (by simp only [setA_len]; exact hL _)); exact hL
  · (repeat rw [ou_ne (by decide)]); exact h9
  · (repeat rw [ou_ne (by decide)]); exact h10
  · (repeat rw [ou_ne (by decide)]); exact CM_ext h7 (fun i hi => (app_l hi).symm)
  · (repeat rw [ou_ne (by decide)]); exact CM_ext h8 (fun i hi => (app_l hi).symm)
  · rw [a2 0 (by decide) (by decide)]; (repeat rw [ou_ne (by decide)]); rw [ou_eq]; exact CM_push h3 rfl (by omega) (by omega)
  · rw [a2 1 (by decide) (by decide)]; (repeat rw [ou_ne (by decide)]); rw [ou_eq]; exact CM_push h4 rfl (by omega) (by omega)
  · rw [a2 2 (by decide) (by decide)]; (repeat rw [ou_ne (by decide)]); rw [ou_eq]; exact CM_push h5 rfl (by omega) (by omega)
  · rw [a2 3 (by decide) (by decide)]; (repeat rw [ou_ne (by decide)]); rw [ou_eq]; exact CM_push h6 rfl (by omega) (by omega)
  · rw [Nat.add_mul, Nat.one_mul]; exact a3
  · rw [Nat.add_mul, Nat.one_mul]; exact a4
  · rw [up_a, up_a, up_a, up_a]
    by_cases e : i = n
    · rw [if_pos e, if_pos e, if_pos e, if_pos e]; exact rg
    · rw [if_neg e, if_neg e, if_neg e, if_neg e]; exact hr i (by omega)
  · by_cases e : q < n * 4
    · rw [app_l e, app_l e]; exact hs q e
    · obtain ⟨r, rfl⟩ : ∃ r, q = n * 4 + r := ⟨q - n * 4, by omega⟩
      rw [app_r, app_r]
      have := rs r (by omega)
      omega
  · rw [a2 k (by omega) (by omega), ou_ne (by omega), ou_ne (by omega), ou_ne (by omega), ou_ne (by omega)]
theorem TA.down {n tT tD tC tP : Nat} {sS sL : Nat → Nat} (h : TA (n + 1) (up T n tT) (up D n tD) (up C n tC) (up p n tP) (app n Sf sS) (app n Lf sL) A) : TA n T D C p Sf Lf A := by
  obtain ⟨hL, h2, h3, h4, h5, h6, h7, h8, hr, hs⟩ := h
  have u : ∀ {f : Nat → Nat} {w i : Nat}, i < n → up f n w i = f i := fun hi => by rw [up_a, if_neg (by omega)]
  refine ⟨hL, by omega, CM_ext (CM_le h3 (by omega)) (fun i hi => u hi), CM_ext (CM_le h4 (by omega)) (fun i hi => u hi), CM_ext (CM_le h5 (by omega)) (fun i hi => u hi), CM_ext (CM_le h6 (by omega)) (fun i hi => u hi), CM_ext (CM_le h7 (by omega)) (fun i hi => app_l hi), CM_ext (CM_le h8 (by omega)) (fun i hi => app_l hi), fun i hi => ?_, fun q hq => ?_⟩
  · have := hr i (by omega)
    rw [u hi, u hi, u hi, u hi] at this
    exact this
  · have := hs q (by omega)
    rw [app_l hq, app_l hq] at this
    exact this
/-- the staged task, u its period -/
def KS (c : Nat) (p : Nat → Nat) (u : Nat) (s : Nat → Int32) (A : Nat → List Int32) : Prop := s 4 = 0 ∨ ∃ (tD tC tP : Nat) (sS sL : Nat → Nat), s 4 = 1 ∧ s 5 = nI u ∧ s 6 = nI tD ∧ s 7 = nI tC ∧ s 8 = nI tP ∧ (0 < u ∧ u ≤ 40 ∧ tD ≤ u ∧ 0 < tC ∧ tC ≤ 3 ∧ 0 < tP ∧ tP ≤ 63) ∧ (∀ i, i < c → p i ≠ tP) ∧ CM nI (A 9) sS 4 ∧ CM nI (A 10) sL 4 ∧ ∀ r, r < 4 → sS r + sL r ≤ tC
theorem KS.st {u : Nat} {s' : Nat → Int32} {A' : Nat → List Int32} (h : KS c p u s A) (e : ∀ k, 4 ≤ k → k ≤ 8 → s' k = s k) (f : ∀ k, k = 9 ∨ k = 10 → A' k = A k) : KS c p u s' A' := by
  unfold KS at h ⊢
  rw [e 4 (by omega) (by omega), e 5 (by omega) (by omega), e 6 (by omega) (by omega), e 7 (by omega) (by omega), e 8 (by omega) (by omega), f 9 (by omega), f 10 (by omega)]
  exact h
set_option maxRecDepth 1000000 in
set_option maxHeartbeats 20000000 in
theorem ptL {w : Nat} (hT : TA c T D C p Sf Lf A) (s1 : s 1 = nI c) (hw : w ≤ 63) (hq1 : Q (some (.int 1)) (put (b + 1) pre s A post)) (hq0 : (∀ i, i < c → p i ≠ w) → Q (some (.int 0)) (put (b + 1) pre s A post)) : ∀ (k i : Nat), i + k = c → (∀ i', i' < i → p i' ≠ w) → M6 2 [.val (.ref (b + 1)), .val (.int (nI w)), .val (.int (nI i))] [] (put (b + 1) pre s A post) Q := by
  intro k
  have m9 := hT.m9
  induction k with
  | zero =>
    intro i e h
    obtain rfl : i = c := by omega
    have c1 : (nI i < nI i) = False := lF (by omega) (by omega)
    rw [m6_2]
    simp [s1, c1, m6_0, m6_1u, m6_3, m6_4, m6_7, m6_10, m6_11, m6_14, m6_15, m6_16, m6_17, m6_20, m6_21, m6_22, m6_25, m6_28, m6_29, nb0, nb1, ou_a, Option.toList_some, Option.toList_none, List.nil_append, List.cons_append]
    exact hq0 h
  | succ k ih =>
    intro i e h
    have c1 : (nI i < nI c) = True := lT (by omega) (by omega)
    have q3 := in3 hT.ln (i := i) (by omega)
    have v3 := hT.a3 i (by omega)
    have rg := hT.rg i (by omega)
    rw [m6_2]
    by_cases z : p i = w
    · have z1 : (nI (p i) = nI w) = True := eT z
      simp [s1, c1, q3, v3, z1, m6_0, m6_1u, m6_3, m6_4, m6_7, m6_10, m6_11, m6_14, m6_15, m6_16, m6_17, m6_20, m6_21, m6_22, m6_25, m6_28, m6_29, nb0, nb1, ou_a, Option.toList_some, Option.toList_none, List.nil_append, List.cons_append]
      exact hq1
    · have z1 : (nI (p i) = nI w) = False := eF z (by omega) (by omega)
      simp [s1, c1, q3, v3, z1, nI_1, m6_0, m6_1u, m6_3, m6_4, m6_7, m6_10, m6_11, m6_14, m6_15, m6_16, m6_17, m6_20, m6_21, m6_22, m6_25, m6_28, m6_29, nb0, nb1, ou_a, Option.toList_some, Option.toList_none, List.nil_append, List.cons_append]
      refine ih (i + 1) (by omega) (fun i' hi' => ?_)
      by_cases e : i' = i
      · rw [e]; exact z
      · exact h i' (by omega)
theorem bgR {a1 a2 a3 a4 : Int32} : ∀ (k r : Nat) (A : Nat → List Int32), r + k = 4 → LN A → CM nI (A 9) (fun _ => 0) r → CM nI (A 10) (fun _ => 0) r → (∀ A', LN A' → (∀ k, k ≠ 9 → k ≠ 10 → A' k = A k) → CM nI (A' 9) (fun _ => 0) 4 → CM nI (A' 10) (fun _ => 0) 4 → Q (some (.int 0)) (put (b + 1) pre s A' post)) →
    M5 111 [.val (.ref (b + 1)), .val (.int (a1)), .val (.int (a2)), .val (.int (a3)), .val (.int (a4)), .val (.int (nI r))] [] (put (b + 1) pre s A post) Q := by
  intro k
  induction k with
  | zero =>
    intro r A e hL h9 h10 hq
    obtain rfl : r = 4 := by omega
    have c1 : (nI 4 < 4) = False := lF (c := 4) (by omega) (by omega)
    rw [m5_111]
    simp [c1, m5_0, m5_1, m5_4, m5_5, m5_8, m5_11, m5_12, m5_13, m5_14, m5_15, m5_18, m5_19, m5_22, m5_25, m5_27, m5_28, m5_29, m5_30, m5_33, m5_34, m5_35, m5_38, m5_40, m5_41, m5_42, m5_43, m5_46, m5_47, m5_48, m5_51, m5_53, m5_54, m5_56, m5_57, m5_60, m5_62, m5_64, m5_67, m5_69, m5_70, m5_71, m5_73, m5_76, m5_79, m5_81, m5_82, m5_83, m5_84, m5_87, m5_88, m5_89, m5_92, m5_93, m5_94, m5_97, m5_98, m5_99, m5_102, m5_103, m5_105, m5_108, m5_109u, m5_113, m5_114, m5_117, m5_118, m5_121, m5_123, m5_124, m5_125, m5_126, m5_129, m5_131, m5_132, m5_133, m5_136, m5_139, m5_140, nb0, nb1, ou_a, Option.toList_some, Option.toList_none, List.nil_append, List.cons_append]
    exact hq A hL (fun _ _ _ => rfl) h9 h10
  | succ k ih =>
    intro r A e hL h9 h10 hq
    have c1 : (nI r < 4) = True := lT (c := 4) (by omega) (by omega)
    have q9 := in9 hL (i := r) (by omega)
    have q10 := in10 hL (i := r) (by omega)
    have l9 := ln9 hL
    have l10 := ln10 hL
    rw [m5_111]
    simp [c1, q9, q10, nI_1, m5_0, m5_1, m5_4, m5_5, m5_8, m5_11, m5_12, m5_13, m5_14, m5_15, m5_18, m5_19, m5_22, m5_25, m5_27, m5_28, m5_29, m5_30, m5_33, m5_34, m5_35, m5_38, m5_40, m5_41, m5_42, m5_43, m5_46, m5_47, m5_48, m5_51, m5_53, m5_54, m5_56, m5_57, m5_60, m5_62, m5_64, m5_67, m5_69, m5_70, m5_71, m5_73, m5_76, m5_79, m5_81, m5_82, m5_83, m5_84, m5_87, m5_88, m5_89, m5_92, m5_93, m5_94, m5_97, m5_98, m5_99, m5_102, m5_103, m5_105, m5_108, m5_109u, m5_113, m5_114, m5_117, m5_118, m5_121, m5_123, m5_124, m5_125, m5_126, m5_129, m5_131, m5_132, m5_133, m5_136, m5_139, m5_140, nb0, nb1, ou_a, Option.toList_some, Option.toList_none, List.nil_append, List.cons_append]
    refine ih (r + 1) _ (by omega) (LN_ou (LN_ou hL (by rw [setA_len]; exact hL _)) (by rw [setA_len]; exact hL _)) ?_ ?_ (fun A' a1 a2 => hq A' a1 (fun k k4 k5 => by rw [a2 k k4 k5, ou_ne k5, ou_ne k4]))
    · rw [ou_ne (by decide), ou_eq]; exact CM_step h9 rfl (by omega) (by omega)
    · rw [ou_eq]; exact CM_step h10 rfl (by omega) (by omega)
theorem bgW {u tD tC tP cap : Nat} (hT : TA c T D C p Sf Lf A) (s1 : s 1 = nI c) (s0 : s 0 = nI cap) (hcap : cap ≤ 8) (rg : 0 < u ∧ u ≤ 40 ∧ tD ≤ u ∧ 0 < tC ∧ tC ≤ 3 ∧ 0 < tP ∧ tP ≤ 63) (rC : tC ≤ tD) (hf : ∀ v : Int32, v ≠ 0 → Q (some (.int v)) (put (b + 1) pre s A post))
    (hq : ∀ s' A', LN A' → (∀ k, k < 4 ∨ 8 < k → s' k = s k) → (∀ k, k ≠ 9 → k ≠ 10 → A' k = A k) → KS c p u s' A' → Q (some (.int 0)) (put (b + 1) pre s' A' post)) : M5 0 [.val (.ref (b + 1)), .val (.int (nI u)), .val (.int (nI tD)), .val (.int (nI tC)), .val (.int (nI tP)), .unset] [] (put (b + 1) pre s A post) Q := by
  have m9 := hT.m9
  by_cases z : c < cap
  · have c0 : (nI c < nI cap) = True := lT z (by omega)
    have d1 : (nI u < 1) = False := lF (c := 1) (by omega) (by omega)
    have d2 : (840 < nI u) = False := lF (a := 840) (by omega) (by omega)
    have d3 : (nI tD < 1) = False := lF (c := 1) (by omega) (by omega)
    have d4 : (nI u < nI tD) = False := lF (by omega) (by omega)
    have d5 : (nI tC < 1) = False := lF (c := 1) (by omega) (by omega)
    have d6 : (nI tD < nI tC) = False := lF (by omega) (by omega)
    have d7 : (nI tP < 1) = False := lF (c := 1) (by omega) (by omega)
    have d8 : (63 < nI tP) = False := lF (a := 63) (by omega) (by omega)
    simp [s0, s1, c0, d1, d2, d3, d4, d5, d6, d7, d8, m5_0, m5_1, m5_4, m5_5, m5_8, m5_11, m5_12, m5_13, m5_14, m5_15, m5_18, m5_19, m5_22, m5_25, m5_27, m5_28, m5_29, m5_30, m5_33, m5_34, m5_35, m5_38, m5_40, m5_41, m5_42, m5_43, m5_46, m5_47, m5_48, m5_51, m5_53, m5_54, m5_56, m5_57, m5_60, m5_62, m5_64, m5_67, m5_69, m5_70, m5_71, m5_73, m5_76, m5_79, m5_81, m5_82, m5_83, m5_84, m5_87, m5_88, m5_89, m5_92, m5_93, m5_94, m5_97, m5_98, m5_99, m5_102, m5_103, m5_105, m5_108, m5_109u, m5_113, m5_114, m5_117, m5_118, m5_121, m5_123, m5_124, m5_125, m5_126, m5_129, m5_131, m5_132, m5_133, m5_136, m5_139, m5_140, nb0, nb1, ou_a, Option.toList_some, Option.toList_none, List.nil_append, List.cons_append, m6_0, m6_1u, m6_3, m6_4, m6_7, m6_10, m6_11, m6_14, m6_15, m6_16, m6_17, m6_20, m6_21, m6_22, m6_25, m6_28, m6_29, nb0, nb1, ou_a, Option.toList_some, Option.toList_none, List.nil_append, List.cons_append]
    refine ptL hT s1 (by omega) ?_ (fun hne => ?_) c 0 (by omega) (fun _ h => absurd h (by omega))
    · simp [m5_0, m5_1, m5_4, m5_5, m5_8, m5_11, m5_12, m5_13, m5_14, m5_15, m5_18, m5_19, m5_22, m5_25, m5_27, m5_28, m5_29, m5_30, m5_33, m5_34, m5_35, m5_38, m5_40, m5_41, m5_42, m5_43, m5_46, m5_47, m5_48, m5_51, m5_53, m5_54, m5_56, m5_57, m5_60, m5_62, m5_64, m5_67, m5_69, m5_70, m5_71, m5_73, m5_76, m5_79, m5_81, m5_82, m5_83, m5_84, m5_87, m5_88, m5_89, m5_92, m5_93, m5_94, m5_97, m5_98, m5_99, m5_102, m5_103, m5_105, m5_108, m5_109u, m5_113, m5_114, m5_117, m5_118, m5_121, m5_123, m5_124, m5_125, m5_126, m5_129, m5_131, m5_132, m5_133, m5_136, m5_139, m5_140, nb0, nb1, ou_a, Option.toList_some, Option.toList_none, List.nil_append, List.cons_append]
      exact hf _ (by decide)
    · simp [m5_0, m5_1, m5_4, m5_5, m5_8, m5_11, m5_12, m5_13, m5_14, m5_15, m5_18, m5_19, m5_22, m5_25, m5_27, m5_28, m5_29, m5_30, m5_33, m5_34, m5_35, m5_38, m5_40, m5_41, m5_42, m5_43, m5_46, m5_47, m5_48, m5_51, m5_53, m5_54, m5_56, m5_57, m5_60, m5_62, m5_64, m5_67, m5_69, m5_70, m5_71, m5_73, m5_76, m5_79, m5_81, m5_82, m5_83, m5_84, m5_87, m5_88, m5_89, m5_92, m5_93, m5_94, m5_97, m5_98, m5_99, m5_102, m5_103, m5_105, m5_108, m5_109u, m5_113, m5_114, m5_117, m5_118, m5_121, m5_123, m5_124, m5_125, m5_126, m5_129, m5_131, m5_132, m5_133, m5_136, m5_139, m5_140, nb0, nb1, ou_a, Option.toList_some, Option.toList_none, List.nil_append, List.cons_append]
      refine bgR 4 0 A rfl hT.ln (fun _ h => absurd h (by omega)) (fun _ h => absurd h (by omega)) (fun A' a1 a2 a3 a4 => ?_)
      refine hq _ A' a1 (fun k hk => ?_) a2 (Or.inr ⟨tD, tC, tP, _, _, ?_, ?_, ?_, ?_, ?_, rg, hne, a3, a4, fun r _ => by omega⟩)
      · simp only [ou_a]
        repeat rw [if_neg (by omega)]
      all_goals rfl
  · have c0 : (nI c < nI cap) = False := lF (by omega) (by omega)
    simp [s0, s1, c0, m5_0, m5_1, m5_4, m5_5, m5_8, m5_11, m5_12, m5_13, m5_14, m5_15, m5_18, m5_19, m5_22, m5_25, m5_27, m5_28, m5_29, m5_30, m5_33, m5_34, m5_35, m5_38, m5_40, m5_41, m5_42, m5_43, m5_46, m5_47, m5_48, m5_51, m5_53, m5_54, m5_56, m5_57, m5_60, m5_62, m5_64, m5_67, m5_69, m5_70, m5_71, m5_73, m5_76, m5_79, m5_81, m5_82, m5_83, m5_84, m5_87, m5_88, m5_89, m5_92, m5_93, m5_94, m5_97, m5_98, m5_99, m5_102, m5_103, m5_105, m5_108, m5_109u, m5_113, m5_114, m5_117, m5_118, m5_121, m5_123, m5_124, m5_125, m5_126, m5_129, m5_131, m5_132, m5_133, m5_136, m5_139, m5_140, nb0, nb1, ou_a, Option.toList_some, Option.toList_none, List.nil_append, List.cons_append]
    exact hf _ (by decide)
set_option maxRecDepth 1000000 in
set_option maxHeartbeats 20000000 in
theorem ovR {st ln : Int32} (hL : LN A) (hq : ∀ v : Int32, v = 0 ∨ v = 1 → Q (some (.int v)) (put (b + 1) pre s A post)) : ∀ (k r : Nat) (l4 l5 : Slot), r + k = 4 → okS l4 → okS l5 → M8 2 [.val (.ref (b + 1)), .val (.int (st)), .val (.int (ln)), .val (.int (nI r)), l4, l5] [] (put (b + 1) pre s A post) Q := by
  intro k
  induction k with
  | zero =>
    intro r l4 l5 e o4 o5
    obtain rfl : r = 4 := by omega
    have c1 : (nI 4 < 4) = False := lF (c := 4) (by omega) (by omega)
    rw [m8_2]
    simp [c1, m8_0, m8_1u, m8_3, m8_4, m8_7, m8_8, m8_11, m8_12, m8_13u, m8_13i, m8_13r, m8_13g, m8_15, m8_17, m8_20, m8_23, m8_24, m8_27, m8_28, m8_29u, m8_29i, m8_29r, m8_29g, m8_31, m8_32, m8_34, m8_36, m8_37, m8_40, m8_42, m8_43, m8_44, m8_45, m8_48, m8_49, m8_50, m8_53, m8_56, m8_57, nb0, nb1, ou_a, Option.toList_some, Option.toList_none, List.nil_append, List.cons_append]
    exact hq _ (Or.inl rfl)
  | succ k ih =>
    intro r l4 l5 e o4 o5
    have c1 : (nI r < 4) = True := lT (c := 4) (by omega) (by omega)
    have q9 := in9 hL (i := r) (by omega)
    have q10 := in10 hL (i := r) (by omega)
    rw [m8_2]
    by_cases b1 : 0 < getA (A 10) (nI r)
    · by_cases b2 : st < getA (A 9) (nI r) + getA (A 10) (nI r)
      · by_cases b3 : getA (A 9) (nI r) < st + ln
        · simp [c1, q9, q10, b1, b2, b3, o4, o5, m8_0, m8_1u, m8_3, m8_4, m8_7, m8_8, m8_11, m8_12, m8_13u, m8_13i, m8_13r, m8_13g, m8_15, m8_17, m8_20, m8_23, m8_24, m8_27, m8_28, m8_29u, m8_29i, m8_29r, m8_29g, m8_31, m8_32, m8_34, m8_36, m8_37, m8_40, m8_42, m8_43, m8_44, m8_45, m8_48, m8_49, m8_50, m8_53, m8_56, m8_57, nb0, nb1, ou_a, Option.toList_some, Option.toList_none, List.nil_append, List.cons_append]
          exact hq _ (Or.inr rfl)
        · simp [c1, q9, q10, b1, b2, b3, o4, o5, nI_1, m8_0, m8_1u, m8_3, m8_4, m8_7, m8_8, m8_11, m8_12, m8_13u, m8_13i, m8_13r, m8_13g, m8_15, m8_17, m8_20, m8_23, m8_24, m8_27, m8_28, m8_29u, m8_29i, m8_29r, m8_29g, m8_31, m8_32, m8_34, m8_36, m8_37, m8_40, m8_42, m8_43, m8_44, m8_45, m8_48, m8_49, m8_50, m8_53, m8_56, m8_57, nb0, nb1, ou_a, Option.toList_some, Option.toList_none, List.nil_append, List.cons_append]
          exact ih (r + 1) _ _ (by omega) (okS_i _) (okS_i _)
      · simp [c1, q9, q10, b1, b2, o4, o5, nI_1, m8_0, m8_1u, m8_3, m8_4, m8_7, m8_8, m8_11, m8_12, m8_13u, m8_13i, m8_13r, m8_13g, m8_15, m8_17, m8_20, m8_23, m8_24, m8_27, m8_28, m8_29u, m8_29i, m8_29r, m8_29g, m8_31, m8_32, m8_34, m8_36, m8_37, m8_40, m8_42, m8_43, m8_44, m8_45, m8_48, m8_49, m8_50, m8_53, m8_56, m8_57, nb0, nb1, ou_a, Option.toList_some, Option.toList_none, List.nil_append, List.cons_append]
        exact ih (r + 1) _ _ (by omega) (okS_i _) (okS_i _)
    · simp [c1, q10, b1, o4, nI_1, m8_0, m8_1u, m8_3, m8_4, m8_7, m8_8, m8_11, m8_12, m8_13u, m8_13i, m8_13r, m8_13g, m8_15, m8_17, m8_20, m8_23, m8_24, m8_27, m8_28, m8_29u, m8_29i, m8_29r, m8_29g, m8_31, m8_32, m8_34, m8_36, m8_37, m8_40, m8_42, m8_43, m8_44, m8_45, m8_48, m8_49, m8_50, m8_53, m8_56, m8_57, nb0, nb1, ou_a, Option.toList_some, Option.toList_none, List.nil_append, List.cons_append]
      exact ih (r + 1) _ _ (by omega) (okS_i _) o5
theorem asW {u r st ln : Nat} (hL : LN A) (hS : KS c p u s A) (hr : r < 4) (hst : st ≤ 2) (hln : 1 ≤ ln) (hln2 : ln ≤ 2) (hq : ∀ (v : Int32) A', LN A' → (∀ k, k ≠ 9 → k ≠ 10 → A' k = A k) → KS c p u s A' → Q (some (.int v)) (put (b + 1) pre s A' post)) : M7 0 [.val (.ref (b + 1)), .val (.int (nI r)), .val (.int (nI st)), .val (.int (nI ln))] [] (put (b + 1) pre s A post) Q := by
  have same : ∀ v : Int32, Q (some (.int v)) (put (b + 1) pre s A post) := fun v => hq v A hL (fun _ _ _ => rfl) hS
  rcases id hS with e4 | ⟨tD, tC, tP, sS, sL, e4, e5, e6, e7, e8, rg, hne, h9, h10, hs⟩
  · simp [e4, m7_0, m7_1, m7_4, m7_7, m7_9, m7_10, m7_11, m7_14, m7_15, m7_16, m7_19, m7_21, m7_22, m7_23, m7_26, m7_27, m7_28, m7_31, m7_33, m7_34, m7_35, m7_36, m7_39, m7_42, m7_43, m7_44, m7_47, m7_48, m7_49, m7_52, m7_54, m7_55, m7_56, m7_59, m7_60, m7_61, m7_64, m7_66, m7_67, m7_68, m7_69, m7_70, m7_73, m7_76, m7_78, m7_79, m7_80, m7_83, m7_84, m7_85, m7_86, m7_87, m7_90, m7_91, m7_92, m7_93, m7_94, nb0, nb1, ou_a, Option.toList_some, Option.toList_none, List.nil_append, List.cons_append]
    exact same _
  have f1 : (nI r < 0) = False := nnF (by omega)
  have f2 : (nI r < 4) = True := lT (c := 4) hr (by decide)
  have f3 : (nI st < 0) = False := nnF (by omega)
  have f4 : (nI ln < 1) = False := lF (c := 1) hln (by omega)
  have q9 := in9 hL (i := r) hr
  have q10 := in10 hL (i := r) hr
  have v10 := h10 r hr
  have hs' := hs r hr
  by_cases z : tC < st
  · have z1 : (nI tC < nI st) = True := lT z (by omega)
    simp [e4, e7, f1, f2, f3, f4, z1, m7_0, m7_1, m7_4, m7_7, m7_9, m7_10, m7_11, m7_14, m7_15, m7_16, m7_19, m7_21, m7_22, m7_23, m7_26, m7_27, m7_28, m7_31, m7_33, m7_34, m7_35, m7_36, m7_39, m7_42, m7_43, m7_44, m7_47, m7_48, m7_49, m7_52, m7_54, m7_55, m7_56, m7_59, m7_60, m7_61, m7_64, m7_66, m7_67, m7_68, m7_69, m7_70, m7_73, m7_76, m7_78, m7_79, m7_80, m7_83, m7_84, m7_85, m7_86, m7_87, m7_90, m7_91, m7_92, m7_93, m7_94, nb0, nb1, ou_a, Option.toList_some, Option.toList_none, List.nil_append, List.cons_append]
    exact same _
  have z1 : (nI tC < nI st) = False := lF (by omega) (by omega)
  have ez : nI tC - nI st = nI (tC - st) := nI_sub (by omega)
  by_cases y : tC - st < ln
  · have y1 : (nI (tC - st) < nI ln) = True := lT y (by omega)
    simp [e4, e7, f1, f2, f3, f4, z1, ez, y1, m7_0, m7_1, m7_4, m7_7, m7_9, m7_10, m7_11, m7_14, m7_15, m7_16, m7_19, m7_21, m7_22, m7_23, m7_26, m7_27, m7_28, m7_31, m7_33, m7_34, m7_35, m7_36, m7_39, m7_42, m7_43, m7_44, m7_47, m7_48, m7_49, m7_52, m7_54, m7_55, m7_56, m7_59, m7_60, m7_61, m7_64, m7_66, m7_67, m7_68, m7_69, m7_70, m7_73, m7_76, m7_78, m7_79, m7_80, m7_83, m7_84, m7_85, m7_86, m7_87, m7_90, m7_91, m7_92, m7_93, m7_94, nb0, nb1, ou_a, Option.toList_some, Option.toList_none, List.nil_append, List.cons_append]
    exact same _
  have y1 : (nI (tC - st) < nI ln) = False := lF (by omega) (by omega)
  by_cases x : 0 < sL r
  · have x1 : (0 < nI (sL r)) = True := lT (a := 0) x (by omega)
    simp [e4, e7, f1, f2, f3, f4, z1, ez, y1, q10, v10, x1, m7_0, m7_1, m7_4, m7_7, m7_9, m7_10, m7_11, m7_14, m7_15, m7_16, m7_19, m7_21, m7_22, m7_23, m7_26, m7_27, m7_28, m7_31, m7_33, m7_34, m7_35, m7_36, m7_39, m7_42, m7_43, m7_44, m7_47, m7_48, m7_49, m7_52, m7_54, m7_55, m7_56, m7_59, m7_60, m7_61, m7_64, m7_66, m7_67, m7_68, m7_69, m7_70, m7_73, m7_76, m7_78, m7_79, m7_80, m7_83, m7_84, m7_85, m7_86, m7_87, m7_90, m7_91, m7_92, m7_93, m7_94, nb0, nb1, ou_a, Option.toList_some, Option.toList_none, List.nil_append, List.cons_append]
    exact same _
  have x1 : (0 < nI (sL r)) = False := lF (c := sL r) (a := 0) (by omega) (by decide)
  simp [e4, e7, f1, f2, f3, f4, z1, ez, y1, q10, v10, x1, m7_0, m7_1, m7_4, m7_7, m7_9, m7_10, m7_11, m7_14, m7_15, m7_16, m7_19, m7_21, m7_22, m7_23, m7_26, m7_27, m7_28, m7_31, m7_33, m7_34, m7_35, m7_36, m7_39, m7_42, m7_43, m7_44, m7_47, m7_48, m7_49, m7_52, m7_54, m7_55, m7_56, m7_59, m7_60, m7_61, m7_64, m7_66, m7_67, m7_68, m7_69, m7_70, m7_73, m7_76, m7_78, m7_79, m7_80, m7_83, m7_84, m7_85, m7_86, m7_87, m7_90, m7_91, m7_92, m7_93, m7_94, nb0, nb1, ou_a, Option.toList_some, Option.toList_none, List.nil_append, List.cons_append, m8_0, m8_1u, m8_3, m8_4, m8_7, m8_8, m8_11, m8_12, m8_13u, m8_13i, m8_13r, m8_13g, m8_15, m8_17, m8_20, m8_23, m8_24, m8_27, m8_28, m8_29u, m8_29i, m8_29r, m8_29g, m8_31, m8_32, m8_34, m8_36, m8_37, m8_40, m8_42, m8_43, m8_44, m8_45, m8_48, m8_49, m8_50, m8_53, m8_56, m8_57, nb0, nb1, ou_a, Option.toList_some, Option.toList_none, List.nil_append, List.cons_append]
  refine ovR hL (fun v hv => ?_) 4 0 _ _ rfl okS_u okS_u
  rcases hv with rfl | rfl
  · have l9 := ln9 hL
    have l10 := ln10 hL
    simp [q9, q10, m7_0, m7_1, m7_4, m7_7, m7_9, m7_10, m7_11, m7_14, m7_15, m7_16, m7_19, m7_21, m7_22, m7_23, m7_26, m7_27, m7_28, m7_31, m7_33, m7_34, m7_35, m7_36, m7_39, m7_42, m7_43, m7_44, m7_47, m7_48, m7_49, m7_52, m7_54, m7_55, m7_56, m7_59, m7_60, m7_61, m7_64, m7_66, m7_67, m7_68, m7_69, m7_70, m7_73, m7_76, m7_78, m7_79, m7_80, m7_83, m7_84, m7_85, m7_86, m7_87, m7_90, m7_91, m7_92, m7_93, m7_94, nb0, nb1, ou_a, Option.toList_some, Option.toList_none, List.nil_append, List.cons_append]
    refine hq _ _ (LN_ou (LN_ou hL (by rw [setA_len]; exact hL _)) (by rw [setA_len]; exact hL _)) (fun k k1 k2 => by rw [ou_ne k2, ou_ne k1]) (Or.inr ⟨tD, tC, tP, up sS r st, up sL r ln, e4, e5, e6, e7, e8, rg, hne, ?_, ?_, fun q hq => ?_⟩)
    · rw [ou_ne (by decide), ou_eq]; exact CM_set h9 rfl (by omega) (by omega) (by omega)
    · rw [ou_eq]; exact CM_set h10 rfl (by omega) (by omega) (by omega)
    · rw [up_a, up_a]
      by_cases e : q = r
      · rw [if_pos e, if_pos e]; omega
      · rw [if_neg e, if_neg e]; exact hs q hq
  · simp [m7_0, m7_1, m7_4, m7_7, m7_9, m7_10, m7_11, m7_14, m7_15, m7_16, m7_19, m7_21, m7_22, m7_23, m7_26, m7_27, m7_28, m7_31, m7_33, m7_34, m7_35, m7_36, m7_39, m7_42, m7_43, m7_44, m7_47, m7_48, m7_49, m7_52, m7_54, m7_55, m7_56, m7_59, m7_60, m7_61, m7_64, m7_66, m7_67, m7_68, m7_69, m7_70, m7_73, m7_76, m7_78, m7_79, m7_80, m7_83, m7_84, m7_85, m7_86, m7_87, m7_90, m7_91, m7_92, m7_93, m7_94, nb0, nb1, ou_a, Option.toList_some, Option.toList_none, List.nil_append, List.cons_append]
    exact same _
end Gate
def SI (k : Nat) (st : SS) (dn mr : Nat → Nat) (A : Nat → List Int32) : Prop := (CM fB (A 14) st.1 k) ∧ (CM nI (A 15) st.2.1 k) ∧ (CM nI (A 16) st.2.2.1 k) ∧ (CM fH (A 17) st.2.2.2 k) ∧ (CM nI (A 18) dn k) ∧ (CM nI (A 19) mr k)
theorem SI.b14 {k : Nat} {st : SS} {dn mr : Nat → Nat} {A : Nat → List Int32} (h : SI k st dn mr A) : CM fB (A 14) st.1 k := h.1
theorem SI.b15 {k : Nat} {st : SS} {dn mr : Nat → Nat} {A : Nat → List Int32} (h : SI k st dn mr A) : CM nI (A 15) st.2.1 k := h.2.1
theorem SI.b16 {k : Nat} {st : SS} {dn mr : Nat → Nat} {A : Nat → List Int32} (h : SI k st dn mr A) : CM nI (A 16) st.2.2.1 k := h.2.2.1
theorem SI.b17 {k : Nat} {st : SS} {dn mr : Nat → Nat} {A : Nat → List Int32} (h : SI k st dn mr A) : CM fH (A 17) st.2.2.2 k := h.2.2.2.1
theorem SI.b18 {k : Nat} {st : SS} {dn mr : Nat → Nat} {A : Nat → List Int32} (h : SI k st dn mr A) : CM nI (A 18) dn k := h.2.2.2.2.1
theorem SI.b19 {k : Nat} {st : SS} {dn mr : Nat → Nat} {A : Nat → List Int32} (h : SI k st dn mr A) : CM nI (A 19) mr k := h.2.2.2.2.2
section Sim
variable {b : Nat} {pre post : AHeap} {Q : Option Value → AHeap → Prop} {s : Nat → Int32} {A : Nat → List Int32} {c t : Nat} {T D C p Sf Lf cl Rb Bb dn mr : Nat → Nat} {st : SS}
def FS (A A' : Nat → List Int32) : Prop := ∀ k, k < 14 → A' k = A k
theorem FS_r (A : Nat → List Int32) : FS A A := fun _ _ => rfl
theorem FS_t {A A' A'' : Nat → List Int32} (h : FS A A') (h' : FS A' A'') : FS A A'' := fun k a => (h' k a).trans (h k a)
theorem FS_o {A : Nat → List Int32} {j : Nat} {l : List Int32} (h : 14 ≤ j) : FS A (ou A j l) := fun k a => by rw [ou_a, if_neg (by omega)]
def z0 : SS := (fun _ => false, fun _ => 0, fun _ => 0, fun _ => 0)
theorem fB_0 {x : Bool} (h : x = false) : (fB x = 0) = True := by rw [h]; exact eq_true rfl
theorem fB_1 {x : Bool} (h : x = true) : (fB x = 0) = False := by rw [h]; exact eq_false (by decide)
theorem fH_0 {x : Nat} (h : x = 0) : (fH x < 0) = True := by rw [h]; exact eq_true (by decide)
theorem fH_s {x : Nat} (h : x ≠ 0) : fH x = nI (x - 1) := nI_sub (c := 1) (by omega)
abbrev S2 (Sf : Nat → Nat) : Nat → Nat → Nat := fun i r => Sf (i * 4 + r)
set_option maxRecDepth 1000000 in
set_option maxHeartbeats 20000000 in
theorem rsL : ∀ (k i : Nat) (A : Nat → List Int32), i + k = 9 → LN A → SI i z0 (fun _ => 0) (fun _ => 0) A → (∀ A', LN A' → FS A A' → SI 9 z0 (fun _ => 0) (fun _ => 0) A' → Q none (put (b + 1) pre s A' post)) → M1 12 [.val (.ref (b + 1)), .val (.int (nI i))] [] (put (b + 1) pre s A post) Q := by
  intro k
  induction k with
  | zero =>
    intro i A e hL h hq
    obtain rfl : i = 9 := by omega
    have c1 : (nI 9 < 9) = False := lF (c := 9) (by omega) (by omega)
    rw [m1_12]
    simp [c1, m1_0, m1_1, m1_2, m1_5, m1_6, m1_7, m1_10, m1_11u, m1_13, m1_15, m1_18, m1_19, m1_22, m1_23, m1_24, m1_25, m1_26, m1_29, m1_30, m1_31, m1_32, m1_33, m1_36, m1_37, m1_38, m1_39, m1_40, m1_43, m1_44, m1_45, m1_46, m1_47, m1_50, m1_51, m1_52, m1_53, m1_54, m1_57, m1_58, m1_59, m1_60, m1_63, m1_66, nb0, nb1, ou_a, Option.toList_some, Option.toList_none, List.nil_append, List.cons_append]
    exact hq A hL (FS_r _) h
  | succ k ih =>
    intro i A e hL h hq
    have c1 : (nI i < 9) = True := lT (c := 9) (by omega) (by omega)
    have q14 := in14 hL (i := i) (by omega)
    have q15 := in15 hL (i := i) (by omega)
    have q16 := in16 hL (i := i) (by omega)
    have q17 := in17 hL (i := i) (by omega)
    have q18 := in18 hL (i := i) (by omega)
    have q19 := in19 hL (i := i) (by omega)
    have l14 := ln14 hL
    have l15 := ln15 hL
    have l16 := ln16 hL
    have l17 := ln17 hL
    have l18 := ln18 hL
    have l19 := ln19 hL
    rw [m1_12]
    simp [c1, q14, q15, q16, q17, q18, q19, nI_1, m1_0, m1_1, m1_2, m1_5, m1_6, m1_7, m1_10, m1_11u, m1_13, m1_15, m1_18, m1_19, m1_22, m1_23, m1_24, m1_25, m1_26, m1_29, m1_30, m1_31, m1_32, m1_33, m1_36, m1_37, m1_38, m1_39, m1_40, m1_43, m1_44, m1_45, m1_46, m1_47, m1_50, m1_51, m1_52, m1_53, m1_54, m1_57, m1_58, m1_59, m1_60, m1_63, m1_66, nb0, nb1, ou_a, Option.toList_some, Option.toList_none, List.nil_append, List.cons_append]
    refine ih (i + 1) _ (by omega) ?_ ⟨?_, ?_, ?_, ?_, ?_, ?_⟩ (fun A' a1 a2 => hq A' a1 (fun k hk => ?_))
    · (repeat refine LN_ou ?_ (by simp only [setA_len]; exact hL _)); exact hL
    · (repeat rw [ou_ne (by decide)]); rw [ou_eq]; exact CM_step h.b14 rfl (by omega) (by omega)
    · (repeat rw [ou_ne (by decide)]); rw [ou_eq]; exact CM_step h.b15 rfl (by omega) (by omega)
    · (repeat rw [ou_ne (by decide)]); rw [ou_eq]; exact CM_step h.b16 rfl (by omega) (by omega)
    · (repeat rw [ou_ne (by decide)]); rw [ou_eq]; exact CM_step h.b17 rfl (by omega) (by omega)
    · (repeat rw [ou_ne (by decide)]); rw [ou_eq]; exact CM_step h.b18 rfl (by omega) (by omega)
    · rw [ou_eq]; exact CM_step h.b19 rfl (by omega) (by omega)
    · rw [a2 k hk, ou_ne (by omega), ou_ne (by omega), ou_ne (by omega), ou_ne (by omega), ou_ne (by omega), ou_ne (by omega)]
theorem rsW (hL : LN A) (hq : ∀ A', LN A' → FS A A' → SI 9 z0 (fun _ => 0) (fun _ => 0) A' → Q none (put (b + 1) pre (ou (ou s 9 0) 10 0) A' post)) : M1 0 [.val (.ref (b + 1)), .unset] [] (put (b + 1) pre s A post) Q := by
  simp [m1_0, m1_1, m1_2, m1_5, m1_6, m1_7, m1_10, m1_11u, m1_13, m1_15, m1_18, m1_19, m1_22, m1_23, m1_24, m1_25, m1_26, m1_29, m1_30, m1_31, m1_32, m1_33, m1_36, m1_37, m1_38, m1_39, m1_40, m1_43, m1_44, m1_45, m1_46, m1_47, m1_50, m1_51, m1_52, m1_53, m1_54, m1_57, m1_58, m1_59, m1_60, m1_63, m1_66, nb0, nb1, ou_a, Option.toList_some, Option.toList_none, List.nil_append, List.cons_append]
  exact rsL 9 0 A rfl hL ⟨fun _ h => absurd h (by omega), fun _ h => absurd h (by omega), fun _ h => absurd h (by omega), fun _ h => absurd h (by omega), fun _ h => absurd h (by omega), fun _ h => absurd h (by omega)⟩ hq
set_option maxRecDepth 1000000 in
set_option maxHeartbeats 20000000 in
theorem rjL (s1 : s 1 = nI c) (s9 : s 9 = nI t) (ht : t ≤ 840) : ∀ (k i : Nat) (l2 : Slot) (A : Nat → List Int32), i + k = c → TA c T D C p Sf Lf A → CM fB (A 14) (mix i (rl0 T t st).1 st.1) c → CM nI (A 15) (mix i (rl0 T t st).2.1 st.2.1) c → CM nI (A 16) (mix i (rl0 T t st).2.2.1 st.2.2.1) c → CM fH (A 17) (mix i (rl0 T t st).2.2.2 st.2.2.2) c → CM nI (A 18) dn c → CM nI (A 19) mr c → okS l2 →
    (∀ A', LN A' → FS A A' → SI c (rl0 T t st) dn mr A' → Q none (put (b + 1) pre s A' post)) → M25 2 [.val (.ref (b + 1)), .val (.int (nI i)), l2] [] (put (b + 1) pre s A post) Q := by
  intro k
  induction k with
  | zero =>
    intro i l2 A e hT h14 h15 h16 h17 h18 h19 o2 hq
    have m9 := hT.m9
    obtain rfl : i = c := by omega
    have c1 : (nI i < nI i) = False := lF (by omega) (by omega)
    rw [m25_2]
    simp [s1, c1, m25_0, m25_1u, m25_3, m25_4, m25_7, m25_10, m25_11, m25_14, m25_15, m25_16u, m25_16i, m25_16r, m25_16g, m25_17, m25_18, m25_21, m25_22, m25_25, m25_26, m25_27, m25_30, m25_31, m25_34, m25_35, m25_36, m25_37, m25_38, m25_41, m25_42, m25_43, m25_46, m25_47, m25_48, m25_51, m25_52, m25_53, m25_54, m25_55, m25_58, m25_59, m25_60, m25_61, m25_64, m25_67, nb0, nb1, ou_a, Option.toList_some, Option.toList_none, List.nil_append, List.cons_append]
    exact hq A hT.ln (FS_r _) ⟨CM_mixE h14, CM_mixE h15, CM_mixE h16, CM_mixE h17, h18, h19⟩
  | succ k ih =>
    intro i l2 A e hT h14 h15 h16 h17 h18 h19 o2 hq
    have m9 := hT.m9
    have hL := hT.ln
    have c1 : (nI i < nI c) = True := lT (by omega) (by omega)
    have q0 := in0 hT.ln (i := i) (by omega)
    have v0 := hT.a0 i (by omega)
    have rg := hT.rg i (by omega)
    have z0 : (0 < nI (T i)) = True := lT (a := 0) rg.1 (by omega)
    have d0 := n0T rg.1 (by omega)
    have em := nI_mod (a := t) (c := T i) (by omega) (by omega)
    have ml := Nat.mod_lt t rg.1
    rw [m25_2]
    by_cases z : t % T i = 0
    · have z1 : (nI (t % T i) = 0) = True := eT (c := 0) z
      have q14 := in14 hL (i := i) (by omega)
      have q15 := in15 hL (i := i) (by omega)
      have q16 := in16 hL (i := i) (by omega)
      have q17 := in17 hL (i := i) (by omega)
      have l14 := ln14 hL
      have l15 := ln15 hL
      have l16 := ln16 hL
      have l17 := ln17 hL
      simp [s1, s9, c1, q0, v0, z0, d0, em, z1, q14, q15, q16, q17, o2, nI_1, m25_0, m25_1u, m25_3, m25_4, m25_7, m25_10, m25_11, m25_14, m25_15, m25_16u, m25_16i, m25_16r, m25_16g, m25_17, m25_18, m25_21, m25_22, m25_25, m25_26, m25_27, m25_30, m25_31, m25_34, m25_35, m25_36, m25_37, m25_38, m25_41, m25_42, m25_43, m25_46, m25_47, m25_48, m25_51, m25_52, m25_53, m25_54, m25_55, m25_58, m25_59, m25_60, m25_61, m25_64, m25_67, nb0, nb1, ou_a, Option.toList_some, Option.toList_none, List.nil_append, List.cons_append]
      have hL2 : LN (ou (ou (ou (ou A 14 (setA (A 14) (nI i) 1)) 15 (setA (A 15) (nI i) (nI t))) 16 (setA (A 16) (nI i) 0)) 17 (setA (A 17) (nI i) (-1))) := by
        (repeat refine LN_ou ?_ (by simp only [setA_len]; exact hL _)); exact hL
      refine ih (i + 1) _ _ (by omega) (hT.ar hL2 (fun k hk => by rw [ou_ne (by omega), ou_ne (by omega), ou_ne (by omega), ou_ne (by omega)])) ?_ ?_ ?_ ?_ ?_ ?_ (okS_n _) (fun A' a1 a2 => hq A' a1 (fun k hk => ?_))
      · (repeat rw [ou_ne (by decide)]); rw [ou_eq]; exact CM_mixS h14 (by show (1 : Int32) = fB (if t % T i = 0 then true else st.1 i); rw [if_pos z]; rfl) (by omega) (by omega) (by omega)
      · (repeat rw [ou_ne (by decide)]); rw [ou_eq]; exact CM_mixS h15 (by show nI t = nI (if t % T i = 0 then t else st.2.1 i); rw [if_pos z]) (by omega) (by omega) (by omega)
      · (repeat rw [ou_ne (by decide)]); rw [ou_eq]; exact CM_mixS h16 (by show (0 : Int32) = nI (if t % T i = 0 then 0 else st.2.2.1 i); rw [if_pos z]; rfl) (by omega) (by omega) (by omega)
      · rw [ou_eq]; exact CM_mixS h17 (by show (-1 : Int32) = fH (if t % T i = 0 then 0 else st.2.2.2 i); rw [if_pos z]; rfl) (by omega) (by omega) (by omega)
      · (repeat rw [ou_ne (by decide)]); exact h18
      · (repeat rw [ou_ne (by decide)]); exact h19
      · rw [a2 k hk, ou_ne (by omega), ou_ne (by omega), ou_ne (by omega), ou_ne (by omega)]
    · have z1 : (nI (t % T i) = 0) = False := eF (c := 0) z (by omega) (by decide)
      simp [s1, s9, c1, q0, v0, z0, d0, em, z1, o2, nI_1, m25_0, m25_1u, m25_3, m25_4, m25_7, m25_10, m25_11, m25_14, m25_15, m25_16u, m25_16i, m25_16r, m25_16g, m25_17, m25_18, m25_21, m25_22, m25_25, m25_26, m25_27, m25_30, m25_31, m25_34, m25_35, m25_36, m25_37, m25_38, m25_41, m25_42, m25_43, m25_46, m25_47, m25_48, m25_51, m25_52, m25_53, m25_54, m25_55, m25_58, m25_59, m25_60, m25_61, m25_64, m25_67, nb0, nb1, ou_a, Option.toList_some, Option.toList_none, List.nil_append, List.cons_append]
      exact ih (i + 1) _ _ (by omega) hT (CM_mixN h14 (if_neg z)) (CM_mixN h15 (if_neg z)) (CM_mixN h16 (if_neg z)) (CM_mixN h17 (if_neg z)) h18 h19 (okS_n _) hq
theorem rjW (s1 : s 1 = nI c) (s9 : s 9 = nI t) (ht : t ≤ 840) (hT : TA c T D C p Sf Lf A) (h : SI c st dn mr A) (hq : ∀ A', LN A' → FS A A' → SI c (rl0 T t st) dn mr A' → Q none (put (b + 1) pre s A' post)) : M25 0 [.val (.ref (b + 1)), .unset, .unset] [] (put (b + 1) pre s A post) Q := by
  simp [m25_0, m25_1u, m25_3, m25_4, m25_7, m25_10, m25_11, m25_14, m25_15, m25_16u, m25_16i, m25_16r, m25_16g, m25_17, m25_18, m25_21, m25_22, m25_25, m25_26, m25_27, m25_30, m25_31, m25_34, m25_35, m25_36, m25_37, m25_38, m25_41, m25_42, m25_43, m25_46, m25_47, m25_48, m25_51, m25_52, m25_53, m25_54, m25_55, m25_58, m25_59, m25_60, m25_61, m25_64, m25_67, nb0, nb1, ou_a, Option.toList_some, Option.toList_none, List.nil_append, List.cons_append]
  exact rjL s1 s9 ht c 0 _ A (by omega) hT (CM_mix0 h.b14) (CM_mix0 h.b15) (CM_mix0 h.b16) (CM_mix0 h.b17) h.b18 h.b19 okS_u hq
set_option maxRecDepth 1000000 in
set_option maxHeartbeats 20000000 in
theorem apW {i : Nat} (hT : TA c T D C p Sf Lf A) (h17 : CM fH (A 17) st.2.2.2 c) (h8 : CM nI (A 8) cl 4) (hh : st.2.2.2 i ≤ 4) (hi : i < c) (hq : Q (some (.int (nI (ap p cl st i)))) (put (b + 1) pre s A post)) : M27 0 [.val (.ref (b + 1)), .val (.int (nI i)), .unset] [] (put (b + 1) pre s A post) Q := by
  have m9 := hT.m9
  have q17 := in17 hT.ln (i := i) (by omega)
  have v17 := h17 i hi
  have q3 := in3 hT.ln (i := i) (by omega)
  have v3 := hT.a3 i hi
  unfold ap at hq
  by_cases z : st.2.2.2 i = 0
  · have z1 := fH_0 z
    rw [if_pos z] at hq
    simp [q17, v17, z1, q3, v3, m27_0, m27_1, m27_4, m27_5, m27_6u, m27_7, m27_8, m27_11, m27_12, m27_13, m27_16, m27_17, m27_20, m27_21, m27_22, m27_23, m27_24, m27_27, m27_28, m27_29, nb0, nb1, ou_a, Option.toList_some, Option.toList_none, List.nil_append, List.cons_append]
    exact hq
  · rw [if_neg z] at hq
    rw [fH_s z] at v17
    have z1 : (nI (st.2.2.2 i - 1) < 0) = False := nnF (by omega)
    have z2 : (nI (st.2.2.2 i - 1) < 4) = True := lT (c := 4) (by omega) (by decide)
    have q8 := in8 hT.ln (i := st.2.2.2 i - 1) (by omega)
    have v8 := h8 (st.2.2.2 i - 1) (by omega)
    simp [q17, v17, z1, z2, q8, v8, m27_0, m27_1, m27_4, m27_5, m27_6u, m27_7, m27_8, m27_11, m27_12, m27_13, m27_16, m27_17, m27_20, m27_21, m27_22, m27_23, m27_24, m27_27, m27_28, m27_29, nb0, nb1, ou_a, Option.toList_some, Option.toList_none, List.nil_append, List.cons_append]
    exact hq
theorem ap_le (hT : TA c T D C p Sf Lf A) (hcl : ∀ r, r < 4 → cl r ≤ 63) {i : Nat} (hh : st.2.2.2 i ≤ 4) (hi : i < c) : ap p cl st i ≤ 63 := by
  have rg := hT.rg i hi
  unfold ap
  split
  · omega
  · exact hcl _ (by omega)
/-- the pick so far -/
def PK (p cl : Nat → Nat) (st : SS) (i : Nat) (bt ba : Int32) : Prop := (bt = -1 ∧ ∀ l, l < i → st.1 l = false) ∨ ∃ k, k < i ∧ bt = nI k ∧ ba = nI (ap p cl st k) ∧ st.1 k = true ∧ ∀ l, l < i → st.1 l = true → ap p cl st l ≤ ap p cl st k
theorem prL (hT : TA c T D C p Sf Lf A) (s1 : s 1 = nI c) (h14 : CM fB (A 14) st.1 c) (h17 : CM fH (A 17) st.2.2.2 c) (h8 : CM nI (A 8) cl 4) (hcl : ∀ r, r < 4 → cl r ≤ 63) (hh : ∀ i, i < c → st.2.2.2 i ≤ 4) (hq0 : (∀ l, l < c → st.1 l = false) → Q (some (.int (-1))) (put (b + 1) pre s A post)) (hq1 : ∀ k, RN c p cl st k → Q (some (.int (nI k))) (put (b + 1) pre s A post)) :
    ∀ (n i : Nat) (bt ba ho : Int32) (l5 l6 : Slot), i + n = c → PK p cl st i bt ba → okS l5 → okS l6 → M26 9 [.val (.ref (b + 1)), .val (.int (bt)), .val (.int (ba)), .val (.int (ho)), .val (.int (nI i)), l5, l6] [] (put (b + 1) pre s A post) Q := by
  intro n
  have m9 := hT.m9
  induction n with
  | zero =>
    intro i bt ba ho l5 l6 e hP o5 o6
    obtain rfl : i = c := by omega
    have c1 : (nI i < nI i) = False := lF (by omega) (by omega)
    rw [m26_9]
    simp [s1, c1, m26_0, m26_1u, m26_2, m26_3u, m26_4, m26_5u, m26_6, m26_7u, m26_11, m26_12, m26_15, m26_18, m26_19, m26_22, m26_24, m26_25, m26_28, m26_31, m26_32, m26_34, m26_37u, m26_37i, m26_37r, m26_37g, m26_39, m26_40, m26_43, m26_45, m26_46, m26_49, m26_50, m26_53, m26_54u, m26_54i, m26_54r, m26_54g, m26_56, m26_57, m26_60, m26_62, m26_63, m26_66, m26_68, m26_69, m26_72, m26_74, m26_77, m26_78, m26_81, m26_83i, m26_84, m26_86i, m26_87, m26_89i, m26_90, m26_93, m26_96, m26_97, nb0, nb1, ou_a, Option.toList_some, Option.toList_none, List.nil_append, List.cons_append]
    rcases hP with ⟨rfl, h⟩ | ⟨k, hk, rfl, _, hp, hm⟩
    · exact hq0 h
    · exact hq1 k ⟨hk, hp, hm⟩
  | succ n ih =>
    intro i bt ba ho l5 l6 e hP o5 o6
    have c1 : (nI i < nI c) = True := lT (by omega) (by omega)
    have q14 := in14 hT.ln (i := i) (by omega)
    have v14 := h14 i (by omega)
    rw [m26_9]
    cases zp : st.1 i with
    | false =>
      have z1 := fB_0 zp
      simp [s1, c1, q14, v14, z1, nI_1, m26_0, m26_1u, m26_2, m26_3u, m26_4, m26_5u, m26_6, m26_7u, m26_11, m26_12, m26_15, m26_18, m26_19, m26_22, m26_24, m26_25, m26_28, m26_31, m26_32, m26_34, m26_37u, m26_37i, m26_37r, m26_37g, m26_39, m26_40, m26_43, m26_45, m26_46, m26_49, m26_50, m26_53, m26_54u, m26_54i, m26_54r, m26_54g, m26_56, m26_57, m26_60, m26_62, m26_63, m26_66, m26_68, m26_69, m26_72, m26_74, m26_77, m26_78, m26_81, m26_83i, m26_84, m26_86i, m26_87, m26_89i, m26_90, m26_93, m26_96, m26_97, nb0, nb1, ou_a, Option.toList_some, Option.toList_none, List.nil_append, List.cons_append]
      refine ih (i + 1) _ _ _ _ _ (by omega) ?_ o5 o6
      rcases hP with ⟨h0, h⟩ | ⟨k, hk, h0, h1, hp, hm⟩
      · refine Or.inl ⟨h0, fun l hl => ?_⟩
        by_cases e : l = i
        · rw [e]; exact zp
        · exact h l (by omega)
      · refine Or.inr ⟨k, by omega, h0, h1, hp, fun l hl q => ?_⟩
        by_cases e : l = i
        · rw [e, zp] at q; cases q
        · exact hm l (by omega) q
    | true =>
      have z1 := fB_1 zp
      have q17 := in17 hT.ln (i := i) (by omega)
      have v17 := h17 i (by omega)
      have hi := hh i (by omega)
      have al := ap_le (p := p) hT hcl hi (by omega)
      simp [s1, c1, q14, v14, z1, m26_0, m26_1u, m26_2, m26_3u, m26_4, m26_5u, m26_6, m26_7u, m26_11, m26_12, m26_15, m26_18, m26_19, m26_22, m26_24, m26_25, m26_28, m26_31, m26_32, m26_34, m26_37u, m26_37i, m26_37r, m26_37g, m26_39, m26_40, m26_43, m26_45, m26_46, m26_49, m26_50, m26_53, m26_54u, m26_54i, m26_54r, m26_54g, m26_56, m26_57, m26_60, m26_62, m26_63, m26_66, m26_68, m26_69, m26_72, m26_74, m26_77, m26_78, m26_81, m26_83i, m26_84, m26_86i, m26_87, m26_89i, m26_90, m26_93, m26_96, m26_97, nb0, nb1, ou_a, Option.toList_some, Option.toList_none, List.nil_append, List.cons_append]
      refine apW hT h17 h8 hi (by omega) ?_
      -- i is the new pick
      have new : (∀ l, l < i → st.1 l = true → ap p cl st l ≤ ap p cl st i) → PK p cl st (i + 1) (nI i) (nI (ap p cl st i)) := fun hm => Or.inr ⟨i, by omega, rfl, rfl, zp, fun l hl q => by
        by_cases e : l = i
        · rw [e]; exact Nat.le_refl _
        · exact hm l (by omega) q⟩
      -- the old pick stays
      have old : ∀ k, k < i → ap p cl st i ≤ ap p cl st k → st.1 k = true → (∀ l, l < i → st.1 l = true → ap p cl st l ≤ ap p cl st k) → PK p cl st (i + 1) (nI k) (nI (ap p cl st k)) := fun k hk hle hp hm => Or.inr ⟨k, by omega, rfl, rfl, hp, fun l hl q => by
        by_cases e : l = i
        · rw [e]; exact hle
        · exact hm l (by omega) q⟩
      have go : ∀ hv : Int32, (hv = 0 ∨ hv = 1) → M26 56 [.val (.ref (b + 1)), .val (.int (bt)), .val (.int (ba)), .val (.int (ho)), .val (.int (nI i)), .val (.int (nI (ap p cl st i))), .val (.int (hv))] [] (put (b + 1) pre s A post) Q := by
        intro hv hv01
        rcases hP with ⟨rfl, h⟩ | ⟨k, hk, rfl, rfl, hp, hm⟩
        · have n1 : ((-1 : Int32) < 0) = True := eq_true (by decide)
          simp [n1, nI_1, m26_0, m26_1u, m26_2, m26_3u, m26_4, m26_5u, m26_6, m26_7u, m26_11, m26_12, m26_15, m26_18, m26_19, m26_22, m26_24, m26_25, m26_28, m26_31, m26_32, m26_34, m26_37u, m26_37i, m26_37r, m26_37g, m26_39, m26_40, m26_43, m26_45, m26_46, m26_49, m26_50, m26_53, m26_54u, m26_54i, m26_54r, m26_54g, m26_56, m26_57, m26_60, m26_62, m26_63, m26_66, m26_68, m26_69, m26_72, m26_74, m26_77, m26_78, m26_81, m26_83i, m26_84, m26_86i, m26_87, m26_89i, m26_90, m26_93, m26_96, m26_97, nb0, nb1, ou_a, Option.toList_some, Option.toList_none, List.nil_append, List.cons_append]
          exact ih (i + 1) _ _ _ _ _ (by omega) (new (fun l hl q => by rw [h l hl] at q; cases q)) (okS_i _) (okS_i _)
        · have n1 : (nI k < 0) = False := nnF (by omega)
          have kl := ap_le (p := p) hT hcl (hh k (by omega)) (by omega)
          by_cases y : ap p cl st k < ap p cl st i
          · have y1 : (nI (ap p cl st k) < nI (ap p cl st i)) = True := lT y (by omega)
            simp [n1, y1, nI_1, m26_0, m26_1u, m26_2, m26_3u, m26_4, m26_5u, m26_6, m26_7u, m26_11, m26_12, m26_15, m26_18, m26_19, m26_22, m26_24, m26_25, m26_28, m26_31, m26_32, m26_34, m26_37u, m26_37i, m26_37r, m26_37g, m26_39, m26_40, m26_43, m26_45, m26_46, m26_49, m26_50, m26_53, m26_54u, m26_54i, m26_54r, m26_54g, m26_56, m26_57, m26_60, m26_62, m26_63, m26_66, m26_68, m26_69, m26_72, m26_74, m26_77, m26_78, m26_81, m26_83i, m26_84, m26_86i, m26_87, m26_89i, m26_90, m26_93, m26_96, m26_97, nb0, nb1, ou_a, Option.toList_some, Option.toList_none, List.nil_append, List.cons_append]
            exact ih (i + 1) _ _ _ _ _ (by omega) (new (fun l hl q => by have := hm l hl q; omega)) (okS_i _) (okS_i _)
          · have y1 : (nI (ap p cl st k) < nI (ap p cl st i)) = False := lF (by omega) (by omega)
            by_cases x : ap p cl st i = ap p cl st k
            · have x1 : (nI (ap p cl st i) = nI (ap p cl st k)) = True := eT x
              rcases hv01 with rfl | rfl
              · simp [n1, y1, x1, nI_1, m26_0, m26_1u, m26_2, m26_3u, m26_4, m26_5u, m26_6, m26_7u, m26_11, m26_12, m26_15, m26_18, m26_19, m26_22, m26_24, m26_25, m26_28, m26_31, m26_32, m26_34, m26_37u, m26_37i, m26_37r, m26_37g, m26_39, m26_40, m26_43, m26_45, m26_46, m26_49, m26_50, m26_53, m26_54u, m26_54i, m26_54r, m26_54g, m26_56, m26_57, m26_60, m26_62, m26_63, m26_66, m26_68, m26_69, m26_72, m26_74, m26_77, m26_78, m26_81, m26_83i, m26_84, m26_86i, m26_87, m26_89i, m26_90, m26_93, m26_96, m26_97, nb0, nb1, ou_a, Option.toList_some, Option.toList_none, List.nil_append, List.cons_append]
                exact ih (i + 1) _ _ _ _ _ (by omega) (old k hk (by omega) hp hm) (okS_i _) (okS_i _)
              · by_cases w : ho = 0
                · simp [n1, y1, x1, w, nI_1, m26_0, m26_1u, m26_2, m26_3u, m26_4, m26_5u, m26_6, m26_7u, m26_11, m26_12, m26_15, m26_18, m26_19, m26_22, m26_24, m26_25, m26_28, m26_31, m26_32, m26_34, m26_37u, m26_37i, m26_37r, m26_37g, m26_39, m26_40, m26_43, m26_45, m26_46, m26_49, m26_50, m26_53, m26_54u, m26_54i, m26_54r, m26_54g, m26_56, m26_57, m26_60, m26_62, m26_63, m26_66, m26_68, m26_69, m26_72, m26_74, m26_77, m26_78, m26_81, m26_83i, m26_84, m26_86i, m26_87, m26_89i, m26_90, m26_93, m26_96, m26_97, nb0, nb1, ou_a, Option.toList_some, Option.toList_none, List.nil_append, List.cons_append]
                  exact ih (i + 1) _ _ _ _ _ (by omega) (new (fun l hl q => by have := hm l hl q; omega)) (okS_i _) (okS_i _)
                · simp [n1, y1, x1, w, nI_1, m26_0, m26_1u, m26_2, m26_3u, m26_4, m26_5u, m26_6, m26_7u, m26_11, m26_12, m26_15, m26_18, m26_19, m26_22, m26_24, m26_25, m26_28, m26_31, m26_32, m26_34, m26_37u, m26_37i, m26_37r, m26_37g, m26_39, m26_40, m26_43, m26_45, m26_46, m26_49, m26_50, m26_53, m26_54u, m26_54i, m26_54r, m26_54g, m26_56, m26_57, m26_60, m26_62, m26_63, m26_66, m26_68, m26_69, m26_72, m26_74, m26_77, m26_78, m26_81, m26_83i, m26_84, m26_86i, m26_87, m26_89i, m26_90, m26_93, m26_96, m26_97, nb0, nb1, ou_a, Option.toList_some, Option.toList_none, List.nil_append, List.cons_append]
                  exact ih (i + 1) _ _ _ _ _ (by omega) (old k hk (by omega) hp hm) (okS_i _) (okS_i _)
            · have x1 : (nI (ap p cl st i) = nI (ap p cl st k)) = False := eF x (by omega) (by omega)
              simp [n1, y1, x1, nI_1, m26_0, m26_1u, m26_2, m26_3u, m26_4, m26_5u, m26_6, m26_7u, m26_11, m26_12, m26_15, m26_18, m26_19, m26_22, m26_24, m26_25, m26_28, m26_31, m26_32, m26_34, m26_37u, m26_37i, m26_37r, m26_37g, m26_39, m26_40, m26_43, m26_45, m26_46, m26_49, m26_50, m26_53, m26_54u, m26_54i, m26_54r, m26_54g, m26_56, m26_57, m26_60, m26_62, m26_63, m26_66, m26_68, m26_69, m26_72, m26_74, m26_77, m26_78, m26_81, m26_83i, m26_84, m26_86i, m26_87, m26_89i, m26_90, m26_93, m26_96, m26_97, nb0, nb1, ou_a, Option.toList_some, Option.toList_none, List.nil_append, List.cons_append]
              exact ih (i + 1) _ _ _ _ _ (by omega) (old k hk (by omega) hp hm) (okS_i _) (okS_i _)
      by_cases w : st.2.2.2 i = 0
      · have w1 := fH_0 w
        simp [q17, v17, w1, o5, o6, m26_0, m26_1u, m26_2, m26_3u, m26_4, m26_5u, m26_6, m26_7u, m26_11, m26_12, m26_15, m26_18, m26_19, m26_22, m26_24, m26_25, m26_28, m26_31, m26_32, m26_34, m26_37u, m26_37i, m26_37r, m26_37g, m26_39, m26_40, m26_43, m26_45, m26_46, m26_49, m26_50, m26_53, m26_54u, m26_54i, m26_54r, m26_54g, m26_57, m26_60, m26_62, m26_63, m26_66, m26_68, m26_69, m26_72, m26_74, m26_77, m26_78, m26_81, m26_83i, m26_84, m26_86i, m26_87, m26_89i, m26_90, m26_93, m26_96, m26_97, nb0, nb1, ou_a, Option.toList_some, Option.toList_none, List.nil_append, List.cons_append]
        exact go 0 (Or.inl rfl)
      · rw [fH_s w] at v17
        have w1 : (nI (st.2.2.2 i - 1) < 0) = False := nnF (by omega)
        simp [q17, v17, w1, o5, o6, m26_0, m26_1u, m26_2, m26_3u, m26_4, m26_5u, m26_6, m26_7u, m26_11, m26_12, m26_15, m26_18, m26_19, m26_22, m26_24, m26_25, m26_28, m26_31, m26_32, m26_34, m26_37u, m26_37i, m26_37r, m26_37g, m26_39, m26_40, m26_43, m26_45, m26_46, m26_49, m26_50, m26_53, m26_54u, m26_54i, m26_54r, m26_54g, m26_57, m26_60, m26_62, m26_63, m26_66, m26_68, m26_69, m26_72, m26_74, m26_77, m26_78, m26_81, m26_83i, m26_84, m26_86i, m26_87, m26_89i, m26_90, m26_93, m26_96, m26_97, nb0, nb1, ou_a, Option.toList_some, Option.toList_none, List.nil_append, List.cons_append]
        exact go 1 (Or.inr rfl)
theorem prW (hT : TA c T D C p Sf Lf A) (s1 : s 1 = nI c) (h14 : CM fB (A 14) st.1 c) (h17 : CM fH (A 17) st.2.2.2 c) (h8 : CM nI (A 8) cl 4) (hcl : ∀ r, r < 4 → cl r ≤ 63) (hh : ∀ i, i < c → st.2.2.2 i ≤ 4) (hq0 : (∀ l, l < c → st.1 l = false) → Q (some (.int (-1))) (put (b + 1) pre s A post)) (hq1 : ∀ k, RN c p cl st k → Q (some (.int (nI k))) (put (b + 1) pre s A post)) : M26 0 [.val (.ref (b + 1)), .unset, .unset, .unset, .unset, .unset, .unset] [] (put (b + 1) pre s A post) Q := by
  simp [m26_0, m26_1u, m26_2, m26_3u, m26_4, m26_5u, m26_6, m26_7u, m26_11, m26_12, m26_15, m26_18, m26_19, m26_22, m26_24, m26_25, m26_28, m26_31, m26_32, m26_34, m26_37u, m26_37i, m26_37r, m26_37g, m26_39, m26_40, m26_43, m26_45, m26_46, m26_49, m26_50, m26_53, m26_54u, m26_54i, m26_54r, m26_54g, m26_56, m26_57, m26_60, m26_62, m26_63, m26_66, m26_68, m26_69, m26_72, m26_74, m26_77, m26_78, m26_81, m26_83i, m26_84, m26_86i, m26_87, m26_89i, m26_90, m26_93, m26_96, m26_97, nb0, nb1, ou_a, Option.toList_some, Option.toList_none, List.nil_append, List.cons_append]
  exact prL hT s1 h14 h17 h8 hcl hh hq0 hq1 c 0 _ _ _ _ _ (by omega) (Or.inl ⟨rfl, fun _ h => absurd h (by omega)⟩) okS_u okS_u
set_option maxRecDepth 1000000 in
set_option maxHeartbeats 20000000 in
theorem trS {k r : Nat} (hT : TA c T D C p Sf Lf A) (h16 : CM nI (A 16) st.2.2.1 c) (hk : k < c) (hr : r < 4) (hp : st.2.2.1 k ≤ 3) (hq1 : 0 < Lf (k * 4 + r) ∧ Sf (k * 4 + r) = st.2.2.1 k → Q none (put (b + 1) pre s (ou A 17 (setA (A 17) (nI k) (nI r))) post)) (hq0 : ¬ (0 < Lf (k * 4 + r) ∧ Sf (k * 4 + r) = st.2.2.1 k) → M29 12 [.val (.ref (b + 1)), .val (.int (nI k)), .val (.int (nI (r + 1)))] [] (put (b + 1) pre s A post) Q) : M29 12 [.val (.ref (b + 1)), .val (.int (nI k)), .val (.int (nI r))] [] (put (b + 1) pre s A post) Q := by
  have m9 := hT.m9
  have c1 : (nI r < 4) = True := lT (c := 4) hr (by decide)
  have q5 := in5 hT.ln (i := k * 4 + r) (by omega)
  have v5 := hT.a5 (k * 4 + r) (by omega)
  have q4 := in4 hT.ln (i := k * 4 + r) (by omega)
  have v4 := hT.a4 (k * 4 + r) (by omega)
  have q16 := in16 hT.ln (i := k) (by omega)
  have v16 := h16 k hk
  have q17 := in17 hT.ln (i := k) (by omega)
  have rs := hT.rs (k * 4 + r) (by omega)
  rw [m29_12]
  by_cases z : 0 < Lf (k * 4 + r)
  · have z1 : (0 < nI (Lf (k * 4 + r))) = True := lT (a := 0) z (by omega)
    by_cases y : Sf (k * 4 + r) = st.2.2.1 k
    · have y1 : (nI (Sf (k * 4 + r)) = nI (st.2.2.1 k)) = True := eT y
      simp [c1, q5, v5, q4, v4, q16, v16, q17, z1, y1, nI_1, nI_4, nI_add, m29_0, m29_1, m29_4, m29_5, m29_6, m29_9, m29_10, m29_11u, m29_13, m29_14, m29_17, m29_18, m29_21, m29_22, m29_23, m29_24, m29_25, m29_26, m29_27, m29_30, m29_31, m29_34, m29_35, m29_36, m29_37, m29_38, m29_39, m29_40, m29_41, m29_44, m29_45, m29_46, m29_49, m29_50, m29_53, m29_54, m29_55, m29_56, m29_57, m29_60, m29_63, nb0, nb1, ou_a, Option.toList_some, Option.toList_none, List.nil_append, List.cons_append]
      exact hq1 ⟨z, y⟩
    · have y1 : (nI (Sf (k * 4 + r)) = nI (st.2.2.1 k)) = False := eF y (by omega) (by omega)
      simp [c1, q5, v5, q4, v4, q16, v16, z1, y1, nI_1, nI_4, nI_add, m29_0, m29_1, m29_4, m29_5, m29_6, m29_9, m29_10, m29_11u, m29_13, m29_14, m29_17, m29_18, m29_21, m29_22, m29_23, m29_24, m29_25, m29_26, m29_27, m29_30, m29_31, m29_34, m29_35, m29_36, m29_37, m29_38, m29_39, m29_40, m29_41, m29_44, m29_45, m29_46, m29_49, m29_50, m29_53, m29_54, m29_55, m29_56, m29_57, m29_60, m29_63, nb0, nb1, ou_a, Option.toList_some, Option.toList_none, List.nil_append, List.cons_append]
      exact hq0 (fun q => y q.2)
  · have z1 : (0 < nI (Lf (k * 4 + r))) = False := lF (c := Lf (k * 4 + r)) (a := 0) (by omega) (by decide)
    simp [c1, q5, v5, z1, nI_1, nI_4, nI_add, m29_0, m29_1, m29_4, m29_5, m29_6, m29_9, m29_10, m29_11u, m29_13, m29_14, m29_17, m29_18, m29_21, m29_22, m29_23, m29_24, m29_25, m29_26, m29_27, m29_30, m29_31, m29_34, m29_35, m29_36, m29_37, m29_38, m29_39, m29_40, m29_41, m29_44, m29_45, m29_46, m29_49, m29_50, m29_53, m29_54, m29_55, m29_56, m29_57, m29_60, m29_63, nb0, nb1, ou_a, Option.toList_some, Option.toList_none, List.nil_append, List.cons_append]
    exact hq0 (fun q => z q.1)
theorem trW {k : Nat} (hT : TA c T D C p Sf Lf A) (hS : SI c st dn mr A) (hk : k < c) (hp : st.2.2.1 k ≤ 3) (hh : st.2.2.2 k ≤ 4) (hq : ∀ A', LN A' → (∀ j, j ≠ 17 → A' j = A j) → CM fH (A' 17) (up st.2.2.2 k (tk (S2 Sf) (S2 Lf) st k)) c → Q none (put (b + 1) pre s A' post)) : M29 0 [.val (.ref (b + 1)), .val (.int (nI k)), .unset] [] (put (b + 1) pre s A post) Q := by
  have m9 := hT.m9
  have q17 := in17 hT.ln (i := k) (by omega)
  have v17 := hS.b17 k hk
  have l17 := ln17 hT.ln
  have same : tk (S2 Sf) (S2 Lf) st k = st.2.2.2 k → Q none (put (b + 1) pre s A post) := fun e => hq A hT.ln (fun _ _ => rfl) (CM_ext hS.b17 (fun i hi => by
    rw [up_a]
    split
    · rename_i q; rw [q, e]
    · rfl))
  have put1 : ∀ r, tk (S2 Sf) (S2 Lf) st k = r + 1 → Q none (put (b + 1) pre s (ou A 17 (setA (A 17) (nI k) (nI r))) post) := fun r e => hq _ (LN_set hT.ln) (fun j hj => ou_ne hj) (by
    rw [ou_eq, e]
    exact CM_set hS.b17 (by rw [fH_s (by omega)]; rfl) (by omega) (by omega) (by omega))
  by_cases z : st.2.2.2 k = 0
  · have z1 := fH_0 z
    simp [q17, v17, z1, m29_0, m29_1, m29_4, m29_5, m29_6, m29_9, m29_10, m29_11u, m29_13, m29_14, m29_17, m29_18, m29_21, m29_22, m29_23, m29_24, m29_25, m29_26, m29_27, m29_30, m29_31, m29_34, m29_35, m29_36, m29_37, m29_38, m29_39, m29_40, m29_41, m29_44, m29_45, m29_46, m29_49, m29_50, m29_53, m29_54, m29_55, m29_56, m29_57, m29_60, m29_63, nb0, nb1, ou_a, Option.toList_some, Option.toList_none, List.nil_append, List.cons_append]
    refine trS (r := 0) hT hS.b16 hk (by decide) hp (fun h0 => ?_) (fun n0 => ?_)
    · exact put1 0 (by unfold tk; rw [if_pos z, if_pos h0])
    refine trS (r := 1) hT hS.b16 hk (by decide) hp (fun h1 => ?_) (fun n1 => ?_)
    · exact put1 1 (by unfold tk; rw [if_pos z, if_neg n0, if_pos h1])
    refine trS (r := 2) hT hS.b16 hk (by decide) hp (fun h2 => ?_) (fun n2 => ?_)
    · exact put1 2 (by unfold tk; rw [if_pos z, if_neg n0, if_neg n1, if_pos h2])
    refine trS (r := 3) hT hS.b16 hk (by decide) hp (fun h3 => ?_) (fun n3 => ?_)
    · exact put1 3 (by unfold tk; rw [if_pos z, if_neg n0, if_neg n1, if_neg n2, if_pos h3])
    have c1 : (nI (3 + 1) < 4) = False := lF (c := 4) (by decide) (by decide)
    rw [m29_12]
    simp [c1, m29_0, m29_1, m29_4, m29_5, m29_6, m29_9, m29_10, m29_11u, m29_13, m29_14, m29_17, m29_18, m29_21, m29_22, m29_23, m29_24, m29_25, m29_26, m29_27, m29_30, m29_31, m29_34, m29_35, m29_36, m29_37, m29_38, m29_39, m29_40, m29_41, m29_44, m29_45, m29_46, m29_49, m29_50, m29_53, m29_54, m29_55, m29_56, m29_57, m29_60, m29_63, nb0, nb1, ou_a, Option.toList_some, Option.toList_none, List.nil_append, List.cons_append]
    exact same (by unfold tk; rw [if_pos z, if_neg n0, if_neg n1, if_neg n2, if_neg n3, z])
  · rw [fH_s z] at v17
    have z1 : (nI (st.2.2.2 k - 1) < 0) = False := nnF (by omega)
    simp [q17, v17, z1, m29_0, m29_1, m29_4, m29_5, m29_6, m29_9, m29_10, m29_11u, m29_13, m29_14, m29_17, m29_18, m29_21, m29_22, m29_23, m29_24, m29_25, m29_26, m29_27, m29_30, m29_31, m29_34, m29_35, m29_36, m29_37, m29_38, m29_39, m29_40, m29_41, m29_44, m29_45, m29_46, m29_49, m29_50, m29_53, m29_54, m29_55, m29_56, m29_57, m29_60, m29_63, nb0, nb1, ou_a, Option.toList_some, Option.toList_none, List.nil_append, List.cons_append]
    exact same (tk_h _ _ _ _ z)
set_option maxRecDepth 1000000 in
set_option maxHeartbeats 20000000 in
theorem coW {k : Nat} {st : SS} {dn mr : Nat → Nat} (hL : LN A) (hS : SI c st dn mr A) (hk : k < c) (m9 : c ≤ 9) (s9 : s 9 = nI t) (ht : t ≤ 840) (hr : st.2.1 k ≤ t) (hm : mr k ≤ 840) (hq : ∀ A', LN A' → FS A A' → SI c (up st.1 k false, st.2.1, st.2.2.1, up st.2.2.2 k 0) (up dn k (dn k + 1)) (if mr k < t + 1 - st.2.1 k then up mr k (t + 1 - st.2.1 k) else mr) A' → Q none (put (b + 1) pre s A' post)) : M31 0 [.val (.ref (b + 1)), .val (.int (nI k)), .unset] [] (put (b + 1) pre s A post) Q := by
  have q14 := in14 hL (i := k) (by omega)
  have q15 := in15 hL (i := k) (by omega)
  have q17 := in17 hL (i := k) (by omega)
  have q18 := in18 hL (i := k) (by omega)
  have q19 := in19 hL (i := k) (by omega)
  have v15 := hS.b15 k hk
  have v18 := hS.b18 k hk
  have v19 := hS.b19 k hk
  have l14 := ln14 hL
  have l17 := ln17 hL
  have l18 := ln18 hL
  have l19 := ln19 hL
  have er : nI (t + 1) - nI (st.2.1 k) = nI (t + 1 - st.2.1 k) := nI_sub (by omega)
  by_cases z : mr k < t + 1 - st.2.1 k
  · have z1 : (nI (mr k) < nI (t + 1 - st.2.1 k)) = True := lT z (by omega)
    rw [if_pos z] at hq
    simp [s9, q14, q15, q17, q18, q19, v15, v18, v19, er, z1, nI_1, m31_0, m31_1, m31_4, m31_5, m31_6, m31_7, m31_10, m31_11, m31_12, m31_13u, m31_14, m31_15, m31_18, m31_19, m31_20, m31_23, m31_24, m31_25, m31_26, m31_27, m31_28, m31_29, m31_30, m31_33, m31_34, m31_35, m31_38, m31_39, m31_42, m31_43, m31_44, m31_45, m31_46, m31_49, m31_50, m31_51, m31_52, m31_53, m31_56, m31_57, m31_58, m31_59, nb0, nb1, ou_a, Option.toList_some, Option.toList_none, List.nil_append, List.cons_append]
    refine hq _ ?_ (fun j hj => ?_) ⟨?_, ?_, ?_, ?_, ?_, ?_⟩
    · (repeat refine LN_ou ?_ (by simp only [setA_len]; exact hL _)); exact hL
    · rw [ou_ne (by omega), ou_ne (by omega), ou_ne (by omega), ou_ne (by omega)]
    · (repeat rw [ou_ne (by decide)]); rw [ou_eq]; exact CM_set hS.b14 rfl (by omega) (by omega) (by omega)
    · (repeat rw [ou_ne (by decide)]); exact hS.b15
    · (repeat rw [ou_ne (by decide)]); exact hS.b16
    · rw [ou_eq]; exact CM_set hS.b17 rfl (by omega) (by omega) (by omega)
    · (repeat rw [ou_ne (by decide)]); rw [ou_eq]; exact CM_set hS.b18 rfl (by omega) (by omega) (by omega)
    · (repeat rw [ou_ne (by decide)]); rw [ou_eq]; exact CM_set hS.b19 rfl (by omega) (by omega) (by omega)
  · have z1 : (nI (mr k) < nI (t + 1 - st.2.1 k)) = False := lF (by omega) (by omega)
    rw [if_neg z] at hq
    simp [s9, q14, q15, q17, q18, q19, v15, v18, v19, er, z1, nI_1, m31_0, m31_1, m31_4, m31_5, m31_6, m31_7, m31_10, m31_11, m31_12, m31_13u, m31_14, m31_15, m31_18, m31_19, m31_20, m31_23, m31_24, m31_25, m31_26, m31_27, m31_28, m31_29, m31_30, m31_33, m31_34, m31_35, m31_38, m31_39, m31_42, m31_43, m31_44, m31_45, m31_46, m31_49, m31_50, m31_51, m31_52, m31_53, m31_56, m31_57, m31_58, m31_59, nb0, nb1, ou_a, Option.toList_some, Option.toList_none, List.nil_append, List.cons_append]
    refine hq _ ?_ (fun j hj => ?_) ⟨?_, ?_, ?_, ?_, ?_, ?_⟩
    · (repeat refine LN_ou ?_ (by simp only [setA_len]; exact hL _)); exact hL
    · rw [ou_ne (by omega), ou_ne (by omega), ou_ne (by omega)]
    · (repeat rw [ou_ne (by decide)]); rw [ou_eq]; exact CM_set hS.b14 rfl (by omega) (by omega) (by omega)
    · (repeat rw [ou_ne (by decide)]); exact hS.b15
    · (repeat rw [ou_ne (by decide)]); exact hS.b16
    · rw [ou_eq]; exact CM_set hS.b17 rfl (by omega) (by omega) (by omega)
    · (repeat rw [ou_ne (by decide)]); rw [ou_eq]; exact CM_set hS.b18 rfl (by omega) (by omega) (by omega)
    · (repeat rw [ou_ne (by decide)]); exact hS.b19
theorem SI.ext {k : Nat} {st st' : SS} {dn mr dn' mr' : Nat → Nat} (h : SI k st dn mr A) (h1 : ∀ i, i < k → st.1 i = st'.1 i) (h2 : ∀ i, i < k → st.2.1 i = st'.2.1 i) (h3 : ∀ i, i < k → st.2.2.1 i = st'.2.2.1 i) (h4 : ∀ i, i < k → st.2.2.2 i = st'.2.2.2 i) (h5 : ∀ i, i < k → dn i = dn' i) (h6 : ∀ i, i < k → mr i = mr' i) : SI k st' dn' mr' A :=
  ⟨CM_ext h.b14 h1, CM_ext h.b15 h2, CM_ext h.b16 h3, CM_ext h.b17 h4, CM_ext h.b18 h5, CM_ext h.b19 h6⟩
theorem exW {k : Nat} (hT : TA c T D C p Sf Lf A) (hS : SI c st dn mr A) (hk : k < c) (hpC : st.2.2.1 k < C k) (hh : st.2.2.2 k ≤ 4) (s9 : s 9 = nI t) (ht : t ≤ 840) (hr : st.2.1 k ≤ t) (hm : mr k ≤ 840) (hq : ∀ A', LN A' → FS A A' → SI c (ex1 C (S2 Sf) (S2 Lf) k st) (exD C k st dn) (exM C k t st mr) A' → Q none (put (b + 1) pre s A' post)) : M28 0 [.val (.ref (b + 1)), .val (.int (nI k)), .unset] [] (put (b + 1) pre s A post) Q := by
  have m9 := hT.m9
  have rg := hT.rg k hk
  simp [m28_0, m28_1, m28_2, m28_5, m28_6, m28_9, m28_10, m28_11, m28_14, m28_15, m28_16, m28_17, m28_18, m28_19, m28_20, m28_23, m28_24, m28_25u, m28_26, m28_27, m28_30, m28_31, m28_32, m28_35, m28_36, m28_39, m28_40, m28_41, m28_42, m28_45, m28_46, m28_47, m28_48, m28_49, m28_50, m28_51, m28_52, m28_55, m28_56, m28_57, m28_58, m28_59, m28_60, m28_61, m28_62, m28_65, m28_66, m28_69, m28_70, m28_71, m28_72, m28_73, m28_76, m28_77, m28_78, m28_79, m28_82, m28_83, m28_84, m28_87, m28_88, m28_89, m28_92, nb0, nb1, ou_a, Option.toList_some, Option.toList_none, List.nil_append, List.cons_append]
  refine trW hT hS hk (by omega) hh (fun A1 L1 f1 h17 => ?_)
  have hT1 := hT.ar L1 (fun j hj => f1 j (by omega))
  have hS1 : SI c (st.1, st.2.1, st.2.2.1, up st.2.2.2 k (tk (S2 Sf) (S2 Lf) st k)) dn mr A1 := ⟨by rw [f1 14 (by decide)]; exact hS.b14, by rw [f1 15 (by decide)]; exact hS.b15, by rw [f1 16 (by decide)]; exact hS.b16, h17, by rw [f1 18 (by decide)]; exact hS.b18, by rw [f1 19 (by decide)]; exact hS.b19⟩
  have F1 : FS A A1 := fun j hj => f1 j (by omega)
  obtain ⟨x, hx⟩ : ∃ x, x = tk (S2 Sf) (S2 Lf) st k := ⟨_, rfl⟩
  have x4 : x ≤ 4 := by
    by_cases h0 : st.2.2.2 k = 0
    · by_cases h1 : x = 0
      · omega
      · rw [hx] at h1 ⊢; exact (tk_ok _ _ _ _ h0 h1).1
    · rw [hx, tk_h _ _ _ _ h0]; exact hh
  rw [← hx] at hS1
  have q16 := in16 L1 (i := k) (by omega)
  have v16 : getA (A1 16) (nI k) = nI (st.2.2.1 k) := hS1.b16 k hk
  have q17 := in17 L1 (i := k) (by omega)
  have v17 : getA (A1 17) (nI k) = fH x := by
    have this : getA (A1 17) (nI k) = fH (up st.2.2.2 k x k) := hS1.b17 k hk
    rw [up_a, if_pos rfl] at this
    exact this
  have l16 := ln16 L1
  have l17 := ln17 L1
  have q2 := in2 L1 (i := k) (by omega)
  have v2 := hT1.a2 k hk
  have w16 : getA (setA (A1 16) (nI k) (nI (st.2.2.1 k + 1))) (nI k) = nI (st.2.2.1 k + 1) := by rw [cf_set (by omega) (by omega) (by omega), if_pos rfl]
  have r16 : inB (nI k) (setA (A1 16) (nI k) (nI (st.2.2.1 k + 1))) := nI_in (by rw [setA_len]; omega) (by rw [setA_len]; omega)
  have L2 : LN (ou A1 16 (setA (A1 16) (nI k) (nI (st.2.2.1 k + 1)))) := LN_set L1
  have F2 : FS A (ou A1 16 (setA (A1 16) (nI k) (nI (st.2.2.1 k + 1)))) := FS_t F1 (FS_o (by decide))
  have hS2 : SI c (st.1, st.2.1, up st.2.2.1 k (st.2.2.1 k + 1), up st.2.2.2 k x) dn mr (ou A1 16 (setA (A1 16) (nI k) (nI (st.2.2.1 k + 1)))) := by
    refine ⟨?_, ?_, ?_, ?_, ?_, ?_⟩
    · (repeat rw [ou_ne (by decide)]); exact hS1.b14
    · (repeat rw [ou_ne (by decide)]); exact hS1.b15
    · rw [ou_eq]; exact CM_set hS1.b16 rfl (by omega) (by omega) (by omega)
    · (repeat rw [ou_ne (by decide)]); exact hS1.b17
    · (repeat rw [ou_ne (by decide)]); exact hS1.b18
    · (repeat rw [ou_ne (by decide)]); exact hS1.b19
  -- behind the release of the resource
  have fin : ∀ (y : Nat) (A3 : Nat → List Int32) (l2 : Slot), y = hd2 (S2 Sf) (S2 Lf) st k → LN A3 → FS A A3 → SI c (st.1, st.2.1, up st.2.2.1 k (st.2.2.1 k + 1), up st.2.2.2 k y) dn mr A3 → M28 72 [.val (.ref (b + 1)), .val (.int (nI k)), l2] [] (put (b + 1) pre s A3 post) Q := by
    intro y A3 l2 hy L3 F3 hS3
    have hT3 := hT.ar L3 (fun j hj => F3 j (by omega))
    have q16 := in16 L3 (i := k) (by omega)
    have v16 : getA (A3 16) (nI k) = nI (st.2.2.1 k + 1) := by
      have this : getA (A3 16) (nI k) = nI (up st.2.2.1 k (st.2.2.1 k + 1) k) := hS3.b16 k hk
      rw [up_a, if_pos rfl] at this
      exact this
    have q2 := in2 L3 (i := k) (by omega)
    have v2 := hT3.a2 k hk
    unfold ex1 exD exM at hq
    by_cases z : st.2.2.1 k + 1 = C k
    · have z1 : (nI (st.2.2.1 k + 1) = nI (C k)) = True := eT z
      rw [if_pos z, if_pos z, if_pos z] at hq
      simp [q16, v16, q2, v2, z1, m28_0, m28_1, m28_2, m28_5, m28_6, m28_9, m28_10, m28_11, m28_14, m28_15, m28_16, m28_17, m28_18, m28_19, m28_20, m28_23, m28_24, m28_25u, m28_26, m28_27, m28_30, m28_31, m28_32, m28_35, m28_36, m28_39, m28_40, m28_41, m28_42, m28_45, m28_46, m28_47, m28_48, m28_49, m28_50, m28_51, m28_52, m28_55, m28_56, m28_57, m28_58, m28_59, m28_60, m28_61, m28_62, m28_65, m28_66, m28_69, m28_70, m28_71, m28_72, m28_73, m28_76, m28_77, m28_78, m28_79, m28_82, m28_83, m28_84, m28_87, m28_88, m28_89, m28_92, nb0, nb1, ou_a, Option.toList_some, Option.toList_none, List.nil_append, List.cons_append]
      refine coW L3 hS3 hk m9 s9 ht hr hm (fun A4 L4 F4 hS4 => ?_)
      simp [m28_0, m28_1, m28_2, m28_5, m28_6, m28_9, m28_10, m28_11, m28_14, m28_15, m28_16, m28_17, m28_18, m28_19, m28_20, m28_23, m28_24, m28_25u, m28_26, m28_27, m28_30, m28_31, m28_32, m28_35, m28_36, m28_39, m28_40, m28_41, m28_42, m28_45, m28_46, m28_47, m28_48, m28_49, m28_50, m28_51, m28_52, m28_55, m28_56, m28_57, m28_58, m28_59, m28_60, m28_61, m28_62, m28_65, m28_66, m28_69, m28_70, m28_71, m28_72, m28_73, m28_76, m28_77, m28_78, m28_79, m28_82, m28_83, m28_84, m28_87, m28_88, m28_89, m28_92, nb0, nb1, ou_a, Option.toList_some, Option.toList_none, List.nil_append, List.cons_append]
      refine hq A4 L4 (FS_t F3 F4) (hS4.ext (fun _ _ => rfl) (fun _ _ => rfl) (fun _ _ => rfl) (fun i hi => ?_) (fun _ _ => rfl) (fun _ _ => rfl))
      show up (up st.2.2.2 k y) k 0 i = up st.2.2.2 k 0 i
      rw [up_a, up_a, up_a]
      split
      · rfl
      · rfl
    · have z1 : (nI (st.2.2.1 k + 1) = nI (C k)) = False := eF z (by omega) (by omega)
      rw [if_neg z, if_neg z, if_neg z] at hq
      simp [q16, v16, q2, v2, z1, m28_0, m28_1, m28_2, m28_5, m28_6, m28_9, m28_10, m28_11, m28_14, m28_15, m28_16, m28_17, m28_18, m28_19, m28_20, m28_23, m28_24, m28_25u, m28_26, m28_27, m28_30, m28_31, m28_32, m28_35, m28_36, m28_39, m28_40, m28_41, m28_42, m28_45, m28_46, m28_47, m28_48, m28_49, m28_50, m28_51, m28_52, m28_55, m28_56, m28_57, m28_58, m28_59, m28_60, m28_61, m28_62, m28_65, m28_66, m28_69, m28_70, m28_71, m28_72, m28_73, m28_76, m28_77, m28_78, m28_79, m28_82, m28_83, m28_84, m28_87, m28_88, m28_89, m28_92, nb0, nb1, ou_a, Option.toList_some, Option.toList_none, List.nil_append, List.cons_append]
      rw [hy] at hS3
      exact hq A3 L3 F3 hS3
  by_cases z : x = 0
  · have z1 := fH_0 z
    simp [q16, v16, q17, v17, z1, nI_1, m28_0, m28_1, m28_2, m28_5, m28_6, m28_9, m28_10, m28_11, m28_14, m28_15, m28_16, m28_17, m28_18, m28_19, m28_20, m28_23, m28_24, m28_25u, m28_26, m28_27, m28_30, m28_31, m28_32, m28_35, m28_36, m28_39, m28_40, m28_41, m28_42, m28_45, m28_46, m28_47, m28_48, m28_49, m28_50, m28_51, m28_52, m28_55, m28_56, m28_57, m28_58, m28_59, m28_60, m28_61, m28_62, m28_65, m28_66, m28_69, m28_70, m28_71, m28_73, m28_76, m28_77, m28_78, m28_79, m28_82, m28_83, m28_84, m28_87, m28_88, m28_89, m28_92, nb0, nb1, ou_a, Option.toList_some, Option.toList_none, List.nil_append, List.cons_append]
    refine fin x _ _ ?_ L2 F2 hS2
    unfold hd2
    rw [← hx, if_neg (fun q => q.1 z)]
  · rw [fH_s z] at v17
    have z1 : (nI (x - 1) < 0) = False := nnF (by omega)
    have z2 : (nI (x - 1) < 4) = True := lT (c := 4) (by omega) (by decide)
    have q4 := in4 L1 (i := k * 4 + (x - 1)) (by omega)
    have v4 := hT1.a4 (k * 4 + (x - 1)) (by omega)
    have q5 := in5 L1 (i := k * 4 + (x - 1)) (by omega)
    have v5 := hT1.a5 (k * 4 + (x - 1)) (by omega)
    have rs := hT.rs (k * 4 + (x - 1)) (by omega)
    by_cases y : st.2.2.1 k + 1 = Sf (k * 4 + (x - 1)) + Lf (k * 4 + (x - 1))
    · have y1 : (nI (st.2.2.1 k + 1) = nI (Sf (k * 4 + (x - 1)) + Lf (k * 4 + (x - 1)))) = True := eT y
      simp [q16, v16, w16, r16, q17, v17, z1, z2, q4, v4, q5, v5, y1, nI_1, nI_4, nI_add, m28_0, m28_1, m28_2, m28_5, m28_6, m28_9, m28_10, m28_11, m28_14, m28_15, m28_16, m28_17, m28_18, m28_19, m28_20, m28_23, m28_24, m28_25u, m28_26, m28_27, m28_30, m28_31, m28_32, m28_35, m28_36, m28_39, m28_40, m28_41, m28_42, m28_45, m28_46, m28_47, m28_48, m28_49, m28_50, m28_51, m28_52, m28_55, m28_56, m28_57, m28_58, m28_59, m28_60, m28_61, m28_62, m28_65, m28_66, m28_69, m28_70, m28_71, m28_73, m28_76, m28_77, m28_78, m28_79, m28_82, m28_83, m28_84, m28_87, m28_88, m28_89, m28_92, nb0, nb1, ou_a, Option.toList_some, Option.toList_none, List.nil_append, List.cons_append]
      refine fin 0 _ _ ?_ (LN_ou L2 (by rw [setA_len]; exact L1 _)) (FS_t F2 (FS_o (by decide))) ⟨?_, ?_, ?_, ?_, ?_, ?_⟩
      · unfold hd2
        rw [← hx, if_pos ⟨z, y⟩]
      · (repeat rw [ou_ne (by decide)]); exact hS1.b14
      · (repeat rw [ou_ne (by decide)]); exact hS1.b15
      · (repeat rw [ou_ne (by decide)]); rw [ou_eq]; exact CM_set hS1.b16 rfl (by omega) (by omega) (by omega)
      · rw [ou_eq]; exact CM_ext (CM_set (w := 0) hS1.b17 rfl (by omega) (by omega) (by omega)) (fun i _ => by
          show up (up st.2.2.2 k x) k 0 i = up st.2.2.2 k 0 i
          rw [up_a, up_a, up_a]
          split
          · rfl
          · rfl)
      · (repeat rw [ou_ne (by decide)]); exact hS1.b18
      · (repeat rw [ou_ne (by decide)]); exact hS1.b19
    · have y1 : (nI (st.2.2.1 k + 1) = nI (Sf (k * 4 + (x - 1)) + Lf (k * 4 + (x - 1)))) = False := eF y (by omega) (by omega)
      simp [q16, v16, w16, r16, q17, v17, z1, z2, q4, v4, q5, v5, y1, nI_1, nI_4, nI_add, m28_0, m28_1, m28_2, m28_5, m28_6, m28_9, m28_10, m28_11, m28_14, m28_15, m28_16, m28_17, m28_18, m28_19, m28_20, m28_23, m28_24, m28_25u, m28_26, m28_27, m28_30, m28_31, m28_32, m28_35, m28_36, m28_39, m28_40, m28_41, m28_42, m28_45, m28_46, m28_47, m28_48, m28_49, m28_50, m28_51, m28_52, m28_55, m28_56, m28_57, m28_58, m28_59, m28_60, m28_61, m28_62, m28_65, m28_66, m28_69, m28_70, m28_71, m28_73, m28_76, m28_77, m28_78, m28_79, m28_82, m28_83, m28_84, m28_87, m28_88, m28_89, m28_92, nb0, nb1, ou_a, Option.toList_some, Option.toList_none, List.nil_append, List.cons_append]
      refine fin x _ _ ?_ L2 F2 hS2
      unfold hd2
      rw [← hx, if_neg (fun q => y q.2)]
set_option maxRecDepth 1000000 in
set_option maxHeartbeats 20000000 in
theorem cmL (hT : TA c T D C p Sf Lf A) (hS : SI c st dn mr A) (s1 : s 1 = nI c) (s9 : s 9 = nI t) (ht : t ≤ 841) (hm : ∀ i, i < c → st.1 i = true → st.2.1 i ≤ t ∧ st.2.1 i + D i ≠ t) (hq : Q none (put (b + 1) pre s A post)) : ∀ (k i : Nat), i + k = c → M30 2 [.val (.ref (b + 1)), .val (.int (nI i))] [] (put (b + 1) pre s A post) Q := by
  intro k
  have m9 := hT.m9
  induction k with
  | zero =>
    intro i e
    obtain rfl : i = c := by omega
    have c1 : (nI i < nI i) = False := lF (by omega) (by omega)
    rw [m30_2]
    simp [s1, c1, m30_0, m30_1u, m30_3, m30_4, m30_7, m30_10, m30_11, m30_14, m30_15, m30_16, m30_19, m30_20, m30_23, m30_24, m30_25, m30_26, m30_29, m30_30, m30_31, m30_32, m30_33, m30_36, m30_39, m30_40, m30_41, m30_44, m30_45, m30_46, m30_49, m30_50, m30_53, m30_54, m30_55, m30_56, m30_57, m30_60, m30_61, m30_62, m30_63, m30_66, m30_69, nb0, nb1, ou_a, Option.toList_some, Option.toList_none, List.nil_append, List.cons_append]
    exact hq
  | succ k ih =>
    intro i e
    have c1 : (nI i < nI c) = True := lT (by omega) (by omega)
    have q14 := in14 hT.ln (i := i) (by omega)
    have v14 := hS.b14 i (by omega)
    rw [m30_2]
    cases zp : st.1 i with
    | false =>
      have z1 := fB_0 zp
      simp [s1, c1, q14, v14, z1, nI_1, m30_0, m30_1u, m30_3, m30_4, m30_7, m30_10, m30_11, m30_14, m30_15, m30_16, m30_19, m30_20, m30_23, m30_24, m30_25, m30_26, m30_29, m30_30, m30_31, m30_32, m30_33, m30_36, m30_39, m30_40, m30_41, m30_44, m30_45, m30_46, m30_49, m30_50, m30_53, m30_54, m30_55, m30_56, m30_57, m30_60, m30_61, m30_62, m30_63, m30_66, m30_69, nb0, nb1, ou_a, Option.toList_some, Option.toList_none, List.nil_append, List.cons_append]
      exact ih (i + 1) (by omega)
    | true =>
      have z1 := fB_1 zp
      have q15 := in15 hT.ln (i := i) (by omega)
      have v15 := hS.b15 i (by omega)
      have q1 := in1 hT.ln (i := i) (by omega)
      have v1 := hT.a1 i (by omega)
      have rg := hT.rg i (by omega)
      have hmi := hm i (by omega) zp
      have y1 : (nI (st.2.1 i + D i) = nI t) = False := eF hmi.2 (by omega) (by omega)
      simp [s1, s9, c1, q14, v14, z1, q15, v15, q1, v1, y1, nI_1, nI_add, m30_0, m30_1u, m30_3, m30_4, m30_7, m30_10, m30_11, m30_14, m30_15, m30_16, m30_19, m30_20, m30_23, m30_24, m30_25, m30_26, m30_29, m30_30, m30_31, m30_32, m30_33, m30_36, m30_39, m30_40, m30_41, m30_44, m30_45, m30_46, m30_49, m30_50, m30_53, m30_54, m30_55, m30_56, m30_57, m30_60, m30_61, m30_62, m30_63, m30_66, m30_69, nb0, nb1, ou_a, Option.toList_some, Option.toList_none, List.nil_append, List.cons_append]
      exact ih (i + 1) (by omega)
theorem tiW (hT : TA c T D C p Sf Lf A) (h8 : CM nI (A 8) cl 4) (hcl : ∀ r, r < 4 → cl r ≤ 63) (hA : AN c T D C p Rb Bb (S2 Sf) (S2 Lf) cl) (s1 : s 1 = nI c) (s9 : s 9 = nI t) (ht : t < 840) (hS : SI c st dn mr A) (hF : FI c T C p Rb Bb (S2 Sf) (S2 Lf) cl t st dn mr)
    (hq : ∀ A' st' dn' mr', LN A' → FS A A' → SI c st' dn' mr' A' → FI c T C p Rb Bb (S2 Sf) (S2 Lf) cl (t + 1) st' dn' mr' → Q none (put (b + 1) pre (ou s 9 (nI (t + 1))) A' post)) : M24 0 [.val (.ref (b + 1)), .unset] [] (put (b + 1) pre s A post) Q := by
  have fin : ∀ A2 st' dn' mr' l1, LN A2 → FS A A2 → SI c st' dn' mr' A2 → FI c T C p Rb Bb (S2 Sf) (S2 Lf) cl (t + 1) st' dn' mr' → M24 18 [.val (.ref (b + 1)), l1] [] (put (b + 1) pre s A2 post) Q := by
    intro A2 st' dn' mr' l1 L2 F2 hS2 hF2
    simp [s9, nI_1, m24_0, m24_1, m24_4, m24_5, m24_8u, m24_9, m24_10, m24_13, m24_14, m24_15, m24_18, m24_19, m24_20, m24_23, m24_24, m24_25, m24_28, m24_29, m24_32, nb0, nb1, ou_a, Option.toList_some, Option.toList_none, List.nil_append, List.cons_append, m30_0, m30_1u, m30_3, m30_4, m30_7, m30_10, m30_11, m30_14, m30_15, m30_16, m30_19, m30_20, m30_23, m30_24, m30_25, m30_26, m30_29, m30_30, m30_31, m30_32, m30_33, m30_36, m30_39, m30_40, m30_41, m30_44, m30_45, m30_46, m30_49, m30_50, m30_53, m30_54, m30_55, m30_56, m30_57, m30_60, m30_61, m30_62, m30_63, m30_66, m30_69, nb0, nb1, ou_a, Option.toList_some, Option.toList_none, List.nil_append, List.cons_append]
    refine cmL (c := c) (t := t + 1) (st := st') (hT.ar L2 (fun j hj => F2 j (by omega))) hS2 (by rw [ou_a, if_neg (by decide)]; exact s1) (by rw [ou_a, if_pos rfl]) (by omega) (fun i hi q => ⟨Nat.le_of_lt ((hF2.1 i hi).1 q).2.1, FI_m hA hF2 hi q⟩) ?_ c 0 (by omega)
    simp [m24_0, m24_1, m24_4, m24_5, m24_8u, m24_9, m24_10, m24_13, m24_14, m24_15, m24_18, m24_19, m24_20, m24_23, m24_24, m24_25, m24_28, m24_29, m24_32, nb0, nb1, ou_a, Option.toList_some, Option.toList_none, List.nil_append, List.cons_append]
    exact hq A2 st' dn' mr' L2 F2 hS2 hF2
  simp [m24_0, m24_1, m24_4, m24_5, m24_8u, m24_9, m24_10, m24_13, m24_14, m24_15, m24_19, m24_20, m24_23, m24_24, m24_25, m24_28, m24_29, m24_32, nb0, nb1, ou_a, Option.toList_some, Option.toList_none, List.nil_append, List.cons_append]
  refine rjW s1 s9 (by omega) hT hS (fun A1 L1 F1 hS1 => ?_)
  have hT1 := hT.ar L1 (fun j hj => F1 j (by omega))
  have hF1 := FI_r hA hF
  have hh : ∀ i, i < c → (rl0 T t st).2.2.2 i ≤ 4 := fun i hi => by
    by_cases z : (rl0 T t st).2.2.2 i = 0
    · omega
    · exact ((hF1.1 i hi).2 z).2.1
  simp [m24_0, m24_1, m24_4, m24_5, m24_8u, m24_9, m24_10, m24_13, m24_14, m24_15, m24_19, m24_20, m24_23, m24_24, m24_25, m24_28, m24_29, m24_32, nb0, nb1, ou_a, Option.toList_some, Option.toList_none, List.nil_append, List.cons_append]
  refine prW (cl := cl) hT1 s1 hS1.b14 hS1.b17 (by rw [F1 8 (by decide)]; exact h8) hcl hh (fun hn => ?_) (fun k hR => ?_)
  · simp [m24_0, m24_1, m24_4, m24_5, m24_8u, m24_9, m24_10, m24_13, m24_14, m24_15, m24_19, m24_20, m24_23, m24_24, m24_25, m24_28, m24_29, m24_32, nb0, nb1, ou_a, Option.toList_some, Option.toList_none, List.nil_append, List.cons_append]
    exact fin A1 _ _ _ _ L1 F1 hS1 (FR_n hF1 hn)
  · have m9 := hT.m9
    have hk := hR.1
    have n1 : (nI k < 0) = False := nnF (by omega)
    have sn := (hF1.1 k hk).1 hR.2.1
    have hmr := hF1.2.2.2.2 k hk
    have rk := (hA.1 k hk).2.2
    have rg := hT.rg k hk
    simp [n1, m24_0, m24_1, m24_4, m24_5, m24_8u, m24_9, m24_10, m24_13, m24_14, m24_15, m24_19, m24_20, m24_23, m24_24, m24_25, m24_28, m24_29, m24_32, nb0, nb1, ou_a, Option.toList_some, Option.toList_none, List.nil_append, List.cons_append]
    refine exW hT1 hS1 hk sn.1 (hh k hk) s9 (by omega) sn.2.1 (by omega) (fun A2 L2 F2 hS2 => ?_)
    simp [m24_0, m24_1, m24_4, m24_5, m24_8u, m24_9, m24_10, m24_13, m24_14, m24_15, m24_19, m24_20, m24_23, m24_24, m24_25, m24_28, m24_29, m24_32, nb0, nb1, ou_a, Option.toList_some, Option.toList_none, List.nil_append, List.cons_append]
    exact fin A2 _ _ _ _ L2 (FS_t F1 F2) hS2 (FR_x hA hF1 hR)
theorem ruL {h : Nat} (hh : h ≤ 840) (hcl : ∀ r, r < 4 → cl r ≤ 63) (hA : AN c T D C p Rb Bb (S2 Sf) (S2 Lf) cl) {n : Nat} (hn : n ≤ 840) {a1 : Int32} :
    ∀ (f k t : Nat) (s : Nat → Int32) (A : Nat → List Int32) (st : SS) (dn mr : Nat → Nat), k + f = n → TA c T D C p Sf Lf A → CM nI (A 8) cl 4 → s 1 = nI c → s 2 = nI h → s 9 = nI t → t ≤ h → SI c st dn mr A → FI c T C p Rb Bb (S2 Sf) (S2 Lf) cl t st dn mr →
    (∀ v s' A' t' st' dn' mr', LN A' → FS A A' → (∀ j, j ≠ 9 → s' j = s j) → s' 9 = nI t' → t' ≤ h → SI c st' dn' mr' A' → FI c T C p Rb Bb (S2 Sf) (S2 Lf) cl t' st' dn' mr' → Q (some (.int v)) (put (b + 1) pre s' A' post)) →
    M23 23 [.val (.ref (b + 1)), .val (.int (a1)), .val (.int (nI n)), .val (.int (nI k))] [] (put (b + 1) pre s A post) Q := by
  intro f
  induction f with
  | zero =>
    intro k t s A st dn mr e hT h8 s1 s2 s9 ht hS hF hq
    obtain rfl : k = n := by omega
    have c1 : (nI k < nI k) = False := lF (by omega) (by omega)
    rw [m23_23]
    simp [c1, m23_0, m23_1u, m23_2, m23_3, m23_6, m23_7i, m23_8, m23_9, m23_12, m23_15, m23_18i, m23_19, m23_20u, m23_21, m23_22i, m23_24, m23_25, m23_28, m23_29, m23_32, m23_33, m23_36, m23_39, m23_42, m23_43, m23_46, m23_49, m23_52, m23_53, nb0, nb1, ou_a, Option.toList_some, Option.toList_none, List.nil_append, List.cons_append]
    exact hq _ s A t st dn mr hT.ln (FS_r _) (fun _ _ => rfl) s9 ht hS hF
  | succ f ih =>
    intro k t s A st dn mr e hT h8 s1 s2 s9 ht hS hF hq
    have c1 : (nI k < nI n) = True := lT (by omega) (by omega)
    rw [m23_23]
    by_cases z : t < h
    · have z1 : (nI t < nI h) = True := lT z (by omega)
      simp [c1, s9, s2, z1, m23_0, m23_1u, m23_2, m23_3, m23_6, m23_7i, m23_8, m23_9, m23_12, m23_15, m23_18i, m23_19, m23_20u, m23_21, m23_22i, m23_24, m23_25, m23_28, m23_29, m23_32, m23_33, m23_36, m23_39, m23_42, m23_43, m23_46, m23_49, m23_52, m23_53, nb0, nb1, ou_a, Option.toList_some, Option.toList_none, List.nil_append, List.cons_append]
      refine tiW hT h8 hcl hA s1 s9 (by omega) hS hF (fun A' st' dn' mr' L' F' hS' hF' => ?_)
      simp [nI_1, m23_0, m23_1u, m23_2, m23_3, m23_6, m23_7i, m23_8, m23_9, m23_12, m23_15, m23_18i, m23_19, m23_20u, m23_21, m23_22i, m23_24, m23_25, m23_28, m23_29, m23_32, m23_33, m23_36, m23_39, m23_42, m23_43, m23_46, m23_49, m23_52, m23_53, nb0, nb1, ou_a, Option.toList_some, Option.toList_none, List.nil_append, List.cons_append]
      refine ih (k + 1) (t + 1) _ A' st' dn' mr' (by omega) (hT.ar L' (fun j hj => F' j (by omega))) (by rw [F' 8 (by decide)]; exact h8) (by rw [ou_a, if_neg (by decide)]; exact s1) (by rw [ou_a, if_neg (by decide)]; exact s2) (by rw [ou_a, if_pos rfl]) (by omega) hS' hF' (fun v s'' A'' t'' st'' dn'' mr'' a1 a2 a3 => hq v s'' A'' t'' st'' dn'' mr'' a1 (FS_t F' a2) (fun j hj => by rw [a3 j hj, ou_a, if_neg hj]))
    · have z1 : (nI t < nI h) = False := lF (by omega) (by omega)
      simp [c1, s9, s2, z1, m23_0, m23_1u, m23_2, m23_3, m23_6, m23_7i, m23_8, m23_9, m23_12, m23_15, m23_18i, m23_19, m23_20u, m23_21, m23_22i, m23_24, m23_25, m23_28, m23_29, m23_32, m23_33, m23_36, m23_39, m23_42, m23_43, m23_46, m23_49, m23_52, m23_53, nb0, nb1, ou_a, Option.toList_some, Option.toList_none, List.nil_append, List.cons_append]
      exact hq _ s A t st dn mr hT.ln (FS_r _) (fun _ _ => rfl) s9 ht hS hF
end Sim
def KT (c : Nat) (T D C p Sf Lf Rb Bb cl : Nat → Nat) (hy : Nat) (s : Nat → Int32) (A : Nat → List Int32) : Prop := (TA c T D C p Sf Lf A) ∧ (c ≤ 8) ∧ (∃ cap, cap ≤ 8 ∧ s 0 = nI cap) ∧ (s 1 = nI c) ∧ (s 2 = nI hy) ∧ (0 < hy) ∧ (hy ≤ 840) ∧ (∀ i, i < c → hy % T i = 0) ∧ (CM nI (A 6) Rb c) ∧ (CM nI (A 8) cl 4) ∧ (∀ r, r < 4 → cl r ≤ 63) ∧ (AN c T D C p Rb Bb (S2 Sf) (S2 Lf) cl)
theorem KT.ta {c hy : Nat} {T D C p Sf Lf Rb Bb cl : Nat → Nat} {s : Nat → Int32} {A : Nat → List Int32} (h : KT c T D C p Sf Lf Rb Bb cl hy s A) : TA c T D C p Sf Lf A := h.1
theorem KT.c8 {c hy : Nat} {T D C p Sf Lf Rb Bb cl : Nat → Nat} {s : Nat → Int32} {A : Nat → List Int32} (h : KT c T D C p Sf Lf Rb Bb cl hy s A) : c ≤ 8 := h.2.1
theorem KT.s0 {c hy : Nat} {T D C p Sf Lf Rb Bb cl : Nat → Nat} {s : Nat → Int32} {A : Nat → List Int32} (h : KT c T D C p Sf Lf Rb Bb cl hy s A) : ∃ cap, cap ≤ 8 ∧ s 0 = nI cap := h.2.2.1
theorem KT.s1 {c hy : Nat} {T D C p Sf Lf Rb Bb cl : Nat → Nat} {s : Nat → Int32} {A : Nat → List Int32} (h : KT c T D C p Sf Lf Rb Bb cl hy s A) : s 1 = nI c := h.2.2.2.1
theorem KT.s2 {c hy : Nat} {T D C p Sf Lf Rb Bb cl : Nat → Nat} {s : Nat → Int32} {A : Nat → List Int32} (h : KT c T D C p Sf Lf Rb Bb cl hy s A) : s 2 = nI hy := h.2.2.2.2.1
theorem KT.h0 {c hy : Nat} {T D C p Sf Lf Rb Bb cl : Nat → Nat} {s : Nat → Int32} {A : Nat → List Int32} (h : KT c T D C p Sf Lf Rb Bb cl hy s A) : 0 < hy := h.2.2.2.2.2.1
theorem KT.hh {c hy : Nat} {T D C p Sf Lf Rb Bb cl : Nat → Nat} {s : Nat → Int32} {A : Nat → List Int32} (h : KT c T D C p Sf Lf Rb Bb cl hy s A) : hy ≤ 840 := h.2.2.2.2.2.2.1
theorem KT.hd {c hy : Nat} {T D C p Sf Lf Rb Bb cl : Nat → Nat} {s : Nat → Int32} {A : Nat → List Int32} (h : KT c T D C p Sf Lf Rb Bb cl hy s A) : ∀ i, i < c → hy % T i = 0 := h.2.2.2.2.2.2.2.1
theorem KT.a6 {c hy : Nat} {T D C p Sf Lf Rb Bb cl : Nat → Nat} {s : Nat → Int32} {A : Nat → List Int32} (h : KT c T D C p Sf Lf Rb Bb cl hy s A) : CM nI (A 6) Rb c := h.2.2.2.2.2.2.2.2.1
theorem KT.a8 {c hy : Nat} {T D C p Sf Lf Rb Bb cl : Nat → Nat} {s : Nat → Int32} {A : Nat → List Int32} (h : KT c T D C p Sf Lf Rb Bb cl hy s A) : CM nI (A 8) cl 4 := h.2.2.2.2.2.2.2.2.2.1
theorem KT.ce {c hy : Nat} {T D C p Sf Lf Rb Bb cl : Nat → Nat} {s : Nat → Int32} {A : Nat → List Int32} (h : KT c T D C p Sf Lf Rb Bb cl hy s A) : ∀ r, r < 4 → cl r ≤ 63 := h.2.2.2.2.2.2.2.2.2.2.1
theorem KT.an {c hy : Nat} {T D C p Sf Lf Rb Bb cl : Nat → Nat} {s : Nat → Int32} {A : Nat → List Int32} (h : KT c T D C p Sf Lf Rb Bb cl hy s A) : AN c T D C p Rb Bb (S2 Sf) (S2 Lf) cl := h.2.2.2.2.2.2.2.2.2.2.2
section Own
variable {b c hy t u : Nat} {pre post : AHeap} {Q : Option Value → AHeap → Prop} {T D C p Sf Lf Rb Bb cl dn mr : Nat → Nat} {s s' : Nat → Int32} {A A' : Nat → List Int32} {st : SS}
def KM (c : Nat) (T C p Rb Bb Sf Lf cl : Nat → Nat) (hy : Nat) (s : Nat → Int32) (A : Nat → List Int32) : Prop := ∃ (t : Nat) (st : SS) (dn mr : Nat → Nat), s 9 = nI t ∧ t ≤ hy ∧ s 10 = 0 ∧ SI c st dn mr A ∧ FI c T C p Rb Bb (S2 Sf) (S2 Lf) cl t st dn mr
def OX (c : Nat) (T : Nat → Nat) (u : Nat) (s : Nat → Int32) (A : Nat → List Int32) : Prop := ∃ (D C p Sf Lf Rb Bb cl : Nat → Nat) (hy : Nat), KT c T D C p Sf Lf Rb Bb cl hy s A ∧ KS c p u s A ∧ KM c T C p Rb Bb Sf Lf cl hy s A
theorem SI.ar (h : SI c st dn mr A) (e : ∀ k, 14 ≤ k → A' k = A k) : SI c st dn mr A' := by
  refine ⟨?_, ?_, ?_, ?_, ?_, ?_⟩
  · rw [e 14 (by decide)]; exact h.b14
  · rw [e 15 (by decide)]; exact h.b15
  · rw [e 16 (by decide)]; exact h.b16
  · rw [e 17 (by decide)]; exact h.b17
  · rw [e 18 (by decide)]; exact h.b18
  · rw [e 19 (by decide)]; exact h.b19
theorem SI.le {k : Nat} (h : SI k st dn mr A) (e : c ≤ k) : SI c st dn mr A := ⟨CM_le h.b14 e, CM_le h.b15 e, CM_le h.b16 e, CM_le h.b17 e, CM_le h.b18 e, CM_le h.b19 e⟩
theorem KM.fr (h : KM c T C p Rb Bb Sf Lf cl hy s A) (e9 : s' 9 = s 9) (e10 : s' 10 = s 10) (e : ∀ k, 14 ≤ k → A' k = A k) : KM c T C p Rb Bb Sf Lf cl hy s' A' := by
  obtain ⟨t, st, dn, mr, h1, h2, h3, h4, h5⟩ := h
  exact ⟨t, st, dn, mr, e9.trans h1, h2, e10.trans h3, h4.ar e, h5⟩
theorem KT.fr (k : KT c T D C p Sf Lf Rb Bb cl hy s A) (e0 : s' 0 = s 0) (e1 : s' 1 = s 1) (e2 : s' 2 = s 2) (ta : TA c T D C p Sf Lf A') (f6 : A' 6 = A 6) (f8 : A' 8 = A 8) : KT c T D C p Sf Lf Rb Bb cl hy s' A' :=
  ⟨ta, k.c8, by rw [e0]; exact k.s0, by rw [e1]; exact k.s1, by rw [e2]; exact k.s2, k.h0, k.hh, k.hd, by rw [f6]; exact k.a6, by rw [f8]; exact k.a8, k.ce, k.an⟩
theorem KT.st9 (k : KT c T D C p Sf Lf Rb Bb cl hy s A) (e0 : s' 0 = s 0) (e1 : s' 1 = s 1) (e2 : s' 2 = s 2) (hl : LN A') (f : ∀ k, k < 9 → A' k = A k) : KT c T D C p Sf Lf Rb Bb cl hy s' A' :=
  k.fr e0 e1 e2 (k.ta.ar hl (fun j hj => f j (by omega))) (f 6 (by decide)) (f 8 (by decide))
theorem OX.no (kt : KT c T D C p Sf Lf Rb Bb cl hy s A) (km : KM c T C p Rb Bb Sf Lf cl hy s A) (e : ∀ k, k ≠ 3 → k ≠ 4 → s' k = s k) (e4 : s' 4 = 0) (ta : TA c T D C p Sf Lf A') (f : ∀ k, 6 ≤ k → k < 11 ∨ 13 < k → A' k = A k) : OX c T u s' A' :=
  ⟨D, C, p, Sf, Lf, Rb, Bb, cl, hy, kt.fr (e 0 (by decide) (by decide)) (e 1 (by decide) (by decide)) (e 2 (by decide) (by decide)) ta (f 6 (by decide) (by decide)) (f 8 (by decide) (by decide)), Or.inl e4, km.fr (e 9 (by decide) (by decide)) (e 10 (by decide) (by decide)) (fun k hk => f k (by omega) (by omega))⟩
theorem lcm_d {h u T : Nat} (hd : h % T = 0) : (h / Nat.gcd h u * u) % T = 0 := by
  obtain ⟨u', eu⟩ := Nat.gcd_dvd_right h u
  have e : h / Nat.gcd h u * Nat.gcd h u = h := Nat.div_mul_cancel (Nat.gcd_dvd_left h u)
  have e2 : h / Nat.gcd h u * u = h * u' := by
    calc h / Nat.gcd h u * u = h / Nat.gcd h u * (Nat.gcd h u * u') := by rw [← eu]
      _ = h * u' := by rw [← Nat.mul_assoc, e]
  rw [e2, Nat.mul_mod, hd, Nat.zero_mul, Nat.zero_mod]
theorem lcm_p {h u : Nat} (hh : 0 < h) (hu : 0 < u) : 0 < h / Nat.gcd h u * u := by
  have g0 : 0 < Nat.gcd h u := Nat.gcd_pos_of_pos_left _ hh
  exact Nat.mul_pos (Nat.div_pos (Nat.gcd_le_left _ hh) g0) hu
theorem AN_n {tD tC tP : Nat} {sS sL cl' R' B' : Nat → Nat} (ta : TA (c + 1) (up T c u) (up D c tD) (up C c tC) (up p c tP) (app c Sf sS) (app c Lf sL) A) (an : AN c T D C p Rb Bb (S2 Sf) (S2 Lf) cl) (hne : ∀ i, i < c → p i ≠ tP) (hs : ∀ r, r < 4 → sS r + sL r ≤ tC)
    (hc : ∀ q, q < 4 → cl' q ≤ 63 ∧ ∀ i, i < c + 1 → 0 < app c Lf sL (i * 4 + q) → up p c tP i ≤ cl' q) (hPI : ∀ i', i' < c + 1 → PI (c + 1) (up T c u) (up D c tD) (up C c tC) (up p c tP) (app c Lf sL) cl' i' (R' i') (B' i')) :
    AN (c + 1) (up T c u) (up D c tD) (up C c tC) (up p c tP) R' B' (S2 (app c Sf sS)) (S2 (app c Lf sL)) cl' := by
  refine ⟨fun i hi => ?_, fun i j hi hj e => ?_, fun i j r hi hj hr x y z => (hPI i hi).2.2 j r hj hr x y z, fun i r hi hr x => ?_, fun i r hi hr x => (hc r hr).2 i hi x⟩
  · have rg := ta.rg i hi
    have q := hPI i hi
    have e := inf_sg (up T c u) (up C c tC) (up p c tP) i (R' i) (c + 1)
    refine ⟨rg.1, rg.2.2.2.1, q.1, rg.2.2.1, ?_⟩
    rw [← e]
    have := q.2.1
    omega
  · rw [up_a, up_a] at e
    by_cases a : i = c
    · by_cases d : j = c
      · rw [a, d]
      · rw [if_pos a, if_neg d] at e
        exact absurd e.symm (hne j (by omega))
    · by_cases d : j = c
      · rw [if_neg a, if_pos d] at e
        exact absurd e (hne i (by omega))
      · rw [if_neg a, if_neg d] at e
        exact an.2.1 i j (by omega) (by omega) e
  · show app c Sf sS (i * 4 + r) + app c Lf sL (i * 4 + r) ≤ up C c tC i
    have x : 0 < app c Lf sL (i * 4 + r) := x
    rw [up_a]
    by_cases a : i = c
    · subst a
      rw [app_r, app_r, if_pos rfl]
      exact hs r hr
    · rw [app_l (show i * 4 + r < c * 4 by omega)] at x
      rw [app_l (show i * 4 + r < c * 4 by omega), app_l (show i * 4 + r < c * 4 by omega), if_neg a]
      exact an.2.2.2.1 i r (by omega) hr x
set_option maxRecDepth 1000000 in
set_option maxHeartbeats 20000000 in
theorem bgO {v tD tC tP : Nat} (h : OX c T u s A) (rg : 0 < v ∧ v ≤ 40 ∧ tD ≤ v ∧ 0 < tC ∧ tC ≤ 3 ∧ 0 < tP ∧ tP ≤ 63) (rC : tC ≤ tD) (hf : ∀ w : Int32, w ≠ 0 → Q (some (.int w)) (put (b + 1) pre s A post)) (hq : ∀ s' A', OX c T v s' A' → Q (some (.int 0)) (put (b + 1) pre s' A' post)) : M5 0 [.val (.ref (b + 1)), .val (.int (nI v)), .val (.int (nI tD)), .val (.int (nI tC)), .val (.int (nI tP)), .unset] [] (put (b + 1) pre s A post) Q := by
  obtain ⟨D, C, p, Sf, Lf, Rb, Bb, cl, hy, kt, ks, km⟩ := h
  obtain ⟨cap, hcap, e0⟩ := kt.s0
  exact bgW kt.ta kt.s1 e0 hcap rg rC hf (fun s' A' l e f k => hq s' A' ⟨D, C, p, Sf, Lf, Rb, Bb, cl, hy, kt.st9 (e 0 (by omega)) (e 1 (by omega)) (e 2 (by omega)) l (fun j hj => f j (by omega) (by omega)), k, km.fr (e 9 (by omega)) (e 10 (by omega)) (fun j hj => f j (by omega) (by omega))⟩)
theorem asO {r st ln : Nat} (h : OX c T u s A) (hr : r < 4) (hst : st ≤ 2) (hln : 1 ≤ ln) (hln2 : ln ≤ 2) (hq : ∀ (v : Int32) A', OX c T u s A' → Q (some (.int v)) (put (b + 1) pre s A' post)) : M7 0 [.val (.ref (b + 1)), .val (.int (nI r)), .val (.int (nI st)), .val (.int (nI ln))] [] (put (b + 1) pre s A post) Q := by
  obtain ⟨D, C, p, Sf, Lf, Rb, Bb, cl, hy, kt, ks, km⟩ := h
  exact asW kt.ta.ln ks hr hst hln hln2 (fun v A' l f k => hq v A' ⟨D, C, p, Sf, Lf, Rb, Bb, cl, hy, kt.st9 rfl rfl rfl l (fun j hj => f j (by omega) (by omega)), k, km.fr rfl rfl (fun j hj => f j (by omega) (by omega))⟩)
theorem ruO {n : Nat} (h : OX c T u s A) (hn : n ≤ 840) (hq : ∀ (v : Int32) s' A', OX c T u s' A' → Q (some (.int v)) (put (b + 1) pre s' A' post)) : M23 0 [.val (.ref (b + 1)), .val (.int (nI n)), .unset, .unset] [] (put (b + 1) pre s A post) Q := by
  obtain ⟨D, C, p, Sf, Lf, Rb, Bb, cl, hy, kt, ks, t, st, dn, mr, s9, ht, s10, hS, hF⟩ := h
  have c1 : (nI n < 0) = False := nnF (by omega)
  have c2 : (840 < nI n) = False := lF (a := 840) (by omega) (by omega)
  simp [c1, c2, m23_0, m23_1u, m23_2, m23_3, m23_6, m23_7i, m23_8, m23_9, m23_12, m23_15, m23_18i, m23_19, m23_20u, m23_21, m23_22i, m23_24, m23_25, m23_28, m23_29, m23_32, m23_33, m23_36, m23_39, m23_42, m23_43, m23_46, m23_49, m23_52, m23_53, nb0, nb1, ou_a, Option.toList_some, Option.toList_none, List.nil_append, List.cons_append]
  refine ruL (h := hy) kt.hh kt.ce kt.an hn n 0 t s A st dn mr (by omega) kt.ta kt.a8 kt.s1 kt.s2 s9 ht hS hF (fun v s' A' t' st' dn' mr' l f e e9 ht' hS' hF' => hq v s' A' ⟨D, C, p, Sf, Lf, Rb, Bb, cl, hy, kt.st9 (e 0 (by decide)) (e 1 (by decide)) (e 2 (by decide)) l (fun j hj => f j (by omega)), ks.st (fun k a1 a2 => e k (by omega)) (fun k hk => f k (by omega)), t', st', dn', mr', e9, ht', (e 10 (by decide)).trans s10, hS', hF'⟩)
set_option maxRecDepth 1000000 in
set_option maxHeartbeats 20000000 in
theorem cmO (h : OX c T u s A) (hf : ∀ (v : Int32) s' A', v < 0 → OX c T u s' A' → Q (some (.int v)) (put (b + 1) pre s' A' post)) (hq : ∀ s' A', c < 8 → u ≤ 40 → OX (c + 1) (up T c u) u s' A' → Q (some (.int (nI c))) (put (b + 1) pre s' A' post)) : M9 0 [.val (.ref (b + 1)), .unset, .unset, .unset] [] (put (b + 1) pre s A post) Q := by
  obtain ⟨D, C, p, Sf, Lf, Rb, Bb, cl, hy, kt, ks, km⟩ := id h
  rcases id ks with e4 | ⟨tD, tC, tP, sS, sL, e4, e5, e6, e7, e8, rg, hne, h9, h10, hs⟩
  · simp [e4, m9_0, m9_1, m9_4, m9_7, m9_9, m9_10, m9_11, m9_14u, m9_15, m9_16, m9_18, m9_21, m9_22, m9_23, m9_26, m9_27, m9_28, m9_29, m9_30, m9_33, m9_34, m9_37, m9_40u, m9_41, m9_42, m9_45, m9_48, m9_49, m9_50, m9_53, m9_54, m9_55, m9_58, m9_60, m9_61, m9_62, m9_63, m9_66, m9_67, m9_68, m9_69, m9_70, m9_73u, m9_74, m9_75, m9_78, m9_79, m9_80, m9_83, m9_84, m9_85, m9_88, m9_90, m9_91, m9_92, m9_93, m9_94, m9_95, m9_98, m9_99, m9_100, m9_101, m9_102, m9_105, m9_106, m9_107, m9_110, m9_111, m9_112, m9_115, m9_116, m9_117, m9_120, m9_121, m9_124, m9_125, nb0, nb1, ou_a, Option.toList_some, Option.toList_none, List.nil_append, List.cons_append]
    exact hf _ s A (by decide) h
  have s1 := kt.s1
  have s2 := kt.s2
  by_cases z : c < 8
  case neg =>
    have c8 := kt.c8
    have z1 : (nI c < 8) = False := lF (c := 8) (by omega) (by omega)
    simp [e4, s1, z1, m9_0, m9_1, m9_4, m9_7, m9_9, m9_10, m9_11, m9_14u, m9_15, m9_16, m9_18, m9_21, m9_22, m9_23, m9_26, m9_27, m9_28, m9_29, m9_30, m9_33, m9_34, m9_37, m9_40u, m9_41, m9_42, m9_45, m9_48, m9_49, m9_50, m9_53, m9_54, m9_55, m9_58, m9_60, m9_61, m9_62, m9_63, m9_66, m9_67, m9_68, m9_69, m9_70, m9_73u, m9_74, m9_75, m9_78, m9_79, m9_80, m9_83, m9_84, m9_85, m9_88, m9_90, m9_91, m9_92, m9_93, m9_94, m9_95, m9_98, m9_99, m9_100, m9_101, m9_102, m9_105, m9_106, m9_107, m9_110, m9_111, m9_112, m9_115, m9_116, m9_117, m9_120, m9_121, m9_124, m9_125, nb0, nb1, ou_a, Option.toList_some, Option.toList_none, List.nil_append, List.cons_append]
    exact hf _ _ A (by decide) (OX.no kt km (fun k _ k4 => by rw [ou_a, if_neg k4]) (by rw [ou_a, if_pos rfl]) kt.ta (fun _ _ _ => rfl))
  have z1 : (nI c < 8) = True := lT (c := 8) z (by omega)
  simp [e4, s1, s2, e5, z1, m9_0, m9_1, m9_4, m9_7, m9_9, m9_10, m9_11, m9_14u, m9_15, m9_16, m9_18, m9_21, m9_22, m9_23, m9_26, m9_27, m9_28, m9_29, m9_30, m9_33, m9_34, m9_37, m9_40u, m9_41, m9_42, m9_45, m9_48, m9_49, m9_50, m9_53, m9_54, m9_55, m9_58, m9_60, m9_61, m9_62, m9_63, m9_66, m9_67, m9_68, m9_69, m9_70, m9_73u, m9_74, m9_75, m9_78, m9_79, m9_80, m9_83, m9_84, m9_85, m9_88, m9_90, m9_91, m9_92, m9_93, m9_94, m9_95, m9_98, m9_99, m9_100, m9_101, m9_102, m9_105, m9_106, m9_107, m9_110, m9_111, m9_112, m9_115, m9_116, m9_117, m9_120, m9_121, m9_124, m9_125, nb0, nb1, ou_a, Option.toList_some, Option.toList_none, List.nil_append, List.cons_append]
  refine lcW kt.h0 kt.hh rg.1 rg.2.1 ?_
  have hy1 := kt.hh
  have Lp := lcm_p kt.h0 rg.1
  have Lb : hy / Nat.gcd hy u * u ≤ 840 * 40 := Nat.mul_le_mul (Nat.le_trans (Nat.div_le_self _ _) kt.hh) rg.2.1
  have Ld : ∀ i, i < c + 1 → (hy / Nat.gcd hy u * u) % up T c u i = 0 := fun i hi => by
    rw [up_a]
    by_cases a : i = c
    · rw [if_pos a]; exact Nat.mul_mod_left _ _
    · rw [if_neg a]; exact lcm_d (kt.hd i (by omega))
  obtain ⟨L, hL⟩ : ∃ L, L = hy / Nat.gcd hy u * u := ⟨_, rfl⟩
  rw [← hL] at Lp Lb Ld ⊢
  by_cases y : 840 < L
  · have y1 : (840 < nI L) = True := lT (a := 840) y (by omega)
    simp [y1, m9_0, m9_1, m9_4, m9_7, m9_9, m9_10, m9_11, m9_14u, m9_15, m9_16, m9_18, m9_21, m9_22, m9_23, m9_26, m9_27, m9_28, m9_29, m9_30, m9_33, m9_34, m9_37, m9_40u, m9_41, m9_42, m9_45, m9_48, m9_49, m9_50, m9_53, m9_54, m9_55, m9_58, m9_60, m9_61, m9_62, m9_63, m9_66, m9_67, m9_68, m9_69, m9_70, m9_73u, m9_74, m9_75, m9_78, m9_79, m9_80, m9_83, m9_84, m9_85, m9_88, m9_90, m9_91, m9_92, m9_93, m9_94, m9_95, m9_98, m9_99, m9_100, m9_101, m9_102, m9_105, m9_106, m9_107, m9_110, m9_111, m9_112, m9_115, m9_116, m9_117, m9_120, m9_121, m9_124, m9_125, nb0, nb1, ou_a, Option.toList_some, Option.toList_none, List.nil_append, List.cons_append]
    exact hf _ _ A (by decide) (OX.no kt km (fun k k3 k4 => by rw [ou_a, if_neg k3, ou_a, if_neg k4]) (by rw [ou_a, if_neg (by decide), ou_a, if_pos rfl]) kt.ta (fun _ _ _ => rfl))
  have y1 : (840 < nI L) = False := lF (a := 840) (by omega) (by omega)
  simp [y1, m9_0, m9_1, m9_4, m9_7, m9_9, m9_10, m9_11, m9_14u, m9_15, m9_16, m9_18, m9_21, m9_22, m9_23, m9_26, m9_27, m9_28, m9_29, m9_30, m9_33, m9_34, m9_37, m9_40u, m9_41, m9_42, m9_45, m9_48, m9_49, m9_50, m9_53, m9_54, m9_55, m9_58, m9_60, m9_61, m9_62, m9_63, m9_66, m9_67, m9_68, m9_69, m9_70, m9_73u, m9_74, m9_75, m9_78, m9_79, m9_80, m9_83, m9_84, m9_85, m9_88, m9_90, m9_91, m9_92, m9_93, m9_94, m9_95, m9_98, m9_99, m9_100, m9_101, m9_102, m9_105, m9_106, m9_107, m9_110, m9_111, m9_112, m9_115, m9_116, m9_117, m9_120, m9_121, m9_124, m9_125, nb0, nb1, ou_a, Option.toList_some, Option.toList_none, List.nil_append, List.cons_append]
  refine plW kt.ta z e5 e6 e7 e8 rg h9 h10 hs (fun A1 ta1 f1 => ?_)
  simp [nI_1, m9_0, m9_1, m9_4, m9_7, m9_9, m9_10, m9_11, m9_14u, m9_15, m9_16, m9_18, m9_21, m9_22, m9_23, m9_26, m9_27, m9_28, m9_29, m9_30, m9_33, m9_34, m9_37, m9_40u, m9_41, m9_42, m9_45, m9_48, m9_49, m9_50, m9_53, m9_54, m9_55, m9_58, m9_60, m9_61, m9_62, m9_63, m9_66, m9_67, m9_68, m9_69, m9_70, m9_73u, m9_74, m9_75, m9_78, m9_79, m9_80, m9_83, m9_84, m9_85, m9_88, m9_90, m9_91, m9_92, m9_93, m9_94, m9_95, m9_98, m9_99, m9_100, m9_101, m9_102, m9_105, m9_106, m9_107, m9_110, m9_111, m9_112, m9_115, m9_116, m9_117, m9_120, m9_121, m9_124, m9_125, nb0, nb1, ou_a, Option.toList_some, Option.toList_none, List.nil_append, List.cons_append]
  refine anW ta1 (fun A2 cl2 R2 B2 L2 F2 h11 h13 hc hPI => ?_) (fun A2 i' hi' L2 F2 => ?_)
  · simp [nI_1, m9_0, m9_1, m9_4, m9_7, m9_9, m9_10, m9_11, m9_14u, m9_15, m9_16, m9_18, m9_21, m9_22, m9_23, m9_26, m9_27, m9_28, m9_29, m9_30, m9_33, m9_34, m9_37, m9_40u, m9_41, m9_42, m9_45, m9_48, m9_49, m9_50, m9_53, m9_54, m9_55, m9_58, m9_60, m9_61, m9_62, m9_63, m9_66, m9_67, m9_68, m9_69, m9_70, m9_73u, m9_74, m9_75, m9_78, m9_79, m9_80, m9_83, m9_84, m9_85, m9_88, m9_90, m9_91, m9_92, m9_93, m9_94, m9_95, m9_98, m9_99, m9_100, m9_101, m9_102, m9_105, m9_106, m9_107, m9_110, m9_111, m9_112, m9_115, m9_116, m9_117, m9_120, m9_121, m9_124, m9_125, nb0, nb1, ou_a, Option.toList_some, Option.toList_none, List.nil_append, List.cons_append]
    refine adW (m := c + 1) (by omega) L2 h11 h13 (fun A3 L3 F3 h6 h8 => ?_)
    simp [nI_1, m9_0, m9_1, m9_4, m9_7, m9_9, m9_10, m9_11, m9_14u, m9_15, m9_16, m9_18, m9_21, m9_22, m9_23, m9_26, m9_27, m9_28, m9_29, m9_30, m9_33, m9_34, m9_37, m9_40u, m9_41, m9_42, m9_45, m9_48, m9_49, m9_50, m9_53, m9_54, m9_55, m9_58, m9_60, m9_61, m9_62, m9_63, m9_66, m9_67, m9_68, m9_69, m9_70, m9_73u, m9_74, m9_75, m9_78, m9_79, m9_80, m9_83, m9_84, m9_85, m9_88, m9_90, m9_91, m9_92, m9_93, m9_94, m9_95, m9_98, m9_99, m9_100, m9_101, m9_102, m9_105, m9_106, m9_107, m9_110, m9_111, m9_112, m9_115, m9_116, m9_117, m9_120, m9_121, m9_124, m9_125, nb0, nb1, ou_a, Option.toList_some, Option.toList_none, List.nil_append, List.cons_append]
    refine rsW L3 (fun A4 L4 F4 si => ?_)
    try simp [m9_0, m9_1, m9_4, m9_7, m9_9, m9_10, m9_11, m9_14u, m9_15, m9_16, m9_18, m9_21, m9_22, m9_23, m9_26, m9_27, m9_28, m9_29, m9_30, m9_33, m9_34, m9_37, m9_40u, m9_41, m9_42, m9_45, m9_48, m9_49, m9_50, m9_53, m9_54, m9_55, m9_58, m9_60, m9_61, m9_62, m9_63, m9_66, m9_67, m9_68, m9_69, m9_70, m9_73u, m9_74, m9_75, m9_78, m9_79, m9_80, m9_83, m9_84, m9_85, m9_88, m9_90, m9_91, m9_92, m9_93, m9_94, m9_95, m9_98, m9_99, m9_100, m9_101, m9_102, m9_105, m9_106, m9_107, m9_110, m9_111, m9_112, m9_115, m9_116, m9_117, m9_120, m9_121, m9_124, m9_125, nb0, nb1, ou_a, Option.toList_some, Option.toList_none, List.nil_append, List.cons_append]
    have ta4 := ta1.ar L4 (fun k hk => by rw [F4 k (by omega), F3 k (by omega), F2 k (by omega)])
    have an := AN_n ta1 kt.an hne hs hc hPI
    refine hq _ A4 z rg.2.1 ⟨up D c tD, up C c tC, up p c tP, app c Sf sS, app c Lf sL, R2, B2, cl2, L, ⟨ta4, by omega, ?_, ?_, ?_, Lp, by omega, Ld, ?_, ?_, fun r hr => (hc r hr).1, an⟩, Or.inl ?_, 0, z0, fun _ => 0, fun _ => 0, ?_, by omega, ?_, si.le (by omega), FI_0 an (fun _ _ => rfl) (fun _ _ => rfl) (fun _ _ => rfl) (fun _ _ => rfl)⟩
    · simp only [ou_a]; simp; exact kt.s0
    · simp only [ou_a]; simp
    · simp only [ou_a]; simp
    · rw [F4 6 (by decide)]; exact h6
    · rw [F4 8 (by decide)]; exact h8
    · simp only [ou_a]; simp
    · simp only [ou_a]; simp; rfl
    · simp only [ou_a]; simp
  · have i1 : (nI i' < 0) = False := nnF (by omega)
    simp [i1, m9_0, m9_1, m9_4, m9_7, m9_9, m9_10, m9_11, m9_14u, m9_15, m9_16, m9_18, m9_21, m9_22, m9_23, m9_26, m9_27, m9_28, m9_29, m9_30, m9_33, m9_34, m9_37, m9_40u, m9_41, m9_42, m9_45, m9_48, m9_49, m9_50, m9_53, m9_54, m9_55, m9_58, m9_60, m9_61, m9_62, m9_63, m9_66, m9_67, m9_68, m9_69, m9_70, m9_73u, m9_74, m9_75, m9_78, m9_79, m9_80, m9_83, m9_84, m9_85, m9_88, m9_90, m9_91, m9_92, m9_93, m9_94, m9_95, m9_98, m9_99, m9_100, m9_101, m9_102, m9_105, m9_106, m9_107, m9_110, m9_111, m9_112, m9_115, m9_116, m9_117, m9_120, m9_121, m9_124, m9_125, nb0, nb1, ou_a, Option.toList_some, Option.toList_none, List.nil_append, List.cons_append]
    exact hf _ _ A2 (by decide) (OX.no kt km (fun k k3 k4 => by rw [ou_a, if_neg k3, ou_a, if_neg k4]) (by rw [ou_a, if_neg (by decide), ou_a, if_pos rfl]) (ta1.down.ar L2 (fun k hk => F2 k (by omega))) (fun k k6 hk => by rw [F2 k hk, f1 k k6]))
end Own
def gp (w : Int64) (n : Int32) : Int32 := (XT.ushrL w (16 * n) &&& 65535).toInt32
def setp (w : Int64) (n p : Int32) : Int64 := (w &&& ((65535 <<< ((16 * n).toInt64 &&& 63)) ^^^ -1)) ||| ((p.toInt64 &&& 65535) <<< ((16 * n).toInt64 &&& 63))
theorem b32a : ∀ i : Fin 32, (65535#32).getLsbD i.val = decide (i.val < 16) := by decide +kernel
theorem b64a : ∀ i : Fin 64, (65535#64).getLsbD i.val = decide (i.val < 16) := by decide +kernel
theorem b32 {i : Nat} (hi : i < 32) : (65535#32)[i] = decide (i < 16) := by
  rw [← BitVec.getLsbD_eq_getElem]; exact b32a ⟨i, hi⟩
theorem b64 {i : Nat} (hi : i < 64) : (65535#64)[i] = decide (i < 16) := by
  rw [← BitVec.getLsbD_eq_getElem]; exact b64a ⟨i, hi⟩
theorem gp_b (w : Int64) {k : Nat} (hk : k < 4) {i : Nat} (hi : i < 32) : (gp w (nI k)).toBitVec[i] = (decide (i < 16) && w.toBitVec.getLsbD (16 * k + i)) := by
  have e := b32 hi
  have l : i < 64 := by omega
  unfold gp XT.ushrL
  rcases (show k = 0 ∨ k = 1 ∨ k = 2 ∨ k = 3 by omega) with rfl | rfl | rfl | rfl
  · rw [show (16 * nI 0).toInt64.toUInt64 &&& Int64.toUInt64 63 = 0 by decide]
    simp [e, l, BitVec.getElem_signExtend, BitVec.getLsbD_eq_getElem, Bool.and_comm]
  · rw [show (16 * nI 1).toInt64.toUInt64 &&& Int64.toUInt64 63 = 16 by decide]
    simp [e, l, BitVec.getElem_signExtend, Bool.and_comm]
  · rw [show (16 * nI 2).toInt64.toUInt64 &&& Int64.toUInt64 63 = 32 by decide]
    simp [e, l, BitVec.getElem_signExtend, Bool.and_comm]
  · rw [show (16 * nI 3).toInt64.toUInt64 &&& Int64.toUInt64 63 = 48 by decide]
    simp [e, l, BitVec.getElem_signExtend, Bool.and_comm]
theorem mk_b : ∀ (k : Fin 4) (j : Fin 64), (((65535 <<< ((16 * nI k.val).toInt64 &&& 63)) ^^^ -1 : Int64)).toBitVec.getLsbD j.val = !decide (16 * k.val ≤ j.val ∧ j.val < 16 * k.val + 16) := by decide +kernel
theorem vl_b {q k : Nat} (hk : k < 4) (hq : q < 65536) {j : Nat} (hj : j < 64) : (((nI q).toInt64 &&& 65535) <<< ((16 * nI k).toInt64 &&& 63)).toBitVec.getLsbD j = (decide (16 * k ≤ j ∧ j < 16 * k + 16) && q.testBit (j - 16 * k)) := by
  have pv : ((nI q).toInt64).toBitVec = BitVec.ofNat 64 q := by
    have : (nI q).toInt64 = Int64.ofNat q := by
      apply Int64.toInt_inj.mp
      rw [Int32.toInt_toInt64, Int64.toInt_ofNat_of_lt (by omega)]
      exact Int32.toInt_ofNat_of_lt (by omega)
    rw [this]; rfl
  have e : ∀ i (hi : i < 64), (65535#64)[i] = decide (i < 16) := fun i hi => b64 hi
  have g : ∀ i (hi : i < 64), (BitVec.ofNat 64 q)[i] = q.testBit i := fun i hi => by
    rw [← BitVec.getLsbD_eq_getElem, BitVec.getLsbD_ofNat]
    simp [hi]
  rcases (show k = 0 ∨ k = 1 ∨ k = 2 ∨ k = 3 by omega) with rfl | rfl | rfl | rfl
  · rw [show (16 * nI 0).toInt64 &&& 63 = 0 by decide]
    simp [pv, hj, Bool.and_comm]
    rw [e j hj, g j hj]
  · rw [show (16 * nI 1).toInt64 &&& 63 = 16 by decide]
    simp [pv, hj]
    by_cases z : j < 16
    · simp [z, show ¬ 16 ≤ j by omega]
    · simp [z, show 16 ≤ j by omega, Bool.and_comm]
      rw [e (j - 16) (by omega), g (j - 16) (by omega)]
      by_cases y : j < 32
      · simp [y, hj, show j - 16 < 16 by omega]
      · simp [y, show ¬ j - 16 < 16 by omega]
  · rw [show (16 * nI 2).toInt64 &&& 63 = 32 by decide]
    simp [pv, hj]
    by_cases z : j < 32
    · simp [z, show ¬ 32 ≤ j by omega]
    · simp [z, show 32 ≤ j by omega, Bool.and_comm]
      rw [e (j - 32) (by omega), g (j - 32) (by omega)]
      by_cases y : j < 48
      · simp [y, hj, show j - 32 < 16 by omega]
      · simp [y, show ¬ j - 32 < 16 by omega]
  · rw [show (16 * nI 3).toInt64 &&& 63 = 48 by decide]
    simp [pv, hj]
    by_cases z : j < 48
    · simp [z, show ¬ 48 ≤ j by omega]
    · simp [z, show 48 ≤ j by omega, Bool.and_comm]
      rw [e (j - 48) (by omega), g (j - 48) (by omega)]
      by_cases y : j < 64
      · simp [y, hj, show j - 48 < 16 by omega]
      · simp [y, show ¬ j - 48 < 16 by omega]; try omega
theorem setp_b (w : Int64) {k q : Nat} (hk : k < 4) (hq : q < 65536) {j : Nat} (hj : j < 64) : (setp w (nI k) (nI q)).toBitVec.getLsbD j = if 16 * k ≤ j ∧ j < 16 * k + 16 then q.testBit (j - 16 * k) else w.toBitVec.getLsbD j := by
  unfold setp
  rw [Int64.toBitVec_or, BitVec.getLsbD_or, vl_b hk hq hj, Int64.toBitVec_and, BitVec.getLsbD_and, mk_b ⟨k, hk⟩ ⟨j, hj⟩]
  by_cases z : 16 * k ≤ j ∧ j < 16 * k + 16
  · simp [z]
  · simp only [z]; simp
theorem gp_eq {w : Int64} {k q : Nat} (hk : k < 4) (hq : q < 65536) : gp (setp w (nI k) (nI q)) (nI k) = nI q := by
  apply Int32.toBitVec_inj.mp
  apply BitVec.eq_of_getElem_eq
  intro i hi
  rw [gp_b _ hk hi]
  have : (nI q).toBitVec[i] = q.testBit i := by
    show (BitVec.ofNat 32 q)[i] = _
    rw [← BitVec.getLsbD_eq_getElem, BitVec.getLsbD_ofNat]
    simp [hi]
  rw [this]
  by_cases z : i < 16
  · rw [setp_b w hk hq (by omega), if_pos (by omega), Nat.add_sub_cancel_left]
    simp [z]
  · have : q.testBit i = false := Nat.testBit_lt_two_pow (Nat.lt_of_lt_of_le hq (Nat.pow_le_pow_right (n := 2) (by decide) (Nat.le_of_not_lt z)))
    simp [z, this]
theorem gp_ne {w : Int64} {k k' q : Nat} (hk : k < 4) (hk' : k' < 4) (hn : k' ≠ k) (hq : q < 65536) : gp (setp w (nI k) (nI q)) (nI k') = gp w (nI k') := by
  apply Int32.toBitVec_inj.mp
  apply BitVec.eq_of_getElem_eq
  intro i hi
  rw [gp_b _ hk' hi, gp_b _ hk' hi]
  by_cases z : i < 16
  · rw [setp_b w hk hq (by omega), if_neg (by omega)]
  · simp [z]
theorem uu_bd (x : Int32) {m : Nat} (m0 : 0 < m) (m1 : m ≤ 1000) : ∃ k, k < m ∧ (if x % nI m < 0 then x % nI m + nI m else x % nI m) = nI k := by
  have em : (nI m).toInt = m := nI_int (by omega)
  have e : (x % nI m).toInt = x.toInt.tmod m := by rw [Int32.toInt_mod, em]
  have h1 := Int.tmod_lt_of_pos x.toInt (show (0 : Int) < m by omega)
  have h2 := Int.tmod_lt_of_pos (-x.toInt) (show (0 : Int) < m by omega)
  rw [Int.neg_tmod] at h2
  by_cases h : x % nI m < 0
  · rw [if_pos h]
    rw [lt_i, i_0, e] at h
    have a := add_i (a := x % nI m) (b := nI m) (by rw [e, em]; omega) (by rw [e, em]; omega)
    rw [e, em] at a
    refine ⟨(x.toInt.tmod m + m).toNat, by omega, Int32.toInt_inj.mp ?_⟩
    rw [a, nI_int (by omega)]
    omega
  · rw [if_neg h]
    rw [lt_i, i_0, e] at h
    refine ⟨(x.toInt.tmod m).toNat, by omega, Int32.toInt_inj.mp ?_⟩
    rw [e, nI_int (by omega)]
    omega
theorem nI_5 (v : Nat) : 5 * nI v = nI (5 * v) := (Int32.ofNat_mul 5 v).symm
theorem nI_1l (v : Nat) : 1 + nI v = nI (1 + v) := nI_add 1 v
theorem nI_2 (v : Nat) : nI v + 2 = nI (v + 2) := nI_add v 2
theorem nI_3 (v : Nat) : nI v + 3 = nI (v + 3) := nI_add v 3
theorem nI_p4 (v : Nat) : nI v + 4 = nI (v + 4) := nI_add v 4
section Own2
variable {vs : List Int32} {H : AHeap} {Q : Option Value → AHeap → Prop}
set_option maxRecDepth 1000000 in
set_option maxHeartbeats 20000000 in
theorem modW {x : Int32} {m : Nat} (m0 : 0 < m) (m1 : m ≤ 1000) (hq : ∀ k, k < m → Q (some (.int (nI k))) H) : M34 0 [.val (.int (x)), .val (.int (nI m)), .unset] [] H Q := by
  have nz : (nI m = 0) = False := n0T m0 (by omega)
  obtain ⟨k, hk, e⟩ := uu_bd x m0 m1
  have hq := hq k hk
  rw [← e] at hq
  by_cases h : x % nI m < 0
  · rw [if_pos h] at hq
    simp [h, nz, m34_0, m34_1, m34_2, m34_3u, m34_4, m34_5, m34_8, m34_9, m34_10, m34_11, m34_14, m34_15, nb0, nb1, ou_a, Option.toList_some, Option.toList_none, List.nil_append, List.cons_append]
    exact hq
  · rw [if_neg h] at hq
    simp [h, nz, m34_0, m34_1, m34_2, m34_3u, m34_4, m34_5, m34_8, m34_9, m34_10, m34_11, m34_14, m34_15, nb0, nb1, ou_a, Option.toList_some, Option.toList_none, List.nil_append, List.cons_append]
    exact hq
theorem cellR {R : AHeap} {j : Nat} (hlen : vs.length ≤ 260) (hj : j ≤ 1000) (hq : ∀ v : Int32, Q (some (.int v)) ((.array .int, vs.map Value.int) :: R)) : M33 0 [.val (.ref 0), .val (.int (nI j))] [] ((.array .int, vs.map Value.int) :: R) Q := by
  by_cases h : j < vs.length
  · have h1 : (nI j < vs.length.toInt32) = True := lT (c := vs.length) h (by omega)
    have x0 : inB (nI j) vs := nI_in h (by omega)
    simp [h1, x0, m33_0, m33_1, m33_2, m33_2p, m33_3, m33_6, m33_7, m33_8, m33_8p, m33_9, m33_12, m33_13, nb0, nb1, ou_a, Option.toList_some, Option.toList_none, List.nil_append, List.cons_append]
    exact hq _
  · have h1 : (nI j < vs.length.toInt32) = False := lF (c := vs.length) (by omega) (by omega)
    simp [h1, m33_0, m33_1, m33_2, m33_2p, m33_3, m33_6, m33_7, m33_8, m33_8p, m33_9, m33_12, m33_13, nb0, nb1, ou_a, Option.toList_some, Option.toList_none, List.nil_append, List.cons_append]
    exact hq _
theorem cellW {s : Nat → Int32} {A : Nat → List Int32} {j : Nat} (hlen : vs.length ≤ 260) (hj : j ≤ 1000) (hq : ∀ v : Int32, Q (some (.int v)) (put 1 [((FieldType.array .int, vs.map Value.int) : FieldType × List Value)] s A [])) : M33 0 [.val (.ref 0), .val (.int (nI j))] [] (put 1 [((FieldType.array .int, vs.map Value.int) : FieldType × List Value)] s A []) Q := by
  by_cases h : j < vs.length
  · have h1 : (nI j < vs.length.toInt32) = True := lT (c := vs.length) h (by omega)
    have x0 : inB (nI j) vs := nI_in h (by omega)
    simp [h1, x0, m33_0, m33_1, m33_2, m33_2p, m33_3, m33_6, m33_7, m33_8, m33_8p, m33_9, m33_12, m33_13, nb0, nb1, ou_a, Option.toList_some, Option.toList_none, List.nil_append, List.cons_append]
    exact hq _
  · have h1 : (nI j < vs.length.toInt32) = False := lF (c := vs.length) (by omega) (by omega)
    simp [h1, m33_0, m33_1, m33_2, m33_2p, m33_3, m33_6, m33_7, m33_8, m33_8p, m33_9, m33_12, m33_13, nb0, nb1, ou_a, Option.toList_some, Option.toList_none, List.nil_append, List.cons_append]
    exact hq _
theorem gpW {w : Int64} {n : Int32} : M37 0 [.val (.long w), .second, .val (.int (n))] [] H Q = Q (some (.int (gp w n))) H := by
  simp only [m37_0, m37_1, m37_3, m37_4, m37_5, m37_6, m37_9, m37_10, m37_11, nb0, nb1, ou_a, Option.toList_some, Option.toList_none, List.nil_append, List.cons_append]
  rfl
theorem spW {w : Int64} {n q : Int32} : M36 0 [.val (.long w), .second, .val (.int (n)), .val (.int (q)), .unset, .unset] [] H Q = Q (some (.long (setp w n q))) H := by
  simp only [m36_0, m36_3, m36_5, m36_6, m36_7, m36_8, m36_10, m36_11, m36_13, m36_16, m36_17, m36_18, m36_19, m36_20, m36_23, m36_24, m36_26, m36_27, m36_28, m36_29, m36_30, nb0, nb1, ou_a, Option.toList_some, Option.toList_none, List.nil_append, List.cons_append]
  rfl
set_option maxRecDepth 1000000 in
set_option maxHeartbeats 20000000 in
theorem pickW {k : Nat} (hk : k < 16) (hq : ∀ w, 4 ≤ w → w ≤ 40 → Q (some (.int (nI w))) H) : M35 0 [.val (.int (nI k))] [] H Q := by
  rcases (show k = 0 ∨ k = 1 ∨ k = 2 ∨ k = 3 ∨ k = 4 ∨ k = 5 ∨ k = 6 ∨ k = 7 ∨ k = 8 ∨ k = 9 ∨ k = 10 ∨ k = 11 ∨ k = 12 ∨ k = 13 ∨ k = 14 ∨ k = 15 by omega) with rfl | rfl | rfl | rfl | rfl | rfl | rfl | rfl | rfl | rfl | rfl | rfl | rfl | rfl | rfl | rfl
  · show M35 0 [.val (.int 0)] [] H Q
    simp [m35_0, m35_1_0, m35_1_1, m35_1_2, m35_1_3, m35_1_4, m35_1_5, m35_1_6, m35_1_7, m35_1_8, m35_1_9, m35_1_10, m35_1_11, m35_1_12, m35_1_13, m35_1_14, m35_76, m35_77, m35_78, m35_79, m35_80, m35_82, m35_83, m35_85, m35_86, m35_88, m35_89, m35_91, m35_92, m35_94, m35_95, m35_97, m35_98, m35_100, m35_101, m35_103, m35_104, m35_106, m35_107, m35_109, m35_110, m35_112, m35_113, m35_115, m35_116, m35_118, m35_119, m35_121, m35_1_0, nb0, nb1, ou_a, Option.toList_some, Option.toList_none, List.nil_append, List.cons_append]
    exact hq 4 (by decide) (by decide)
  · show M35 0 [.val (.int 1)] [] H Q
    simp [m35_0, m35_1_0, m35_1_1, m35_1_2, m35_1_3, m35_1_4, m35_1_5, m35_1_6, m35_1_7, m35_1_8, m35_1_9, m35_1_10, m35_1_11, m35_1_12, m35_1_13, m35_1_14, m35_76, m35_77, m35_78, m35_79, m35_80, m35_82, m35_83, m35_85, m35_86, m35_88, m35_89, m35_91, m35_92, m35_94, m35_95, m35_97, m35_98, m35_100, m35_101, m35_103, m35_104, m35_106, m35_107, m35_109, m35_110, m35_112, m35_113, m35_115, m35_116, m35_118, m35_119, m35_121, m35_1_1, nb0, nb1, ou_a, Option.toList_some, Option.toList_none, List.nil_append, List.cons_append]
    exact hq 5 (by decide) (by decide)
  · show M35 0 [.val (.int 2)] [] H Q
    simp [m35_0, m35_1_0, m35_1_1, m35_1_2, m35_1_3, m35_1_4, m35_1_5, m35_1_6, m35_1_7, m35_1_8, m35_1_9, m35_1_10, m35_1_11, m35_1_12, m35_1_13, m35_1_14, m35_76, m35_77, m35_78, m35_79, m35_80, m35_82, m35_83, m35_85, m35_86, m35_88, m35_89, m35_91, m35_92, m35_94, m35_95, m35_97, m35_98, m35_100, m35_101, m35_103, m35_104, m35_106, m35_107, m35_109, m35_110, m35_112, m35_113, m35_115, m35_116, m35_118, m35_119, m35_121, m35_1_2, nb0, nb1, ou_a, Option.toList_some, Option.toList_none, List.nil_append, List.cons_append]
    exact hq 6 (by decide) (by decide)
  · show M35 0 [.val (.int 3)] [] H Q
    simp [m35_0, m35_1_0, m35_1_1, m35_1_2, m35_1_3, m35_1_4, m35_1_5, m35_1_6, m35_1_7, m35_1_8, m35_1_9, m35_1_10, m35_1_11, m35_1_12, m35_1_13, m35_1_14, m35_76, m35_77, m35_78, m35_79, m35_80, m35_82, m35_83, m35_85, m35_86, m35_88, m35_89, m35_91, m35_92, m35_94, m35_95, m35_97, m35_98, m35_100, m35_101, m35_103, m35_104, m35_106, m35_107, m35_109, m35_110, m35_112, m35_113, m35_115, m35_116, m35_118, m35_119, m35_121, m35_1_3, nb0, nb1, ou_a, Option.toList_some, Option.toList_none, List.nil_append, List.cons_append]
    exact hq 7 (by decide) (by decide)
  · show M35 0 [.val (.int 4)] [] H Q
    simp [m35_0, m35_1_0, m35_1_1, m35_1_2, m35_1_3, m35_1_4, m35_1_5, m35_1_6, m35_1_7, m35_1_8, m35_1_9, m35_1_10, m35_1_11, m35_1_12, m35_1_13, m35_1_14, m35_76, m35_77, m35_78, m35_79, m35_80, m35_82, m35_83, m35_85, m35_86, m35_88, m35_89, m35_91, m35_92, m35_94, m35_95, m35_97, m35_98, m35_100, m35_101, m35_103, m35_104, m35_106, m35_107, m35_109, m35_110, m35_112, m35_113, m35_115, m35_116, m35_118, m35_119, m35_121, m35_1_4, nb0, nb1, ou_a, Option.toList_some, Option.toList_none, List.nil_append, List.cons_append]
    exact hq 8 (by decide) (by decide)
  · show M35 0 [.val (.int 5)] [] H Q
    simp [m35_0, m35_1_0, m35_1_1, m35_1_2, m35_1_3, m35_1_4, m35_1_5, m35_1_6, m35_1_7, m35_1_8, m35_1_9, m35_1_10, m35_1_11, m35_1_12, m35_1_13, m35_1_14, m35_76, m35_77, m35_78, m35_79, m35_80, m35_82, m35_83, m35_85, m35_86, m35_88, m35_89, m35_91, m35_92, m35_94, m35_95, m35_97, m35_98, m35_100, m35_101, m35_103, m35_104, m35_106, m35_107, m35_109, m35_110, m35_112, m35_113, m35_115, m35_116, m35_118, m35_119, m35_121, m35_1_5, nb0, nb1, ou_a, Option.toList_some, Option.toList_none, List.nil_append, List.cons_append]
    exact hq 10 (by decide) (by decide)
  · show M35 0 [.val (.int 6)] [] H Q
    simp [m35_0, m35_1_0, m35_1_1, m35_1_2, m35_1_3, m35_1_4, m35_1_5, m35_1_6, m35_1_7, m35_1_8, m35_1_9, m35_1_10, m35_1_11, m35_1_12, m35_1_13, m35_1_14, m35_76, m35_77, m35_78, m35_79, m35_80, m35_82, m35_83, m35_85, m35_86, m35_88, m35_89, m35_91, m35_92, m35_94, m35_95, m35_97, m35_98, m35_100, m35_101, m35_103, m35_104, m35_106, m35_107, m35_109, m35_110, m35_112, m35_113, m35_115, m35_116, m35_118, m35_119, m35_121, m35_1_6, nb0, nb1, ou_a, Option.toList_some, Option.toList_none, List.nil_append, List.cons_append]
    exact hq 12 (by decide) (by decide)
  · show M35 0 [.val (.int 7)] [] H Q
    simp [m35_0, m35_1_0, m35_1_1, m35_1_2, m35_1_3, m35_1_4, m35_1_5, m35_1_6, m35_1_7, m35_1_8, m35_1_9, m35_1_10, m35_1_11, m35_1_12, m35_1_13, m35_1_14, m35_76, m35_77, m35_78, m35_79, m35_80, m35_82, m35_83, m35_85, m35_86, m35_88, m35_89, m35_91, m35_92, m35_94, m35_95, m35_97, m35_98, m35_100, m35_101, m35_103, m35_104, m35_106, m35_107, m35_109, m35_110, m35_112, m35_113, m35_115, m35_116, m35_118, m35_119, m35_121, m35_1_7, nb0, nb1, ou_a, Option.toList_some, Option.toList_none, List.nil_append, List.cons_append]
    exact hq 14 (by decide) (by decide)
  · show M35 0 [.val (.int 8)] [] H Q
    simp [m35_0, m35_1_0, m35_1_1, m35_1_2, m35_1_3, m35_1_4, m35_1_5, m35_1_6, m35_1_7, m35_1_8, m35_1_9, m35_1_10, m35_1_11, m35_1_12, m35_1_13, m35_1_14, m35_76, m35_77, m35_78, m35_79, m35_80, m35_82, m35_83, m35_85, m35_86, m35_88, m35_89, m35_91, m35_92, m35_94, m35_95, m35_97, m35_98, m35_100, m35_101, m35_103, m35_104, m35_106, m35_107, m35_109, m35_110, m35_112, m35_113, m35_115, m35_116, m35_118, m35_119, m35_121, m35_1_8, nb0, nb1, ou_a, Option.toList_some, Option.toList_none, List.nil_append, List.cons_append]
    exact hq 15 (by decide) (by decide)
  · show M35 0 [.val (.int 9)] [] H Q
    simp [m35_0, m35_1_0, m35_1_1, m35_1_2, m35_1_3, m35_1_4, m35_1_5, m35_1_6, m35_1_7, m35_1_8, m35_1_9, m35_1_10, m35_1_11, m35_1_12, m35_1_13, m35_1_14, m35_76, m35_77, m35_78, m35_79, m35_80, m35_82, m35_83, m35_85, m35_86, m35_88, m35_89, m35_91, m35_92, m35_94, m35_95, m35_97, m35_98, m35_100, m35_101, m35_103, m35_104, m35_106, m35_107, m35_109, m35_110, m35_112, m35_113, m35_115, m35_116, m35_118, m35_119, m35_121, m35_1_9, nb0, nb1, ou_a, Option.toList_some, Option.toList_none, List.nil_append, List.cons_append]
    exact hq 20 (by decide) (by decide)
  · show M35 0 [.val (.int 10)] [] H Q
    simp [m35_0, m35_1_0, m35_1_1, m35_1_2, m35_1_3, m35_1_4, m35_1_5, m35_1_6, m35_1_7, m35_1_8, m35_1_9, m35_1_10, m35_1_11, m35_1_12, m35_1_13, m35_1_14, m35_76, m35_77, m35_78, m35_79, m35_80, m35_82, m35_83, m35_85, m35_86, m35_88, m35_89, m35_91, m35_92, m35_94, m35_95, m35_97, m35_98, m35_100, m35_101, m35_103, m35_104, m35_106, m35_107, m35_109, m35_110, m35_112, m35_113, m35_115, m35_116, m35_118, m35_119, m35_121, m35_1_10, nb0, nb1, ou_a, Option.toList_some, Option.toList_none, List.nil_append, List.cons_append]
    exact hq 21 (by decide) (by decide)
  · show M35 0 [.val (.int 11)] [] H Q
    simp [m35_0, m35_1_0, m35_1_1, m35_1_2, m35_1_3, m35_1_4, m35_1_5, m35_1_6, m35_1_7, m35_1_8, m35_1_9, m35_1_10, m35_1_11, m35_1_12, m35_1_13, m35_1_14, m35_76, m35_77, m35_78, m35_79, m35_80, m35_82, m35_83, m35_85, m35_86, m35_88, m35_89, m35_91, m35_92, m35_94, m35_95, m35_97, m35_98, m35_100, m35_101, m35_103, m35_104, m35_106, m35_107, m35_109, m35_110, m35_112, m35_113, m35_115, m35_116, m35_118, m35_119, m35_121, m35_1_11, nb0, nb1, ou_a, Option.toList_some, Option.toList_none, List.nil_append, List.cons_append]
    exact hq 24 (by decide) (by decide)
  · show M35 0 [.val (.int 12)] [] H Q
    simp [m35_0, m35_1_0, m35_1_1, m35_1_2, m35_1_3, m35_1_4, m35_1_5, m35_1_6, m35_1_7, m35_1_8, m35_1_9, m35_1_10, m35_1_11, m35_1_12, m35_1_13, m35_1_14, m35_76, m35_77, m35_78, m35_79, m35_80, m35_82, m35_83, m35_85, m35_86, m35_88, m35_89, m35_91, m35_92, m35_94, m35_95, m35_97, m35_98, m35_100, m35_101, m35_103, m35_104, m35_106, m35_107, m35_109, m35_110, m35_112, m35_113, m35_115, m35_116, m35_118, m35_119, m35_121, m35_1_12, nb0, nb1, ou_a, Option.toList_some, Option.toList_none, List.nil_append, List.cons_append]
    exact hq 28 (by decide) (by decide)
  · show M35 0 [.val (.int 13)] [] H Q
    simp [m35_0, m35_1_0, m35_1_1, m35_1_2, m35_1_3, m35_1_4, m35_1_5, m35_1_6, m35_1_7, m35_1_8, m35_1_9, m35_1_10, m35_1_11, m35_1_12, m35_1_13, m35_1_14, m35_76, m35_77, m35_78, m35_79, m35_80, m35_82, m35_83, m35_85, m35_86, m35_88, m35_89, m35_91, m35_92, m35_94, m35_95, m35_97, m35_98, m35_100, m35_101, m35_103, m35_104, m35_106, m35_107, m35_109, m35_110, m35_112, m35_113, m35_115, m35_116, m35_118, m35_119, m35_121, m35_1_13, nb0, nb1, ou_a, Option.toList_some, Option.toList_none, List.nil_append, List.cons_append]
    exact hq 30 (by decide) (by decide)
  · show M35 0 [.val (.int 14)] [] H Q
    simp [m35_0, m35_1_0, m35_1_1, m35_1_2, m35_1_3, m35_1_4, m35_1_5, m35_1_6, m35_1_7, m35_1_8, m35_1_9, m35_1_10, m35_1_11, m35_1_12, m35_1_13, m35_1_14, m35_76, m35_77, m35_78, m35_79, m35_80, m35_82, m35_83, m35_85, m35_86, m35_88, m35_89, m35_91, m35_92, m35_94, m35_95, m35_97, m35_98, m35_100, m35_101, m35_103, m35_104, m35_106, m35_107, m35_109, m35_110, m35_112, m35_113, m35_115, m35_116, m35_118, m35_119, m35_121, m35_1_14, nb0, nb1, ou_a, Option.toList_some, Option.toList_none, List.nil_append, List.cons_append]
    exact hq 35 (by decide) (by decide)
  · show M35 0 [.val (.int 15)] [] H Q
    simp [m35_0, m35_1_0, m35_1_1, m35_1_2, m35_1_3, m35_1_4, m35_1_5, m35_1_6, m35_1_7, m35_1_8, m35_1_9, m35_1_10, m35_1_11, m35_1_12, m35_1_13, m35_1_14, m35_76, m35_77, m35_78, m35_79, m35_80, m35_82, m35_83, m35_85, m35_86, m35_88, m35_89, m35_91, m35_92, m35_94, m35_95, m35_97, m35_98, m35_100, m35_101, m35_103, m35_104, m35_106, m35_107, m35_109, m35_110, m35_112, m35_113, m35_115, m35_116, m35_118, m35_119, m35_121, m35_1_d (x := 15) (by decide), nb0, nb1, ou_a, Option.toList_some, Option.toList_none, List.nil_append, List.cons_append]
    exact hq 40 (by decide) (by decide)
end Own2
section Law
variable {vs : List Int32} {Q : Option Value → AHeap → Prop} {s : Nat → Int32} {A : Nat → List Int32} {c u i K hy : Nat} {T D C p Sf Lf Rb Bb cl dn mr : Nat → Nat} {st : SS} {lo hi : Int64} {l9 l10 l11 l12 l13 l14 l15 l16 l17 l18 l19 l20 l21 l22 : Slot}
def PV (c : Nat) (T : Nat → Nat) (lo hi : Int64) : Prop := ∀ i, i < c → (i < 4 → gp lo (nI i) = nI (T i)) ∧ (4 ≤ i → gp hi (nI (i - 4)) = nI (T i))
theorem PV_l (h : PV c T lo hi) (hc : c < 4) (hu : u ≤ 40) : PV (c + 1) (up T c u) (setp lo (nI c) (nI u)) hi := fun i hi => by
  rw [up_a]
  by_cases e : i = c
  · subst e
    exact ⟨fun _ => by rw [if_pos rfl]; exact gp_eq hc (by omega), fun q => absurd q (by omega)⟩
  · have q := h i (by omega)
    refine ⟨fun h4 => ?_, fun h4 => absurd h4 (by omega)⟩
    rw [if_neg e, gp_ne hc h4 e (by omega)]
    exact q.1 h4
theorem PV_h (h : PV c T lo hi) (hc : 4 ≤ c) (hc8 : c < 8) (hu : u ≤ 40) : PV (c + 1) (up T c u) lo (setp hi (nI (c - 4)) (nI u)) := fun i hi => by
  rw [up_a]
  by_cases e : i = c
  · subst e
    exact ⟨fun q => absurd q (by omega), fun _ => by rw [if_pos rfl]; exact gp_eq (by omega) (by omega)⟩
  · have q := h i (by omega)
    refine ⟨fun h4 => by rw [if_neg e]; exact q.1 h4, fun h4 => ?_⟩
    rw [if_neg e, gp_ne (by omega) (by omega) (by omega) (by omega)]
    exact q.2 h4
set_option maxRecDepth 1000000 in
set_option maxHeartbeats 20000000 in
theorem chL (kt : KT c T D C p Sf Lf Rb Bb cl hy s A) (hS : SI c st dn mr A) (hm : ∀ i, i < c → mr i ≤ Rb i) (hq : M38 106 [.val (.ref 0), .val (.ref 1), .val (.long lo), .second, .val (.long hi), .second, .val (.int (nI u)), .val (.int (nI K)), .val (.int (nI i)), .val (.int (nI (c))), .val (.int (nI (c))), .val (.int (nI (c))), l12, l13, l14, l15, l16, l17, l18, l19, l20, l21, l22] [] (put 1 [((FieldType.array .int, vs.map Value.int) : FieldType × List Value)] s A []) Q) : ∀ (k q : Nat), q + k = c → M38 76 [.val (.ref 0), .val (.ref 1), .val (.long lo), .second, .val (.long hi), .second, .val (.int (nI u)), .val (.int (nI K)), .val (.int (nI i)), .val (.int (nI (c))), .val (.int (nI (c))), .val (.int (nI (q))), l12, l13, l14, l15, l16, l17, l18, l19, l20, l21, l22] [] (put 1 [((FieldType.array .int, vs.map Value.int) : FieldType × List Value)] s A []) Q := by
  intro k
  have c8 := kt.c8
  have s1 := kt.s1
  induction k with
  | zero =>
    intro q e
    obtain rfl : q = c := by omega
    have c1 : (nI q < nI q) = False := lF (by omega) (by omega)
    rw [m38_76]
    simp [c1, m38_78, m38_80, m38_83, m38_84, m38_86, m38_89, m38_90, m38_92, m38_95, m38_98, m38_99, m38_100, m38_103, nb0, nb1, ou_a, Option.toList_some, Option.toList_none, List.nil_append, List.cons_append]
    exact hq
  | succ k ih =>
    intro q e
    have c1 : (nI q < nI c) = True := lT (by omega) (by omega)
    have nn : (nI q < 0) = False := nnF (by omega)
    have q19 := in19 kt.ta.ln (i := q) (by omega)
    have v19 := hS.b19 q (by omega)
    have q6 := in6 kt.ta.ln (i := q) (by omega)
    have v6 := kt.a6 q (by omega)
    have le := hm q (by omega)
    have bd := (kt.an.1 q (by omega)).2.2
    have rg := kt.ta.rg q (by omega)
    have c2 : (nI (Rb q) < nI (mr q)) = False := lF le (by omega)
    rw [m38_76]
    simp [c1, nn, s1, q19, v19, q6, v6, c2, nI_1, m19_0, m19_1, m19_2, m19_5, m19_8, m19_9, m19_10, m19_11, m19_14, m19_15, m19_16, m20_0, m20_1, m20_4, m20_5, m20_6, m20_9, m20_12, m20_13, m20_16, m20_17, m21_0, m21_1, m21_2, m21_5, m21_8, m21_9, m21_10, m21_11, m21_14, m21_15, m21_16, m38_78, m38_80, m38_83, m38_84, m38_86, m38_89, m38_90, m38_92, m38_95, m38_98, m38_99, m38_100, m38_103, nb0, nb1, ou_a, Option.toList_some, Option.toList_none, List.nil_append, List.cons_append]
    exact ih (q + 1) (by omega)
theorem jdL (kt : KT c T D C p Sf Lf Rb Bb cl hy s A) (hS : SI c st dn mr A) (hd : ∀ i, i < c → dn i = hy / T i) (pv : PV c T lo hi) (hq : ∀ l12 l13, okS l12 → okS l13 → M38 191 [.val (.ref 0), .val (.ref 1), .val (.long lo), .second, .val (.long hi), .second, .val (.int (nI u)), .val (.int (nI K)), .val (.int (nI i)), .val (.int (nI (c))), .val (.int (nI (c))), .val (.int (nI (hy))), l12, l13, l14, l15, l16, l17, l18, l19, l20, l21, l22] [] (put 1 [((FieldType.array .int, vs.map Value.int) : FieldType × List Value)] s A []) Q) : ∀ (k q : Nat) (l13 : Slot), q + k = c → okS l13 → M38 129 [.val (.ref 0), .val (.ref 1), .val (.long lo), .second, .val (.long hi), .second, .val (.int (nI u)), .val (.int (nI K)), .val (.int (nI i)), .val (.int (nI (c))), .val (.int (nI (c))), .val (.int (nI (hy))), .val (.int (nI (q))), l13, l14, l15, l16, l17, l18, l19, l20, l21, l22] [] (put 1 [((FieldType.array .int, vs.map Value.int) : FieldType × List Value)] s A []) Q := by
  intro k
  have c8 := kt.c8
  have s1 := kt.s1
  have hh := kt.hh
  induction k with
  | zero =>
    intro q l13 e o13
    obtain rfl : q = c := by omega
    have c1 : (nI q < nI q) = False := lF (by omega) (by omega)
    rw [m38_129]
    simp [c1, m38_131, m38_133, m38_136, m38_138, m38_139, m38_142, m38_143, m38_145, m38_148, m38_151, m38_153, m38_155, m38_156, m38_157, m38_160u, m38_160i, m38_160r, m38_160g, m38_162, m38_164, m38_167, m38_168, m38_169, m38_170, m38_172, m38_175, m38_177, m38_179, m38_180, m38_183, m38_184, m38_185, m38_188, nb0, nb1, ou_a, Option.toList_some, Option.toList_none, List.nil_append, List.cons_append]
    exact hq _ _ (okS_n _) o13
  | succ k ih =>
    intro q l13 e o13
    have c1 : (nI q < nI c) = True := lT (by omega) (by omega)
    have nn : (nI q < 0) = False := nnF (by omega)
    have q18 := in18 kt.ta.ln (i := q) (by omega)
    have v18 := hS.b18 q (by omega)
    have rg := kt.ta.rg q (by omega)
    have nz : (nI (T q) = 0) = False := n0T rg.1 (by omega)
    have ed : nI hy / nI (T q) = nI (hy / T q) := nI_div (by omega) (by omega)
    have ee : (nI (dn q) = nI (hy / T q)) = True := eT (hd q (by omega))
    have pq := pv q (by omega)
    rw [m38_129]
    by_cases z : q < 4
    · have z1 : (nI q < 4) = True := lT (c := 4) z (by decide)
      have g := pq.1 z
      simp [c1, nn, s1, z1, gpW, g, nz, q18, v18, ed, ee, o13, nI_1, m32_0, m32_1, m32_2, m32_5, m32_8, m32_9, m32_10, m32_11, m32_14, m32_15, m32_16, m20_0, m20_1, m20_4, m20_5, m20_6, m20_9, m20_12, m20_13, m20_16, m20_17, m38_131, m38_133, m38_136, m38_138, m38_139, m38_142, m38_143, m38_145, m38_148, m38_151, m38_153, m38_155, m38_156, m38_157, m38_160u, m38_160i, m38_160r, m38_160g, m38_162, m38_164, m38_167, m38_168, m38_169, m38_170, m38_172, m38_175, m38_177, m38_179, m38_180, m38_183, m38_184, m38_185, m38_188, nb0, nb1, ou_a, Option.toList_some, Option.toList_none, List.nil_append, List.cons_append]
      exact ih (q + 1) _ (by omega) (okS_n _)
    · have z1 : (nI q < 4) = False := lF (c := 4) (by omega) (by omega)
      have es : nI q - 4 = nI (q - 4) := nI_sub (c := 4) (by omega)
      have g := pq.2 (by omega)
      simp [c1, nn, s1, z1, es, gpW, g, nz, q18, v18, ed, ee, o13, nI_1, m32_0, m32_1, m32_2, m32_5, m32_8, m32_9, m32_10, m32_11, m32_14, m32_15, m32_16, m20_0, m20_1, m20_4, m20_5, m20_6, m20_9, m20_12, m20_13, m20_16, m20_17, m38_131, m38_133, m38_136, m38_138, m38_139, m38_142, m38_143, m38_145, m38_148, m38_151, m38_153, m38_155, m38_156, m38_157, m38_160u, m38_160i, m38_160r, m38_160g, m38_162, m38_164, m38_167, m38_168, m38_169, m38_170, m38_172, m38_175, m38_177, m38_179, m38_180, m38_183, m38_184, m38_185, m38_188, nb0, nb1, ou_a, Option.toList_some, Option.toList_none, List.nil_append, List.cons_append]
      exact ih (q + 1) _ (by omega) (okS_n _)
set_option maxRecDepth 1000000 in
set_option maxHeartbeats 20000000 in
theorem own_ck (h : OX c T u s A) (pv : PV c T lo hi) (o9 : okS l9) (o10 : okS l10) (o11 : okS l11) (o12 : okS l12) (o13 : okS l13) (hq : ∀ l9 l10 l11 l12 l13, okS l9 → okS l10 → okS l11 → okS l12 → okS l13 → M38 191 [.val (.ref 0), .val (.ref 1), .val (.long lo), .second, .val (.long hi), .second, .val (.int (nI u)), .val (.int (nI K)), .val (.int (nI i)), l9, l10, l11, l12, l13, l14, l15, l16, l17, l18, l19, l20, l21, l22] [] (put 1 [((FieldType.array .int, vs.map Value.int) : FieldType × List Value)] s A []) Q) : M38 42 [.val (.ref 0), .val (.ref 1), .val (.long lo), .second, .val (.long hi), .second, .val (.int (nI u)), .val (.int (nI K)), .val (.int (nI i)), l9, l10, l11, l12, l13, l14, l15, l16, l17, l18, l19, l20, l21, l22] [] (put 1 [((FieldType.array .int, vs.map Value.int) : FieldType × List Value)] s A []) Q := by
  obtain ⟨D, C, p, Sf, Lf, Rb, Bb, cl, hy, kt, ks, t, st, dn, mr, s9, ht, s10, hS, hF⟩ := id h
  have c8 := kt.c8
  have s1 := kt.s1
  have s2 := kt.s2
  have hh := kt.hh
  have fin : M38 106 [.val (.ref 0), .val (.ref 1), .val (.long lo), .second, .val (.long hi), .second, .val (.int (nI u)), .val (.int (nI K)), .val (.int (nI i)), .val (.int (nI (c))), .val (.int (nI (c))), .val (.int (nI (c))), l12, l13, l14, l15, l16, l17, l18, l19, l20, l21, l22] [] (put 1 [((FieldType.array .int, vs.map Value.int) : FieldType × List Value)] s A []) Q := by
    by_cases z : 0 < c
    · have z1 : (0 < nI c) = True := lT (a := 0) z (by omega)
      by_cases y : t = hy
      · subst y
        simp [z1, s2, s9, o12, m4_0, m4_1, m4_4, m22_0, m22_1, m22_4, m38_106, m38_107, m38_110i, m38_112, m38_114, m38_117, m38_118, m38_121, m38_123, m38_126, m38_127u, m38_127i, m38_127r, m38_127g, nb0, nb1, ou_a, Option.toList_some, Option.toList_none, List.nil_append, List.cons_append]
        refine jdL kt hS (fun i hi => FI_d kt.an hF hi (kt.hd i hi)) pv (fun l12 l13 p12 p13 => hq _ _ _ _ _ (okS_n _) (okS_n _) (okS_n _) p12 p13) c 0 _ (by omega) o13
      · have y1 : (nI t = nI hy) = False := eF y (by omega) (by omega)
        simp [z1, s2, s9, y1, m4_0, m4_1, m4_4, m22_0, m22_1, m22_4, m38_106, m38_107, m38_110i, m38_112, m38_114, m38_117, m38_118, m38_121, m38_123, m38_126, m38_127u, m38_127i, m38_127r, m38_127g, nb0, nb1, ou_a, Option.toList_some, Option.toList_none, List.nil_append, List.cons_append]
        exact hq _ _ _ _ _ (okS_n _) (okS_n _) (okS_n _) o12 o13
    · have z1 : (0 < nI c) = False := lF (c := c) (a := 0) (by omega) (by decide)
      simp [z1, s2, m4_0, m4_1, m4_4, m38_106, m38_107, m38_110i, m38_112, m38_114, m38_117, m38_118, m38_121, m38_123, m38_126, m38_127u, m38_127i, m38_127r, m38_127g, nb0, nb1, ou_a, Option.toList_some, Option.toList_none, List.nil_append, List.cons_append]
      exact hq _ _ _ _ _ (okS_n _) (okS_n _) (okS_n _) o12 o13
  by_cases z : c < 8
  · have z1 : (nI c < 8) = True := lT (c := 8) z (by decide)
    simp [s10, s1, z1, o9, o10, o11, m2_0, m2_1, m2_4, m3_0, m3_1, m3_4, m38_42, m38_43, m38_46, m38_49, m38_50, m38_51, m38_52, m38_55u, m38_55i, m38_55r, m38_55g, m38_57, m38_59, m38_61, m38_64, m38_66, m38_69, m38_71u, m38_71i, m38_71r, m38_71g, m38_73, m38_74u, m38_74i, m38_74r, m38_74g, nb0, nb1, ou_a, Option.toList_some, Option.toList_none, List.nil_append, List.cons_append]
    exact chL kt hS hF.2.2.2.2 fin c 0 (by omega)
  · have z1 : (nI c < 8) = False := lF (c := 8) (by omega) (by omega)
    obtain rfl : c = 8 := by omega
    simp [s10, s1, z1, o9, o10, o11, m2_0, m2_1, m2_4, m3_0, m3_1, m3_4, m38_42, m38_43, m38_46, m38_49, m38_50, m38_51, m38_52, m38_55u, m38_55i, m38_55r, m38_55g, m38_57, m38_59, m38_61, m38_64, m38_66, m38_69, m38_71u, m38_71i, m38_71r, m38_71g, m38_73, m38_74u, m38_74i, m38_74r, m38_74g, nb0, nb1, ou_a, Option.toList_some, Option.toList_none, List.nil_append, List.cons_append]
    exact chL kt hS hF.2.2.2.2 fin 8 0 (by omega)
set_option maxRecDepth 1000000 in
set_option maxHeartbeats 20000000 in
theorem opB {a1 a2 a3 a4 : Int32} {k : Nat} (h : OX c T u s A) (pv : PV c T lo hi) (o9 : okS l9) (o10 : okS l10) (o11 : okS l11) (o18 : okS l18) (o19 : okS l19) (o20 : okS l20) (o21 : okS l21) (o22 : okS l22) (hq : ∀ (c' : Nat) (T' : Nat → Nat) (u' : Nat) (lo' hi' : Int64) (l9 l10 l11 l12 l13 l14 l15 l16 l17 l18 l19 l20 l21 l22 : Slot) (s' : Nat → Int32) (A' : Nat → List Int32), okS l9 → okS l10 → okS l11 → okS l12 → okS l13 → okS l14 → okS l15 → okS l16 → okS l17 → okS l18 → okS l19 → okS l20 → okS l21 → okS l22 → OX c' T' u' s' A' → PV c' T' lo' hi' → M38 461 [.val (.ref 0), .val (.ref 1), .val (.long lo'), .second, .val (.long hi'), .second, .val (.int (nI u')), .val (.int (nI K)), .val (.int (nI i)), l9, l10, l11, l12, l13, l14, l15, l16, l17, l18, l19, l20, l21, l22] [] (put 1 [((FieldType.array .int, vs.map Value.int) : FieldType × List Value)] s' A' []) Q) (hk : k ≤ 2) : M38 262 [.val (.ref 0), .val (.ref 1), .val (.long lo), .second, .val (.long hi), .second, .val (.int (nI u)), .val (.int (nI K)), .val (.int (nI i)), l9, l10, l11, .val (.int (nI (1 + 5 * i))), .val (.int (nI (k))), .val (.int a1), .val (.int a2), .val (.int a3), .val (.int a4), l18, l19, l20, l21, l22] [] (put 1 [((FieldType.array .int, vs.map Value.int) : FieldType × List Value)] s A []) Q := by
  have k1 : (2 < nI k) = False := lF (a := 2) (by omega) (by omega)
  simp [k1, m38_262, m38_264, m38_265, m38_268, m38_270, m38_272, m38_275, m38_278u, m38_278i, m38_278r, m38_278g, m38_280, nb0, nb1, ou_a, Option.toList_some, Option.toList_none, List.nil_append, List.cons_append]
  refine modW (m := 16) (by decide) (by decide) (fun k1 hk1 => ?_)
  simp [m38_262, m38_264, m38_265, m38_268, m38_270, m38_272, m38_275, m38_278u, m38_278i, m38_278r, m38_278g, m38_280, nb0, nb1, ou_a, Option.toList_some, Option.toList_none, List.nil_append, List.cons_append]
  refine pickW hk1 (fun w w1 w2 => ?_)
  simp [o18, m38_262, m38_264, m38_265, m38_268, m38_270, m38_272, m38_275, m38_278u, m38_278i, m38_278r, m38_278g, m38_280, m38_282, m38_284, m38_286, nb0, nb1, ou_a, Option.toList_some, Option.toList_none, List.nil_append, List.cons_append]
  refine modW (m := w) (by omega) (by omega) (fun k2 hk2 => ?_)
  have e2 : nI w - nI k2 = nI (w - k2) := nI_sub (by omega)
  have fin : ∀ x, 1 ≤ x → x ≤ 3 → x ≤ w - k2 → M38 304 [.val (.ref 0), .val (.ref 1), .val (.long lo), .second, .val (.long hi), .second, .val (.int (nI u)), .val (.int (nI K)), .val (.int (nI i)), l9, l10, l11, .val (.int (nI (1 + 5 * i))), .val (.int (nI (k))), .val (.int a1), .val (.int a2), .val (.int a3), .val (.int a4), .val (.int (nI (w))), .val (.int (nI (w - k2))), l20, l21, l22] [.int (nI x)] (put 1 [((FieldType.array .int, vs.map Value.int) : FieldType × List Value)] s A []) Q := by
    intro x x1 x3 x2
    simp [o20, m38_304u, m38_304i, m38_304r, m38_304g, m38_306, m38_307, m38_309, m38_311, nb0, nb1, ou_a, Option.toList_some, Option.toList_none, List.nil_append, List.cons_append]
    refine modW (m := x) (by omega) (by omega) (fun k3 hk3 => ?_)
    simp [o21, nI_1l, m38_306, m38_307, m38_309, m38_311, m38_314, m38_315u, m38_315i, m38_315r, m38_315g, m38_317, m38_318, m38_320, m38_322, nb0, nb1, ou_a, Option.toList_some, Option.toList_none, List.nil_append, List.cons_append]
    refine modW (m := 63) (by omega) (by omega) (fun k4 hk4 => ?_)
    simp [o22, nI_1l, m38_325, m38_326u, m38_326i, m38_326r, m38_326g, m38_328, m38_329, m38_331, m38_333, m38_335, m38_337, nb0, nb1, ou_a, Option.toList_some, Option.toList_none, List.nil_append, List.cons_append]
    refine bgO (b := 0) h ⟨by omega, by omega, by omega, by omega, by omega, by omega, by omega⟩ (by omega) (fun v hv => ?_) (fun s' A' h' => ?_)
    · simp [hv, m38_340, m38_343, m38_345i, m38_347, nb0, nb1, ou_a, Option.toList_some, Option.toList_none, List.nil_append, List.cons_append]
      exact hq c T u lo hi _ _ _ _ _ _ _ _ _ _ _ _ _ _ s A o9 o10 o11 (okS_n _) (okS_n _) (okS_i _) (okS_i _) (okS_i _) (okS_i _) (okS_n _) (okS_n _) (okS_n _) (okS_n _) (okS_n _) h pv
    · simp [m38_340, m38_343, m38_345i, m38_347, nb0, nb1, ou_a, Option.toList_some, Option.toList_none, List.nil_append, List.cons_append]
      exact hq c T w lo hi _ _ _ _ _ _ _ _ _ _ _ _ _ _ s' A' o9 o10 o11 (okS_n _) (okS_n _) (okS_i _) (okS_i _) (okS_i _) (okS_i _) (okS_n _) (okS_n _) (okS_n _) (okS_n _) (okS_n _) h' pv
  by_cases z : w - k2 < 3
  · have z1 : (nI (w - k2) < 3) = True := lT (c := 3) z (by omega)
    simp [e2, o19, z1, m38_289, m38_290u, m38_290i, m38_290r, m38_290g, m38_292, m38_294, m38_295, m38_298, m38_300, m38_303, nb0, nb1, ou_a, Option.toList_some, Option.toList_none, List.nil_append, List.cons_append]
    exact fin (w - k2) (by omega) (by omega) (by omega)
  · have z1 : (nI (w - k2) < 3) = False := lF (c := 3) (by omega) (by omega)
    simp [e2, o19, z1, m38_289, m38_290u, m38_290i, m38_290r, m38_290g, m38_292, m38_294, m38_295, m38_298, m38_300, m38_303, nb0, nb1, ou_a, Option.toList_some, Option.toList_none, List.nil_append, List.cons_append]
    exact fin 3 (by omega) (by omega) (by omega)
set_option maxRecDepth 1000000 in
set_option maxHeartbeats 20000000 in
theorem opS {a1 a2 a3 a4 : Int32} {k : Nat} (h : OX c T u s A) (pv : PV c T lo hi) (o9 : okS l9) (o10 : okS l10) (o11 : okS l11) (o18 : okS l18) (o19 : okS l19) (o20 : okS l20) (o21 : okS l21) (o22 : okS l22) (hq : ∀ (c' : Nat) (T' : Nat → Nat) (u' : Nat) (lo' hi' : Int64) (l9 l10 l11 l12 l13 l14 l15 l16 l17 l18 l19 l20 l21 l22 : Slot) (s' : Nat → Int32) (A' : Nat → List Int32), okS l9 → okS l10 → okS l11 → okS l12 → okS l13 → okS l14 → okS l15 → okS l16 → okS l17 → okS l18 → okS l19 → okS l20 → okS l21 → okS l22 → OX c' T' u' s' A' → PV c' T' lo' hi' → M38 461 [.val (.ref 0), .val (.ref 1), .val (.long lo'), .second, .val (.long hi'), .second, .val (.int (nI u')), .val (.int (nI K)), .val (.int (nI i)), l9, l10, l11, l12, l13, l14, l15, l16, l17, l18, l19, l20, l21, l22] [] (put 1 [((FieldType.array .int, vs.map Value.int) : FieldType × List Value)] s' A' []) Q) (hk : 2 < k) (hk4 : k ≤ 4) : M38 262 [.val (.ref 0), .val (.ref 1), .val (.long lo), .second, .val (.long hi), .second, .val (.int (nI u)), .val (.int (nI K)), .val (.int (nI i)), l9, l10, l11, .val (.int (nI (1 + 5 * i))), .val (.int (nI (k))), .val (.int a1), .val (.int a2), .val (.int a3), .val (.int a4), l18, l19, l20, l21, l22] [] (put 1 [((FieldType.array .int, vs.map Value.int) : FieldType × List Value)] s A []) Q := by
  have k1 : (2 < nI k) = True := lT (a := 2) (by omega) (by omega)
  have k2 : (4 < nI k) = False := lF (a := 4) (by omega) (by omega)
  simp [k1, k2, m38_262, m38_264, m38_265, m38_350, m38_352, m38_353, m38_356, m38_357, m38_359, m38_360, m38_363, m38_365, m38_366, m38_369, m38_370, m38_372, m38_373, m38_376, m38_377, m38_380, nb0, nb1, ou_a, Option.toList_some, Option.toList_none, List.nil_append, List.cons_append]
  refine modW (m := 4) (by decide) (by decide) (fun k1 hk1 => ?_)
  simp [m38_350, m38_352, m38_353, m38_356, m38_357, m38_359, m38_360, m38_363, m38_365, m38_366, m38_369, m38_370, m38_372, m38_373, m38_376, m38_377, m38_380, nb0, nb1, ou_a, Option.toList_some, Option.toList_none, List.nil_append, List.cons_append]
  refine modW (m := 3) (by decide) (by decide) (fun k2 hk2 => ?_)
  simp [m38_350, m38_352, m38_353, m38_356, m38_357, m38_359, m38_360, m38_363, m38_365, m38_366, m38_369, m38_370, m38_372, m38_373, m38_376, m38_377, m38_380, nb0, nb1, ou_a, Option.toList_some, Option.toList_none, List.nil_append, List.cons_append]
  refine modW (m := 2) (by decide) (by decide) (fun k3 hk3 => ?_)
  simp [nI_1l, m38_350, m38_352, m38_353, m38_356, m38_357, m38_359, m38_360, m38_363, m38_365, m38_366, m38_369, m38_370, m38_372, m38_373, m38_376, m38_377, m38_380, nb0, nb1, ou_a, Option.toList_some, Option.toList_none, List.nil_append, List.cons_append]
  refine asO (b := 0) h hk1 (by omega) (by omega) (by omega) (fun v A' h' => ?_)
  simp [m38_380, m38_381, nb0, nb1, ou_a, Option.toList_some, Option.toList_none, List.nil_append, List.cons_append]
  exact hq c T u lo hi _ _ _ _ _ _ _ _ _ _ _ _ _ _ s A' o9 o10 o11 (okS_n _) (okS_n _) (okS_i _) (okS_i _) (okS_i _) (okS_i _) o18 o19 o20 o21 o22 h' pv
theorem opR {a1 a2 a3 a4 : Int32} {k : Nat} (h : OX c T u s A) (pv : PV c T lo hi) (o9 : okS l9) (o10 : okS l10) (o11 : okS l11) (o18 : okS l18) (o19 : okS l19) (o20 : okS l20) (o21 : okS l21) (o22 : okS l22) (hq : ∀ (c' : Nat) (T' : Nat → Nat) (u' : Nat) (lo' hi' : Int64) (l9 l10 l11 l12 l13 l14 l15 l16 l17 l18 l19 l20 l21 l22 : Slot) (s' : Nat → Int32) (A' : Nat → List Int32), okS l9 → okS l10 → okS l11 → okS l12 → okS l13 → okS l14 → okS l15 → okS l16 → okS l17 → okS l18 → okS l19 → okS l20 → okS l21 → okS l22 → OX c' T' u' s' A' → PV c' T' lo' hi' → M38 461 [.val (.ref 0), .val (.ref 1), .val (.long lo'), .second, .val (.long hi'), .second, .val (.int (nI u')), .val (.int (nI K)), .val (.int (nI i)), l9, l10, l11, l12, l13, l14, l15, l16, l17, l18, l19, l20, l21, l22] [] (put 1 [((FieldType.array .int, vs.map Value.int) : FieldType × List Value)] s' A' []) Q) (hk : 5 < k) (hk8 : k < 8) : M38 262 [.val (.ref 0), .val (.ref 1), .val (.long lo), .second, .val (.long hi), .second, .val (.int (nI u)), .val (.int (nI K)), .val (.int (nI i)), l9, l10, l11, .val (.int (nI (1 + 5 * i))), .val (.int (nI (k))), .val (.int a1), .val (.int a2), .val (.int a3), .val (.int a4), l18, l19, l20, l21, l22] [] (put 1 [((FieldType.array .int, vs.map Value.int) : FieldType × List Value)] s A []) Q := by
  have k1 : (2 < nI k) = True := lT (a := 2) (by omega) (by omega)
  have k2 : (4 < nI k) = True := lT (a := 4) (by omega) (by omega)
  have k3 : (nI k = 5) = False := eF (c := 5) (by omega) (by omega) (by omega)
  simp [k1, k2, k3, m38_262, m38_264, m38_265, m38_350, m38_352, m38_353, m38_384, m38_386, m38_387, m38_448, m38_449, m38_451, m38_454, m38_457, m38_460, nb0, nb1, ou_a, Option.toList_some, Option.toList_none, List.nil_append, List.cons_append]
  refine modW (m := 841) (by decide) (by decide) (fun k1 hk1 => ?_)
  simp [m38_448, m38_449, m38_451, m38_454, m38_457, m38_460, nb0, nb1, ou_a, Option.toList_some, Option.toList_none, List.nil_append, List.cons_append]
  refine ruO (b := 0) h (by omega) (fun v s' A' h' => ?_)
  simp [m38_448, m38_449, m38_451, m38_454, m38_457, m38_460, nb0, nb1, ou_a, Option.toList_some, Option.toList_none, List.nil_append, List.cons_append]
  exact hq c T u lo hi _ _ _ _ _ _ _ _ _ _ _ _ _ _ s' A' o9 o10 o11 (okS_n _) (okS_n _) (okS_i _) (okS_i _) (okS_i _) (okS_i _) o18 o19 o20 o21 o22 h' pv
theorem opC {a1 a2 a3 a4 : Int32} (h : OX c T u s A) (pv : PV c T lo hi) (o9 : okS l9) (o10 : okS l10) (o11 : okS l11) (o18 : okS l18) (o19 : okS l19) (o20 : okS l20) (o21 : okS l21) (o22 : okS l22) (hq : ∀ (c' : Nat) (T' : Nat → Nat) (u' : Nat) (lo' hi' : Int64) (l9 l10 l11 l12 l13 l14 l15 l16 l17 l18 l19 l20 l21 l22 : Slot) (s' : Nat → Int32) (A' : Nat → List Int32), okS l9 → okS l10 → okS l11 → okS l12 → okS l13 → okS l14 → okS l15 → okS l16 → okS l17 → okS l18 → okS l19 → okS l20 → okS l21 → okS l22 → OX c' T' u' s' A' → PV c' T' lo' hi' → M38 461 [.val (.ref 0), .val (.ref 1), .val (.long lo'), .second, .val (.long hi'), .second, .val (.int (nI u')), .val (.int (nI K)), .val (.int (nI i)), l9, l10, l11, l12, l13, l14, l15, l16, l17, l18, l19, l20, l21, l22] [] (put 1 [((FieldType.array .int, vs.map Value.int) : FieldType × List Value)] s' A' []) Q) : M38 262 [.val (.ref 0), .val (.ref 1), .val (.long lo), .second, .val (.long hi), .second, .val (.int (nI u)), .val (.int (nI K)), .val (.int (nI i)), l9, l10, l11, .val (.int (nI (1 + 5 * i))), .val (.int (nI (5))), .val (.int a1), .val (.int a2), .val (.int a3), .val (.int a4), l18, l19, l20, l21, l22] [] (put 1 [((FieldType.array .int, vs.map Value.int) : FieldType × List Value)] s A []) Q := by
  have k1 : (2 < nI 5) = True := lT (a := 2) (by omega) (by omega)
  have k2 : (4 < nI 5) = True := lT (a := 4) (by omega) (by omega)
  have k3 : (nI 5 = 5) = True := eT (c := 5) rfl
  simp [k1, k2, k3, m38_262, m38_264, m38_265, m38_350, m38_352, m38_353, m38_384, m38_386, m38_387, m38_390, m38_391, m38_394u, m38_394i, m38_394r, m38_394g, m38_396, m38_398, m38_401, m38_403, m38_404, m38_407, m38_408, m38_410, m38_412, m38_415, m38_416, m38_419, m38_421, m38_422, m38_425, m38_427, m38_429, m38_432, m38_434, m38_436, m38_437, m38_438, m38_440, m38_443, m38_445, nb0, nb1, ou_a, Option.toList_some, Option.toList_none, List.nil_append, List.cons_append]
  refine cmO (b := 0) h (fun v s' A' hv h' => ?_) (fun s' A' hc8 hu h' => ?_)
  · have v4 : v < 4 := by
      rw [lt_i] at hv ⊢
      exact Int.lt_trans hv (by decide)
    simp [hv, v4, o18, m38_390, m38_391, m38_394u, m38_394i, m38_394r, m38_394g, m38_396, m38_398, m38_401, m38_403, m38_404, m38_407, m38_408, m38_410, m38_412, m38_415, m38_416, m38_419, m38_421, m38_422, m38_425, m38_427, m38_429, m38_432, m38_434, m38_436, m38_437, m38_438, m38_440, m38_443, m38_445, nb0, nb1, ou_a, Option.toList_some, Option.toList_none, List.nil_append, List.cons_append]
    exact hq c T u lo hi _ _ _ _ _ _ _ _ _ _ _ _ _ _ s' A' o9 o10 o11 (okS_n _) (okS_n _) (okS_i _) (okS_i _) (okS_i _) (okS_i _) (okS_i _) o19 o20 o21 o22 h' pv
  · have nn : (nI c < 0) = False := nnF (by omega)
    by_cases z : c < 4
    · have z1 : (nI c < 4) = True := lT (c := 4) z (by omega)
      simp [nn, z1, o18, spW, m38_390, m38_391, m38_394u, m38_394i, m38_394r, m38_394g, m38_396, m38_398, m38_401, m38_403, m38_404, m38_407, m38_408, m38_410, m38_412, m38_415, m38_416, m38_419, m38_421, m38_422, m38_425, m38_427, m38_429, m38_432, m38_434, m38_436, m38_437, m38_438, m38_440, m38_443, m38_445, nb0, nb1, ou_a, Option.toList_some, Option.toList_none, List.nil_append, List.cons_append]
      exact hq (c + 1) (up T c u) u _ hi _ _ _ _ _ _ _ _ _ _ _ _ _ _ s' A' o9 o10 o11 (okS_n _) (okS_n _) (okS_i _) (okS_i _) (okS_i _) (okS_i _) (okS_n _) o19 o20 o21 o22 h' (PV_l pv z hu)
    · have z1 : (nI c < 4) = False := lF (c := 4) (by omega) (by omega)
      have z2 : (nI c < 8) = True := lT (c := 8) hc8 (by omega)
      have es : nI c - 4 = nI (c - 4) := nI_sub (c := 4) (by omega)
      simp [nn, z1, z2, es, o18, spW, m38_390, m38_391, m38_394u, m38_394i, m38_394r, m38_394g, m38_396, m38_398, m38_401, m38_403, m38_404, m38_407, m38_408, m38_410, m38_412, m38_415, m38_416, m38_419, m38_421, m38_422, m38_425, m38_427, m38_429, m38_432, m38_434, m38_436, m38_437, m38_438, m38_440, m38_443, m38_445, nb0, nb1, ou_a, Option.toList_some, Option.toList_none, List.nil_append, List.cons_append]
      exact hq (c + 1) (up T c u) u lo _ _ _ _ _ _ _ _ _ _ _ _ _ _ _ s' A' o9 o10 o11 (okS_n _) (okS_n _) (okS_i _) (okS_i _) (okS_i _) (okS_i _) (okS_n _) o19 o20 o21 o22 h' (PV_h pv (by omega) hc8 hu)
set_option maxRecDepth 1000000 in
set_option maxHeartbeats 20000000 in
theorem own_op (hlen : vs.length ≤ 260) (hK : K ≤ 52) (hi1 : i < K) (h : OX c T u s A) (pv : PV c T lo hi) (o9 : okS l9) (o10 : okS l10) (o11 : okS l11) (o12 : okS l12) (o13 : okS l13) (o14 : okS l14) (o15 : okS l15) (o16 : okS l16) (o17 : okS l17) (o18 : okS l18) (o19 : okS l19) (o20 : okS l20) (o21 : okS l21) (o22 : okS l22) (hq : ∀ (c' : Nat) (T' : Nat → Nat) (u' : Nat) (lo' hi' : Int64) (l9 l10 l11 l12 l13 l14 l15 l16 l17 l18 l19 l20 l21 l22 : Slot) (s' : Nat → Int32) (A' : Nat → List Int32), okS l9 → okS l10 → okS l11 → okS l12 → okS l13 → okS l14 → okS l15 → okS l16 → okS l17 → okS l18 → okS l19 → okS l20 → okS l21 → okS l22 → OX c' T' u' s' A' → PV c' T' lo' hi' → M38 461 [.val (.ref 0), .val (.ref 1), .val (.long lo'), .second, .val (.long hi'), .second, .val (.int (nI u')), .val (.int (nI K)), .val (.int (nI i)), l9, l10, l11, l12, l13, l14, l15, l16, l17, l18, l19, l20, l21, l22] [] (put 1 [((FieldType.array .int, vs.map Value.int) : FieldType × List Value)] s' A' []) Q) : M38 191 [.val (.ref 0), .val (.ref 1), .val (.long lo), .second, .val (.long hi), .second, .val (.int (nI u)), .val (.int (nI K)), .val (.int (nI i)), l9, l10, l11, l12, l13, l14, l15, l16, l17, l18, l19, l20, l21, l22] [] (put 1 [((FieldType.array .int, vs.map Value.int) : FieldType × List Value)] s A []) Q := by
  have e0 : (nI i = nI K) = False := eF (by omega) (by omega) (by omega)
  simp [e0, nI_5, nI_1l, o12, m38_191, m38_193, m38_195, m38_198, m38_201, m38_202, m38_203, m38_205, m38_206, m38_207u, m38_207i, m38_207r, m38_207g, m38_209, m38_210, m38_212, nb0, nb1, ou_a, Option.toList_some, Option.toList_none, List.nil_append, List.cons_append]
  refine cellW hlen (by omega) (fun a0 => ?_)
  simp [m38_215, m38_217, nb0, nb1, ou_a, Option.toList_some, Option.toList_none, List.nil_append, List.cons_append]
  refine modW (m := 8) (by decide) (by decide) (fun k hk => ?_)
  simp [o13, nI_1, m38_220u, m38_220i, m38_220r, m38_220g, m38_222, m38_223, m38_225, m38_226, m38_227, nb0, nb1, ou_a, Option.toList_some, Option.toList_none, List.nil_append, List.cons_append]
  refine cellW hlen (by omega) (fun a1 => ?_)
  simp [o14, nI_2, m38_230u, m38_230i, m38_230r, m38_230g, m38_232, m38_233, m38_235, m38_236, m38_237, nb0, nb1, ou_a, Option.toList_some, Option.toList_none, List.nil_append, List.cons_append]
  refine cellW hlen (by omega) (fun a2 => ?_)
  simp [o15, nI_3, m38_240u, m38_240i, m38_240r, m38_240g, m38_242, m38_243, m38_245, m38_246, m38_247, nb0, nb1, ou_a, Option.toList_some, Option.toList_none, List.nil_append, List.cons_append]
  refine cellW hlen (by omega) (fun a3 => ?_)
  simp [o16, nI_p4, m38_250u, m38_250i, m38_250r, m38_250g, m38_252, m38_253, m38_255, m38_256, m38_257, nb0, nb1, ou_a, Option.toList_some, Option.toList_none, List.nil_append, List.cons_append]
  refine cellW hlen (by omega) (fun a4 => ?_)
  simp [o17, m38_260u, m38_260i, m38_260r, m38_260g, nb0, nb1, ou_a, Option.toList_some, Option.toList_none, List.nil_append, List.cons_append]
  by_cases z : k ≤ 2
  · exact opB h pv o9 o10 o11 o18 o19 o20 o21 o22 hq z
  by_cases y : k ≤ 4
  · exact opS h pv o9 o10 o11 o18 o19 o20 o21 o22 hq (by omega) y
  by_cases x : k = 5
  · subst x
    exact opC h pv o9 o10 o11 o18 o19 o20 o21 o22 hq
  · exact opR h pv o9 o10 o11 o18 o19 o20 o21 o22 hq (by omega) hk
theorem loop (hlen : vs.length ≤ 260) (hK : K ≤ 52) (hF : ∀ s' A', LN A' → Q (some (.int 1)) (put 1 [((FieldType.array .int, vs.map Value.int) : FieldType × List Value)] s' A' [])) : ∀ (r i c : Nat) (T : Nat → Nat) (u : Nat) (lo hi : Int64) (l9 l10 l11 l12 l13 l14 l15 l16 l17 l18 l19 l20 l21 l22 : Slot) (s : Nat → Int32) (A : Nat → List Int32), i + r = K → OX c T u s A → PV c T lo hi → okS l9 → okS l10 → okS l11 → okS l12 → okS l13 → okS l14 → okS l15 → okS l16 → okS l17 → okS l18 → okS l19 → okS l20 → okS l21 → okS l22 → M38 35 [.val (.ref 0), .val (.ref 1), .val (.long lo), .second, .val (.long hi), .second, .val (.int (nI u)), .val (.int (nI K)), .val (.int (nI i)), l9, l10, l11, l12, l13, l14, l15, l16, l17, l18, l19, l20, l21, l22] [] (put 1 [((FieldType.array .int, vs.map Value.int) : FieldType × List Value)] s A []) Q := by
  intro r
  induction r with
  | zero =>
    intro i c T u lo hi l9 l10 l11 l12 l13 l14 l15 l16 l17 l18 l19 l20 l21 l22 s A e h pv o9 o10 o11 o12 o13 o14 o15 o16 o17 o18 o19 o20 o21 o22
    obtain rfl : i = K := by omega
    have c1 : (nI i < nI i) = False := lF (by omega) (by omega)
    rw [m38_35]
    simp [c1, m38_37, m38_39, nb0, nb1, ou_a, Option.toList_some, Option.toList_none, List.nil_append, List.cons_append]
    refine own_ck h pv o9 o10 o11 o12 o13 (fun l9 l10 l11 l12 l13 p9 p10 p11 p12 p13 => ?_)
    simp [m38_191, m38_193, m38_195, m38_198, m38_467, m38_468, nb0, nb1, ou_a, Option.toList_some, Option.toList_none, List.nil_append, List.cons_append]
    obtain ⟨D, C, p, Sf, Lf, Rb, Bb, cl, hy, kt, ks, km⟩ := id h
    exact hF s A kt.ta.ln
  | succ r ih =>
    intro i c T u lo hi l9 l10 l11 l12 l13 l14 l15 l16 l17 l18 l19 l20 l21 l22 s A e h pv o9 o10 o11 o12 o13 o14 o15 o16 o17 o18 o19 o20 o21 o22
    have c1 : (nI K < nI i) = False := lF (by omega) (by omega)
    rw [m38_35]
    simp [c1, m38_37, m38_39, nb0, nb1, ou_a, Option.toList_some, Option.toList_none, List.nil_append, List.cons_append]
    refine own_ck h pv o9 o10 o11 o12 o13 (fun l9 l10 l11 l12 l13 p9 p10 p11 p12 p13 => ?_)
    refine own_op hlen hK (by omega) h pv p9 p10 p11 p12 p13 o14 o15 o16 o17 o18 o19 o20 o21 o22 (fun c' T' u' lo' hi' l9 l10 l11 l12 l13 l14 l15 l16 l17 l18 l19 l20 l21 l22 s' A' q9 q10 q11 q12 q13 q14 q15 q16 q17 q18 q19 q20 q21 q22 h' pv' => ?_)
    simp [nI_1, m38_461, m38_464, nb0, nb1, ou_a, Option.toList_some, Option.toList_none, List.nil_append, List.cons_append]
    exact ih (i + 1) c' T' u' lo' hi' _ _ _ _ _ _ _ _ _ _ _ _ _ _ s' A' (by omega) h' pv' q9 q10 q11 q12 q13 q14 q15 q16 q17 q18 q19 q20 q21 q22
end Law
set_option maxRecDepth 1000000 in
set_option maxHeartbeats 20000000 in
theorem own_k {vs : List Int32} {Q : Option Value → AHeap → Prop} (hlen : vs.length ≤ 260) (hF : ∀ s A, LN A → Q (some (.int 1)) (put 1 [((FieldType.array .int, vs.map Value.int) : FieldType × List Value)] s A [])) : M38 0 [.val (.ref 0), .unset, .unset, .unset, .unset, .unset, .unset, .unset, .unset, .unset, .unset, .unset, .unset, .unset, .unset, .unset, .unset, .unset, .unset, .unset, .unset, .unset, .unset] [] [((FieldType.array .int, vs.map Value.int) : FieldType × List Value)] Q := by
  have hK : vs.length / 5 ≤ 52 := by omega
  have eK : vs.length.toInt32 / 5 = nI (vs.length / 5) := nI_div (a := vs.length) (c := 5) (by omega) (by decide)
  have fin : ∀ (cap : Nat) (s : Nat → Int32) (A : Nat → List Int32) (l1 l2 l3 : Slot), cap ≤ 8 → LN A → s 0 = nI cap → s 1 = 0 → s 2 = 1 → s 4 = 0 → CM nI (A 8) (fun _ => 0) 4 → M0 223 [.val (.ref 1), l1, l2, l3] [] (put 1 [((FieldType.array .int, vs.map Value.int) : FieldType × List Value)] s A []) (fun v H1 => M38 17 [.val (.ref 0), .unset, .unset, .unset, .unset, .unset, .unset, .unset, .unset, .unset, .unset, .unset, .unset, .unset, .unset, .unset, .unset, .unset, .unset, .unset, .unset, .unset, .unset] (v.toList ++ [.ref 1]) H1 Q) := by
    intro cap s A l1 l2 l3 hcap hL s0 s1 s2 s4 h8
    simp [m0_223, m0_224, nb0, nb1, ou_a, Option.toList_some, Option.toList_none, List.nil_append, List.cons_append]
    refine rsW (b := 0) hL (fun A' L' F' si => ?_)
    simp [eK, m0_223, m0_224, m0_227, m38_17u, m38_18, m38_19, m38_20, m38_21, m38_23, m38_24u, m38_26, m38_27, m38_27p, m38_28, m38_29, m38_30u, m38_32, m38_33u, nb0, nb1, ou_a, Option.toList_some, Option.toList_none, List.nil_append, List.cons_append]
    have an : AN 0 (fun _ => 0) (fun _ => 0) (fun _ => 0) (fun _ => 0) (fun _ => 0) (fun _ => 0) (S2 (fun _ => 0)) (S2 (fun _ => 0)) (fun _ => 0) := ⟨fun _ h => absurd h (by omega), fun _ _ h => absurd h (by omega), fun _ _ _ h => absurd h (by omega), fun _ _ h => absurd h (by omega), fun _ _ h => absurd h (by omega)⟩
    refine loop hlen hK hF (vs.length / 5) 0 0 (fun _ => 0) 0 0 0 _ _ _ _ _ _ _ _ _ _ _ _ _ _ _ A' (by omega) ⟨fun _ => 0, fun _ => 0, fun _ => 0, fun _ => 0, fun _ => 0, fun _ => 0, fun _ => 0, fun _ => 0, 1, ⟨⟨L', by omega, fun _ h => absurd h (by omega), fun _ h => absurd h (by omega), fun _ h => absurd h (by omega), fun _ h => absurd h (by omega), fun _ h => absurd h (by omega), fun _ h => absurd h (by omega), fun _ h => absurd h (by omega), fun _ h => absurd h (by omega)⟩, by omega, ⟨cap, hcap, ?_⟩, ?_, ?_, by omega, by omega, fun _ h => absurd h (by omega), fun _ h => absurd h (by omega), ?_, fun _ _ => Nat.zero_le _, an⟩, Or.inl ?_, 0, z0, fun _ => 0, fun _ => 0, ?_, by omega, ?_, si.le (by omega), FI_0 an (fun _ _ => rfl) (fun _ _ => rfl) (fun _ _ => rfl) (fun _ _ => rfl)⟩ (fun _ h => absurd h (by omega)) okS_u okS_u okS_u okS_u okS_u okS_u okS_u okS_u okS_u okS_u okS_u okS_u okS_u okS_u
    · simp only [ou_a]; simp; exact s0
    · simp only [ou_a]; simp; exact s1
    · simp only [ou_a]; simp; exact s2
    · rw [F' 8 (by decide)]; exact h8
    · simp only [ou_a]; simp; exact s4
    · simp only [ou_a]; simp; rfl
    · simp only [ou_a]; simp
  simp [m38_0, m38_3, m38_4, m38_5, m38_6, nb0, nb1, ou_a, Option.toList_some, Option.toList_none, List.nil_append, List.cons_append]
  refine cellR (j := 0) hlen (by decide) (fun v => ?_)
  simp [m38_9, m38_11, nb0, nb1, ou_a, Option.toList_some, Option.toList_none, List.nil_append, List.cons_append]
  refine modW (m := 10) (by decide) (by decide) (fun k hk => ?_)
  simp [m38_14, nb0, nb1, ou_a, Option.toList_some, Option.toList_none, List.nil_append, List.cons_append]
  refine Eq.mpr (own_ctor0 (pre := [((FieldType.array .int, vs.map Value.int) : FieldType × List Value)]) (b := 1) rfl (Nat.le_refl 1)) ?_
  have h8 : ∀ i, i < 4 → getA (A0 8) (nI i) = 0 := fun i hi => by
    rcases (show i = 0 ∨ i = 1 ∨ i = 2 ∨ i = 3 by omega) with rfl | rfl | rfl | rfl <;> rfl
  by_cases z : k < 1
  · have z1 : (nI k < 1) = True := lT (c := 1) z (by omega)
    simp [z1, m0_160, m0_161u, m0_162, m0_163, m0_164, m0_167, m0_168i, m0_169, m0_170, m0_172, m0_175, m0_177i, m0_178, m0_179, m0_180, m0_183, m0_184, m0_185, m0_188, m0_189, m0_190, m0_193, m0_194, m0_195, m0_198, m0_199, m0_200, m0_203, m0_204u, m0_205, m0_206, m0_207, m0_210, m0_211, m0_214, m0_215, m0_216, m0_217, m0_220, nb0, nb1, ou_a, Option.toList_some, Option.toList_none, List.nil_append, List.cons_append, getA_set2, setA_len, inB_iff, A0g_0, A0g_1, A0g_2, A0g_3, A0g_4, A0g_5, A0g_6, A0g_7, A0g_8, A0g_9, A0g_10, A0g_11, A0g_12, A0g_13, A0g_14, A0g_15, A0g_16, A0g_17, A0g_18, A0g_19, A0l_0, A0l_1, A0l_2, A0l_3, A0l_4, A0l_5, A0l_6, A0l_7, A0l_8, A0l_9, A0l_10, A0l_11, A0l_12, A0l_13, A0l_14, A0l_15, A0l_16, A0l_17, A0l_18, A0l_19]
    refine fin 1 _ _ _ _ _ (by omega) ?_ rfl rfl rfl rfl ?_
    · (repeat refine LN_ou ?_ (by simp only [setA_len])); exact fun _ => rfl
    · rw [ou_eq]; intro i hi; rcases (show i = 0 ∨ i = 1 ∨ i = 2 ∨ i = 3 by omega) with rfl | rfl | rfl | rfl <;> rfl
  · have z1 : (nI k < 1) = False := lF (c := 1) (by omega) (by omega)
    by_cases y : 8 < k
    · have y1 : (8 < nI k) = True := lT (a := 8) y (by omega)
      simp [z1, y1, m0_160, m0_161u, m0_162, m0_163, m0_164, m0_167, m0_168i, m0_169, m0_170, m0_172, m0_175, m0_177i, m0_178, m0_179, m0_180, m0_183, m0_184, m0_185, m0_188, m0_189, m0_190, m0_193, m0_194, m0_195, m0_198, m0_199, m0_200, m0_203, m0_204u, m0_205, m0_206, m0_207, m0_210, m0_211, m0_214, m0_215, m0_216, m0_217, m0_220, nb0, nb1, ou_a, Option.toList_some, Option.toList_none, List.nil_append, List.cons_append, getA_set2, setA_len, inB_iff, A0g_0, A0g_1, A0g_2, A0g_3, A0g_4, A0g_5, A0g_6, A0g_7, A0g_8, A0g_9, A0g_10, A0g_11, A0g_12, A0g_13, A0g_14, A0g_15, A0g_16, A0g_17, A0g_18, A0g_19, A0l_0, A0l_1, A0l_2, A0l_3, A0l_4, A0l_5, A0l_6, A0l_7, A0l_8, A0l_9, A0l_10, A0l_11, A0l_12, A0l_13, A0l_14, A0l_15, A0l_16, A0l_17, A0l_18, A0l_19]
      refine fin 8 _ _ _ _ _ (by omega) ?_ rfl rfl rfl rfl ?_
      · (repeat refine LN_ou ?_ (by simp only [setA_len])); exact fun _ => rfl
      · rw [ou_eq]; intro i hi; rcases (show i = 0 ∨ i = 1 ∨ i = 2 ∨ i = 3 by omega) with rfl | rfl | rfl | rfl <;> rfl
    · have y1 : (8 < nI k) = False := lF (a := 8) (by omega) (by omega)
      simp [z1, y1, m0_160, m0_161u, m0_162, m0_163, m0_164, m0_167, m0_168i, m0_169, m0_170, m0_172, m0_175, m0_177i, m0_178, m0_179, m0_180, m0_183, m0_184, m0_185, m0_188, m0_189, m0_190, m0_193, m0_194, m0_195, m0_198, m0_199, m0_200, m0_203, m0_204u, m0_205, m0_206, m0_207, m0_210, m0_211, m0_214, m0_215, m0_216, m0_217, m0_220, nb0, nb1, ou_a, Option.toList_some, Option.toList_none, List.nil_append, List.cons_append, getA_set2, setA_len, inB_iff, A0g_0, A0g_1, A0g_2, A0g_3, A0g_4, A0g_5, A0g_6, A0g_7, A0g_8, A0g_9, A0g_10, A0g_11, A0g_12, A0g_13, A0g_14, A0g_15, A0g_16, A0g_17, A0g_18, A0g_19, A0l_0, A0l_1, A0l_2, A0l_3, A0l_4, A0l_5, A0l_6, A0l_7, A0l_8, A0l_9, A0l_10, A0l_11, A0l_12, A0l_13, A0l_14, A0l_15, A0l_16, A0l_17, A0l_18, A0l_19]
      refine fin k _ _ _ _ _ (by omega) ?_ rfl rfl rfl rfl ?_
      · (repeat refine LN_ou ?_ (by simp only [setA_len])); exact fun _ => rfl
      · rw [ou_eq]; intro i hi; rcases (show i = 0 ∨ i = 1 ∨ i = 2 ∨ i = 3 by omega) with rfl | rfl | rfl | rfl <;> rfl
set_option maxRecDepth 1000000 in
set_option maxHeartbeats 20000000 in
theorem own_law (vs : List Int32) (hlen : vs.length ≤ 260) : W tables_1 dn 1 x code ret 0 (entry [.ref 0] maxLocals) [] [(FieldType.array .int, vs.map Value.int)] (fun v H1 => v = some (.int 1) ∧ H1.length - ([(FieldType.array .int, vs.map Value.int)] : AHeap).length ≤ 56 ∧ tot tables_1 H1 - tot tables_1 [(FieldType.array .int, vs.map Value.int)] ≤ 576) := by
  show M38 0 [.val (.ref 0), .unset, .unset, .unset, .unset, .unset, .unset, .unset, .unset, .unset, .unset, .unset, .unset, .unset, .unset, .unset, .unset, .unset, .unset, .unset, .unset, .unset, .unset] [] [(FieldType.array .int, vs.map Value.int)] _
  refine own_k hlen (fun s' A' hq => ⟨rfl, ?_, ?_⟩)
  · rw [put_len]; simp
  · have hq : ∀ i, (A' i).length = (A0 i).length := hq
    rw [put_tot, pad_1]
    simp only [hq, put_len, put_tot, pad_0, tot_nil, List.length_nil, List.length_cons, A0l_0, A0l_1, A0l_2, A0l_3, A0l_4, A0l_5, A0l_6, A0l_7, A0l_8, A0l_9, A0l_10, A0l_11, A0l_12, A0l_13, A0l_14, A0l_15, A0l_16, A0l_17, A0l_18, A0l_19]
    omega
-- END
theorem own_dn : ∀ f' l', dnOf dn x = some (f', l') → f' ≤ room_1.frames ∧ l' ≤ room_1.locals := by
  have h : dnOf dn x = some (4, 70) := by decide +kernel
  intro f' l' q; rw [h] at q; cases q; decide
theorem own_pn : Jvm.plainName x.cls = true := by first | (simp [Jvm.plainName, overriddenIn, x]; done) | decide +kernel
theorem own_rm (l : Launch) (Z : State) (a0 : Array Value) (hw : ∀ d ∈ tables_1, d.before a0 Z = true) (vs : List Int32) (hlen : vs.length ≤ 260) (h : Heap) (a : Addr) (cl : Cell) (Ar : Arr Z h a cl .int) (ev : cl.slots = (vs.map Value.int).toArray) :
    MetFree l x (head1 (Jvm.Cond.code x code maxLocals ret :: tables_1) room_1) (fun A U => A = #[.ref a] ∧ Z.Warmed39 U.vm ∧ U.heap = h) (fun _ _ _ _ _ => True) (fun _ U o U' => ∃ w L, o = .returned w ∧ (w = some (.int 1) ∧ Fr h.size L) ∧ FrameEnd U o U' L 56 576) :=
  law_of (as := [.ref 0]) (mx := maxLocals) (f := room_1.frames) (lc := room_1.locals) hw l tables_1 own_pn (by show 1 ≤ 23; omega) (own_law vs hlen) own_dn (Sim.script tables_1 Ar ev)
set_option maxRecDepth 65536 in
set_option maxHeartbeats 40000000 in
theorem comes_1 {Post : Tables → Env → Array Value → State → Outcome → State → Prop} (hpost : ∀ tb e args s v u, (limb_1_1.after args s (.returned v) u = true ∧ limb_1_2.after args s (.returned v) u = true ∧ True) → FrameEnd s (.returned v) u (Jvm.fieldLocs frame_1_writes args s ++ Jvm.arrayLocs frame_1_arrays args s ++ Jvm.staticLocs frame_1_statics s) 56 576 → Post tb e args s (.returned v) u) :
    ArmFor flags0 classFile x code maxLocals ret World_1 tables_1 room_1 Calls_1 rest_1 Pre_1 Post := by
  intro l hfl _ _ p e ha hc hk s m args below hf hA hF happ hP
  obtain ⟨hcalls, hrest, hpre⟩ := hP
  obtain ⟨-, -, -, hnamed, -, -, -, hat⟩ := (Spec.applies_iff hf).mp happ
  obtain ⟨hg, hn⟩ := and_e (Cond.before_iff.mp (show (Jvm.Cond.and given_1 narrow_1).before args s = true from hpre))
  obtain ⟨g0, q0⟩ := and_e hg
  obtain ⟨w0, rfl⟩ : ∃ w0 : Value, args = #[w0] := by
    have hs : args.size = 1 := by simpa [Cond.value, given_1] using g0
    obtain ⟨L⟩ := args
    match L, hs with
    | [w0], _ => exact ⟨w0, rfl⟩
  have hw := fun d (hd : d ∈ tables_1) => atoms_spec (ws := Jvm.Cond.code x code maxLocals ret :: tables_1) hat d (List.mem_cons_of_mem _ hd)
  have hfit : Fit s := fun {y c} hc i hi => by
    obtain ⟨ha, rfl⟩ := Array.getElem?_eq_some_iff.mp hc
    have q := List.all_eq_true.mp ((Array.all_eq_true_iff_forall_mem.mp hF) _ (Array.getElem_mem ha)) i (List.mem_range.mpr hi)
    simpa [Array.getElem?_eq_getElem hi] using q
  obtain ⟨n1, n2⟩ := and_e hn
  obtain ⟨a, ea⟩ := arr_v n1
  obtain rfl : w0 = .ref a := Option.some.inj ea
  obtain ⟨cl, Ar⟩ := Arr.start ea n1
  obtain ⟨r1, -⟩ := and_e (Cond.before_iff.mp (show rest_1_c.before _ s = true from hrest))
  obtain ⟨z, ez⟩ := is_v r1
  have hat' := Ar.fin (Vm.Alike.refl _)
  have hsz : cl.slots.size < 2 ^ 31 ∧ z = cl.slots.size.toInt32 := by
    simp only [Term.eval] at ea ez
    simp only [ea, hat', Option.bind_eq_bind, Option.bind_some] at ez
    split at ez
    · rename_i hlt; exact ⟨hlt, by simpa using ez.symm⟩
    · cases ez
  obtain ⟨vs, ev⟩ := script_of hfit Ar hsz.1
  have hlen : vs.length ≤ 260 := by
    have e1 : cl.slots.size = vs.length := by rw [ev]; simp
    have e2 := len_toInt hsz.1
    have n3 := Cond.le_ints (a := .length (.arg 0)) (b := .int 260) ez (Term.int_eval _)
    rw [n2] at n3
    have n4 := of_decide_eq_true (Option.some.inj n3).symm
    rw [Int32.le_iff_toInt_le, hsz.2, e2] at n4
    have e3 : (260 : Int32).toInt = 260 := by decide
    rw [e3] at n4
    omega
  obtain ⟨n, o, h1, h2, h3, _, L, rfl, ⟨rfl, N⟩, hq⟩ := own_rm l s _ hw vs hlen s.heap a cl Ar ev p e ha hc hk s m _ below hf ((Spec.applies_iff_loose hf).mp happ).1 ⟨rfl, State.Warmed39.refl s, rfl⟩ trivial
  exact ⟨n, _, h1, h2, h3, hpost _ _ _ _ _ _ ⟨Cond.after_iff.mpr rfl, Cond.after_iff.mpr (eq_i res_at (Term.int_eval (1)) rfl), trivial⟩ ⟨hq.1, hq.2.1, (hq.2.2.sift fun y hy => Or.inr (N y hy)).mono (by decide) (by decide)⟩⟩
theorem main_1_1 : Claimed_1_1 := comes_1 fun _ _ _ _ _ _ h hF => ⟨h.1, hF⟩
theorem main_1_2 : Claimed_1_2 := comes_1 fun _ _ _ _ _ _ h hF => ⟨h.2.1, hF⟩
end Jvm.Pilot.@@N@@
namespace Jvm.Pilot.@@N@@
open Jvm Jvm.ClassFile Sem Op Lib Jvm.Free Jvm.Stand Jvm.Pilot.@@N@@.Jvm.D
/-! MADE BY PROGRAM (witnessworld.py) out of the Statement's table words and the real class files: 11 classes; the members and pool entries that the words name. The judged class is class 1, her method 6. -/
namespace start1
open Jvm.ClassFile
def u (s : String) : CpInfo := .utf8 (stringToUtf16 s)
/-- a pool by its gaps: so many unusable entries, then the entry; so many at the end -/
def gap : Nat → List CpInfo → List CpInfo
  | 0, r => r
  | n + 1, r => .unusable :: gap n r
def poolList (es : List (Nat × CpInfo)) (last : Nat) : List CpInfo := es.foldr (fun e r => gap e.1 (e.2 :: r)) (gap last [])
def pool (es : List (Nat × CpInfo)) (last : Nat) : Array CpInfo := ⟨poolList es last⟩
def fileOf (pool : Array CpInfo) (this : Nat) (attrs : Array Attribute := #[]) (ms : Array MethodInfo := #[]) (fl : Nat := 33) (sup : Nat := 0) (ifs : Array Nat := #[]) (fds : Array FieldInfo := #[]) : ClassFile where
  minorVersion := 0
  majorVersion := 65
  constantPool := pool
  accessFlags := fl
  thisClass := this
  superClass := sup
  interfaces := ifs
  fields := fds
  methods := ms
  attributes := attrs
def plain (name : String) (sup : Option ClassId) : Class where
  name := name
  kind := .ordinary
  loader := none
  accessFlags := 33
  super := sup
  interfaces := #[]
  cf := none
  fields := #[]
  methods := #[]
  instanceTypes := #[]
  staticTypes := #[]
  resolved := #[]
  callSites := []
  init := .initialized
  statics := none
  mirror := none

def pool0 : Array CpInfo := pool [(5, u "<init>"), (0, u "()V"), (1, .class_ 10), (1, u "java/lang/Object")] 113

def k0c0 : Code := { maxStack := 0, maxLocals := 1, code := object_method_1_code, exceptionTable := #[], attributes := #[] }
def k0m0 : Method := { name := "<init>", desc := "()V", sig := { parameters := [], returnType := none }, accessFlags := 1, code := some k0c0 }
/-- java/lang/Object -/
def k0 : Class := { plain "java/lang/Object" none with
  accessFlags := 33
  interfaces := #[]
  cf := some (fileOf pool0 8 #[] #[{ accessFlags := 1, nameIndex := 5, descriptorIndex := 6, attributes := #[] }] 33 0 #[] #[])
  fields := #[]
  methods := #[k0m0]
  instanceTypes := #[]
  staticTypes := #[]
  resolved := Array.replicate 124 none
  statics := none }

def pool1 : Array CpInfo := pool [(2, .class_ 4), (1, u "java/lang/Object"), (0, u "<init>"), (0, u "()V"), (0, .long 65535), (1, .long 18446744073709551615), (1, .class_ 12), (0, u "ResponseTimeGate"), (0, .methodref 14 15), (0, .class_ 16), (0, .nameAndType 17 18), (0, u "ResponseTimeGateOwnLaw"), (0, u "cell"), (0, u "([II)I"), (0, .methodref 14 20), (0, .nameAndType 21 22), (0, u "mod"), (0, u "(II)I"), (0, .methodref 11 24), (0, .nameAndType 5 25), (0, u "(I)V"), (0, .methodref 11 27), (0, .nameAndType 28 29), (0, u "misses"), (0, u "()I"), (0, .methodref 11 31), (0, .nameAndType 32 29), (0, u "taskCount"), (0, .methodref 11 34), (0, .nameAndType 35 36), (0, u "maxResponse"), (0, u "(I)I"), (0, .methodref 11 38), (0, .nameAndType 39 36), (0, u "bound"), (0, .methodref 11 41), (0, .nameAndType 42 29), (0, u "hyperperiod"), (0, .methodref 11 44), (0, .nameAndType 45 29), (0, u "time"), (0, .methodref 14 47), (0, .nameAndType 48 49), (0, u "getP"), (0, u "(JI)I"), (0, .methodref 11 51), (0, .nameAndType 52 36), (0, u "jobsDone"), (0, .methodref 14 54), (0, .nameAndType 55 36), (0, u "pick"), (0, .methodref 11 57), (0, .nameAndType 58 59), (0, u "beginTask"), (0, u "(IIII)I"), (0, .methodref 11 61), (0, .nameAndType 62 63), (0, u "addSection"), (0, u "(III)I"), (0, .methodref 11 65), (0, .nameAndType 66 29), (0, u "commitTask"), (0, .methodref 14 68), (0, .nameAndType 69 70), (0, u "setP"), (0, u "(JII)J"), (0, .methodref 11 72), (0, .nameAndType 73 36), (0, u "run"), (3, u "law"), (0, u "([I)Z")] 4

def k1m0 : Method := { name := "<init>", desc := "()V", sig := { parameters := [], returnType := none }, accessFlags := 1, code := none }
def k1c1 : Code := { maxStack := 2, maxLocals := 2, code := method_2_code, exceptionTable := #[], attributes := #[] }
def k1m1 : Method := { name := "cell", desc := "([II)I", sig := { parameters := [(.array .int), .int], returnType := some .int }, accessFlags := 10, code := some k1c1 }
def k1c2 : Code := { maxStack := 2, maxLocals := 3, code := method_3_code, exceptionTable := #[], attributes := #[] }
def k1m2 : Method := { name := "mod", desc := "(II)I", sig := { parameters := [.int, .int], returnType := some .int }, accessFlags := 10, code := some k1c2 }
def k1c3 : Code := { maxStack := 1, maxLocals := 1, code := method_4_code, exceptionTable := #[], attributes := #[] }
def k1m3 : Method := { name := "pick", desc := "(I)I", sig := { parameters := [.int], returnType := some .int }, accessFlags := 10, code := some k1c3 }
def k1c4 : Code := { maxStack := 6, maxLocals := 6, code := method_5_code, exceptionTable := #[], attributes := #[] }
def k1m4 : Method := { name := "setP", desc := "(JII)J", sig := { parameters := [.long, .int, .int], returnType := some .long }, accessFlags := 10, code := some k1c4 }
def k1c5 : Code := { maxStack := 4, maxLocals := 3, code := method_6_code, exceptionTable := #[], attributes := #[] }
def k1m5 : Method := { name := "getP", desc := "(JI)I", sig := { parameters := [.long, .int], returnType := some .int }, accessFlags := 10, code := some k1c5 }
def k1c6 : Code := { maxStack := 6, maxLocals := 23, code := code, exceptionTable := #[], attributes := #[] }
def k1m6 : Method := { name := "law", desc := "([I)Z", sig := { parameters := [(.array .int)], returnType := some .boolean }, accessFlags := 9, code := some k1c6 }
/-- ResponseTimeGateOwnLaw -/
def k1 : Class := { plain "ResponseTimeGateOwnLaw" (some 0) with
  accessFlags := 49
  interfaces := #[]
  cf := some (fileOf pool1 14 #[] #[{ accessFlags := 1, nameIndex := 5, descriptorIndex := 6, attributes := #[] }, { accessFlags := 10, nameIndex := 17, descriptorIndex := 18, attributes := #[] }, { accessFlags := 10, nameIndex := 21, descriptorIndex := 22, attributes := #[] }, { accessFlags := 10, nameIndex := 55, descriptorIndex := 36, attributes := #[] }, { accessFlags := 10, nameIndex := 69, descriptorIndex := 70, attributes := #[] }, { accessFlags := 10, nameIndex := 48, descriptorIndex := 49, attributes := #[] }, { accessFlags := 9, nameIndex := 77, descriptorIndex := 78, attributes := #[] }] 49 2 #[] #[])
  fields := #[]
  methods := #[k1m0, k1m1, k1m2, k1m3, k1m4, k1m5, k1m6]
  instanceTypes := #[]
  staticTypes := #[]
  resolved := Array.replicate 83 none
  statics := none }

def pool2 : Array CpInfo := pool [(1, .methodref 2 3), (0, .class_ 4), (0, .nameAndType 5 6), (0, u "java/lang/Object"), (0, u "<init>"), (0, u "()V"), (0, .fieldref 8 9), (0, .class_ 10), (0, .nameAndType 11 12), (0, u "ResponseTimeGate"), (0, u "per"), (0, u "[I"), (0, .fieldref 8 14), (0, .nameAndType 15 12), (0, u "dl"), (0, .fieldref 8 17), (0, .nameAndType 18 12), (0, u "wc"), (0, .fieldref 8 20), (0, .nameAndType 21 12), (0, u "pr"), (0, .fieldref 8 23), (0, .nameAndType 24 12), (0, u "secS"), (0, .fieldref 8 26), (0, .nameAndType 27 12), (0, u "secL"), (0, .fieldref 8 29), (0, .nameAndType 30 12), (0, u "bnd"), (0, .fieldref 8 32), (0, .nameAndType 33 12), (0, u "blk"), (0, .fieldref 8 35), (0, .nameAndType 36 12), (0, u "ceil"), (0, .fieldref 8 38), (0, .nameAndType 39 12), (0, u "stS"), (0, .fieldref 8 41), (0, .nameAndType 42 12), (0, u "stL"), (0, .fieldref 8 44), (0, .nameAndType 45 12), (0, u "candCeil"), (0, .fieldref 8 47), (0, .nameAndType 48 12), (0, u "candB"), (0, .fieldref 8 50), (0, .nameAndType 51 12), (0, u "candR"), (0, .fieldref 8 53), (0, .nameAndType 54 55), (0, u "pend"), (0, u "[Z"), (0, .fieldref 8 57), (0, .nameAndType 58 12), (0, u "rel"), (0, .fieldref 8 60), (0, .nameAndType 61 12), (0, u "prog"), (0, .fieldref 8 63), (0, .nameAndType 64 12), (0, u "held"), (0, .fieldref 8 66), (0, .nameAndType 67 12), (0, u "done"), (0, .fieldref 8 69), (0, .nameAndType 70 12), (0, u "maxR"), (0, .fieldref 8 72), (0, .nameAndType 73 74), (0, u "cap"), (0, u "I"), (0, .fieldref 8 76), (0, .nameAndType 77 74), (0, u "count"), (0, .fieldref 8 79), (0, .nameAndType 80 81), (0, u "staged"), (0, u "Z"), (0, .fieldref 8 83), (0, .nameAndType 84 74), (0, u "failed"), (0, .fieldref 8 86), (0, .nameAndType 87 74), (0, u "hyper"), (0, .methodref 8 89), (0, .nameAndType 90 6), (0, u "resetSim"), (0, .methodref 8 92), (0, .nameAndType 93 94), (0, u "priorityTaken"), (0, u "(I)Z"), (0, .fieldref 8 96), (0, .nameAndType 97 74), (0, u "stT"), (0, .fieldref 8 99), (0, .nameAndType 100 74), (0, u "stD"), (0, .fieldref 8 102), (0, .nameAndType 103 74), (0, u "stC"), (0, .fieldref 8 105), (0, .nameAndType 106 74), (0, u "stP"), (0, .methodref 8 108), (0, .nameAndType 109 110), (0, u "overlapsStaged"), (0, u "(II)Z"), (0, .methodref 8 112), (0, .nameAndType 113 114), (0, u "lcmWith"), (0, u "(II)I"), (0, .methodref 8 116), (0, .nameAndType 117 118), (0, u "placeStaged"), (0, u "(I)V"), (0, .methodref 8 120), (0, .nameAndType 121 122), (0, u "analyze"), (0, u "(I)I"), (0, .methodref 8 124), (0, .nameAndType 125 118), (0, u "adoptResults"), (0, .methodref 8 127), (0, .nameAndType 128 114), (0, u "gcd"), (0, .methodref 8 130), (0, .nameAndType 131 118), (0, u "computeCeilings"), (0, .methodref 8 133), (0, .nameAndType 134 114), (0, u "blockingOf"), (0, .methodref 8 136), (0, .nameAndType 137 138), (0, u "responseOf"), (0, u "(III)I"), (0, .methodref 8 140), (0, .nameAndType 141 138), (0, u "interference"), (0, .methodref 8 143), (0, .nameAndType 144 94), (0, u "admitted"), (0, .fieldref 8 146), (0, .nameAndType 147 74), (0, u "now"), (0, .fieldref 8 149), (0, .nameAndType 150 74), (0, u "missCount"), (0, .methodref 8 152), (0, .nameAndType 153 6), (0, u "tick"), (0, .methodref 8 155), (0, .nameAndType 156 6), (0, u "releaseJobs"), (0, .methodref 8 158), (0, .nameAndType 159 160), (0, u "pickRunning"), (0, u "()I"), (0, .methodref 8 162), (0, .nameAndType 163 118), (0, u "executeUnit"), (0, .methodref 8 165), (0, .nameAndType 166 6), (0, u "checkMisses"), (0, .methodref 8 168), (0, .nameAndType 169 122), (0, u "activePriority"), (0, .methodref 8 171), (0, .nameAndType 172 118), (0, u "takeResourceIfStart"), (0, .methodref 8 174), (0, .nameAndType 175 118), (0, u "completeJob"), (0, u "MAX_TASKS"), (2, u "RESOURCES"), (1, u "MAX_PERIOD"), (1, u "HYPER_LIMIT"), (0, u "MAX_PRIORITY"), (1, u "MAX_RUN"), (0, u "OK"), (1, u "ERR_FULL"), (1, u "ERR_BAD_ARG"), (1, u "ERR_PRIORITY"), (1, u "ERR_NO_STAGED"), (1, u "ERR_SECTION"), (1, u "REJ_HYPER"), (1, u "REJ_DEADLINE"), (4, u "beginTask"), (0, u "(IIII)I"), (0, u "addSection"), (0, u "commitTask"), (0, u "taskCount"), (0, u "bound"), (2, u "hyperperiod"), (1, u "run"), (0, u "time"), (0, u "maxResponse"), (0, u "jobsDone"), (0, u "misses")] 4

def k2c0 : Code := { maxStack := 3, maxLocals := 4, code := prog_1_method_1_code, exceptionTable := #[], attributes := #[] }
def k2m0 : Method := { name := "<init>", desc := "(I)V", sig := { parameters := [.int], returnType := none }, accessFlags := 1, code := some k2c0 }
def k2c1 : Code := { maxStack := 3, maxLocals := 6, code := prog_1_method_2_code, exceptionTable := #[], attributes := #[] }
def k2m1 : Method := { name := "beginTask", desc := "(IIII)I", sig := { parameters := [.int, .int, .int, .int], returnType := some .int }, accessFlags := 1, code := some k2c1 }
def k2c2 : Code := { maxStack := 2, maxLocals := 3, code := prog_1_method_3_code, exceptionTable := #[], attributes := #[] }
def k2m2 : Method := { name := "priorityTaken", desc := "(I)Z", sig := { parameters := [.int], returnType := some .boolean }, accessFlags := 2, code := some k2c2 }
def k2c3 : Code := { maxStack := 3, maxLocals := 4, code := prog_1_method_4_code, exceptionTable := #[], attributes := #[] }
def k2m3 : Method := { name := "addSection", desc := "(III)I", sig := { parameters := [.int, .int, .int], returnType := some .int }, accessFlags := 1, code := some k2c3 }
def k2c4 : Code := { maxStack := 3, maxLocals := 6, code := prog_1_method_5_code, exceptionTable := #[], attributes := #[] }
def k2m4 : Method := { name := "overlapsStaged", desc := "(II)Z", sig := { parameters := [.int, .int], returnType := some .boolean }, accessFlags := 2, code := some k2c4 }
def k2c5 : Code := { maxStack := 3, maxLocals := 4, code := prog_1_method_6_code, exceptionTable := #[], attributes := #[] }
def k2m5 : Method := { name := "commitTask", desc := "()I", sig := { parameters := [], returnType := some .int }, accessFlags := 1, code := some k2c5 }
def k2c6 : Code := { maxStack := 4, maxLocals := 3, code := prog_1_method_7_code, exceptionTable := #[], attributes := #[] }
def k2m6 : Method := { name := "placeStaged", desc := "(I)V", sig := { parameters := [.int], returnType := none }, accessFlags := 2, code := some k2c6 }
def k2c7 : Code := { maxStack := 4, maxLocals := 3, code := prog_1_method_8_code, exceptionTable := #[], attributes := #[] }
def k2m7 : Method := { name := "adoptResults", desc := "(I)V", sig := { parameters := [.int], returnType := none }, accessFlags := 2, code := some k2c7 }
def k2c8 : Code := { maxStack := 2, maxLocals := 7, code := prog_1_method_9_code, exceptionTable := #[], attributes := #[] }
def k2m8 : Method := { name := "gcd", desc := "(II)I", sig := { parameters := [.int, .int], returnType := some .int }, accessFlags := 2, code := some k2c8 }
def k2c9 : Code := { maxStack := 3, maxLocals := 4, code := prog_1_method_10_code, exceptionTable := #[], attributes := #[] }
def k2m9 : Method := { name := "lcmWith", desc := "(II)I", sig := { parameters := [.int, .int], returnType := some .int }, accessFlags := 2, code := some k2c9 }
def k2c10 : Code := { maxStack := 4, maxLocals := 5, code := prog_1_method_11_code, exceptionTable := #[], attributes := #[] }
def k2m10 : Method := { name := "analyze", desc := "(I)I", sig := { parameters := [.int], returnType := some .int }, accessFlags := 2, code := some k2c10 }
def k2c11 : Code := { maxStack := 3, maxLocals := 5, code := prog_1_method_12_code, exceptionTable := #[], attributes := #[] }
def k2m11 : Method := { name := "computeCeilings", desc := "(I)V", sig := { parameters := [.int], returnType := none }, accessFlags := 2, code := some k2c11 }
def k2c12 : Code := { maxStack := 3, maxLocals := 8, code := prog_1_method_13_code, exceptionTable := #[], attributes := #[] }
def k2m12 : Method := { name := "blockingOf", desc := "(II)I", sig := { parameters := [.int, .int], returnType := some .int }, accessFlags := 2, code := some k2c12 }
def k2c13 : Code := { maxStack := 5, maxLocals := 8, code := prog_1_method_14_code, exceptionTable := #[], attributes := #[] }
def k2m13 : Method := { name := "responseOf", desc := "(III)I", sig := { parameters := [.int, .int, .int], returnType := some .int }, accessFlags := 2, code := some k2c13 }
def k2c14 : Code := { maxStack := 4, maxLocals := 8, code := prog_1_method_15_code, exceptionTable := #[], attributes := #[] }
def k2m14 : Method := { name := "interference", desc := "(III)I", sig := { parameters := [.int, .int, .int], returnType := some .int }, accessFlags := 2, code := some k2c14 }
def k2c15 : Code := { maxStack := 2, maxLocals := 2, code := prog_1_method_16_code, exceptionTable := #[], attributes := #[] }
def k2m15 : Method := { name := "admitted", desc := "(I)Z", sig := { parameters := [.int], returnType := some .boolean }, accessFlags := 2, code := some k2c15 }
def k2c16 : Code := { maxStack := 1, maxLocals := 1, code := prog_1_method_17_code, exceptionTable := #[], attributes := #[] }
def k2m16 : Method := { name := "taskCount", desc := "()I", sig := { parameters := [], returnType := some .int }, accessFlags := 1, code := some k2c16 }
def k2c17 : Code := { maxStack := 2, maxLocals := 2, code := prog_1_method_18_code, exceptionTable := #[], attributes := #[] }
def k2m17 : Method := { name := "bound", desc := "(I)I", sig := { parameters := [.int], returnType := some .int }, accessFlags := 1, code := some k2c17 }
def k2c18 : Code := { maxStack := 1, maxLocals := 1, code := prog_1_method_21_code, exceptionTable := #[], attributes := #[] }
def k2m18 : Method := { name := "hyperperiod", desc := "()I", sig := { parameters := [], returnType := some .int }, accessFlags := 1, code := some k2c18 }
def k2c19 : Code := { maxStack := 3, maxLocals := 2, code := prog_1_method_23_code, exceptionTable := #[], attributes := #[] }
def k2m19 : Method := { name := "resetSim", desc := "()V", sig := { parameters := [], returnType := none }, accessFlags := 2, code := some k2c19 }
def k2c20 : Code := { maxStack := 2, maxLocals := 4, code := prog_1_method_24_code, exceptionTable := #[], attributes := #[] }
def k2m20 : Method := { name := "run", desc := "(I)I", sig := { parameters := [.int], returnType := some .int }, accessFlags := 1, code := some k2c20 }
def k2c21 : Code := { maxStack := 3, maxLocals := 2, code := prog_1_method_25_code, exceptionTable := #[], attributes := #[] }
def k2m21 : Method := { name := "tick", desc := "()V", sig := { parameters := [], returnType := none }, accessFlags := 2, code := some k2c21 }
def k2c22 : Code := { maxStack := 3, maxLocals := 3, code := prog_1_method_26_code, exceptionTable := #[], attributes := #[] }
def k2m22 : Method := { name := "releaseJobs", desc := "()V", sig := { parameters := [], returnType := none }, accessFlags := 2, code := some k2c22 }
def k2c23 : Code := { maxStack := 2, maxLocals := 3, code := prog_1_method_27_code, exceptionTable := #[], attributes := #[] }
def k2m23 : Method := { name := "activePriority", desc := "(I)I", sig := { parameters := [.int], returnType := some .int }, accessFlags := 2, code := some k2c23 }
def k2c24 : Code := { maxStack := 2, maxLocals := 7, code := prog_1_method_28_code, exceptionTable := #[], attributes := #[] }
def k2m24 : Method := { name := "pickRunning", desc := "()I", sig := { parameters := [], returnType := some .int }, accessFlags := 2, code := some k2c24 }
def k2c25 : Code := { maxStack := 3, maxLocals := 3, code := prog_1_method_29_code, exceptionTable := #[], attributes := #[] }
def k2m25 : Method := { name := "takeResourceIfStart", desc := "(I)V", sig := { parameters := [.int], returnType := none }, accessFlags := 2, code := some k2c25 }
def k2c26 : Code := { maxStack := 5, maxLocals := 3, code := prog_1_method_30_code, exceptionTable := #[], attributes := #[] }
def k2m26 : Method := { name := "executeUnit", desc := "(I)V", sig := { parameters := [.int], returnType := none }, accessFlags := 2, code := some k2c26 }
def k2c27 : Code := { maxStack := 4, maxLocals := 3, code := prog_1_method_31_code, exceptionTable := #[], attributes := #[] }
def k2m27 : Method := { name := "completeJob", desc := "(I)V", sig := { parameters := [.int], returnType := none }, accessFlags := 2, code := some k2c27 }
def k2c28 : Code := { maxStack := 3, maxLocals := 2, code := prog_1_method_32_code, exceptionTable := #[], attributes := #[] }
def k2m28 : Method := { name := "checkMisses", desc := "()V", sig := { parameters := [], returnType := none }, accessFlags := 2, code := some k2c28 }
def k2c29 : Code := { maxStack := 1, maxLocals := 1, code := prog_1_method_33_code, exceptionTable := #[], attributes := #[] }
def k2m29 : Method := { name := "time", desc := "()I", sig := { parameters := [], returnType := some .int }, accessFlags := 1, code := some k2c29 }
def k2c30 : Code := { maxStack := 2, maxLocals := 2, code := prog_1_method_34_code, exceptionTable := #[], attributes := #[] }
def k2m30 : Method := { name := "maxResponse", desc := "(I)I", sig := { parameters := [.int], returnType := some .int }, accessFlags := 1, code := some k2c30 }
def k2c31 : Code := { maxStack := 2, maxLocals := 2, code := prog_1_method_35_code, exceptionTable := #[], attributes := #[] }
def k2m31 : Method := { name := "jobsDone", desc := "(I)I", sig := { parameters := [.int], returnType := some .int }, accessFlags := 1, code := some k2c31 }
def k2c32 : Code := { maxStack := 1, maxLocals := 1, code := prog_1_method_36_code, exceptionTable := #[], attributes := #[] }
def k2m32 : Method := { name := "misses", desc := "()I", sig := { parameters := [], returnType := some .int }, accessFlags := 1, code := some k2c32 }
/-- ResponseTimeGate -/
def k2 : Class := { plain "ResponseTimeGate" (some 0) with
  accessFlags := 49
  interfaces := #[]
  cf := some (fileOf pool2 8 #[] #[{ accessFlags := 1, nameIndex := 5, descriptorIndex := 118, attributes := #[] }, { accessFlags := 1, nameIndex := 206, descriptorIndex := 207, attributes := #[] }, { accessFlags := 2, nameIndex := 93, descriptorIndex := 94, attributes := #[] }, { accessFlags := 1, nameIndex := 208, descriptorIndex := 138, attributes := #[] }, { accessFlags := 2, nameIndex := 109, descriptorIndex := 110, attributes := #[] }, { accessFlags := 1, nameIndex := 209, descriptorIndex := 160, attributes := #[] }, { accessFlags := 2, nameIndex := 117, descriptorIndex := 118, attributes := #[] }, { accessFlags := 2, nameIndex := 125, descriptorIndex := 118, attributes := #[] }, { accessFlags := 2, nameIndex := 128, descriptorIndex := 114, attributes := #[] }, { accessFlags := 2, nameIndex := 113, descriptorIndex := 114, attributes := #[] }, { accessFlags := 2, nameIndex := 121, descriptorIndex := 122, attributes := #[] }, { accessFlags := 2, nameIndex := 131, descriptorIndex := 118, attributes := #[] }, { accessFlags := 2, nameIndex := 134, descriptorIndex := 114, attributes := #[] }, { accessFlags := 2, nameIndex := 137, descriptorIndex := 138, attributes := #[] }, { accessFlags := 2, nameIndex := 141, descriptorIndex := 138, attributes := #[] }, { accessFlags := 2, nameIndex := 144, descriptorIndex := 94, attributes := #[] }, { accessFlags := 1, nameIndex := 210, descriptorIndex := 160, attributes := #[] }, { accessFlags := 1, nameIndex := 211, descriptorIndex := 122, attributes := #[] }, { accessFlags := 1, nameIndex := 214, descriptorIndex := 160, attributes := #[] }, { accessFlags := 2, nameIndex := 90, descriptorIndex := 6, attributes := #[] }, { accessFlags := 1, nameIndex := 216, descriptorIndex := 122, attributes := #[] }, { accessFlags := 2, nameIndex := 153, descriptorIndex := 6, attributes := #[] }, { accessFlags := 2, nameIndex := 156, descriptorIndex := 6, attributes := #[] }, { accessFlags := 2, nameIndex := 169, descriptorIndex := 122, attributes := #[] }, { accessFlags := 2, nameIndex := 159, descriptorIndex := 160, attributes := #[] }, { accessFlags := 2, nameIndex := 172, descriptorIndex := 118, attributes := #[] }, { accessFlags := 2, nameIndex := 163, descriptorIndex := 118, attributes := #[] }, { accessFlags := 2, nameIndex := 175, descriptorIndex := 118, attributes := #[] }, { accessFlags := 2, nameIndex := 166, descriptorIndex := 6, attributes := #[] }, { accessFlags := 1, nameIndex := 217, descriptorIndex := 160, attributes := #[] }, { accessFlags := 1, nameIndex := 218, descriptorIndex := 122, attributes := #[] }, { accessFlags := 1, nameIndex := 219, descriptorIndex := 122, attributes := #[] }, { accessFlags := 1, nameIndex := 220, descriptorIndex := 160, attributes := #[] }] 49 2 #[] #[{ accessFlags := 25, nameIndex := 176, descriptorIndex := 74, attributes := #[] }, { accessFlags := 25, nameIndex := 179, descriptorIndex := 74, attributes := #[] }, { accessFlags := 25, nameIndex := 181, descriptorIndex := 74, attributes := #[] }, { accessFlags := 25, nameIndex := 183, descriptorIndex := 74, attributes := #[] }, { accessFlags := 25, nameIndex := 184, descriptorIndex := 74, attributes := #[] }, { accessFlags := 25, nameIndex := 186, descriptorIndex := 74, attributes := #[] }, { accessFlags := 25, nameIndex := 187, descriptorIndex := 74, attributes := #[] }, { accessFlags := 25, nameIndex := 189, descriptorIndex := 74, attributes := #[] }, { accessFlags := 25, nameIndex := 191, descriptorIndex := 74, attributes := #[] }, { accessFlags := 25, nameIndex := 193, descriptorIndex := 74, attributes := #[] }, { accessFlags := 25, nameIndex := 195, descriptorIndex := 74, attributes := #[] }, { accessFlags := 25, nameIndex := 197, descriptorIndex := 74, attributes := #[] }, { accessFlags := 25, nameIndex := 199, descriptorIndex := 74, attributes := #[] }, { accessFlags := 25, nameIndex := 201, descriptorIndex := 74, attributes := #[] }, { accessFlags := 2, nameIndex := 73, descriptorIndex := 74, attributes := #[] }, { accessFlags := 2, nameIndex := 77, descriptorIndex := 74, attributes := #[] }, { accessFlags := 2, nameIndex := 11, descriptorIndex := 12, attributes := #[] }, { accessFlags := 2, nameIndex := 15, descriptorIndex := 12, attributes := #[] }, { accessFlags := 2, nameIndex := 18, descriptorIndex := 12, attributes := #[] }, { accessFlags := 2, nameIndex := 21, descriptorIndex := 12, attributes := #[] }, { accessFlags := 2, nameIndex := 24, descriptorIndex := 12, attributes := #[] }, { accessFlags := 2, nameIndex := 27, descriptorIndex := 12, attributes := #[] }, { accessFlags := 2, nameIndex := 30, descriptorIndex := 12, attributes := #[] }, { accessFlags := 2, nameIndex := 33, descriptorIndex := 12, attributes := #[] }, { accessFlags := 2, nameIndex := 36, descriptorIndex := 12, attributes := #[] }, { accessFlags := 2, nameIndex := 87, descriptorIndex := 74, attributes := #[] }, { accessFlags := 2, nameIndex := 84, descriptorIndex := 74, attributes := #[] }, { accessFlags := 2, nameIndex := 80, descriptorIndex := 81, attributes := #[] }, { accessFlags := 2, nameIndex := 97, descriptorIndex := 74, attributes := #[] }, { accessFlags := 2, nameIndex := 100, descriptorIndex := 74, attributes := #[] }, { accessFlags := 2, nameIndex := 103, descriptorIndex := 74, attributes := #[] }, { accessFlags := 2, nameIndex := 106, descriptorIndex := 74, attributes := #[] }, { accessFlags := 2, nameIndex := 39, descriptorIndex := 12, attributes := #[] }, { accessFlags := 2, nameIndex := 42, descriptorIndex := 12, attributes := #[] }, { accessFlags := 2, nameIndex := 45, descriptorIndex := 12, attributes := #[] }, { accessFlags := 2, nameIndex := 48, descriptorIndex := 12, attributes := #[] }, { accessFlags := 2, nameIndex := 51, descriptorIndex := 12, attributes := #[] }, { accessFlags := 2, nameIndex := 147, descriptorIndex := 74, attributes := #[] }, { accessFlags := 2, nameIndex := 150, descriptorIndex := 74, attributes := #[] }, { accessFlags := 2, nameIndex := 54, descriptorIndex := 55, attributes := #[] }, { accessFlags := 2, nameIndex := 58, descriptorIndex := 12, attributes := #[] }, { accessFlags := 2, nameIndex := 61, descriptorIndex := 12, attributes := #[] }, { accessFlags := 2, nameIndex := 64, descriptorIndex := 12, attributes := #[] }, { accessFlags := 2, nameIndex := 67, descriptorIndex := 12, attributes := #[] }, { accessFlags := 2, nameIndex := 70, descriptorIndex := 12, attributes := #[] }])
  fields := #[{ name := "MAX_TASKS", type := .int, accessFlags := 25, slot := 0, constantValue := 0 }, { name := "RESOURCES", type := .int, accessFlags := 25, slot := 1, constantValue := 0 }, { name := "MAX_PERIOD", type := .int, accessFlags := 25, slot := 2, constantValue := 0 }, { name := "HYPER_LIMIT", type := .int, accessFlags := 25, slot := 3, constantValue := 0 }, { name := "MAX_PRIORITY", type := .int, accessFlags := 25, slot := 4, constantValue := 0 }, { name := "MAX_RUN", type := .int, accessFlags := 25, slot := 5, constantValue := 0 }, { name := "OK", type := .int, accessFlags := 25, slot := 6, constantValue := 0 }, { name := "ERR_FULL", type := .int, accessFlags := 25, slot := 7, constantValue := 0 }, { name := "ERR_BAD_ARG", type := .int, accessFlags := 25, slot := 8, constantValue := 0 }, { name := "ERR_PRIORITY", type := .int, accessFlags := 25, slot := 9, constantValue := 0 }, { name := "ERR_NO_STAGED", type := .int, accessFlags := 25, slot := 10, constantValue := 0 }, { name := "ERR_SECTION", type := .int, accessFlags := 25, slot := 11, constantValue := 0 }, { name := "REJ_HYPER", type := .int, accessFlags := 25, slot := 12, constantValue := 0 }, { name := "REJ_DEADLINE", type := .int, accessFlags := 25, slot := 13, constantValue := 0 }, { name := "cap", type := .int, accessFlags := 2, slot := 0, constantValue := 0 }, { name := "count", type := .int, accessFlags := 2, slot := 1, constantValue := 0 }, { name := "per", type := (.array .int), accessFlags := 2, slot := 2, constantValue := 0 }, { name := "dl", type := (.array .int), accessFlags := 2, slot := 3, constantValue := 0 }, { name := "wc", type := (.array .int), accessFlags := 2, slot := 4, constantValue := 0 }, { name := "pr", type := (.array .int), accessFlags := 2, slot := 5, constantValue := 0 }, { name := "secS", type := (.array .int), accessFlags := 2, slot := 6, constantValue := 0 }, { name := "secL", type := (.array .int), accessFlags := 2, slot := 7, constantValue := 0 }, { name := "bnd", type := (.array .int), accessFlags := 2, slot := 8, constantValue := 0 }, { name := "blk", type := (.array .int), accessFlags := 2, slot := 9, constantValue := 0 }, { name := "ceil", type := (.array .int), accessFlags := 2, slot := 10, constantValue := 0 }, { name := "hyper", type := .int, accessFlags := 2, slot := 11, constantValue := 0 }, { name := "failed", type := .int, accessFlags := 2, slot := 12, constantValue := 0 }, { name := "staged", type := .boolean, accessFlags := 2, slot := 13, constantValue := 0 }, { name := "stT", type := .int, accessFlags := 2, slot := 14, constantValue := 0 }, { name := "stD", type := .int, accessFlags := 2, slot := 15, constantValue := 0 }, { name := "stC", type := .int, accessFlags := 2, slot := 16, constantValue := 0 }, { name := "stP", type := .int, accessFlags := 2, slot := 17, constantValue := 0 }, { name := "stS", type := (.array .int), accessFlags := 2, slot := 18, constantValue := 0 }, { name := "stL", type := (.array .int), accessFlags := 2, slot := 19, constantValue := 0 }, { name := "candCeil", type := (.array .int), accessFlags := 2, slot := 20, constantValue := 0 }, { name := "candB", type := (.array .int), accessFlags := 2, slot := 21, constantValue := 0 }, { name := "candR", type := (.array .int), accessFlags := 2, slot := 22, constantValue := 0 }, { name := "now", type := .int, accessFlags := 2, slot := 23, constantValue := 0 }, { name := "missCount", type := .int, accessFlags := 2, slot := 24, constantValue := 0 }, { name := "pend", type := (.array .boolean), accessFlags := 2, slot := 25, constantValue := 0 }, { name := "rel", type := (.array .int), accessFlags := 2, slot := 26, constantValue := 0 }, { name := "prog", type := (.array .int), accessFlags := 2, slot := 27, constantValue := 0 }, { name := "held", type := (.array .int), accessFlags := 2, slot := 28, constantValue := 0 }, { name := "done", type := (.array .int), accessFlags := 2, slot := 29, constantValue := 0 }, { name := "maxR", type := (.array .int), accessFlags := 2, slot := 30, constantValue := 0 }]
  methods := #[k2m0, k2m1, k2m2, k2m3, k2m4, k2m5, k2m6, k2m7, k2m8, k2m9, k2m10, k2m11, k2m12, k2m13, k2m14, k2m15, k2m16, k2m17, k2m18, k2m19, k2m20, k2m21, k2m22, k2m23, k2m24, k2m25, k2m26, k2m27, k2m28, k2m29, k2m30, k2m31, k2m32]
  instanceTypes := #[.int, .int, (.array .int), (.array .int), (.array .int), (.array .int), (.array .int), (.array .int), (.array .int), (.array .int), (.array .int), .int, .int, .boolean, .int, .int, .int, .int, (.array .int), (.array .int), (.array .int), (.array .int), (.array .int), .int, .int, (.array .boolean), (.array .int), (.array .int), (.array .int), (.array .int), (.array .int)]
  staticTypes := #[.int, .int, .int, .int, .int, .int, .int, .int, .int, .int, .int, .int, .int, .int]
  resolved := Array.replicate 225 none
  statics := none }

def pool3 : Array CpInfo := pool [(1, u "java/lang/Cloneable"), (0, .class_ 1), (0, u "java/lang/Object"), (0, .class_ 3)] 3

/-- java/lang/Cloneable -/
def k3 : Class := { plain "java/lang/Cloneable" (some 0) with
  accessFlags := 1537
  interfaces := #[]
  cf := some (fileOf pool3 2 #[] #[] 1537 4 #[] #[])
  fields := #[]
  methods := #[]
  instanceTypes := #[]
  staticTypes := #[]
  resolved := Array.replicate 8 none
  statics := none }

def pool4 : Array CpInfo := pool [(1, u "java/io/Serializable"), (0, .class_ 1), (0, u "java/lang/Object"), (0, .class_ 3)] 3

/-- java/io/Serializable -/
def k4 : Class := { plain "java/io/Serializable" (some 0) with
  accessFlags := 1537
  interfaces := #[]
  cf := some (fileOf pool4 2 #[] #[] 1537 4 #[] #[])
  fields := #[]
  methods := #[]
  instanceTypes := #[]
  staticTypes := #[]
  resolved := Array.replicate 8 none
  statics := none }

/-- the primitive boolean -/
def k5 : Class := { plain "boolean" none with kind := .primitive 'Z', accessFlags := 0x411 }
/-- [Z -/
def k6 : Class := { plain "[Z" (some 0) with kind := .array 5 .boolean, interfaces := #[3, 4], accessFlags := 1041 }

/-- the primitive byte -/
def k7 : Class := { plain "byte" none with kind := .primitive 'B', accessFlags := 0x411 }
/-- [B -/
def k8 : Class := { plain "[B" (some 0) with kind := .array 7 .byte, interfaces := #[3, 4], accessFlags := 1041 }

/-- the primitive int -/
def k9 : Class := { plain "int" none with kind := .primitive 'I', accessFlags := 0x411 }
/-- [I -/
def k10 : Class := { plain "[I" (some 0) with kind := .array 9 .int, interfaces := #[3, 4], accessFlags := 1041 }

def heap : Heap := #[{ cls := 10, slots := #[.int 0, .int 1], vm := .none }]
def classes : Array Class := #[k0, k1, k2, k3, k4, k5, k6, k7, k8, k9, k10]
def interned : List (Array UInt16 × Addr) := []
def slotsUsed : Nat := 2
def theMethod : MethodId := ⟨1, 6⟩
def args0 : Array Value := #[.ref 0]
def aboutOver (below : List Frame) : State where
  vm := { classes := classes, interned := interned.toArray }
  heap := heap
  slotsUsed := slotsUsed
  threads := #[{ frames := .invoking theMethod args0 :: below }]
def below0 : List Frame := [.native { method := ⟨0, 0⟩, args := #[] }]
def about1 : State := aboutOver below0
def p0 : Program := .bare "" "" ""
def e0 : Env := launch0.env 0 0 0
theorem w_frames : about1.frames = Frame.invoking theMethod args0 :: below0 := rfl
set_option maxRecDepth 65536 in
theorem w_args : argsFit about1.vm theMethod args0 = true := by decide +kernel
set_option maxRecDepth 65536 in
theorem w_heap : heapFits about1 = true := by decide +kernel
set_option maxRecDepth 65536 in
theorem w_runnable : about1.curStatus? = some .runnable := by decide +kernel
set_option maxRecDepth 65536 in
theorem w_alone : about1.alone = true := by decide +kernel
set_option maxRecDepth 65536 in
theorem w_named : about1.methodNamed? x = some theMethod := by decide +kernel
set_option maxRecDepth 65536 in
theorem w_hears : about1.hears theMethod below0 = true := by decide +kernel
set_option maxRecDepth 65536 in
theorem w_ripe : about1.ripe theMethod args0 below0 = true := by decide +kernel
theorem w_running : about1.status = .running := rfl
set_option maxRecDepth 65536 in
theorem w_room : about1.hasRoom e0.platform room_1 = true :=
  launch0.hasRoom_least _ room_1 (by decide +kernel) (by decide +kernel) (by decide +kernel) (by decide +kernel) (by decide +kernel) (by decide +kernel)
theorem allAtoms_all (ts : List Jvm.Cond) (a : Array Jvm.Value) (st : Jvm.State) : (allAtoms ts).before a st = ts.all (fun c => c.before a st) := by
  induction ts with
  | nil => rfl
  | cons c t ih =>
    show (Jvm.Cond.and c (allAtoms t)).before a st = _
    rw [Jvm.Cond.before_and, ih, List.all_cons]
def words1 : List Jvm.Cond := Jvm.Cond.code x code maxLocals ret :: tables_1
/-- a 'code' word, met by the world's own term for the bytes: nothing is compared byte by byte -/
theorem code_word {y : MethodName} {bytes : ByteArray} {mx : Nat} {rt : Option FieldType} {a : Array Value} {s : State} {m : MethodId} {meth : Method} {c : Code} (h1 : s.methodNamed? y = some m) (h2 : s.vm.method? m = some meth) (h3 : meth.code = some c) (h4 : c.code = bytes)
    (h5 : (c.maxLocals == mx && c.exceptionTable.isEmpty && decide (c.maxStack ≤ mostOperands) && decide (meth.sig.returnType = rt) && !meth.locks && decide (parseMethodDescriptor y.desc = some meth.sig)) = true) : (Jvm.Cond.code y bytes mx rt).before a s = true := by
  simp only [Bool.and_eq_true, beq_iff_eq, Bool.not_eq_true', decide_eq_true_eq] at h5
  obtain ⟨⟨⟨⟨⟨g1, g2⟩, g3⟩, g4⟩, g5⟩, g6⟩ := h5
  simp [Cond.before, Cond.holds, Cond.value, h1, h2, h3, h4, g1, g2, g3, g4, g5, g6]
def isCode : Jvm.Cond → Bool
  | .code _ _ _ _ => true
  | _ => false
theorem all_split {L : List Jvm.Cond} {P : Jvm.Cond → Bool} (h1 : L.all (fun c => isCode c || P c) = true) (h2 : ∀ c ∈ L.filter isCode, P c = true) : L.all P = true := by
  refine List.all_eq_true.mpr fun c hc => ?_
  have h := List.all_eq_true.mp h1 c hc
  rcases Bool.eq_false_or_eq_true (isCode c) with hi | hi
  · exact h2 c (List.mem_filter.mpr ⟨hc, hi⟩)
  · simpa [hi] using h
set_option maxRecDepth 65536 in
theorem w_c0 : (Jvm.Cond.code x code maxLocals ret).before args0 about1 = true := code_word (m := ⟨1, 6⟩) (meth := k1m6) (c := k1c6) (by decide +kernel) rfl rfl rfl (by decide +kernel)
set_option maxRecDepth 65536 in
theorem w_c1 : (Jvm.Cond.code ({ cls := "ResponseTimeGateOwnLaw", name := "cell", desc := "([II)I" } : Jvm.MethodName) method_2_code (2 : Nat) (Option.some Jvm.ClassFile.FieldType.int)).before args0 about1 = true := code_word (m := ⟨1, 1⟩) (meth := k1m1) (c := k1c1) (by decide +kernel) rfl rfl rfl (by decide +kernel)
set_option maxRecDepth 65536 in
theorem w_c2 : (Jvm.Cond.code ({ cls := "ResponseTimeGateOwnLaw", name := "mod", desc := "(II)I" } : Jvm.MethodName) method_3_code (3 : Nat) (Option.some Jvm.ClassFile.FieldType.int)).before args0 about1 = true := code_word (m := ⟨1, 2⟩) (meth := k1m2) (c := k1c2) (by decide +kernel) rfl rfl rfl (by decide +kernel)
set_option maxRecDepth 65536 in
theorem w_c3 : (Jvm.Cond.code ({ cls := "ResponseTimeGate", name := "<init>", desc := "(I)V" } : Jvm.MethodName) prog_1_method_1_code (4 : Nat) (Option.none : Option Jvm.ClassFile.FieldType)).before args0 about1 = true := code_word (m := ⟨2, 0⟩) (meth := k2m0) (c := k2c0) (by decide +kernel) rfl rfl rfl (by decide +kernel)
set_option maxRecDepth 65536 in
theorem w_c4 : (Jvm.Cond.code ({ cls := "java/lang/Object", name := "<init>", desc := "()V" } : Jvm.MethodName) object_method_1_code (1 : Nat) (Option.none : Option Jvm.ClassFile.FieldType)).before args0 about1 = true := code_word (m := ⟨0, 0⟩) (meth := k0m0) (c := k0c0) (by decide +kernel) rfl rfl rfl (by decide +kernel)
set_option maxRecDepth 65536 in
theorem w_c5 : (Jvm.Cond.code ({ cls := "ResponseTimeGate", name := "resetSim", desc := "()V" } : Jvm.MethodName) prog_1_method_23_code (2 : Nat) (Option.none : Option Jvm.ClassFile.FieldType)).before args0 about1 = true := code_word (m := ⟨2, 19⟩) (meth := k2m19) (c := k2c19) (by decide +kernel) rfl rfl rfl (by decide +kernel)
set_option maxRecDepth 65536 in
theorem w_c6 : (Jvm.Cond.code ({ cls := "ResponseTimeGate", name := "misses", desc := "()I" } : Jvm.MethodName) prog_1_method_36_code (1 : Nat) (Option.some Jvm.ClassFile.FieldType.int)).before args0 about1 = true := code_word (m := ⟨2, 32⟩) (meth := k2m32) (c := k2c32) (by decide +kernel) rfl rfl rfl (by decide +kernel)
set_option maxRecDepth 65536 in
theorem w_c7 : (Jvm.Cond.code ({ cls := "ResponseTimeGate", name := "taskCount", desc := "()I" } : Jvm.MethodName) prog_1_method_17_code (1 : Nat) (Option.some Jvm.ClassFile.FieldType.int)).before args0 about1 = true := code_word (m := ⟨2, 16⟩) (meth := k2m16) (c := k2c16) (by decide +kernel) rfl rfl rfl (by decide +kernel)
set_option maxRecDepth 65536 in
theorem w_c8 : (Jvm.Cond.code ({ cls := "ResponseTimeGate", name := "hyperperiod", desc := "()I" } : Jvm.MethodName) prog_1_method_21_code (1 : Nat) (Option.some Jvm.ClassFile.FieldType.int)).before args0 about1 = true := code_word (m := ⟨2, 18⟩) (meth := k2m18) (c := k2c18) (by decide +kernel) rfl rfl rfl (by decide +kernel)
set_option maxRecDepth 65536 in
theorem w_c9 : (Jvm.Cond.code ({ cls := "ResponseTimeGateOwnLaw", name := "pick", desc := "(I)I" } : Jvm.MethodName) method_4_code (1 : Nat) (Option.some Jvm.ClassFile.FieldType.int)).before args0 about1 = true := code_word (m := ⟨1, 3⟩) (meth := k1m3) (c := k1c3) (by decide +kernel) rfl rfl rfl (by decide +kernel)
set_option maxRecDepth 65536 in
theorem w_c10 : (Jvm.Cond.code ({ cls := "ResponseTimeGate", name := "beginTask", desc := "(IIII)I" } : Jvm.MethodName) prog_1_method_2_code (6 : Nat) (Option.some Jvm.ClassFile.FieldType.int)).before args0 about1 = true := code_word (m := ⟨2, 1⟩) (meth := k2m1) (c := k2c1) (by decide +kernel) rfl rfl rfl (by decide +kernel)
set_option maxRecDepth 65536 in
theorem w_c11 : (Jvm.Cond.code ({ cls := "ResponseTimeGate", name := "priorityTaken", desc := "(I)Z" } : Jvm.MethodName) prog_1_method_3_code (3 : Nat) (Option.some Jvm.ClassFile.FieldType.boolean)).before args0 about1 = true := code_word (m := ⟨2, 2⟩) (meth := k2m2) (c := k2c2) (by decide +kernel) rfl rfl rfl (by decide +kernel)
set_option maxRecDepth 65536 in
theorem w_c12 : (Jvm.Cond.code ({ cls := "ResponseTimeGate", name := "addSection", desc := "(III)I" } : Jvm.MethodName) prog_1_method_4_code (4 : Nat) (Option.some Jvm.ClassFile.FieldType.int)).before args0 about1 = true := code_word (m := ⟨2, 3⟩) (meth := k2m3) (c := k2c3) (by decide +kernel) rfl rfl rfl (by decide +kernel)
set_option maxRecDepth 65536 in
theorem w_c13 : (Jvm.Cond.code ({ cls := "ResponseTimeGate", name := "overlapsStaged", desc := "(II)Z" } : Jvm.MethodName) prog_1_method_5_code (6 : Nat) (Option.some Jvm.ClassFile.FieldType.boolean)).before args0 about1 = true := code_word (m := ⟨2, 4⟩) (meth := k2m4) (c := k2c4) (by decide +kernel) rfl rfl rfl (by decide +kernel)
set_option maxRecDepth 65536 in
theorem w_c14 : (Jvm.Cond.code ({ cls := "ResponseTimeGate", name := "commitTask", desc := "()I" } : Jvm.MethodName) prog_1_method_6_code (4 : Nat) (Option.some Jvm.ClassFile.FieldType.int)).before args0 about1 = true := code_word (m := ⟨2, 5⟩) (meth := k2m5) (c := k2c5) (by decide +kernel) rfl rfl rfl (by decide +kernel)
set_option maxRecDepth 65536 in
theorem w_c15 : (Jvm.Cond.code ({ cls := "ResponseTimeGate", name := "lcmWith", desc := "(II)I" } : Jvm.MethodName) prog_1_method_10_code (4 : Nat) (Option.some Jvm.ClassFile.FieldType.int)).before args0 about1 = true := code_word (m := ⟨2, 9⟩) (meth := k2m9) (c := k2c9) (by decide +kernel) rfl rfl rfl (by decide +kernel)
set_option maxRecDepth 65536 in
theorem w_c16 : (Jvm.Cond.code ({ cls := "ResponseTimeGate", name := "gcd", desc := "(II)I" } : Jvm.MethodName) prog_1_method_9_code (7 : Nat) (Option.some Jvm.ClassFile.FieldType.int)).before args0 about1 = true := code_word (m := ⟨2, 8⟩) (meth := k2m8) (c := k2c8) (by decide +kernel) rfl rfl rfl (by decide +kernel)
set_option maxRecDepth 65536 in
theorem w_c17 : (Jvm.Cond.code ({ cls := "ResponseTimeGate", name := "placeStaged", desc := "(I)V" } : Jvm.MethodName) prog_1_method_7_code (3 : Nat) (Option.none : Option Jvm.ClassFile.FieldType)).before args0 about1 = true := code_word (m := ⟨2, 6⟩) (meth := k2m6) (c := k2c6) (by decide +kernel) rfl rfl rfl (by decide +kernel)
set_option maxRecDepth 65536 in
theorem w_c18 : (Jvm.Cond.code ({ cls := "ResponseTimeGate", name := "analyze", desc := "(I)I" } : Jvm.MethodName) prog_1_method_11_code (5 : Nat) (Option.some Jvm.ClassFile.FieldType.int)).before args0 about1 = true := code_word (m := ⟨2, 10⟩) (meth := k2m10) (c := k2c10) (by decide +kernel) rfl rfl rfl (by decide +kernel)
set_option maxRecDepth 65536 in
theorem w_c19 : (Jvm.Cond.code ({ cls := "ResponseTimeGate", name := "computeCeilings", desc := "(I)V" } : Jvm.MethodName) prog_1_method_12_code (5 : Nat) (Option.none : Option Jvm.ClassFile.FieldType)).before args0 about1 = true := code_word (m := ⟨2, 11⟩) (meth := k2m11) (c := k2c11) (by decide +kernel) rfl rfl rfl (by decide +kernel)
set_option maxRecDepth 65536 in
theorem w_c20 : (Jvm.Cond.code ({ cls := "ResponseTimeGate", name := "blockingOf", desc := "(II)I" } : Jvm.MethodName) prog_1_method_13_code (8 : Nat) (Option.some Jvm.ClassFile.FieldType.int)).before args0 about1 = true := code_word (m := ⟨2, 12⟩) (meth := k2m12) (c := k2c12) (by decide +kernel) rfl rfl rfl (by decide +kernel)
set_option maxRecDepth 65536 in
theorem w_c21 : (Jvm.Cond.code ({ cls := "ResponseTimeGate", name := "responseOf", desc := "(III)I" } : Jvm.MethodName) prog_1_method_14_code (8 : Nat) (Option.some Jvm.ClassFile.FieldType.int)).before args0 about1 = true := code_word (m := ⟨2, 13⟩) (meth := k2m13) (c := k2c13) (by decide +kernel) rfl rfl rfl (by decide +kernel)
set_option maxRecDepth 65536 in
theorem w_c22 : (Jvm.Cond.code ({ cls := "ResponseTimeGate", name := "interference", desc := "(III)I" } : Jvm.MethodName) prog_1_method_15_code (8 : Nat) (Option.some Jvm.ClassFile.FieldType.int)).before args0 about1 = true := code_word (m := ⟨2, 14⟩) (meth := k2m14) (c := k2c14) (by decide +kernel) rfl rfl rfl (by decide +kernel)
set_option maxRecDepth 65536 in
theorem w_c23 : (Jvm.Cond.code ({ cls := "ResponseTimeGate", name := "adoptResults", desc := "(I)V" } : Jvm.MethodName) prog_1_method_8_code (3 : Nat) (Option.none : Option Jvm.ClassFile.FieldType)).before args0 about1 = true := code_word (m := ⟨2, 7⟩) (meth := k2m7) (c := k2c7) (by decide +kernel) rfl rfl rfl (by decide +kernel)
set_option maxRecDepth 65536 in
theorem w_c24 : (Jvm.Cond.code ({ cls := "ResponseTimeGateOwnLaw", name := "setP", desc := "(JII)J" } : Jvm.MethodName) method_5_code (6 : Nat) (Option.some Jvm.ClassFile.FieldType.long)).before args0 about1 = true := code_word (m := ⟨1, 4⟩) (meth := k1m4) (c := k1c4) (by decide +kernel) rfl rfl rfl (by decide +kernel)
set_option maxRecDepth 65536 in
theorem w_c25 : (Jvm.Cond.code ({ cls := "ResponseTimeGate", name := "maxResponse", desc := "(I)I" } : Jvm.MethodName) prog_1_method_34_code (2 : Nat) (Option.some Jvm.ClassFile.FieldType.int)).before args0 about1 = true := code_word (m := ⟨2, 30⟩) (meth := k2m30) (c := k2c30) (by decide +kernel) rfl rfl rfl (by decide +kernel)
set_option maxRecDepth 65536 in
theorem w_c26 : (Jvm.Cond.code ({ cls := "ResponseTimeGate", name := "admitted", desc := "(I)Z" } : Jvm.MethodName) prog_1_method_16_code (2 : Nat) (Option.some Jvm.ClassFile.FieldType.boolean)).before args0 about1 = true := code_word (m := ⟨2, 15⟩) (meth := k2m15) (c := k2c15) (by decide +kernel) rfl rfl rfl (by decide +kernel)
set_option maxRecDepth 65536 in
theorem w_c27 : (Jvm.Cond.code ({ cls := "ResponseTimeGate", name := "bound", desc := "(I)I" } : Jvm.MethodName) prog_1_method_18_code (2 : Nat) (Option.some Jvm.ClassFile.FieldType.int)).before args0 about1 = true := code_word (m := ⟨2, 17⟩) (meth := k2m17) (c := k2c17) (by decide +kernel) rfl rfl rfl (by decide +kernel)
set_option maxRecDepth 65536 in
theorem w_c28 : (Jvm.Cond.code ({ cls := "ResponseTimeGate", name := "time", desc := "()I" } : Jvm.MethodName) prog_1_method_33_code (1 : Nat) (Option.some Jvm.ClassFile.FieldType.int)).before args0 about1 = true := code_word (m := ⟨2, 29⟩) (meth := k2m29) (c := k2c29) (by decide +kernel) rfl rfl rfl (by decide +kernel)
set_option maxRecDepth 65536 in
theorem w_c29 : (Jvm.Cond.code ({ cls := "ResponseTimeGate", name := "run", desc := "(I)I" } : Jvm.MethodName) prog_1_method_24_code (4 : Nat) (Option.some Jvm.ClassFile.FieldType.int)).before args0 about1 = true := code_word (m := ⟨2, 20⟩) (meth := k2m20) (c := k2c20) (by decide +kernel) rfl rfl rfl (by decide +kernel)
set_option maxRecDepth 65536 in
theorem w_c30 : (Jvm.Cond.code ({ cls := "ResponseTimeGate", name := "tick", desc := "()V" } : Jvm.MethodName) prog_1_method_25_code (2 : Nat) (Option.none : Option Jvm.ClassFile.FieldType)).before args0 about1 = true := code_word (m := ⟨2, 21⟩) (meth := k2m21) (c := k2c21) (by decide +kernel) rfl rfl rfl (by decide +kernel)
set_option maxRecDepth 65536 in
theorem w_c31 : (Jvm.Cond.code ({ cls := "ResponseTimeGate", name := "releaseJobs", desc := "()V" } : Jvm.MethodName) prog_1_method_26_code (3 : Nat) (Option.none : Option Jvm.ClassFile.FieldType)).before args0 about1 = true := code_word (m := ⟨2, 22⟩) (meth := k2m22) (c := k2c22) (by decide +kernel) rfl rfl rfl (by decide +kernel)
set_option maxRecDepth 65536 in
theorem w_c32 : (Jvm.Cond.code ({ cls := "ResponseTimeGate", name := "pickRunning", desc := "()I" } : Jvm.MethodName) prog_1_method_28_code (7 : Nat) (Option.some Jvm.ClassFile.FieldType.int)).before args0 about1 = true := code_word (m := ⟨2, 24⟩) (meth := k2m24) (c := k2c24) (by decide +kernel) rfl rfl rfl (by decide +kernel)
set_option maxRecDepth 65536 in
theorem w_c33 : (Jvm.Cond.code ({ cls := "ResponseTimeGate", name := "activePriority", desc := "(I)I" } : Jvm.MethodName) prog_1_method_27_code (3 : Nat) (Option.some Jvm.ClassFile.FieldType.int)).before args0 about1 = true := code_word (m := ⟨2, 23⟩) (meth := k2m23) (c := k2c23) (by decide +kernel) rfl rfl rfl (by decide +kernel)
set_option maxRecDepth 65536 in
theorem w_c34 : (Jvm.Cond.code ({ cls := "ResponseTimeGate", name := "executeUnit", desc := "(I)V" } : Jvm.MethodName) prog_1_method_30_code (3 : Nat) (Option.none : Option Jvm.ClassFile.FieldType)).before args0 about1 = true := code_word (m := ⟨2, 26⟩) (meth := k2m26) (c := k2c26) (by decide +kernel) rfl rfl rfl (by decide +kernel)
set_option maxRecDepth 65536 in
theorem w_c35 : (Jvm.Cond.code ({ cls := "ResponseTimeGate", name := "takeResourceIfStart", desc := "(I)V" } : Jvm.MethodName) prog_1_method_29_code (3 : Nat) (Option.none : Option Jvm.ClassFile.FieldType)).before args0 about1 = true := code_word (m := ⟨2, 25⟩) (meth := k2m25) (c := k2c25) (by decide +kernel) rfl rfl rfl (by decide +kernel)
set_option maxRecDepth 65536 in
theorem w_c36 : (Jvm.Cond.code ({ cls := "ResponseTimeGate", name := "checkMisses", desc := "()V" } : Jvm.MethodName) prog_1_method_32_code (2 : Nat) (Option.none : Option Jvm.ClassFile.FieldType)).before args0 about1 = true := code_word (m := ⟨2, 28⟩) (meth := k2m28) (c := k2c28) (by decide +kernel) rfl rfl rfl (by decide +kernel)
set_option maxRecDepth 65536 in
theorem w_c37 : (Jvm.Cond.code ({ cls := "ResponseTimeGate", name := "completeJob", desc := "(I)V" } : Jvm.MethodName) prog_1_method_31_code (3 : Nat) (Option.none : Option Jvm.ClassFile.FieldType)).before args0 about1 = true := code_word (m := ⟨2, 27⟩) (meth := k2m27) (c := k2c27) (by decide +kernel) rfl rfl rfl (by decide +kernel)
set_option maxRecDepth 65536 in
theorem w_c38 : (Jvm.Cond.code ({ cls := "ResponseTimeGateOwnLaw", name := "getP", desc := "(JI)I" } : Jvm.MethodName) method_6_code (3 : Nat) (Option.some Jvm.ClassFile.FieldType.int)).before args0 about1 = true := code_word (m := ⟨1, 5⟩) (meth := k1m5) (c := k1c5) (by decide +kernel) rfl rfl rfl (by decide +kernel)
set_option maxRecDepth 65536 in
theorem w_c39 : (Jvm.Cond.code ({ cls := "ResponseTimeGate", name := "jobsDone", desc := "(I)I" } : Jvm.MethodName) prog_1_method_35_code (2 : Nat) (Option.some Jvm.ClassFile.FieldType.int)).before args0 about1 = true := code_word (m := ⟨2, 31⟩) (meth := k2m31) (c := k2c31) (by decide +kernel) rfl rfl rfl (by decide +kernel)
def codes1 : List Jvm.Cond := [Jvm.Cond.code x code maxLocals ret, Jvm.Cond.code ({ cls := "ResponseTimeGateOwnLaw", name := "cell", desc := "([II)I" } : Jvm.MethodName) method_2_code (2 : Nat) (Option.some Jvm.ClassFile.FieldType.int), Jvm.Cond.code ({ cls := "ResponseTimeGateOwnLaw", name := "mod", desc := "(II)I" } : Jvm.MethodName) method_3_code (3 : Nat) (Option.some Jvm.ClassFile.FieldType.int), Jvm.Cond.code ({ cls := "ResponseTimeGate", name := "<init>", desc := "(I)V" } : Jvm.MethodName) prog_1_method_1_code (4 : Nat) (Option.none : Option Jvm.ClassFile.FieldType), Jvm.Cond.code ({ cls := "java/lang/Object", name := "<init>", desc := "()V" } : Jvm.MethodName) object_method_1_code (1 : Nat) (Option.none : Option Jvm.ClassFile.FieldType), Jvm.Cond.code ({ cls := "ResponseTimeGate", name := "resetSim", desc := "()V" } : Jvm.MethodName) prog_1_method_23_code (2 : Nat) (Option.none : Option Jvm.ClassFile.FieldType), Jvm.Cond.code ({ cls := "ResponseTimeGate", name := "misses", desc := "()I" } : Jvm.MethodName) prog_1_method_36_code (1 : Nat) (Option.some Jvm.ClassFile.FieldType.int), Jvm.Cond.code ({ cls := "ResponseTimeGate", name := "taskCount", desc := "()I" } : Jvm.MethodName) prog_1_method_17_code (1 : Nat) (Option.some Jvm.ClassFile.FieldType.int), Jvm.Cond.code ({ cls := "ResponseTimeGate", name := "hyperperiod", desc := "()I" } : Jvm.MethodName) prog_1_method_21_code (1 : Nat) (Option.some Jvm.ClassFile.FieldType.int), Jvm.Cond.code ({ cls := "ResponseTimeGateOwnLaw", name := "pick", desc := "(I)I" } : Jvm.MethodName) method_4_code (1 : Nat) (Option.some Jvm.ClassFile.FieldType.int), Jvm.Cond.code ({ cls := "ResponseTimeGate", name := "beginTask", desc := "(IIII)I" } : Jvm.MethodName) prog_1_method_2_code (6 : Nat) (Option.some Jvm.ClassFile.FieldType.int), Jvm.Cond.code ({ cls := "ResponseTimeGate", name := "priorityTaken", desc := "(I)Z" } : Jvm.MethodName) prog_1_method_3_code (3 : Nat) (Option.some Jvm.ClassFile.FieldType.boolean), Jvm.Cond.code ({ cls := "ResponseTimeGate", name := "addSection", desc := "(III)I" } : Jvm.MethodName) prog_1_method_4_code (4 : Nat) (Option.some Jvm.ClassFile.FieldType.int), Jvm.Cond.code ({ cls := "ResponseTimeGate", name := "overlapsStaged", desc := "(II)Z" } : Jvm.MethodName) prog_1_method_5_code (6 : Nat) (Option.some Jvm.ClassFile.FieldType.boolean), Jvm.Cond.code ({ cls := "ResponseTimeGate", name := "commitTask", desc := "()I" } : Jvm.MethodName) prog_1_method_6_code (4 : Nat) (Option.some Jvm.ClassFile.FieldType.int), Jvm.Cond.code ({ cls := "ResponseTimeGate", name := "lcmWith", desc := "(II)I" } : Jvm.MethodName) prog_1_method_10_code (4 : Nat) (Option.some Jvm.ClassFile.FieldType.int), Jvm.Cond.code ({ cls := "ResponseTimeGate", name := "gcd", desc := "(II)I" } : Jvm.MethodName) prog_1_method_9_code (7 : Nat) (Option.some Jvm.ClassFile.FieldType.int), Jvm.Cond.code ({ cls := "ResponseTimeGate", name := "placeStaged", desc := "(I)V" } : Jvm.MethodName) prog_1_method_7_code (3 : Nat) (Option.none : Option Jvm.ClassFile.FieldType), Jvm.Cond.code ({ cls := "ResponseTimeGate", name := "analyze", desc := "(I)I" } : Jvm.MethodName) prog_1_method_11_code (5 : Nat) (Option.some Jvm.ClassFile.FieldType.int), Jvm.Cond.code ({ cls := "ResponseTimeGate", name := "computeCeilings", desc := "(I)V" } : Jvm.MethodName) prog_1_method_12_code (5 : Nat) (Option.none : Option Jvm.ClassFile.FieldType), Jvm.Cond.code ({ cls := "ResponseTimeGate", name := "blockingOf", desc := "(II)I" } : Jvm.MethodName) prog_1_method_13_code (8 : Nat) (Option.some Jvm.ClassFile.FieldType.int), Jvm.Cond.code ({ cls := "ResponseTimeGate", name := "responseOf", desc := "(III)I" } : Jvm.MethodName) prog_1_method_14_code (8 : Nat) (Option.some Jvm.ClassFile.FieldType.int), Jvm.Cond.code ({ cls := "ResponseTimeGate", name := "interference", desc := "(III)I" } : Jvm.MethodName) prog_1_method_15_code (8 : Nat) (Option.some Jvm.ClassFile.FieldType.int), Jvm.Cond.code ({ cls := "ResponseTimeGate", name := "adoptResults", desc := "(I)V" } : Jvm.MethodName) prog_1_method_8_code (3 : Nat) (Option.none : Option Jvm.ClassFile.FieldType), Jvm.Cond.code ({ cls := "ResponseTimeGateOwnLaw", name := "setP", desc := "(JII)J" } : Jvm.MethodName) method_5_code (6 : Nat) (Option.some Jvm.ClassFile.FieldType.long), Jvm.Cond.code ({ cls := "ResponseTimeGate", name := "maxResponse", desc := "(I)I" } : Jvm.MethodName) prog_1_method_34_code (2 : Nat) (Option.some Jvm.ClassFile.FieldType.int), Jvm.Cond.code ({ cls := "ResponseTimeGate", name := "admitted", desc := "(I)Z" } : Jvm.MethodName) prog_1_method_16_code (2 : Nat) (Option.some Jvm.ClassFile.FieldType.boolean), Jvm.Cond.code ({ cls := "ResponseTimeGate", name := "bound", desc := "(I)I" } : Jvm.MethodName) prog_1_method_18_code (2 : Nat) (Option.some Jvm.ClassFile.FieldType.int), Jvm.Cond.code ({ cls := "ResponseTimeGate", name := "time", desc := "()I" } : Jvm.MethodName) prog_1_method_33_code (1 : Nat) (Option.some Jvm.ClassFile.FieldType.int), Jvm.Cond.code ({ cls := "ResponseTimeGate", name := "run", desc := "(I)I" } : Jvm.MethodName) prog_1_method_24_code (4 : Nat) (Option.some Jvm.ClassFile.FieldType.int), Jvm.Cond.code ({ cls := "ResponseTimeGate", name := "tick", desc := "()V" } : Jvm.MethodName) prog_1_method_25_code (2 : Nat) (Option.none : Option Jvm.ClassFile.FieldType), Jvm.Cond.code ({ cls := "ResponseTimeGate", name := "releaseJobs", desc := "()V" } : Jvm.MethodName) prog_1_method_26_code (3 : Nat) (Option.none : Option Jvm.ClassFile.FieldType), Jvm.Cond.code ({ cls := "ResponseTimeGate", name := "pickRunning", desc := "()I" } : Jvm.MethodName) prog_1_method_28_code (7 : Nat) (Option.some Jvm.ClassFile.FieldType.int), Jvm.Cond.code ({ cls := "ResponseTimeGate", name := "activePriority", desc := "(I)I" } : Jvm.MethodName) prog_1_method_27_code (3 : Nat) (Option.some Jvm.ClassFile.FieldType.int), Jvm.Cond.code ({ cls := "ResponseTimeGate", name := "executeUnit", desc := "(I)V" } : Jvm.MethodName) prog_1_method_30_code (3 : Nat) (Option.none : Option Jvm.ClassFile.FieldType), Jvm.Cond.code ({ cls := "ResponseTimeGate", name := "takeResourceIfStart", desc := "(I)V" } : Jvm.MethodName) prog_1_method_29_code (3 : Nat) (Option.none : Option Jvm.ClassFile.FieldType), Jvm.Cond.code ({ cls := "ResponseTimeGate", name := "checkMisses", desc := "()V" } : Jvm.MethodName) prog_1_method_32_code (2 : Nat) (Option.none : Option Jvm.ClassFile.FieldType), Jvm.Cond.code ({ cls := "ResponseTimeGate", name := "completeJob", desc := "(I)V" } : Jvm.MethodName) prog_1_method_31_code (3 : Nat) (Option.none : Option Jvm.ClassFile.FieldType), Jvm.Cond.code ({ cls := "ResponseTimeGateOwnLaw", name := "getP", desc := "(JI)I" } : Jvm.MethodName) method_6_code (3 : Nat) (Option.some Jvm.ClassFile.FieldType.int), Jvm.Cond.code ({ cls := "ResponseTimeGate", name := "jobsDone", desc := "(I)I" } : Jvm.MethodName) prog_1_method_35_code (2 : Nat) (Option.some Jvm.ClassFile.FieldType.int)]
set_option maxRecDepth 65536 in
theorem codes_eq : words1.filter isCode = codes1 := rfl
theorem w_codes : ∀ c ∈ words1.filter isCode, c.before args0 about1 = true := by
  rw [codes_eq]
  intro c hc
  simp only [codes1, List.mem_cons, List.not_mem_nil, or_false] at hc
  rcases hc with rfl | rfl | rfl | rfl | rfl | rfl | rfl | rfl | rfl | rfl | rfl | rfl | rfl | rfl | rfl | rfl | rfl | rfl | rfl | rfl | rfl | rfl | rfl | rfl | rfl | rfl | rfl | rfl | rfl | rfl | rfl | rfl | rfl | rfl | rfl | rfl | rfl | rfl | rfl | rfl
  · exact w_c0
  · exact w_c1
  · exact w_c2
  · exact w_c3
  · exact w_c4
  · exact w_c5
  · exact w_c6
  · exact w_c7
  · exact w_c8
  · exact w_c9
  · exact w_c10
  · exact w_c11
  · exact w_c12
  · exact w_c13
  · exact w_c14
  · exact w_c15
  · exact w_c16
  · exact w_c17
  · exact w_c18
  · exact w_c19
  · exact w_c20
  · exact w_c21
  · exact w_c22
  · exact w_c23
  · exact w_c24
  · exact w_c25
  · exact w_c26
  · exact w_c27
  · exact w_c28
  · exact w_c29
  · exact w_c30
  · exact w_c31
  · exact w_c32
  · exact w_c33
  · exact w_c34
  · exact w_c35
  · exact w_c36
  · exact w_c37
  · exact w_c38
  · exact w_c39
set_option maxRecDepth 65536 in
theorem w_t1 : (words1.take 24).all (fun c => isCode c || c.before args0 about1) = true := by decide +kernel
set_option maxRecDepth 65536 in
theorem w_t2 : ((words1.drop 24).take 24).all (fun c => isCode c || c.before args0 about1) = true := by decide +kernel
set_option maxRecDepth 65536 in
theorem w_t3 : (((words1.drop 24).drop 24).take 24).all (fun c => isCode c || c.before args0 about1) = true := by decide +kernel
set_option maxRecDepth 65536 in
theorem w_t4 : ((((words1.drop 24).drop 24).drop 24).take 24).all (fun c => isCode c || c.before args0 about1) = true := by decide +kernel
set_option maxRecDepth 65536 in
theorem w_t5 : (((((words1.drop 24).drop 24).drop 24).drop 24).take 24).all (fun c => isCode c || c.before args0 about1) = true := by decide +kernel
set_option maxRecDepth 65536 in
theorem w_t6 : ((((((words1.drop 24).drop 24).drop 24).drop 24).drop 24).take 24).all (fun c => isCode c || c.before args0 about1) = true := by decide +kernel
set_option maxRecDepth 65536 in
theorem w_t7 : (((((((words1.drop 24).drop 24).drop 24).drop 24).drop 24).drop 24).take 24).all (fun c => isCode c || c.before args0 about1) = true := by decide +kernel
set_option maxRecDepth 65536 in
theorem w_t8 : ((((((((words1.drop 24).drop 24).drop 24).drop 24).drop 24).drop 24).drop 24).take 24).all (fun c => isCode c || c.before args0 about1) = true := by decide +kernel
set_option maxRecDepth 65536 in
theorem w_t9 : (((((((((words1.drop 24).drop 24).drop 24).drop 24).drop 24).drop 24).drop 24).drop 24).take 24).all (fun c => isCode c || c.before args0 about1) = true := by decide +kernel
set_option maxRecDepth 65536 in
theorem w_t10 : (((((((((words1.drop 24).drop 24).drop 24).drop 24).drop 24).drop 24).drop 24).drop 24).drop 24).all (fun c => isCode c || c.before args0 about1) = true := by decide +kernel
theorem w_tables : (allAtoms (Jvm.Cond.code x code maxLocals ret :: tables_1)).before args0 about1 = true := by
  rw [allAtoms_all]
  show words1.all (fun c => c.before args0 about1) = true
  refine all_split ?_ w_codes
  rw [← List.take_append_drop 24 words1, List.all_append, w_t1, ← List.take_append_drop 24 (words1.drop 24), List.all_append, w_t2, ← List.take_append_drop 24 ((words1.drop 24).drop 24), List.all_append, w_t3, ← List.take_append_drop 24 (((words1.drop 24).drop 24).drop 24), List.all_append, w_t4, ← List.take_append_drop 24 ((((words1.drop 24).drop 24).drop 24).drop 24), List.all_append, w_t5, ← List.take_append_drop 24 (((((words1.drop 24).drop 24).drop 24).drop 24).drop 24), List.all_append, w_t6, ← List.take_append_drop 24 ((((((words1.drop 24).drop 24).drop 24).drop 24).drop 24).drop 24), List.all_append, w_t7, ← List.take_append_drop 24 (((((((words1.drop 24).drop 24).drop 24).drop 24).drop 24).drop 24).drop 24), List.all_append, w_t8, ← List.take_append_drop 24 ((((((((words1.drop 24).drop 24).drop 24).drop 24).drop 24).drop 24).drop 24).drop 24), List.all_append, w_t9, w_t10]
  rfl
set_option maxRecDepth 65536 in
theorem w_rest : rest_1_c.before args0 about1 = true := by decide +kernel
set_option maxRecDepth 65536 in
theorem w_case : (Jvm.Cond.and given_1 narrow_1).before args0 about1 = true := by decide +kernel
theorem w_applies : (headSpec (Jvm.Cond.code x code maxLocals ret :: tables_1) room_1).applies x e0.platform about1 = true :=
  (Spec.applies_iff w_frames).mpr ⟨w_running, w_runnable, w_alone, w_named, w_hears, w_ripe, w_room, w_tables⟩
theorem atStart : AtStart classFile x code maxLocals ret World_1 tables_1 room_1 Calls_1 rest_1 Pre_1 launch0 p0 e0 about1 theMethod args0 below0 :=
  ⟨lists_1, trivial, launch0.admits_env _ _ _, launch0.least_env, fairChoices_fair.cas, fairChoices_fair.clock, w_frames, w_args, w_heap, w_applies, trivial, w_rest, w_case⟩
end start1
theorem witness_1 : WitnessClaimed_1 := ⟨start1.p0, start1.e0, start1.about1, start1.theMethod, start1.args0, start1.below0, start1.atStart⟩
end Jvm.Pilot.@@N@@
