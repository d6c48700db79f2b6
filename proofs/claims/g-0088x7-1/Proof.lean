import JvmDerived
import JvmDerived.Pilot.@@N@@Statement
import JvmDerived.Pilot.@@N@@Code
set_option linter.unusedVariables false
set_option linter.unusedSimpArgs false
namespace Jvm.Own
open Sem ClassFile Op Lib Jvm.Stand Jvm.Free Jvm.LawKit Jvm.RoadKit
/-! OWN 1: words of the sheet, resolved -/
abbrev AHeap := List (FieldType × List Value)
abbrev Ws := List Jvm.Cond
def rFld (ws : Ws) (own : String) (i : Nat) : Option (String × String × String) :=
  ws.findSome? fun d => match d with
    | .fieldLink o j C n t => if o = own ∧ j = i then some (C, n, t) else none
    | _ => none
def rCls (ws : Ws) (own : String) (i : Nat) : Option String :=
  ws.findSome? fun d => match d with
    | .classLink o j C => if o = own ∧ j = i then some C else none
    | _ => none
def rMth (ws : Ws) (own : String) (i : Nat) : Option MethodName :=
  ws.findSome? fun d => match d with
    | .methodLink o j y => if o = own ∧ j = i then some y else none
    | _ => none
def rCon (ws : Ws) (own : String) (i : Nat) : Option Int32 :=
  ws.findSome? fun d => match d with
    | .constant o j v => if o = own ∧ j = i then some v else none
    | _ => none
def rConL (ws : Ws) (own : String) (i : Nat) : Option Int64 :=
  ws.findSome? fun d => match d with
    | .constantLong o j v => if o = own ∧ j = i then some v else none
    | _ => none
def rInst (ws : Ws) (C : String) : Option Nat :=
  ws.findSome? fun d => match d with
    | .instantiable c n => if c = C then some n else none
    | _ => none
def rCode (ws : Ws) (y : MethodName) : Option (ByteArray × Nat × Option FieldType) :=
  ws.findSome? fun d => match d with
    | .code z b m r => if z = y then some (b, m, r) else none
    | _ => none
def hasInit (ws : Ws) (C : String) : Bool := ws.any fun d => match d with | .initialized c => c == C | _ => false
def hasArr (ws : Ws) (t : FieldType) : Bool := ws.any fun d => match d with | .arrayClass c => decide (c = t) | _ => false
def hasStat (ws : Ws) (y : MethodName) : Bool := ws.any fun d => match d with | .static z => decide (z = y) | _ => false
def hasIM (ws : Ws) (y : MethodName) : Bool := ws.any fun d => match d with | .instanceMethod z => decide (z = y) | _ => false
def hasPriv (ws : Ws) (y : MethodName) : Bool := ws.any fun d => match d with | .privateMethod z => decide (z = y) | _ => false
def hasDecl (ws : Ws) (y : MethodName) : Bool := ws.any fun d => match d with | .declares z => decide (z = y) | _ => false
def hasSel (ws : Ws) (y : MethodName) : Bool := ws.any fun d => match d with | .selects c z z' => decide (c = y.cls ∧ z = y ∧ z' = y) | _ => false
def hasLays (ws : Ws) (C n t : String) : Bool := ws.any fun d => match d with | .lays c o n' t' => decide (c = C ∧ o = C ∧ n' = n ∧ t' = t) | _ => false
def hasLaysF (ws : Ws) (C n t : String) : Bool := ws.any fun d => match d with | .laysFinal c o n' t' => decide (c = C ∧ o = C ∧ n' = n ∧ t' = t) | _ => false
def layE (C : String) : Jvm.Cond → Option (String × String)
  | .lays c o n t => if c = C ∧ o = C ∧ (parseFieldDescriptor t).isSome = true then some (n, t) else none
  | .laysFinal c o n t => if c = C ∧ o = C ∧ (parseFieldDescriptor t).isSome = true then some (n, t) else none
  | _ => none
def olay (ws : Ws) (C : String) : List (String × String) := ws.filterMap (layE C)
def idx (x : String × String) : List (String × String) → Option Nat
  | [] => none
  | y :: r => if y = x then some 0 else (idx x r).map (· + 1)
def fidx (ws : Ws) (C n t : String) : Option Nat := idx (n, t) (olay ws C)
def gfR (ws : Ws) (own : String) (i : Nat) : Option (String × Nat) :=
  match rFld ws own i with
  | some (C, n, t) => (fidx ws C n t).map fun j => (C, j)
  | none => none
def pfR (ws : Ws) (own mn : String) (i : Nat) : Option (String × Nat × FieldType) :=
  match rFld ws own i with
  | some (C, n, t) =>
    match fidx ws C n t, parseFieldDescriptor t with
    | some j, some ty => if (hasLays ws C n t || (hasLaysF ws C n t && own == C && mn == "<init>")) && (rInst ws C).isSome && (olay ws C).all (fun q => q.1 != n || q.2 == t) then some (C, j, ty) else none
    | _, _ => none
  | none => none
section Res
variable {ws : Ws} {own C n t : String} {i : Nat} {y : MethodName}
theorem rFld_mem (h : rFld ws own i = some (C, n, t)) : Jvm.Cond.fieldLink own i C n t ∈ ws := by
  obtain ⟨d, hd, e⟩ := List.exists_of_findSome?_eq_some h
  split at e
  · split at e
    · rename_i q; obtain ⟨rfl, rfl⟩ := q; cases e; exact hd
    · cases e
  · cases e
theorem rCls_mem (h : rCls ws own i = some C) : Jvm.Cond.classLink own i C ∈ ws := by
  obtain ⟨d, hd, e⟩ := List.exists_of_findSome?_eq_some h
  split at e
  · split at e
    · rename_i q; obtain ⟨rfl, rfl⟩ := q; cases e; exact hd
    · cases e
  · cases e
theorem rMth_mem (h : rMth ws own i = some y) : Jvm.Cond.methodLink own i y ∈ ws := by
  obtain ⟨d, hd, e⟩ := List.exists_of_findSome?_eq_some h
  split at e
  · split at e
    · rename_i q; obtain ⟨rfl, rfl⟩ := q; cases e; exact hd
    · cases e
  · cases e
theorem rCon_mem {v : Int32} (h : rCon ws own i = some v) : Jvm.Cond.constant own i v ∈ ws := by
  obtain ⟨d, hd, e⟩ := List.exists_of_findSome?_eq_some h
  split at e
  · split at e
    · rename_i q; obtain ⟨rfl, rfl⟩ := q; cases e; exact hd
    · cases e
  · cases e
theorem rConL_mem {v : Int64} (h : rConL ws own i = some v) : Jvm.Cond.constantLong own i v ∈ ws := by
  obtain ⟨d, hd, e⟩ := List.exists_of_findSome?_eq_some h
  split at e
  · split at e
    · rename_i q; obtain ⟨rfl, rfl⟩ := q; cases e; exact hd
    · cases e
  · cases e
theorem rInst_mem {k : Nat} (h : rInst ws C = some k) : Jvm.Cond.instantiable C k ∈ ws := by
  obtain ⟨d, hd, e⟩ := List.exists_of_findSome?_eq_some h
  split at e
  · split at e
    · rename_i q; subst q; cases e; exact hd
    · cases e
  · cases e
theorem rCode_mem {b : ByteArray} {k : Nat} {r : Option FieldType} (h : rCode ws y = some (b, k, r)) : Jvm.Cond.code y b k r ∈ ws := by
  obtain ⟨d, hd, e⟩ := List.exists_of_findSome?_eq_some h
  split at e
  · split at e
    · rename_i q; subst q; cases e; exact hd
    · cases e
  · cases e
theorem hasInit_mem (h : hasInit ws C = true) : Jvm.Cond.initialized C ∈ ws := by
  obtain ⟨d, hd, e⟩ := List.any_eq_true.mp h
  split at e
  · rw [beq_iff_eq] at e; subst e; exact hd
  · cases e
theorem hasArr_mem {ty : FieldType} (h : hasArr ws ty = true) : Jvm.Cond.arrayClass ty ∈ ws := by
  obtain ⟨d, hd, e⟩ := List.any_eq_true.mp h
  split at e
  · have e := of_decide_eq_true e; subst e; exact hd
  · cases e
theorem hasStat_mem (h : hasStat ws y = true) : Jvm.Cond.static y ∈ ws := by
  obtain ⟨d, hd, e⟩ := List.any_eq_true.mp h
  split at e
  · have e := of_decide_eq_true e; subst e; exact hd
  · cases e
theorem hasIM_mem (h : hasIM ws y = true) : Jvm.Cond.instanceMethod y ∈ ws := by
  obtain ⟨d, hd, e⟩ := List.any_eq_true.mp h
  split at e
  · have e := of_decide_eq_true e; subst e; exact hd
  · cases e
theorem hasPriv_mem (h : hasPriv ws y = true) : Jvm.Cond.privateMethod y ∈ ws := by
  obtain ⟨d, hd, e⟩ := List.any_eq_true.mp h
  split at e
  · have e := of_decide_eq_true e; subst e; exact hd
  · cases e
theorem hasDecl_mem (h : hasDecl ws y = true) : Jvm.Cond.declares y ∈ ws := by
  obtain ⟨d, hd, e⟩ := List.any_eq_true.mp h
  split at e
  · have e := of_decide_eq_true e; subst e; exact hd
  · cases e
theorem hasSel_mem (h : hasSel ws y = true) : Jvm.Cond.selects y.cls y y ∈ ws := by
  obtain ⟨d, hd, e⟩ := List.any_eq_true.mp h
  split at e
  · obtain ⟨rfl, rfl, rfl⟩ := of_decide_eq_true e; exact hd
  · cases e
theorem hasLays_mem (h : hasLays ws C n t = true) : Jvm.Cond.lays C C n t ∈ ws := by
  obtain ⟨d, hd, e⟩ := List.any_eq_true.mp h
  split at e
  · obtain ⟨rfl, rfl, rfl, rfl⟩ := of_decide_eq_true e; exact hd
  · cases e
theorem hasLaysF_mem (h : hasLaysF ws C n t = true) : Jvm.Cond.laysFinal C C n t ∈ ws := by
  obtain ⟨d, hd, e⟩ := List.any_eq_true.mp h
  split at e
  · obtain ⟨rfl, rfl, rfl, rfl⟩ := of_decide_eq_true e; exact hd
  · cases e
theorem lay_mem (h : (n, t) ∈ olay ws C) : (Jvm.Cond.lays C C n t ∈ ws ∨ Jvm.Cond.laysFinal C C n t ∈ ws) ∧ ∃ ty, parseFieldDescriptor t = some ty := by
  obtain ⟨d, hd, e⟩ := List.mem_filterMap.mp h
  unfold layE at e
  split at e
  · split at e
    · rename_i q; obtain ⟨rfl, rfl, q⟩ := q; cases e; exact ⟨Or.inl hd, Option.isSome_iff_exists.mp q⟩
    · cases e
  · split at e
    · rename_i q; obtain ⟨rfl, rfl, q⟩ := q; cases e; exact ⟨Or.inr hd, Option.isSome_iff_exists.mp q⟩
    · cases e
  · cases e
theorem idx_get {x : String × String} : ∀ {l : List (String × String)} {j : Nat}, idx x l = some j → l[j]? = some x
  | [], _, h => by cases h
  | y :: r, j, h => by
    unfold idx at h
    split at h
    · rename_i q; cases h; simp [q]
    · obtain ⟨j', h', rfl⟩ := Option.map_eq_some_iff.mp h
      simpa using idx_get h'
theorem fidx_mem {j : Nat} (h : fidx ws C n t = some j) : (n, t) ∈ olay ws C := List.mem_of_getElem? (idx_get h)
theorem fidx_inj {n' t' : String} {j : Nat} (h : fidx ws C n t = some j) (h' : fidx ws C n' t' = some j) : n = n' ∧ t = t' := by
  have := (idx_get h).symm.trans (idx_get h')
  simpa using this
theorem gfR_some {j : Nat} (h : gfR ws own i = some (C, j)) : ∃ n t, rFld ws own i = some (C, n, t) ∧ fidx ws C n t = some j := by
  unfold gfR at h
  split at h
  · rename_i C' n' t' q
    obtain ⟨j', h', e⟩ := Option.map_eq_some_iff.mp h
    cases e; exact ⟨_, _, q, h'⟩
  · cases h
theorem pfR_some {mn : String} {j : Nat} {ty : FieldType} (h : pfR ws own mn i = some (C, j, ty)) : ∃ n t, rFld ws own i = some (C, n, t) ∧ fidx ws C n t = some j ∧ parseFieldDescriptor t = some ty ∧
    (Jvm.Cond.lays C C n t ∈ ws ∨ (Jvm.Cond.laysFinal C C n t ∈ ws ∧ own = C ∧ mn = "<init>")) ∧ (∃ k, Jvm.Cond.instantiable C k ∈ ws) ∧ ∀ n' t', (n', t') ∈ olay ws C → n' ≠ n ∨ t' = t := by
  unfold pfR at h
  split at h
  · rename_i C' n' t' q
    split at h
    · rename_i j' ty' q1 q2
      split at h
      · rename_i g
        cases h
        simp only [Bool.and_eq_true, Bool.or_eq_true, beq_iff_eq, List.all_eq_true, bne_iff_ne, ne_eq] at g
        obtain ⟨⟨g1, g2⟩, g3⟩ := g
        obtain ⟨k, hk⟩ := Option.isSome_iff_exists.mp g2
        refine ⟨n', t', q, q1, q2, ?_, ⟨k, rInst_mem hk⟩, fun a b hab => g3 (a, b) hab⟩
        rcases g1 with g1 | ⟨⟨g1, g4⟩, g5⟩
        · exact Or.inl (hasLays_mem g1)
        · exact Or.inr ⟨hasLaysF_mem g1, g4, g5⟩
      · cases h
    · cases h
  · cases h
end Res
end Jvm.Own
namespace Jvm.Own
open Sem ClassFile Op Lib Jvm.Stand Jvm.Free Jvm.LawKit Jvm.RoadKit
/-! OWN 2: the abstract machine -/
abbrev XR := Option (Nat × List Slot × List Value)
def chk {α : Type} (a b : Nat) (x : Option α) : Option α := if a = b then x else none
def isI : Value → Bool | .int _ => true | _ => false
def isL : Value → Bool | .long _ => true | _ => false
def stl (ls : List Slot) (i : Nat) (v : Value) : Option (List Slot) := (storeLocals ls.toArray i v).map Array.toList
def ldV (p : Value → Bool) (nx i : Nat) (ls : List Slot) (st : List Value) : XR :=
  match ls[i]? with
  | some (.val v) => if p v = true then some (nx, ls, v :: st) else none
  | _ => none
def stV (p : Value → Bool) (nx i : Nat) (ls : List Slot) : List Value → XR
  | v :: r => if p v = true then (stl ls i v).map fun l' => (nx, l', r) else none
  | [] => none
def b2 (f : Int32 → Int32 → Int32) (nx : Nat) (ls : List Slot) : List Value → XR
  | .int y :: .int x :: r => some (nx, ls, .int (f x y) :: r)
  | _ => none
def d2 (f : Int32 → Int32 → Int32) (nx : Nat) (ls : List Slot) : List Value → XR
  | .int y :: .int x :: r => if y = 0 then none else some (nx, ls, .int (f x y) :: r)
  | _ => none
def u1 (f : Int32 → Int32) (nx : Nat) (ls : List Slot) : List Value → XR
  | .int x :: r => some (nx, ls, .int (f x) :: r)
  | _ => none
def l2 (f : Int64 → Int64 → Int64) (nx : Nat) (ls : List Slot) : List Value → XR
  | .long y :: .long x :: r => some (nx, ls, .long (f x y) :: r)
  | _ => none
def lsh (f : Int64 → Int32 → Int64) (nx : Nat) (ls : List Slot) : List Value → XR
  | .int y :: .long x :: r => some (nx, ls, .long (f x y) :: r)
  | _ => none
def jmp (pc : Nat) (o : Int) : Option Nat := if 0 ≤ (pc : Int) + o then some ((pc : Int) + o).toNat else none
def br (c : Bool) (pc : Nat) (o : Int) (ls : List Slot) (r : List Value) : XR :=
  if c = true then (jmp pc o).map fun q => (q, ls, r) else some (pc + 3, ls, r)
def sw (pc : Nat) (dflt low high : Int) (offs : Array Int) (ls : List Slot) : List Value → XR
  | .int i :: r => if i.toInt < low ∨ i.toInt > high then (jmp pc dflt).map fun q => (q, ls, r) else
      match offs[(i.toInt - low).toNat]? with
      | some o => (jmp pc o).map fun q => (q, ls, r)
      | none => none
  | _ => none
def xstep (ins : Instr) (len pc : Nat) (ls : List Slot) (st : List Value) : XR :=
  match ins with
  | .aload_n i => chk len 1 (ldV Value.isRef (pc + 1) i.val ls st)
  | .aload i => chk len 2 (ldV Value.isRef (pc + 2) i ls st)
  | .iload_n i => chk len 1 (ldV isI (pc + 1) i.val ls st)
  | .iload i => chk len 2 (ldV isI (pc + 2) i ls st)
  | .lload_n i => chk len 1 (ldV isL (pc + 1) i.val ls st)
  | .lload i => chk len 2 (ldV isL (pc + 2) i ls st)
  | .astore_n i => chk len 1 (stV Value.isRef (pc + 1) i.val ls st)
  | .astore i => chk len 2 (stV Value.isRef (pc + 2) i ls st)
  | .istore_n i => chk len 1 (stV isI (pc + 1) i.val ls st)
  | .istore i => chk len 2 (stV isI (pc + 2) i ls st)
  | .lstore_n i => chk len 1 (stV isL (pc + 1) i.val ls st)
  | .lstore i => chk len 2 (stV isL (pc + 2) i ls st)
  | .iconst i => chk len 1 (some (pc + 1, ls, .int (Int32.ofInt i) :: st))
  | .bipush i => chk len 2 (some (pc + 2, ls, .int (Int8.ofInt i).toInt32 :: st))
  | .sipush i => chk len 3 (some (pc + 3, ls, .int (Int16.ofInt i).toInt32 :: st))
  | .lconst i => chk len 1 (some (pc + 1, ls, .long (Int64.ofNat i) :: st))
  | .iadd => chk len 1 (b2 (fun x y => x + y) (pc + 1) ls st)
  | .isub => chk len 1 (b2 (fun x y => x - y) (pc + 1) ls st)
  | .imul => chk len 1 (b2 (fun x y => x * y) (pc + 1) ls st)
  | .iand => chk len 1 (b2 (fun x y => x &&& y) (pc + 1) ls st)
  | .ior => chk len 1 (b2 (fun x y => x ||| y) (pc + 1) ls st)
  | .ixor => chk len 1 (b2 (fun x y => x ^^^ y) (pc + 1) ls st)
  | .ishl => chk len 1 (b2 (fun x y => x <<< (y &&& 31)) (pc + 1) ls st)
  | .ishr => chk len 1 (b2 (fun x y => x >>> (y &&& 31)) (pc + 1) ls st)
  | .iushr => chk len 1 (b2 XT.ushr (pc + 1) ls st)
  | .idiv => chk len 1 (d2 (fun x y => x / y) (pc + 1) ls st)
  | .irem => chk len 1 (d2 (fun x y => x % y) (pc + 1) ls st)
  | .ineg => chk len 1 (u1 (fun x => -x) (pc + 1) ls st)
  | .i2b => chk len 1 (u1 (fun x => x.toInt8.toInt32) (pc + 1) ls st)
  | .i2c => chk len 1 (u1 (fun x => x.toUInt32.toUInt16.toUInt32.toInt32) (pc + 1) ls st)
  | .ladd => chk len 1 (l2 (fun x y => x + y) (pc + 1) ls st)
  | .lsub => chk len 1 (l2 (fun x y => x - y) (pc + 1) ls st)
  | .lmul => chk len 1 (l2 (fun x y => x * y) (pc + 1) ls st)
  | .land => chk len 1 (l2 (fun x y => x &&& y) (pc + 1) ls st)
  | .lor => chk len 1 (l2 (fun x y => x ||| y) (pc + 1) ls st)
  | .lxor => chk len 1 (l2 (fun x y => x ^^^ y) (pc + 1) ls st)
  | .lshl => chk len 1 (lsh (fun x y => x <<< (y.toInt64 &&& 63)) (pc + 1) ls st)
  | .lshr => chk len 1 (lsh (fun x y => x >>> (y.toInt64 &&& 63)) (pc + 1) ls st)
  | .lushr => chk len 1 (lsh XT.ushrL (pc + 1) ls st)
  | .lneg => chk len 1 (match st with | .long x :: r => some (pc + 1, ls, .long (-x) :: r) | _ => none)
  | .i2l => chk len 1 (match st with | .int x :: r => some (pc + 1, ls, .long x.toInt64 :: r) | _ => none)
  | .l2i => chk len 1 (match st with | .long x :: r => some (pc + 1, ls, .int x.toInt32 :: r) | _ => none)
  | .lcmp => chk len 1 (match st with | .long y :: .long x :: r => some (pc + 1, ls, .int (XT.cmpL x y) :: r) | _ => none)
  | .iinc i cst => chk len 3 (match ls[i]? with | some (.val (.int x)) => (stl ls i (.int (x + Int32.ofInt cst))).map fun l' => (pc + 3, l', st) | _ => none)
  | .dup => chk len 1 (match st with | x :: r => if x.category = 1 then some (pc + 1, ls, x :: x :: r) else none | _ => none)
  | .dup2 => chk len 1 (match st with
      | .long x :: r => some (pc + 1, ls, .long x :: .long x :: r)
      | x :: y :: r => if x.category = 1 ∧ y.category = 1 then some (pc + 1, ls, x :: y :: x :: y :: r) else none
      | _ => none)
  | .pop => chk len 1 (match st with | x :: r => if x.category = 1 then some (pc + 1, ls, r) else none | _ => none)
  | .goto o => chk len 3 ((jmp pc o).map fun q => (q, ls, st))
  | .ifCond cd o => chk len 3 (match st with | .int x :: r => br (ifCond.holds cd x) pc o ls r | _ => none)
  | .if_icmp cd o => chk len 3 (match st with | .int y :: .int x :: r => br (if_icmp.holds cd x y) pc o ls r | _ => none)
  | .tableswitch dflt low high offs => sw pc dflt low high offs ls st
  | _ => none
abbrev HR := Option (Nat × List Value × AHeap)
def putv : FieldType → Value → Option Value
  | .int, .int x => some (.int x)
  | .boolean, .int x => some (.int (nar .boolean x))
  | .byte, .int x => some (.int (nar .byte x))
  | .char, .int x => some (.int (nar .char x))
  | .short, .int x => some (.int (nar .short x))
  | .long, .long x => some (.long x)
  | .array _, .ref a => some (.ref a)
  | _, _ => none
def dflt (q : String × String) : Value := match parseFieldDescriptor q.2 with | some ty => defaultValue ty | none => .null
def hGet (ws : Ws) (own : String) (i pc : Nat) (H : AHeap) : List Value → HR
  | .ref a :: r =>
    match gfR ws own i, H[a]? with
    | some (C, j), some (.object C', vs) => if C = C' then (vs[j]?).map fun v => (pc + 3, v :: r, H) else none
    | _, _ => none
  | _ => none
def hPut (ws : Ws) (k : Nat) (own mn : String) (i pc : Nat) (H : AHeap) : List Value → HR
  | v :: .ref a :: r =>
    match pfR ws own mn i, H[a]? with
    | some (C, j, ty), some (.object C', vs) => if C = C' ∧ k ≤ a ∧ j < vs.length then (putv ty v).map fun v' => (pc + 3, r, H.set a (.object C', vs.set j v')) else none
    | _, _ => none
  | _ => none
def hNew (ws : Ws) (own : String) (i pc : Nat) (H : AHeap) (st : List Value) : HR :=
  match rCls ws own i with
  | some C => if (rInst ws C).isSome = true ∧ hasInit ws C = true then some (pc + 3, .ref H.length :: st, H ++ [(.object C, (olay ws C).map dflt)]) else none
  | none => none
def hNewA (ws : Ws) (aty : ArrayType) (pc : Nat) (H : AHeap) : List Value → HR
  | .int n :: r => if hasArr ws (newarray.typeOf aty) = true ∧ ¬ n < 0 ∧ n.toNatClampNeg * 8 ≤ 536870912 then
      some (pc + 2, .ref H.length :: r, H ++ [(.array (newarray.typeOf aty), List.replicate n.toNatClampNeg (defaultValue (newarray.typeOf aty)))]) else none
  | _ => none
def hLd (ok : FieldType → Bool) (pc : Nat) (H : AHeap) : List Value → HR
  | .int j :: .ref a :: r =>
    match H[a]? with
    | some (.array ty, vs) => if ok ty = true ∧ ¬ j < 0 then (vs[j.toNatClampNeg]?).map fun v => (pc + 1, v :: r, H) else none
    | _ => none
  | _ => none
def hSt (ok : FieldType → Bool) (k pc : Nat) (H : AHeap) : List Value → HR
  | v :: .int j :: .ref a :: r =>
    match H[a]? with
    | some (.array ty, vs) => if ok ty = true ∧ k ≤ a ∧ ¬ j < 0 ∧ j.toNatClampNeg < vs.length then (putv ty v).map fun v' => (pc + 1, r, H.set a (.array ty, vs.set j.toNatClampNeg v')) else none
    | _ => none
  | _ => none
def hLen (pc : Nat) (H : AHeap) : List Value → HR
  | .ref a :: r =>
    match H[a]? with
    | some (.array _, vs) => some (pc + 1, .int vs.length.toInt32 :: r, H)
    | _ => none
  | _ => none
def okT (t u : FieldType) : Bool := decide (u = t)
def okB (u : FieldType) : Bool := decide (u = .byte) || decide (u = .boolean)
def hstep (ws : Ws) (k : Nat) (y : MethodName) (ins : Instr) (len pc : Nat) (st : List Value) (H : AHeap) : HR :=
  match ins with
  | .getfield i => chk len 3 (hGet ws y.cls i pc H st)
  | .putfield i => chk len 3 (hPut ws k y.cls y.name i pc H st)
  | .new i => chk len 3 (hNew ws y.cls i pc H st)
  | .newarray aty => chk len 2 (hNewA ws aty pc H st)
  | .iaload => chk len 1 (hLd (okT .int) pc H st)
  | .caload => chk len 1 (hLd (okT .char) pc H st)
  | .laload => chk len 1 (hLd (okT .long) pc H st)
  | .baload => chk len 1 (hLd okB pc H st)
  | .iastore => chk len 1 (hSt (okT .int) k pc H st)
  | .castore => chk len 1 (hSt (okT .char) k pc H st)
  | .lastore => chk len 1 (hSt (okT .long) k pc H st)
  | .bastore => chk len 1 (hSt okB k pc H st)
  | .arraylength => chk len 1 (hLen pc H st)
  | .ldc i => chk len 2 ((rCon ws y.cls i).map fun v => (pc + 2, .int v :: st, H))
  | .ldc_w i => chk len 3 ((rCon ws y.cls i).map fun v => (pc + 3, .int v :: st, H))
  | .ldc2_w i => chk len 3 ((rConL ws y.cls i).map fun v => (pc + 3, .long v :: st, H))
  | _ => none
def ent : List Value → List Slot
  | [] => []
  | v :: r => if v.category = 2 then .val v :: .second :: ent r else .val v :: ent r
def entry (as : List Value) (mx : Nat) : List Slot := ent as ++ List.replicate (mx - (ent as).length) .unset
def wsum (st : List Value) : Nat := (st.map fun v => v.category).sum
abbrev Dn := List (MethodName × Nat × Nat)
def dnOf (dn : Dn) (y : MethodName) : Option (Nat × Nat) := dn.findSome? fun q => if q.1 = y then some q.2 else none
/-- what a methodref says: callee, its code, max_locals, return, number of parameters, slack for what lies under -/
def cR (ws : Ws) (dn : Dn) (y : MethodName) (i : Nat) : Option (MethodName × ByteArray × Nat × Option FieldType × Nat × Nat) :=
  match rMth ws y.cls i with
  | none => none
  | some y' =>
    match rCode ws y', dnOf dn y', dnOf dn y, parseMethodDescriptor y'.desc with
    | some (b, mx, r), some (f', l'), some (f, l), some sig =>
      if hasInit ws y'.cls = true ∧ Jvm.plainName y'.cls = true ∧ y'.cls ≠ "java/lang/invoke/MethodHandle" ∧ y'.cls ≠ "java/lang/invoke/VarHandle" ∧ f' + 1 ≤ f ∧ mx + 11 + l' ≤ l then
        some (y', b, mx, r, sig.parameters.length, l - (mx + 11 + l')) else none
    | _, _, _, _ => none
def sR (ws : Ws) (dn : Dn) (y : MethodName) (i : Nat) : Option (MethodName × ByteArray × Nat × Option FieldType × Nat × Nat) :=
  match cR ws dn y i with
  | some q => if hasStat ws q.1 = true then some q else none
  | none => none
def nR (ws : Ws) (dn : Dn) (y : MethodName) (i : Nat) : Option (MethodName × ByteArray × Nat × Option FieldType × Nat × Nat) :=
  match cR ws dn y i with
  | some q => if q.1.name = "<init>" ∧ hasIM ws q.1 = true ∧ q.2.2.2.1 = none then some q else none
  | none => none
/-- the first: is it private? -/
def vR (ws : Ws) (dn : Dn) (y : MethodName) (i : Nat) : Option (Bool × MethodName × ByteArray × Nat × Option FieldType × Nat × Nat) :=
  match cR ws dn y i with
  | some q => if hasIM ws q.1 = true then
      (if hasPriv ws q.1 = true ∧ (rInst ws q.1.cls).isSome = true then some (true, q) else if hasDecl ws q.1 = true ∧ hasSel ws q.1 = true then some (false, q) else none) else none
  | none => none
/-- Object.<init>: how many words may lie under it -/
def oR (ws : Ws) (dn : Dn) (y : MethodName) (i : Nat) : Option Nat :=
  match rMth ws y.cls i, rCode ws Lib.objectInit, dnOf dn y with
  | some y', some (b, mx, r), some (f, l) =>
    if y' = Lib.objectInit ∧ hasIM ws Lib.objectInit = true ∧ b.data = #[0xb1] ∧ mx = 1 ∧ r = none ∧ 1 ≤ f ∧ 12 ≤ l then some (l - 12) else none
  | _, _, _ => none
abbrev Call := MethodName × ByteArray × Option FieldType × List Slot × List Value
/-- returns and calls -/
def cstep (ws : Ws) (dn : Dn) (y : MethodName) (ret : Option FieldType) (ins : Instr) (len pc : Nat) (ls : List Slot) (st : List Value) (H : AHeap) : Option (Option Value ⊕ (Nat × List Slot × List Value × AHeap) ⊕ Call) :=
  match ins with
  | .ireturn => chk len 1 (match st, ret with
      | .int z :: _, some t => if t = .int ∨ t = .boolean ∨ t = .byte ∨ t = .char ∨ t = .short then some (.inl (some (.int (nar t z)))) else none
      | _, _ => none)
  | .lreturn => chk len 1 (match st, ret with
      | [.long z], some .long => some (.inl (some (.long z)))
      | _, _ => none)
  | .return_ => chk len 1 (match st, ret with
      | [], none => some (.inl none)
      | _, _ => none)
  | .invokestatic i => chk len 3 (match sR ws dn y i with
      | some (y', b, mx, r, na, sl) =>
        if na ≤ st.length ∧ wsum (st.drop na) ≤ sl ∧ (ent (st.take na).reverse).length ≤ mx then
          some (.inr (.inr (y', b, r, entry (st.take na).reverse mx, st.drop na)))
        else none
      | none => none)
  | .invokespecial i => chk len 3 (match oR ws dn y i with
      | some sl => (match st with
          | .ref _ :: r => if wsum r ≤ sl then some (.inr (.inl (pc + 3, ls, r, H))) else none
          | _ => none)
      | none => match nR ws dn y i with
        | some (y', b, mx, r, na, sl) =>
          (match st.drop na with
          | .ref a :: rest =>
            if wsum rest ≤ sl ∧ (ent (.ref a :: (st.take na).reverse)).length ≤ mx ∧ na ≤ st.length then
              some (.inr (.inr (y', b, r, entry (.ref a :: (st.take na).reverse) mx, rest)))
            else none
          | _ => none)
        | none => none)
  | .invokevirtual i => chk len 3 (match vR ws dn y i with
      | some (pv, y', b, mx, r, na, sl) =>
        (match st.drop na with
        | .ref a :: rest =>
          (match H[a]? with
          | some (.object C, _) =>
            if (pv = true ∨ C = y'.cls) ∧ wsum rest ≤ sl ∧ (ent (.ref a :: (st.take na).reverse)).length ≤ mx ∧ na ≤ st.length then
              some (.inr (.inr (y', b, r, entry (.ref a :: (st.take na).reverse) mx, rest)))
            else none
          | _ => none)
        | _ => none)
      | none => none)
  | _ => none
/-- what the machine does next: it returns, it steps, it calls -/
def act (ws : Ws) (dn : Dn) (k : Nat) (y : MethodName) (bytes : ByteArray) (ret : Option FieldType) (pc : Nat) (ls : List Slot) (st : List Value) (H : AHeap) : Option (Option Value ⊕ (Nat × List Slot × List Value × AHeap) ⊕ Call) :=
  match decode bytes pc with
  | .error _ => none
  | .ok (ins, len) =>
    match xstep ins len pc ls st with
    | some q => some (.inr (.inl (q.1, q.2.1, q.2.2, H)))
    | none => match hstep ws k y ins len pc st H with
      | some q => some (.inr (.inl (q.1, ls, q.2.1, q.2.2)))
      | none => cstep ws dn y ret ins len pc ls st H
def run (ws : Ws) (dn : Dn) (k : Nat) : Nat → MethodName → ByteArray → Option FieldType → Nat → List Slot → List Value → AHeap → Option (Option Value × AHeap)
  | 0, _, _, _, _, _, _, _ => none
  | n + 1, y, bytes, ret, pc, ls, st, H =>
    match act ws dn k y bytes ret pc ls st H with
    | none => none
    | some (.inl v) => some (v, H)
    | some (.inr (.inl (pc', ls', st', H'))) => run ws dn k n y bytes ret pc' ls' st' H'
    | some (.inr (.inr (y', b, r, en, rest))) =>
      match run ws dn k n y' b r 0 en [] H with
      | some (v, H1) => run ws dn k n y bytes ret (pc + 3) ls (v.toList ++ rest) H1
      | none => none
end Jvm.Own
namespace Jvm.Own
open Sem ClassFile Op Lib Jvm.Stand Jvm.Free Jvm.LawKit Jvm.RoadKit
/-! OWN 3: the abstract machine's plain steps are the machine's -/
def ren (f : Nat → Nat) : Value → Value
  | .ref a => .ref (f a)
  | v => v
def renS (f : Nat → Nat) : Slot → Slot
  | .val v => .val (ren f v)
  | s => s
abbrev fr (f : Nat → Nat) (m : MethodId) (pc : Nat) (ls : List Slot) (st : List Value) : JFrame := mkF m pc (ls.map (renS f)).toArray (st.map (ren f))
theorem ren_cat (f : Nat → Nat) (v : Value) : (ren f v).category = v.category := by cases v <;> rfl
theorem ren_isRef (f : Nat → Nat) (v : Value) : (ren f v).isRef = v.isRef := by cases v <;> rfl
theorem isI_int {v : Value} (h : isI v = true) : ∃ x, v = .int x := by cases v <;> first | exact ⟨_, rfl⟩ | cases h
theorem isL_long {v : Value} (h : isL v = true) : ∃ x, v = .long x := by cases v <;> first | exact ⟨_, rfl⟩ | cases h
theorem chk_some {α : Type} {a b : Nat} {x : Option α} {r : α} (h : chk a b x = some r) : a = b ∧ x = some r := by
  unfold chk at h
  split at h
  · exact ⟨by assumption, h⟩
  · cases h
theorem loc_get {f : Nat → Nat} {ls : List Slot} {i : Nat} {s : Slot} (h : ls[i]? = some s) : ((ls.map (renS f)).toArray)[i]? = some (renS f s) := by
  rw [List.getElem?_toArray, List.getElem?_map, h]; rfl
theorem setAt_ren (f : Nat → Nat) (l : Array Slot) (i : Nat) (x : Slot) : setAt (l.map (renS f)) i (renS f x) = (setAt l i x).map fun a => a.map (renS f) := by
  unfold setAt
  rw [Array.size_map]
  split
  · rw [Option.map_some, Array.map_setIfInBounds]
  · rfl
theorem storeSelf_ren (f : Nat → Nat) (l : Array Slot) (i : Nat) (v : Value) : storeSelf (l.map (renS f)) i (ren f v) = (storeSelf l i v).map fun a => a.map (renS f) := by
  have h0 : setAt (l.map (renS f)) i (.val (ren f v)) = _ := setAt_ren f l i (.val v)
  simp only [storeSelf, h0, ren_cat]
  cases setAt l i (.val v) with
  | none => rfl
  | some l1 =>
    simp only [Option.map_some, Option.bind_eq_bind, Option.bind_some, bind_pure_comp]
    split
    · rw [Array.getElem?_map]
      cases l1[i + 1]? with
      | none => rfl
      | some s =>
        simp only [Option.map_some, Option.bind_some]
        cases s with
        | unset => exact setAt_ren f l1 (i + 1) .second
        | second => exact setAt_ren f l1 (i + 1) .second
        | val w =>
          simp only [renS, ren_cat]
          split
          · have h1 : setAt (l1.map (renS f)) (i + 2) .unset = _ := setAt_ren f l1 (i + 2) .unset
            rw [h1]
            cases setAt l1 (i + 2) .unset with
            | none => rfl
            | some l2 => exact setAt_ren f l2 (i + 1) .second
          · exact setAt_ren f l1 (i + 1) .second
    · rfl
theorem storeLocals_ren (f : Nat → Nat) (l : Array Slot) (i : Nat) (v : Value) : storeLocals (l.map (renS f)) i (ren f v) = (storeLocals l i v).map fun a => a.map (renS f) := by
  simp only [storeLocals, Array.getElem?_map]
  cases l[i]? with
  | none => rfl
  | some s =>
    simp only [Option.map_some, Option.bind_eq_bind, Option.bind_some]
    cases s with
    | unset => exact storeSelf_ren f l i v
    | second =>
      have h1 : setAt (l.map (renS f)) (i - 1) .unset = _ := setAt_ren f l (i - 1) .unset
      simp only [renS, h1]
      cases setAt l (i - 1) .unset with
      | none => rfl
      | some l2 => exact storeSelf_ren f l2 i v
    | val w =>
      simp only [renS, ren_cat]
      split
      · have h1 : setAt (l.map (renS f)) (i + 1) .unset = _ := setAt_ren f l (i + 1) .unset
        rw [h1]
        cases setAt l (i + 1) .unset with
        | none => rfl
        | some l2 => exact storeSelf_ren f l2 i v
      · exact storeSelf_ren f l i v
theorem stl_ren {f : Nat → Nat} {ls l' : List Slot} {i : Nat} {v : Value} (h : stl ls i v = some l') : storeLocals (ls.map (renS f)).toArray i (ren f v) = some (l'.map (renS f)).toArray := by
  unfold stl at h
  obtain ⟨a, ha, rfl⟩ := Option.map_eq_some_iff.mp h
  have := storeLocals_ren f ls.toArray i v
  rw [ha] at this
  rw [← List.map_toArray, this]
  simp [← Array.toList_inj]
theorem setAt_size {l l' : Array Slot} {i : Nat} {x : Slot} (h : setAt l i x = some l') : l'.size = l.size := by
  unfold setAt at h
  split at h
  · cases h; simp
  · cases h
theorem storeSelf_size {l l' : Array Slot} {i : Nat} {v : Value} (h : storeSelf l i v = some l') : l'.size = l.size := by
  simp only [storeSelf, Option.bind_eq_bind, Option.bind_eq_some_iff] at h
  obtain ⟨l1, h1, h⟩ := h
  have e1 := setAt_size h1
  split at h
  · obtain ⟨s, -, h⟩ := Option.bind_eq_some_iff.mp h
    split at h
    · split at h
      · obtain ⟨l2, h2, h⟩ := Option.bind_eq_some_iff.mp h
        rw [setAt_size h, setAt_size h2, e1]
      · rw [setAt_size h, e1]
    · rw [setAt_size h, e1]
  · cases h; exact e1
theorem storeLocals_size {l l' : Array Slot} {i : Nat} {v : Value} (h : storeLocals l i v = some l') : l'.size = l.size := by
  simp only [storeLocals, Option.bind_eq_bind, Option.bind_eq_some_iff] at h
  obtain ⟨s, -, h⟩ := h
  split at h
  · obtain ⟨l2, h2, h⟩ := Option.bind_eq_some_iff.mp h
    rw [storeSelf_size h, setAt_size h2]
  · split at h
    · obtain ⟨l2, h2, h⟩ := Option.bind_eq_some_iff.mp h
      rw [storeSelf_size h, setAt_size h2]
    · exact storeSelf_size h
  · exact storeSelf_size h
theorem stl_size {ls l' : List Slot} {i : Nat} {v : Value} (h : stl ls i v = some l') : l'.length = ls.length := by
  unfold stl at h
  obtain ⟨a, ha, rfl⟩ := Option.map_eq_some_iff.mp h
  have := storeLocals_size ha
  simpa using this
theorem ldV_some {p : Value → Bool} {nx i : Nat} {ls : List Slot} {st : List Value} {q : Nat × List Slot × List Value} (h : ldV p nx i ls st = some q) : ∃ v, ls[i]? = some (.val v) ∧ p v = true ∧ q = (nx, ls, v :: st) := by
  unfold ldV at h
  split at h
  · rename_i v hv
    split at h
    · cases h; exact ⟨v, hv, by assumption, rfl⟩
    · cases h
  · cases h
theorem stV_some {p : Value → Bool} {nx i : Nat} {ls : List Slot} {st : List Value} {q : Nat × List Slot × List Value} (h : stV p nx i ls st = some q) : ∃ v r l', st = v :: r ∧ p v = true ∧ stl ls i v = some l' ∧ q = (nx, l', r) := by
  unfold stV at h
  split at h
  · split at h
    · obtain ⟨l', h1, h2⟩ := Option.map_eq_some_iff.mp h
      exact ⟨_, _, l', rfl, by assumption, h1, h2.symm⟩
    · cases h
  · cases h
theorem b2_some {f : Int32 → Int32 → Int32} {nx : Nat} {ls : List Slot} {st : List Value} {q : Nat × List Slot × List Value} (h : b2 f nx ls st = some q) : ∃ x y r, st = .int y :: .int x :: r ∧ q = (nx, ls, .int (f x y) :: r) := by
  unfold b2 at h
  split at h
  · cases h; exact ⟨_, _, _, rfl, rfl⟩
  · cases h
theorem d2_some {f : Int32 → Int32 → Int32} {nx : Nat} {ls : List Slot} {st : List Value} {q : Nat × List Slot × List Value} (h : d2 f nx ls st = some q) : ∃ x y r, st = .int y :: .int x :: r ∧ y ≠ 0 ∧ q = (nx, ls, .int (f x y) :: r) := by
  unfold d2 at h
  split at h
  · split at h
    · cases h
    · cases h; exact ⟨_, _, _, rfl, by assumption, rfl⟩
  · cases h
theorem u1_some {f : Int32 → Int32} {nx : Nat} {ls : List Slot} {st : List Value} {q : Nat × List Slot × List Value} (h : u1 f nx ls st = some q) : ∃ x r, st = .int x :: r ∧ q = (nx, ls, .int (f x) :: r) := by
  unfold u1 at h
  split at h
  · cases h; exact ⟨_, _, rfl, rfl⟩
  · cases h
theorem l2_some {f : Int64 → Int64 → Int64} {nx : Nat} {ls : List Slot} {st : List Value} {q : Nat × List Slot × List Value} (h : l2 f nx ls st = some q) : ∃ x y r, st = .long y :: .long x :: r ∧ q = (nx, ls, .long (f x y) :: r) := by
  unfold l2 at h
  split at h
  · cases h; exact ⟨_, _, _, rfl, rfl⟩
  · cases h
theorem lsh_some {f : Int64 → Int32 → Int64} {nx : Nat} {ls : List Slot} {st : List Value} {q : Nat × List Slot × List Value} (h : lsh f nx ls st = some q) : ∃ x y r, st = .int y :: .long x :: r ∧ q = (nx, ls, .long (f x y) :: r) := by
  unfold lsh at h
  split at h
  · cases h; exact ⟨_, _, _, rfl, rfl⟩
  · cases h
theorem jmp_some {pc q : Nat} {o : Int} (h : jmp pc o = some q) : 0 ≤ (pc : Int) + o ∧ ((pc : Int) + o).toNat = q := by
  unfold jmp at h
  split at h
  · cases h; exact ⟨by assumption, rfl⟩
  · cases h
theorem br_some {c : Bool} {pc : Nat} {o : Int} {ls : List Slot} {r : List Value} {q : Nat × List Slot × List Value} (h : br c pc o ls r = some q) : (c = true ∧ ∃ t, 0 ≤ (pc : Int) + o ∧ ((pc : Int) + o).toNat = t ∧ q = (t, ls, r)) ∨ (c = false ∧ q = (pc + 3, ls, r)) := by
  unfold br at h
  split at h
  · obtain ⟨t, h1, h2⟩ := Option.map_eq_some_iff.mp h
    obtain ⟨h3, h4⟩ := jmp_some h1
    exact Or.inl ⟨by assumption, t, h3, h4, h2.symm⟩
  · rename_i hc; cases h; exact Or.inr ⟨by simpa using hc, rfl⟩
section X
variable {tb : Tables} [Ours tb] {e : Env} {below : List Frame} {T target : State} {m : MethodId} {c : Code}
set_option maxHeartbeats 4000000 in
theorem xstep_sound (h : At T m c below) (hx : tb.exec = Jvm.exec) (f : Nat → Nat) {ins : Instr} {len pc : Nat} {ls : List Slot} {st : List Value} {q : Nat × List Slot × List Value}
    (hd : decode c.code pc = .ok (ins, len)) (hs : xstep ins len pc ls st = some q) (hr : Steps tb e below (T.setTop (fr f m q.1 q.2.1 q.2.2)) target) : Steps tb e below (T.setTop (fr f m pc ls st)) target := by
  unfold xstep at hs
  split at hs
  · obtain ⟨rfl, hs⟩ := chk_some hs; obtain ⟨v, h1, h2, rfl⟩ := ldV_some hs
    exact XS.aloadN h hx rfl hd (loc_get h1) (by rw [ren_isRef]; exact h2) hr
  · obtain ⟨rfl, hs⟩ := chk_some hs; obtain ⟨v, h1, h2, rfl⟩ := ldV_some hs
    exact XS.aload h hx rfl hd (loc_get h1) (by rw [ren_isRef]; exact h2) hr
  · obtain ⟨rfl, hs⟩ := chk_some hs; obtain ⟨v, h1, h2, rfl⟩ := ldV_some hs; obtain ⟨x, rfl⟩ := isI_int h2
    exact XS.iloadN h hx rfl hd (loc_get (f := f) h1) hr
  · obtain ⟨rfl, hs⟩ := chk_some hs; obtain ⟨v, h1, h2, rfl⟩ := ldV_some hs; obtain ⟨x, rfl⟩ := isI_int h2
    exact XS.iload h hx rfl hd (loc_get (f := f) h1) hr
  · obtain ⟨rfl, hs⟩ := chk_some hs; obtain ⟨v, h1, h2, rfl⟩ := ldV_some hs; obtain ⟨x, rfl⟩ := isL_long h2
    exact XT.lloadN h hx rfl hd (loc_get (f := f) h1) hr
  · obtain ⟨rfl, hs⟩ := chk_some hs; obtain ⟨v, h1, h2, rfl⟩ := ldV_some hs; obtain ⟨x, rfl⟩ := isL_long h2
    exact XT.lload h hx rfl hd (loc_get (f := f) h1) hr
  · obtain ⟨rfl, hs⟩ := chk_some hs; obtain ⟨v, r, l', rfl, h2, h3, rfl⟩ := stV_some hs
    exact XS.astoreN h hx rfl hd rfl (by rw [ren_isRef]; exact h2) (stl_ren h3) hr
  · obtain ⟨rfl, hs⟩ := chk_some hs; obtain ⟨v, r, l', rfl, h2, h3, rfl⟩ := stV_some hs
    exact XS.astore h hx rfl hd rfl (by rw [ren_isRef]; exact h2) (stl_ren h3) hr
  · obtain ⟨rfl, hs⟩ := chk_some hs; obtain ⟨v, r, l', rfl, h2, h3, rfl⟩ := stV_some hs; obtain ⟨x, rfl⟩ := isI_int h2
    exact XS.istoreN h hx rfl hd rfl (stl_ren (f := f) h3) hr
  · obtain ⟨rfl, hs⟩ := chk_some hs; obtain ⟨v, r, l', rfl, h2, h3, rfl⟩ := stV_some hs; obtain ⟨x, rfl⟩ := isI_int h2
    exact XS.istore h hx rfl hd rfl (stl_ren (f := f) h3) hr
  · obtain ⟨rfl, hs⟩ := chk_some hs; obtain ⟨v, r, l', rfl, h2, h3, rfl⟩ := stV_some hs; obtain ⟨x, rfl⟩ := isL_long h2
    exact XT.lstoreN h hx rfl hd rfl (stl_ren (f := f) h3) hr
  · obtain ⟨rfl, hs⟩ := chk_some hs; obtain ⟨v, r, l', rfl, h2, h3, rfl⟩ := stV_some hs; obtain ⟨x, rfl⟩ := isL_long h2
    exact XT.lstore h hx rfl hd rfl (stl_ren (f := f) h3) hr
  · obtain ⟨rfl, hs⟩ := chk_some hs; cases hs
    exact XS.iconst h hx rfl hd hr
  · obtain ⟨rfl, hs⟩ := chk_some hs; cases hs
    exact XS.bipush h hx rfl hd hr
  · obtain ⟨rfl, hs⟩ := chk_some hs; cases hs
    exact XS.sipush h hx rfl hd hr
  · obtain ⟨rfl, hs⟩ := chk_some hs; cases hs
    exact XT.lconst h hx rfl hd hr
  · obtain ⟨rfl, hs⟩ := chk_some hs; obtain ⟨x, y, r, rfl, rfl⟩ := b2_some hs
    exact XS.iadd h hx rfl hd rfl hr
  · obtain ⟨rfl, hs⟩ := chk_some hs; obtain ⟨x, y, r, rfl, rfl⟩ := b2_some hs
    exact XS.isub h hx rfl hd rfl hr
  · obtain ⟨rfl, hs⟩ := chk_some hs; obtain ⟨x, y, r, rfl, rfl⟩ := b2_some hs
    exact XS.imul h hx rfl hd rfl hr
  · obtain ⟨rfl, hs⟩ := chk_some hs; obtain ⟨x, y, r, rfl, rfl⟩ := b2_some hs
    exact XS.iand h hx rfl hd rfl hr
  · obtain ⟨rfl, hs⟩ := chk_some hs; obtain ⟨x, y, r, rfl, rfl⟩ := b2_some hs
    exact XT.ior h hx rfl hd rfl hr
  · obtain ⟨rfl, hs⟩ := chk_some hs; obtain ⟨x, y, r, rfl, rfl⟩ := b2_some hs
    exact XT.ixor h hx rfl hd rfl hr
  · obtain ⟨rfl, hs⟩ := chk_some hs; obtain ⟨x, y, r, rfl, rfl⟩ := b2_some hs
    exact XT.ishl h hx rfl hd rfl hr
  · obtain ⟨rfl, hs⟩ := chk_some hs; obtain ⟨x, y, r, rfl, rfl⟩ := b2_some hs
    exact XT.ishr h hx rfl hd rfl hr
  · obtain ⟨rfl, hs⟩ := chk_some hs; obtain ⟨x, y, r, rfl, rfl⟩ := b2_some hs
    exact XT.iushr h hx rfl hd rfl hr
  · obtain ⟨rfl, hs⟩ := chk_some hs; obtain ⟨x, y, r, rfl, h2, rfl⟩ := d2_some hs
    exact XS.idiv h hx rfl hd rfl h2 hr
  · obtain ⟨rfl, hs⟩ := chk_some hs; obtain ⟨x, y, r, rfl, h2, rfl⟩ := d2_some hs
    refine XS.irem h hx rfl hd rfl h2 ?_
    have q : x - x / y * y = x % y := irem_eq_mod x y
    rw [q]; exact hr
  · obtain ⟨rfl, hs⟩ := chk_some hs; obtain ⟨x, r, rfl, rfl⟩ := u1_some hs
    exact XS.ineg h hx rfl hd rfl hr
  · obtain ⟨rfl, hs⟩ := chk_some hs; obtain ⟨x, r, rfl, rfl⟩ := u1_some hs
    exact XT.i2b h hx rfl hd rfl hr
  · obtain ⟨rfl, hs⟩ := chk_some hs; obtain ⟨x, r, rfl, rfl⟩ := u1_some hs
    exact XT.i2c h hx rfl hd rfl hr
  · obtain ⟨rfl, hs⟩ := chk_some hs; obtain ⟨x, y, r, rfl, rfl⟩ := l2_some hs
    exact XT.ladd h hx rfl hd rfl hr
  · obtain ⟨rfl, hs⟩ := chk_some hs; obtain ⟨x, y, r, rfl, rfl⟩ := l2_some hs
    exact XT.lsub h hx rfl hd rfl hr
  · obtain ⟨rfl, hs⟩ := chk_some hs; obtain ⟨x, y, r, rfl, rfl⟩ := l2_some hs
    exact XT.lmul h hx rfl hd rfl hr
  · obtain ⟨rfl, hs⟩ := chk_some hs; obtain ⟨x, y, r, rfl, rfl⟩ := l2_some hs
    exact XT.land h hx rfl hd rfl hr
  · obtain ⟨rfl, hs⟩ := chk_some hs; obtain ⟨x, y, r, rfl, rfl⟩ := l2_some hs
    exact XT.lor h hx rfl hd rfl hr
  · obtain ⟨rfl, hs⟩ := chk_some hs; obtain ⟨x, y, r, rfl, rfl⟩ := l2_some hs
    exact XT.lxor h hx rfl hd rfl hr
  · obtain ⟨rfl, hs⟩ := chk_some hs; obtain ⟨x, y, r, rfl, rfl⟩ := lsh_some hs
    exact XT.lshl h hx rfl hd rfl hr
  · obtain ⟨rfl, hs⟩ := chk_some hs; obtain ⟨x, y, r, rfl, rfl⟩ := lsh_some hs
    exact XT.lshr h hx rfl hd rfl hr
  · obtain ⟨rfl, hs⟩ := chk_some hs; obtain ⟨x, y, r, rfl, rfl⟩ := lsh_some hs
    exact XT.lushr h hx rfl hd rfl hr
  · obtain ⟨rfl, hs⟩ := chk_some hs
    split at hs
    · cases hs; exact XT.lneg h hx rfl hd rfl hr
    · cases hs
  · obtain ⟨rfl, hs⟩ := chk_some hs
    split at hs
    · cases hs; exact XT.i2l h hx rfl hd rfl hr
    · cases hs
  · obtain ⟨rfl, hs⟩ := chk_some hs
    split at hs
    · cases hs; exact XT.l2i h hx rfl hd rfl hr
    · cases hs
  · obtain ⟨rfl, hs⟩ := chk_some hs
    split at hs
    · cases hs; exact XT.lcmp h hx rfl hd rfl hr
    · cases hs
  · obtain ⟨rfl, hs⟩ := chk_some hs
    split at hs
    · rename_i x h1
      obtain ⟨l', h2, rfl⟩ := Option.map_eq_some_iff.mp hs
      exact XS.iinc h hx rfl hd (loc_get (f := f) h1) (stl_ren (f := f) h2) hr
    · cases hs
  · obtain ⟨rfl, hs⟩ := chk_some hs
    split at hs
    · split at hs
      · rename_i hc; cases hs; exact XS.dup h hx rfl hd rfl (by rw [ren_cat]; exact hc) hr
      · cases hs
    · cases hs
  · obtain ⟨rfl, hs⟩ := chk_some hs
    split at hs
    · cases hs; exact XT.dup2L h hx rfl hd rfl hr
    · split at hs
      · rename_i hc; cases hs; exact XT.dup2 h hx rfl hd rfl (by rw [ren_cat]; exact hc.1) (by rw [ren_cat]; exact hc.2) hr
      · cases hs
    · cases hs
  · obtain ⟨rfl, hs⟩ := chk_some hs
    split at hs
    · split at hs
      · rename_i hc; cases hs; exact XT.pop h hx rfl hd rfl (by rw [ren_cat]; exact hc) hr
      · cases hs
    · cases hs
  · obtain ⟨rfl, hs⟩ := chk_some hs
    obtain ⟨t, h1, rfl⟩ := Option.map_eq_some_iff.mp hs
    obtain ⟨h2, h3⟩ := jmp_some h1
    exact XS.goto h hx rfl rfl hd h2 h3 hr
  · obtain ⟨rfl, hs⟩ := chk_some hs
    split at hs
    · rcases br_some hs with ⟨hc, t, h1, h2, rfl⟩ | ⟨hc, rfl⟩
      · exact XS.ifYes h hx rfl rfl hd rfl hc h1 h2 hr
      · exact XS.ifNo h hx rfl hd rfl hc hr
    · cases hs
  · obtain ⟨rfl, hs⟩ := chk_some hs
    split at hs
    · rcases br_some hs with ⟨hc, t, h1, h2, rfl⟩ | ⟨hc, rfl⟩
      · exact XS.icmpYes h hx rfl rfl hd rfl hc h1 h2 hr
      · exact XS.icmpNo h hx rfl hd rfl hc hr
    · cases hs
  · unfold sw at hs
    split at hs
    · split at hs
      · rename_i hc
        obtain ⟨t, h1, rfl⟩ := Option.map_eq_some_iff.mp hs
        obtain ⟨h2, h3⟩ := jmp_some h1
        exact XS.tswOut h hx rfl rfl hd rfl hc h2 h3 hr
      · rename_i hc
        split at hs
        · rename_i o ho
          obtain ⟨t, h1, rfl⟩ := Option.map_eq_some_iff.mp hs
          obtain ⟨h2, h3⟩ := jmp_some h1
          exact XS.tswIn h hx rfl rfl hd rfl hc ho h2 h3 hr
        · cases hs
    · cases hs
  · cases hs
end X
theorem xstep_size {ins : Instr} {len pc : Nat} {ls : List Slot} {st : List Value} {q : Nat × List Slot × List Value} (hs : xstep ins len pc ls st = some q) : q.2.1.length = ls.length := by
  unfold xstep at hs
  split at hs
  all_goals first
    | (obtain ⟨rfl, hs⟩ := chk_some hs; obtain ⟨v, h1, h2, rfl⟩ := ldV_some hs; rfl)
    | (obtain ⟨rfl, hs⟩ := chk_some hs; obtain ⟨v, r, l', rfl, h2, h3, rfl⟩ := stV_some hs; exact stl_size h3)
    | (obtain ⟨rfl, hs⟩ := chk_some hs; cases hs; rfl)
    | (obtain ⟨rfl, hs⟩ := chk_some hs; obtain ⟨x, y, r, rfl, rfl⟩ := b2_some hs; rfl)
    | (obtain ⟨rfl, hs⟩ := chk_some hs; obtain ⟨x, y, r, rfl, h2, rfl⟩ := d2_some hs; rfl)
    | (obtain ⟨rfl, hs⟩ := chk_some hs; obtain ⟨x, r, rfl, rfl⟩ := u1_some hs; rfl)
    | (obtain ⟨rfl, hs⟩ := chk_some hs; obtain ⟨x, y, r, rfl, rfl⟩ := l2_some hs; rfl)
    | (obtain ⟨rfl, hs⟩ := chk_some hs; obtain ⟨x, y, r, rfl, rfl⟩ := lsh_some hs; rfl)
    | (obtain ⟨rfl, hs⟩ := chk_some hs; split at hs <;> first | (cases hs; rfl) | (cases hs; done))
    | (obtain ⟨rfl, hs⟩ := chk_some hs; split at hs <;> first | (obtain ⟨l', h2, rfl⟩ := Option.map_eq_some_iff.mp hs; exact stl_size h2) | (cases hs; done))
    | (obtain ⟨rfl, hs⟩ := chk_some hs; split at hs <;> first | (split at hs <;> first | (cases hs; rfl) | (cases hs; done)) | (cases hs; rfl) | (cases hs; done))
    | (obtain ⟨rfl, hs⟩ := chk_some hs; obtain ⟨t, h1, rfl⟩ := Option.map_eq_some_iff.mp hs; rfl)
    | (obtain ⟨rfl, hs⟩ := chk_some hs; split at hs <;> first | (rcases br_some hs with ⟨hc, t, h1, h2, rfl⟩ | ⟨hc, rfl⟩ <;> rfl) | (cases hs; done))
    | (unfold sw at hs; split at hs <;> first | (cases hs; done) | (split at hs <;> first | (obtain ⟨t, h1, rfl⟩ := Option.map_eq_some_iff.mp hs; rfl) | (split at hs <;> first | (obtain ⟨t, h1, rfl⟩ := Option.map_eq_some_iff.mp hs; rfl) | (cases hs; done))))
    | (cases hs; done)
end Jvm.Own
namespace Jvm.Own
open Sem ClassFile Op Lib Jvm.Stand Jvm.Free Jvm.LawKit Jvm.RoadKit
/-! OWN 4: the heap's steps -/
def adr (k sa n0 i : Nat) : Nat := if i < k then sa else n0 + (i - k)
def SimO (Z : State) (ws : Ws) (f : Nat → Nat) (h : Heap) (a : Addr) : FieldType × List Value → Prop
  | (.object C, vs) => Exa Z h a C ∧ ∀ n t j, fidx ws C n t = some j → ∃ v, vs[j]? = some v ∧ Fld Z h a C n t (ren f v)
  | (.array ty, vs) => ∃ c : Cell, Arr Z h a c ty ∧ c.slots = (vs.map (ren f)).toArray
  | _ => False
def Sim (Z : State) (ws : Ws) (k sa n0 : Nat) (H : AHeap) (h : Heap) : Prop :=
  h.size = n0 + (H.length - k) ∧ k ≤ H.length ∧ k ≤ 1 ∧ (1 ≤ k → sa < n0) ∧ ∀ i o, H[i]? = some o → SimO Z ws (adr k sa n0) h (adr k sa n0 i) o
def cost (ws : Ws) : FieldType × List Value → Nat
  | (.object C, _) => (rInst ws C).getD 0
  | (_, vs) => vs.length
def tot (ws : Ws) (H : AHeap) : Nat := (H.map (cost ws)).sum
theorem adr_inj {k sa n0 i j : Nat} (hk : k ≤ 1) (hs : 1 ≤ k → sa < n0) (e : adr k sa n0 i = adr k sa n0 j) : i = j := by
  unfold adr at e; split at e <;> split at e <;> omega
theorem adr_ge {k sa n0 a : Nat} (h : k ≤ a) : n0 ≤ adr k sa n0 a := by
  unfold adr; rw [if_neg (by omega)]; omega
theorem tot_app (ws : Ws) (H : AHeap) (o : FieldType × List Value) : tot ws (H ++ [o]) = tot ws H + cost ws o := by simp [tot]
theorem tot_set {ws : Ws} : ∀ {H : AHeap} {a : Nat} {o o' : FieldType × List Value}, H[a]? = some o → cost ws o' = cost ws o → tot ws (H.set a o') = tot ws H
  | [], _, _, _, h, _ => by cases h
  | x :: r, 0, o, o', h, e => by
    simp only [List.getElem?_cons_zero, Option.some.injEq] at h; subst h
    simp [tot, e]
  | x :: r, a + 1, o, o', h, e => by
    have := tot_set (ws := ws) (H := r) (a := a) (o := o) (o' := o') (by simpa using h) e
    simp only [tot, List.set_cons_succ, List.map_cons, List.sum_cons] at this ⊢
    rw [this]
theorem ren_dflt (f : Nat → Nat) (ty : FieldType) : ren f (defaultValue ty) = defaultValue ty := by cases ty <;> rfl
section Facts
variable {Z : State} {ws : Ws} {f : Nat → Nat} {h h' : Heap} {a b : Addr} {o : FieldType × List Value} {sl : Nat} {v : Value}
theorem SimO.ext (E : Ext h h') (S : SimO Z ws f h a o) : SimO Z ws f h' a o := by
  unfold SimO at S ⊢
  split at S
  · exact ⟨S.1.ext E, fun n t j q => by obtain ⟨v, h1, h2⟩ := S.2 n t j q; exact ⟨v, h1, h2.ext E⟩⟩
  · obtain ⟨c, h1, h2⟩ := S; exact ⟨c, h1.ext E, h2⟩
  · exact S.elim
theorem SimO.other (W : Wr h h' b sl v) (ne : a ≠ b) (S : SimO Z ws f h a o) : SimO Z ws f h' a o := by
  unfold SimO at S ⊢
  split at S
  · exact ⟨S.1.wr W, fun n t j q => by obtain ⟨v, h1, h2⟩ := S.2 n t j q; exact ⟨v, h1, h2.other W (Or.inl ne)⟩⟩
  · obtain ⟨c, h1, h2⟩ := S; exact ⟨c, h1.other W ne, h2⟩
  · exact S.elim
theorem Sim.push {k sa n0 : Nat} {H : AHeap} (S : Sim Z ws k sa n0 H h) (E : Ext h h') (hz : h'.size = h.size + 1) (O : SimO Z ws (adr k sa n0) h' h.size o) : Sim Z ws k sa n0 (H ++ [o]) h' := by
  obtain ⟨h1, h2, h3, h4, h5⟩ := S
  refine ⟨by rw [hz, h1, List.length_append, List.length_singleton]; omega, by rw [List.length_append]; omega, h3, h4, fun i o' q => ?_⟩
  rcases Nat.lt_trichotomy i H.length with g | g | g
  · rw [List.getElem?_append_left g] at q; exact (h5 i o' q).ext E
  · subst g
    rw [List.getElem?_append_right (Nat.le_refl _), Nat.sub_self] at q
    cases q
    have e : adr k sa n0 H.length = h.size := by unfold adr; rw [if_neg (by omega), h1]
    rw [e]; exact O
  · rw [List.getElem?_eq_none (by simp; omega)] at q; cases q
theorem Sim.next {k sa n0 : Nat} {H : AHeap} (S : Sim Z ws k sa n0 H h) : h.size = adr k sa n0 H.length := by
  obtain ⟨h1, h2, -⟩ := S
  unfold adr; rw [if_neg (by omega), h1]
theorem Wr.upd {k sa n0 i : Nat} {H : AHeap} {o' : FieldType × List Value} (S : Sim Z ws k sa n0 H h) (W : Wr h h' (adr k sa n0 i) sl v) (O : SimO Z ws (adr k sa n0) h' (adr k sa n0 i) o') : Sim Z ws k sa n0 (H.set i o') h' := by
  obtain ⟨h1, h2, h3, h4, h5⟩ := S
  refine ⟨by rw [W.size, h1, List.length_set], by rw [List.length_set]; exact h2, h3, h4, fun j q hq => ?_⟩
  by_cases e : i = j
  · subst e
    rw [List.getElem?_set_self' ] at hq
    cases hi : H[i]? with
    | none => rw [hi] at hq; cases hq
    | some x => rw [hi] at hq; cases hq; exact O
  · rw [List.getElem?_set_ne e] at hq
    exact (h5 j q hq).other W fun g => e (adr_inj h3 h4 g).symm
end Facts
theorem putv_ok {ty : FieldType} {v v' : Value} (f : Nat → Nat) (h : putv ty v = some v') : narrow ty (ren f v) = ren f v' ∧ fits ty (ren f v') = true := by
  unfold putv at h
  split at h
  · cases h; exact ⟨rfl, rfl⟩
  · cases h; exact ⟨rfl, fits_nar_bool _⟩
  · cases h; exact ⟨rfl, fits_nar_byte _⟩
  · cases h; exact ⟨rfl, fits_nar_char _⟩
  · cases h; exact ⟨rfl, fits_nar_short _⟩
  · cases h; exact ⟨rfl, rfl⟩
  · cases h; exact ⟨rfl, rfl⟩
  · cases h
theorem size_set (c : Cell) (j : Nat) (v : Value) (f : Nat → Nat) {vs : List Value} {v' : Value} (e : c.slots = (vs.map (ren f)).toArray) (q : v = ren f v') : (c.setSlot j v).slots = ((vs.set j v').map (ren f)).toArray := by
  subst q
  show c.slots.setIfInBounds j (ren f v') = _
  rw [e, List.setIfInBounds_toArray, List.map_set]
section H
variable {p : Program} {l : Launch} {e : Env} {R : Room} {s : State} {m : MethodId} {args : Array Value} {below : List Frame} {meth : Method} {c : Code} {T : State} {locs : List Loc} {cells slots : Nat}
  {Z : State} {a0 : Array Value} {ws : Ws} {k sa n0 : Nat} {y : MethodName} {pc : Nat} {ls : List Slot} {st : List Value} {H : AHeap}
/-- the point behind one step -/
def Beh (p : Program) (l : Launch) (e : Env) (R : Room) (s : State) (m : MethodId) (args : Array Value) (below : List Frame) (meth : Method) (c : Code) (T : State) (Z : State) (ws : Ws) (k sa n0 cells slots : Nat) (H : AHeap) (g : JFrame) (pc' : Nat) (ls' : List Slot) (st' : List Value) (H' : AHeap) : Prop :=
  ∃ T' locs', Stand p l e R s m args below meth c T' locs' (cells + (H'.length - H.length)) (slots + (tot ws H' - tot ws H)) ∧ Sim Z ws k sa n0 H' T'.heap ∧ Fr n0 locs' ∧
    ∀ target, Steps p.tables e below (T'.setTop (fr (adr k sa n0) m pc' ls' st')) target → Steps p.tables e below (T.setTop g) target
theorem Beh.stay {g : JFrame} {pc' : Nat} {st' : List Value} {T' : State} (X : Stand p l e R s m args below meth c T' locs cells slots) (S : Sim Z ws k sa n0 H T'.heap) (N : Fr n0 locs)
    (h : ∀ target, Steps p.tables e below (T'.setTop (fr (adr k sa n0) m pc' ls st')) target → Steps p.tables e below (T.setTop g) target) : Beh p l e R s m args below meth c T Z ws k sa n0 cells slots H g pc' ls st' H :=
  ⟨T', locs, by rw [Nat.sub_self, Nat.sub_self]; exact X, S, N, h⟩
theorem hGet_sound (hw : ∀ d ∈ ws, d.before a0 Z = true) (X : Stand p l e R s m args below meth c T locs cells slots) (hx : p.tables.exec = Jvm.exec) (hZ : Z.Warmed39 s.vm) (hown : s.vm.findClass y.cls = some m.cls)
    {i : Nat} (hd : decode c.code pc = .ok (.getfield i, 3)) {q : Nat × List Value × AHeap} (hs : hGet ws y.cls i pc H st = some q) (S : Sim Z ws k sa n0 H T.heap) (N : Fr n0 locs) :
    Beh p l e R s m args below meth c T Z ws k sa n0 cells slots H (fr (adr k sa n0) m pc ls st) q.1 ls q.2.1 q.2.2 := by
  unfold hGet at hs
  split at hs
  · rename_i a r
    split at hs
    · rename_i C j C' vs q1 q2
      split at hs
      · rename_i hC; subst hC
        obtain ⟨v, hv, rfl⟩ := Option.map_eq_some_iff.mp hs
        obtain ⟨n, t, r1, r2⟩ := gfR_some q1
        obtain ⟨v', hv', F⟩ := (S.2.2.2.2 a _ q2).2 n t j r2
        cases hv.symm.trans hv'
        obtain ⟨T', X', e', st'⟩ := getF X hx hZ hown (host := "") (Or.inl (hw _ (rFld_mem r1))) Via.refl rfl F (g := fr (adr k sa n0) m pc ls (.ref a :: r)) rfl rfl hd
        exact Beh.stay X' (by rw [e']; exact S) N st'
      · cases hs
    · cases hs
  · cases hs
theorem hPut_sound (hw : ∀ d ∈ ws, d.before a0 Z = true) (X : Stand p l e R s m args below meth c T locs cells slots) (hx : p.tables.exec = Jvm.exec) (hZ : Z.Warmed39 s.vm) (hown : s.vm.findClass y.cls = some m.cls) (hnm : meth.name = y.name)
    {i : Nat} (hd : decode c.code pc = .ok (.putfield i, 3)) {q : Nat × List Value × AHeap} (hs : hPut ws k y.cls y.name i pc H st = some q) (S : Sim Z ws k sa n0 H T.heap) (N : Fr n0 locs) :
    Beh p l e R s m args below meth c T Z ws k sa n0 cells slots H (fr (adr k sa n0) m pc ls st) q.1 ls q.2.1 q.2.2 := by
  unfold hPut at hs
  split at hs
  · rename_i v a r
    split at hs
    · rename_i C j ty C' vs q1 q2
      split at hs
      · rename_i hC; obtain ⟨rfl, hk, hj⟩ := hC
        obtain ⟨v', hv, rfl⟩ := Option.map_eq_some_iff.mp hs
        obtain ⟨n, t, r1, r2, r3, r4, ⟨ki, r5⟩, r6⟩ := pfR_some q1
        have SO := S.2.2.2.2 a _ q2
        obtain ⟨w, hw', F⟩ := SO.2 n t j r2
        obtain ⟨g1, g2⟩ := putv_ok (adr k sa n0) hv
        obtain ⟨T', h', X', e', W, st'⟩ := putFN X hx hZ hown (hw _ (rFld_mem r1)) Via.refl rfl F SO.1 (r4.imp (fun q => hw _ q) fun q => ⟨hw _ q.1, q.2.1, hnm.trans q.2.2⟩) (hw _ r5) r3 g1 g2 (g := fr (adr k sa n0) m pc ls (v :: .ref a :: r)) rfl rfl hd
        have LL : ∀ {n' t' : String}, (n', t') ∈ olay ws C → Laid Z a0 C C n' t' := fun q => (lay_mem q).1.imp (fun q => hw _ q) (fun q => hw _ q)
        have O' : SimO Z ws (adr k sa n0) h' (adr k sa n0 a) (.object C, vs.set j v') := by
          refine ⟨SO.1.wr W, fun n' t' j' q' => ?_⟩
          obtain ⟨u, hu, F'⟩ := SO.2 n' t' j' q'
          by_cases ej : j = j'
          · subst ej
            obtain ⟨rfl, rfl⟩ := fidx_inj r2 q'
            exact ⟨v', by rw [List.getElem?_set_self hj], F.same W⟩
          · refine ⟨u, by rw [List.getElem?_set_ne ej]; exact hu, F'.other W (Or.inr ?_)⟩
            obtain ⟨-, ty', p'⟩ := lay_mem (fidx_mem q')
            refine slot_ne (LL (fidx_mem q')) (LL (fidx_mem r2)) (fun en => ?_) p' r3
            rcases r6 n' t' (fidx_mem q') with g | g
            · exact g en
            · subst en g; rw [r2] at q'; exact ej (Option.some.inj q')
        refine ⟨T', _, ?_, by rw [e']; exact Wr.upd S W O', Fr.snoc X' N (adr_ge hk), st'⟩
        show Stand p l e R s m args below meth c T' _ (cells + ((H.set a (.object C, vs.set j v')).length - H.length)) (slots + (tot ws (H.set a (.object C, vs.set j v')) - tot ws H))
        rw [List.length_set, tot_set (o := (.object C, vs)) (o' := (.object C, vs.set j v')) q2 rfl, Nat.sub_self, Nat.sub_self]
        exact X'
      · cases hs
    · cases hs
  · cases hs
theorem hNew_sound (hw : ∀ d ∈ ws, d.before a0 Z = true) (X : Stand p l e R s m args below meth c T locs cells slots) (hx : p.tables.exec = Jvm.exec) (hZ : Z.Warmed39 s.vm) (hown : s.vm.findClass y.cls = some m.cls)
    {i : Nat} (hd : decode c.code pc = .ok (.new i, 3)) {q : Nat × List Value × AHeap} (hs : hNew ws y.cls i pc H st = some q) (S : Sim Z ws k sa n0 H T.heap) (N : Fr n0 locs)
    (hc : cells + (q.2.2.length - H.length) ≤ R.cells) (hl : slots + (tot ws q.2.2 - tot ws H) ≤ R.slots) (hz0 : T.heap.size = s.heap.size + cells) :
    Beh p l e R s m args below meth c T Z ws k sa n0 cells slots H (fr (adr k sa n0) m pc ls st) q.1 ls q.2.1 q.2.2 := by
  unfold hNew at hs
  split at hs
  · rename_i C q1
    split at hs
    · rename_i g; cases hs
      obtain ⟨ki, hki⟩ := Option.isSome_iff_exists.mp g.1
      have ec : (H ++ [(FieldType.object C, (olay ws C).map dflt)]).length - H.length = 1 := by simp
      have es : tot ws (H ++ [(FieldType.object C, (olay ws C).map dflt)]) - tot ws H = ki := by
        rw [tot_app]; simp [cost, hki]
      dsimp only at hc hl ⊢
      rw [ec] at hc; rw [es] at hl
      have hz := S.next
      obtain ⟨T', h', X', e', E, A, D, -, st'⟩ := newO X hx hZ hown (hw _ (rCls_mem q1)) (hw _ (rInst_mem hki)) (hw _ (hasInit_mem g.2)) rfl (g := fr (adr k sa n0) m pc ls st) rfl hd hc hl
      have hz' : h'.size = T.heap.size + 1 := by
        have u1 := X'.heapSize
        have a1 : (T.heap.size : Nat) < h'.size := A.lt
        rw [e'] at u1
        omega
      refine ⟨T', locs, by rw [ec, es]; exact X', ?_, N, ?_⟩
      · rw [e']
        refine S.push E hz' ⟨A, fun n t j q => ?_⟩
        have hm := fidx_mem q
        obtain ⟨q2, ty, q3⟩ := lay_mem hm
        refine ⟨dflt (n, t), by rw [List.getElem?_map, idx_get q]; rfl, ?_⟩
        have F := D (O := C) (nm := n) (d := t) (q2.imp (fun q => hw _ q) (fun q => hw _ q)) q3
        have e3 : ren (adr k sa n0) (dflt (n, t)) = defaultValue ty := by simp only [dflt, q3, ren_dflt]
        rw [e3]; exact F
      · intro target ht
        rw [hz] at st'
        exact st' target ht
    · cases hs
  · cases hs
theorem hNewA_sound (hw : ∀ d ∈ ws, d.before a0 Z = true) (X : Stand p l e R s m args below meth c T locs cells slots) (hx : p.tables.exec = Jvm.exec) (hZ : Z.Warmed39 s.vm)
    {aty : ArrayType} (hd : decode c.code pc = .ok (.newarray aty, 2)) {q : Nat × List Value × AHeap} (hs : hNewA ws aty pc H st = some q) (S : Sim Z ws k sa n0 H T.heap) (N : Fr n0 locs)
    (hc : cells + (q.2.2.length - H.length) ≤ R.cells) (hl : slots + (tot ws q.2.2 - tot ws H) ≤ R.slots) (hz0 : T.heap.size = s.heap.size + cells) :
    Beh p l e R s m args below meth c T Z ws k sa n0 cells slots H (fr (adr k sa n0) m pc ls st) q.1 ls q.2.1 q.2.2 := by
  unfold hNewA at hs
  split at hs
  · rename_i n r
    split at hs
    · rename_i g; cases hs
      obtain ⟨g1, g2, g3⟩ := g
      have ec : (H ++ [(FieldType.array (newarray.typeOf aty), List.replicate n.toNatClampNeg (defaultValue (newarray.typeOf aty)))]).length - H.length = 1 := by simp
      have es : tot ws (H ++ [(FieldType.array (newarray.typeOf aty), List.replicate n.toNatClampNeg (defaultValue (newarray.typeOf aty)))]) - tot ws H = n.toNatClampNeg := by
        rw [tot_app]; simp [cost]
      dsimp only at hc hl ⊢
      rw [ec] at hc; rw [es] at hl
      have hz := S.next
      obtain ⟨T', h', cA, X', e', E, A, st'⟩ := newP X hx hZ (hw _ (hasArr_mem g1)) rfl (g := fr (adr k sa n0) m pc ls (.int n :: r)) rfl hd rfl g2 (cap := n.toNatClampNeg) (Nat.le_refl _) g3 hc hl
      have hz' : h'.size = T.heap.size + 1 := by
        have u1 := X'.heapSize
        have a1 : (T.heap.size : Nat) < h'.size := A.lt
        rw [e'] at u1
        omega
      refine ⟨T', locs, by rw [ec, es]; exact X', ?_, N, ?_⟩
      · rw [e']
        refine S.push E hz' ⟨_, A, ?_⟩
        simp [newA, ren_dflt]
      · intro target ht
        rw [hz] at st'
        exact st' target ht
    · cases hs
  · cases hs
theorem hLd_some {ok : FieldType → Bool} {q : Nat × List Value × AHeap} (hs : hLd ok pc H st = some q) : ∃ j a r ty vs v, st = .int j :: .ref a :: r ∧ H[a]? = some (.array ty, vs) ∧ ok ty = true ∧ ¬ j < 0 ∧ vs[j.toNatClampNeg]? = some v ∧ q = (pc + 1, v :: r, H) := by
  unfold hLd at hs
  split at hs
  · split at hs
    · split at hs
      · rename_i g
        obtain ⟨v, h1, h2⟩ := Option.map_eq_some_iff.mp hs
        exact ⟨_, _, _, _, _, v, rfl, by assumption, g.1, g.2, h1, h2.symm⟩
      · cases hs
    · cases hs
  · cases hs
theorem hSt_some {ok : FieldType → Bool} {q : Nat × List Value × AHeap} (hs : hSt ok k pc H st = some q) : ∃ v j a r ty vs v', st = v :: .int j :: .ref a :: r ∧ H[a]? = some (.array ty, vs) ∧ ok ty = true ∧ k ≤ a ∧ ¬ j < 0 ∧ j.toNatClampNeg < vs.length ∧ putv ty v = some v' ∧ q = (pc + 1, r, H.set a (.array ty, vs.set j.toNatClampNeg v')) := by
  unfold hSt at hs
  split at hs
  · split at hs
    · split at hs
      · rename_i g
        obtain ⟨v, h1, h2⟩ := Option.map_eq_some_iff.mp hs
        exact ⟨_, _, _, _, _, _, v, rfl, by assumption, g.1, g.2.1, g.2.2.1, g.2.2.2, h1, h2.symm⟩
      · cases hs
    · cases hs
  · cases hs
theorem hLen_some {q : Nat × List Value × AHeap} (hs : hLen pc H st = some q) : ∃ a r ty vs, st = .ref a :: r ∧ H[a]? = some (.array ty, vs) ∧ q = (pc + 1, .int vs.length.toInt32 :: r, H) := by
  unfold hLen at hs
  split at hs
  · split at hs
    · cases hs; exact ⟨_, _, _, _, rfl, by assumption, rfl⟩
    · cases hs
  · cases hs
/-- behind a store into an array -/
theorem st_beh {T' : State} {h' : Heap} {a j : Nat} {ty : FieldType} {vs : List Value} {v' : Value} {r : List Value} {g : JFrame} (X' : Stand p l e R s m args below meth c T' (locs ++ [⟨adr k sa n0 a, j⟩]) cells slots) (e' : T'.heap = h') (W : Wr T.heap h' (adr k sa n0 a) j (ren (adr k sa n0) v'))
    (S : Sim Z ws k sa n0 H T.heap) (N : Fr n0 locs) (q2 : H[a]? = some (.array ty, vs)) (hk : k ≤ a)
    (st' : ∀ target, Steps p.tables e below (T'.setTop (fr (adr k sa n0) m (pc + 1) ls r)) target → Steps p.tables e below (T.setTop g) target) :
    Beh p l e R s m args below meth c T Z ws k sa n0 cells slots H g (pc + 1) ls r (H.set a (.array ty, vs.set j v')) := by
  obtain ⟨cl, A, es⟩ := S.2.2.2.2 a _ q2
  refine ⟨T', _, ?_, by rw [e']; exact Wr.upd S W ⟨_, A.same W, size_set cl j _ _ es rfl⟩, Fr.snoc X' N (adr_ge hk), st'⟩
  rw [List.length_set, tot_set (o := (.array ty, vs)) (o' := (.array ty, vs.set j v')) q2 (by simp [cost]), Nat.sub_self, Nat.sub_self]
  exact X'
set_option maxHeartbeats 1000000 in
theorem hstep_sound (hw : ∀ d ∈ ws, d.before a0 Z = true) (X : Stand p l e R s m args below meth c T locs cells slots) (hx : p.tables.exec = Jvm.exec) (hZ : Z.Warmed39 s.vm) (hown : s.vm.findClass y.cls = some m.cls) (hnm : meth.name = y.name)
    {ins : Instr} {len : Nat} (hd : decode c.code pc = .ok (ins, len)) {q : Nat × List Value × AHeap} (hs : hstep ws k y ins len pc st H = some q) (S : Sim Z ws k sa n0 H T.heap) (N : Fr n0 locs)
    (hc : cells + (q.2.2.length - H.length) ≤ R.cells) (hl : slots + (tot ws q.2.2 - tot ws H) ≤ R.slots) (hz0 : T.heap.size = s.heap.size + cells) :
    Beh p l e R s m args below meth c T Z ws k sa n0 cells slots H (fr (adr k sa n0) m pc ls st) q.1 ls q.2.1 q.2.2 := by
  unfold hstep at hs
  split at hs
  · obtain ⟨rfl, hs⟩ := chk_some hs
    exact hGet_sound hw X hx hZ hown hd hs S N
  · obtain ⟨rfl, hs⟩ := chk_some hs
    exact hPut_sound hw X hx hZ hown hnm hd hs S N
  · obtain ⟨rfl, hs⟩ := chk_some hs
    exact hNew_sound hw X hx hZ hown hd hs S N hc hl hz0
  · obtain ⟨rfl, hs⟩ := chk_some hs
    exact hNewA_sound hw X hx hZ hd hs S N hc hl hz0
  · obtain ⟨rfl, hs⟩ := chk_some hs
    obtain ⟨j, a, r, ty, vs, v, rfl, q2, ho, hj, hv, rfl⟩ := hLd_some hs
    obtain rfl : ty = _ := of_decide_eq_true ho
    obtain ⟨cl, A, es⟩ := S.2.2.2.2 a _ q2
    have hlt := (List.getElem?_eq_some_iff.mp hv).1
    exact Beh.stay X S N fun target ht => X.iaload hx (j := j) (v := ren (adr k sa n0) v) A.1 (State.isArrayOf_alike hZ.alike A.2.1) A.2.2 (fun g => g.elim hj fun g => by rw [es] at g; simp at g; omega) (by rw [es, List.getElem?_toArray, List.getElem?_map, hv]; rfl) (g := fr (adr k sa n0) m pc ls (.int j :: .ref a :: r)) rfl rfl hd target ht
  · obtain ⟨rfl, hs⟩ := chk_some hs
    obtain ⟨j, a, r, ty, vs, v, rfl, q2, ho, hj, hv, rfl⟩ := hLd_some hs
    obtain rfl : ty = _ := of_decide_eq_true ho
    obtain ⟨cl, A, es⟩ := S.2.2.2.2 a _ q2
    have hlt := (List.getElem?_eq_some_iff.mp hv).1
    exact Beh.stay X S N fun target ht => X.caload hx (j := j) (v := ren (adr k sa n0) v) A.1 (State.isArrayOf_alike hZ.alike A.2.1) A.2.2 (fun g => g.elim hj fun g => by rw [es] at g; simp at g; omega) (by rw [es, List.getElem?_toArray, List.getElem?_map, hv]; rfl) (g := fr (adr k sa n0) m pc ls (.int j :: .ref a :: r)) rfl rfl hd target ht
  · obtain ⟨rfl, hs⟩ := chk_some hs
    obtain ⟨j, a, r, ty, vs, v, rfl, q2, ho, hj, hv, rfl⟩ := hLd_some hs
    obtain rfl : ty = _ := of_decide_eq_true ho
    obtain ⟨cl, A, es⟩ := S.2.2.2.2 a _ q2
    have hlt := (List.getElem?_eq_some_iff.mp hv).1
    exact Beh.stay X S N fun target ht => X.laload hx (j := j) (v := ren (adr k sa n0) v) A.1 (State.isArrayOf_alike hZ.alike A.2.1) A.2.2 (fun g => g.elim hj fun g => by rw [es] at g; simp at g; omega) (by rw [es, List.getElem?_toArray, List.getElem?_map, hv]; rfl) (g := fr (adr k sa n0) m pc ls (.int j :: .ref a :: r)) rfl rfl hd target ht
  · obtain ⟨rfl, hs⟩ := chk_some hs
    obtain ⟨j, a, r, ty, vs, v, rfl, q2, ho, hj, hv, rfl⟩ := hLd_some hs
    obtain ⟨cl, A, es⟩ := S.2.2.2.2 a _ q2
    have hlt := (List.getElem?_eq_some_iff.mp hv).1
    simp only [okB, Bool.or_eq_true, decide_eq_true_eq] at ho
    rcases ho with rfl | rfl
    · exact Beh.stay X S N fun target ht => X.baloadBytes hx (j := j) (v := ren (adr k sa n0) v) A.1 (State.isArrayOf_alike hZ.alike A.2.1) A.2.2 (fun g => g.elim hj fun g => by rw [es] at g; simp at g; omega) (by rw [es, List.getElem?_toArray, List.getElem?_map, hv]; rfl) (g := fr (adr k sa n0) m pc ls (.int j :: .ref a :: r)) rfl rfl hd target ht
    · exact Beh.stay X S N fun target ht => X.baloadBooleans hx (j := j) (v := ren (adr k sa n0) v) A.1 (State.isArrayOf_alike hZ.alike A.2.1) A.2.2 (fun g => g.elim hj fun g => by rw [es] at g; simp at g; omega) (by rw [es, List.getElem?_toArray, List.getElem?_map, hv]; rfl) (g := fr (adr k sa n0) m pc ls (.int j :: .ref a :: r)) rfl rfl hd target ht
  · obtain ⟨rfl, hs⟩ := chk_some hs
    obtain ⟨v, j, a, r, ty, vs, v', rfl, q2, ho, hk, hj, hlt, hv, rfl⟩ := hSt_some hs
    obtain rfl : ty = _ := of_decide_eq_true ho
    obtain ⟨cl, A, es⟩ := S.2.2.2.2 a _ q2
    cases v <;> simp only [putv, Option.some.injEq, reduceCtorEq] at hv
    subst hv
    obtain ⟨T', h', X', e', W, st'⟩ := stI X hx hZ rfl A (j := j) (fun g => g.elim hj fun g => by rw [es] at g; simp at g; omega) (g := fr (adr k sa n0) m pc ls (.int _ :: .int j :: .ref a :: r)) rfl rfl hd
    exact st_beh X' e' W S N q2 hk st'
  · obtain ⟨rfl, hs⟩ := chk_some hs
    obtain ⟨v, j, a, r, ty, vs, v', rfl, q2, ho, hk, hj, hlt, hv, rfl⟩ := hSt_some hs
    obtain rfl : ty = _ := of_decide_eq_true ho
    obtain ⟨cl, A, es⟩ := S.2.2.2.2 a _ q2
    cases v <;> simp only [putv, Option.some.injEq, reduceCtorEq] at hv
    subst hv
    obtain ⟨T', h', X', e', W, st'⟩ := stC X hx hZ rfl A (j := j) (fun g => g.elim hj fun g => by rw [es] at g; simp at g; omega) (g := fr (adr k sa n0) m pc ls (.int _ :: .int j :: .ref a :: r)) rfl rfl hd
    exact st_beh X' e' W S N q2 hk st'
  · obtain ⟨rfl, hs⟩ := chk_some hs
    obtain ⟨v, j, a, r, ty, vs, v', rfl, q2, ho, hk, hj, hlt, hv, rfl⟩ := hSt_some hs
    obtain rfl : ty = _ := of_decide_eq_true ho
    obtain ⟨cl, A, es⟩ := S.2.2.2.2 a _ q2
    cases v <;> simp only [putv, Option.some.injEq, reduceCtorEq] at hv
    subst hv
    obtain ⟨T', h', X', e', W, st'⟩ := stJ X hx hZ rfl A (j := j) (fun g => g.elim hj fun g => by rw [es] at g; simp at g; omega) (g := fr (adr k sa n0) m pc ls (.long _ :: .int j :: .ref a :: r)) rfl rfl hd
    exact st_beh X' e' W S N q2 hk st'
  · obtain ⟨rfl, hs⟩ := chk_some hs
    obtain ⟨v, j, a, r, ty, vs, v', rfl, q2, ho, hk, hj, hlt, hv, rfl⟩ := hSt_some hs
    obtain ⟨cl, A, es⟩ := S.2.2.2.2 a _ q2
    simp only [okB, Bool.or_eq_true, decide_eq_true_eq] at ho
    rcases ho with rfl | rfl
    · cases v <;> simp only [putv, Option.some.injEq, reduceCtorEq] at hv
      subst hv
      obtain ⟨T', h', X', e', W, st'⟩ := stB X hx hZ rfl A (j := j) (fun g => g.elim hj fun g => by rw [es] at g; simp at g; omega) (g := fr (adr k sa n0) m pc ls (.int _ :: .int j :: .ref a :: r)) rfl rfl hd
      exact st_beh X' e' W S N q2 hk st'
    · cases v <;> simp only [putv, Option.some.injEq, reduceCtorEq] at hv
      subst hv
      obtain ⟨T', h', X', e', W, st'⟩ := stZ X hx hZ rfl A (j := j) (fun g => g.elim hj fun g => by rw [es] at g; simp at g; omega) (g := fr (adr k sa n0) m pc ls (.int _ :: .int j :: .ref a :: r)) rfl rfl hd
      exact st_beh X' e' W S N q2 hk st'
  · obtain ⟨rfl, hs⟩ := chk_some hs
    obtain ⟨a, r, ty, vs, rfl, q2, rfl⟩ := hLen_some hs
    obtain ⟨cl, A, es⟩ := S.2.2.2.2 a _ q2
    have ez : cl.slots.size = vs.length := by rw [es]; simp
    refine Beh.stay X S N fun target ht => X.arraylength hx (cell := cl) A.1 (State.isArrayOf_alike hZ.alike A.2.1) (g := fr (adr k sa n0) m pc ls (.ref a :: r)) rfl rfl hd target ?_
    rw [ez]; exact ht
  · obtain ⟨rfl, hs⟩ := chk_some hs
    obtain ⟨v, hv, rfl⟩ := Option.map_eq_some_iff.mp hs
    exact Beh.stay X S N (X.ldcInt hx hown (mvT hZ (hw _ (rCon_mem hv))) (g := fr (adr k sa n0) m pc ls st) rfl hd)
  · obtain ⟨rfl, hs⟩ := chk_some hs
    obtain ⟨v, hv, rfl⟩ := Option.map_eq_some_iff.mp hs
    exact Beh.stay X S N (X.ldcwInt hx hown (mvT hZ (hw _ (rCon_mem hv))) (g := fr (adr k sa n0) m pc ls st) rfl hd)
  · obtain ⟨rfl, hs⟩ := chk_some hs
    obtain ⟨v, hv, rfl⟩ := Option.map_eq_some_iff.mp hs
    exact Beh.stay X S N (X.ldc2Long hx hown (mvT hZ (hw _ (rConL_mem hv))) (g := fr (adr k sa n0) m pc ls st) rfl hd)
  · cases hs
end H
theorem hstep_size {ws : Ws} {k : Nat} {y : MethodName} {ins : Instr} {len pc : Nat} {st : List Value} {H : AHeap} {q : Nat × List Value × AHeap} (hs : hstep ws k y ins len pc st H = some q) : H.length ≤ q.2.2.length ∧ tot ws H ≤ tot ws q.2.2 := by
  unfold hstep at hs
  split at hs
  · obtain ⟨rfl, hs⟩ := chk_some hs
    unfold hGet at hs
    split at hs
    · split at hs
      · split at hs
        · obtain ⟨v, -, rfl⟩ := Option.map_eq_some_iff.mp hs; exact ⟨Nat.le_refl _, Nat.le_refl _⟩
        · cases hs
      · cases hs
    · cases hs
  · obtain ⟨rfl, hs⟩ := chk_some hs
    unfold hPut at hs
    split at hs
    · split at hs
      · rename_i C j ty C' vs q1 q2
        split at hs
        · obtain ⟨v, -, rfl⟩ := Option.map_eq_some_iff.mp hs
          exact ⟨Nat.le_of_eq (by rw [List.length_set]), Nat.le_of_eq (tot_set (o := (.object C', vs)) (o' := (.object C', vs.set j v)) q2 rfl).symm⟩
        · cases hs
      · cases hs
    · cases hs
  · obtain ⟨rfl, hs⟩ := chk_some hs
    unfold hNew at hs
    split at hs
    · split at hs
      · cases hs; exact ⟨by simp, by rw [tot_app]; omega⟩
      · cases hs
    · cases hs
  · obtain ⟨rfl, hs⟩ := chk_some hs
    unfold hNewA at hs
    split at hs
    · split at hs
      · cases hs; exact ⟨by simp, by rw [tot_app]; omega⟩
      · cases hs
    · cases hs
  all_goals first
    | (obtain ⟨rfl, hs⟩ := chk_some hs; obtain ⟨j, a, r, ty, vs, v, rfl, q2, ho, hj, hv, rfl⟩ := hLd_some hs; exact ⟨Nat.le_refl _, Nat.le_refl _⟩)
    | (obtain ⟨rfl, hs⟩ := chk_some hs; obtain ⟨v, j, a, r, ty, vs, v', rfl, q2, ho, hk, hj, hlt, hv, rfl⟩ := hSt_some hs; exact ⟨Nat.le_of_eq (by rw [List.length_set]), Nat.le_of_eq (tot_set (o := (.array ty, vs)) (o' := (.array ty, vs.set _ v')) q2 (by simp [cost])).symm⟩)
    | (obtain ⟨rfl, hs⟩ := chk_some hs; obtain ⟨a, r, ty, vs, rfl, q2, rfl⟩ := hLen_some hs; exact ⟨Nat.le_refl _, Nat.le_refl _⟩)
    | (obtain ⟨rfl, hs⟩ := chk_some hs; obtain ⟨v, hv, rfl⟩ := Option.map_eq_some_iff.mp hs; exact ⟨Nat.le_refl _, Nat.le_refl _⟩)
    | (cases hs; done)
end Jvm.Own
namespace Jvm.Own
open Sem ClassFile Op Lib Jvm.Stand Jvm.Free Jvm.LawKit Jvm.RoadKit
/-! OWN 5: the run is the machine's -/
theorem ent_ren (f : Nat → Nat) : ∀ as : List Value, ent (as.map (ren f)) = (ent as).map (renS f)
  | [] => rfl
  | v :: r => by
    simp only [List.map_cons, ent, ren_cat, ent_ren f r]
    split <;> rfl
theorem fill_eq : ∀ (as : List Value) (acc : Array Slot), as.foldl (fun acc v => if v.category = 2 then (acc.push (.val v)).push .second else acc.push (.val v)) acc = acc ++ (ent as).toArray
  | [], acc => by simp [ent]
  | v :: r, acc => by
    simp only [List.foldl_cons, ent]
    split
    · rw [fill_eq r]; simp [← Array.toList_inj]
    · rw [fill_eq r]; simp [← Array.toList_inj]
theorem entry_eq (f : Nat → Nat) (m : MethodId) (as : List Value) (mx : Nat) : entryFrame m (as.map (ren f)).toArray mx = fr f m 0 (entry as mx) [] := by
  have h : argsToLocals (as.map (ren f)).toArray mx = ((entry as mx).map (renS f)).toArray := by
    unfold argsToLocals entry
    simp only [List.foldl_toArray']
    rw [fill_eq, ent_ren]
    simp [← Array.toList_inj, renS]
  unfold entryFrame
  rw [h]; rfl
theorem entry_len {as : List Value} {mx : Nat} (h : (ent as).length ≤ mx) : (entry as mx).length = mx := by simp [entry]; omega
theorem wsum_ren (f : Nat → Nat) (st : List Value) : ((st.map (ren f)).map fun v => v.category).sum = wsum st := by
  unfold wsum
  rw [List.map_map]
  congr 1
  apply List.map_congr_left
  intro v _
  exact ren_cat f v
section Inv
variable {ws : Ws} {dn : Dn} {k : Nat} {y : MethodName} {bytes : ByteArray} {ret : Option FieldType} {pc : Nat} {ls : List Slot} {st : List Value} {H : AHeap}
theorem cR_some {i : Nat} {y' : MethodName} {b : ByteArray} {mx na sl : Nat} {r : Option FieldType} (h : cR ws dn y i = some (y', b, mx, r, na, sl)) :
    Jvm.Cond.methodLink y.cls i y' ∈ ws ∧ Jvm.Cond.code y' b mx r ∈ ws ∧ Jvm.Cond.initialized y'.cls ∈ ws ∧ Jvm.plainName y'.cls = true ∧ (y'.cls ≠ "java/lang/invoke/MethodHandle" ∧ y'.cls ≠ "java/lang/invoke/VarHandle") ∧ rCode ws y' = some (b, mx, r) ∧
    ∃ f' l' f l sig, dnOf dn y' = some (f', l') ∧ dnOf dn y = some (f, l) ∧ parseMethodDescriptor y'.desc = some sig ∧ na = sig.parameters.length ∧ f' + 1 ≤ f ∧ sl + (mx + 11) + l' ≤ l := by
  unfold cR at h
  split at h
  · cases h
  · rename_i z q1
    split at h
    · rename_i b' mx' r' f' l' f l sig q2 q3 q4 q5
      split at h
      · rename_i g
        cases h
        obtain ⟨g1, g2, g3, g4, g5, g6⟩ := g
        exact ⟨rMth_mem q1, rCode_mem q2, hasInit_mem g1, g2, ⟨g3, g4⟩, q2, f', l', f, l, sig, q3, q4, q5, rfl, g5, by omega⟩
      · cases h
    · cases h
theorem act_ret {v : Option Value} (h : act ws dn k y bytes ret pc ls st H = some (.inl v)) : (∃ z r t, decode bytes pc = .ok (.ireturn, 1) ∧ st = .int z :: r ∧ ret = some t ∧ (t = .int ∨ t = .boolean ∨ t = .byte ∨ t = .char ∨ t = .short) ∧ v = some (.int (nar t z))) ∨
    (∃ z, decode bytes pc = .ok (.lreturn, 1) ∧ st = [.long z] ∧ ret = some .long ∧ v = some (.long z)) ∨ (decode bytes pc = .ok (.return_, 1) ∧ st = [] ∧ ret = none ∧ v = none) := by
  unfold act at h
  split at h
  · cases h
  rename_i ins len hd
  split at h
  · cases h
  split at h
  · cases h
  unfold cstep at h
  split at h
  · obtain ⟨rfl, h⟩ := chk_some h
    split at h
    · split at h
      · rename_i g; cases h; exact Or.inl ⟨_, _, _, hd, rfl, rfl, g, rfl⟩
      · cases h
    · cases h
  · obtain ⟨rfl, h⟩ := chk_some h
    split at h
    · cases h; exact Or.inr (Or.inl ⟨_, hd, rfl, rfl, rfl⟩)
    · cases h
  · obtain ⟨rfl, h⟩ := chk_some h
    split at h
    · cases h; exact Or.inr (Or.inr ⟨hd, rfl, rfl, rfl⟩)
    · cases h
  · obtain ⟨rfl, h⟩ := chk_some h
    split at h
    · split at h <;> cases h
    · cases h
  · obtain ⟨rfl, h⟩ := chk_some h
    split at h
    · split at h
      · split at h <;> cases h
      · cases h
    · split at h
      · split at h
        · split at h <;> cases h
        · cases h
      · cases h
  · obtain ⟨rfl, h⟩ := chk_some h
    split at h
    · split at h
      · split at h
        · split at h <;> cases h
        · cases h
      · cases h
    · cases h
  · cases h
theorem act_step {pc' : Nat} {ls' : List Slot} {st' : List Value} {H' : AHeap} (h : act ws dn k y bytes ret pc ls st H = some (.inr (.inl (pc', ls', st', H')))) : ∃ ins len, decode bytes pc = .ok (ins, len) ∧
    ((xstep ins len pc ls st = some (pc', ls', st') ∧ H' = H) ∨ (ls' = ls ∧ hstep ws k y ins len pc st H = some (pc', st', H')) ∨
     (∃ i sl a r, ins = .invokespecial i ∧ len = 3 ∧ oR ws dn y i = some sl ∧ st = .ref a :: r ∧ wsum r ≤ sl ∧ pc' = pc + 3 ∧ ls' = ls ∧ st' = r ∧ H' = H)) := by
  unfold act at h
  split at h
  · cases h
  rename_i ins len hd
  refine ⟨ins, len, hd, ?_⟩
  split at h
  · rename_i g; cases h; exact Or.inl ⟨g, rfl⟩
  split at h
  · rename_i g; cases h; exact Or.inr (Or.inl ⟨rfl, g⟩)
  unfold cstep at h
  split at h
  · obtain ⟨rfl, h⟩ := chk_some h
    split at h
    · split at h <;> cases h
    · cases h
  · obtain ⟨rfl, h⟩ := chk_some h
    split at h <;> cases h
  · obtain ⟨rfl, h⟩ := chk_some h
    split at h <;> cases h
  · obtain ⟨rfl, h⟩ := chk_some h
    split at h
    · split at h <;> cases h
    · cases h
  · obtain ⟨rfl, h⟩ := chk_some h
    split at h
    · rename_i sl ho
      split at h
      · split at h
        · rename_i g; cases h; exact Or.inr (Or.inr ⟨_, sl, _, _, rfl, rfl, ho, rfl, g, rfl, rfl, rfl, rfl⟩)
        · cases h
      · cases h
    · split at h
      · split at h
        · split at h <;> cases h
        · cases h
      · cases h
  · obtain ⟨rfl, h⟩ := chk_some h
    split at h
    · split at h
      · split at h
        · split at h <;> cases h
        · cases h
      · cases h
    · cases h
  · cases h
/-- the three kinds of call -/
theorem act_call {y' : MethodName} {b : ByteArray} {r : Option FieldType} {en : List Slot} {rest : List Value} (h : act ws dn k y bytes ret pc ls st H = some (.inr (.inr (y', b, r, en, rest)))) : ∃ i mx na sl as, cR ws dn y i = some (y', b, mx, r, na, sl) ∧ en = entry as mx ∧ (ent as).length ≤ mx ∧ wsum rest ≤ sl ∧
    ((decode bytes pc = .ok (.invokestatic i, 3) ∧ Jvm.Cond.static y' ∈ ws ∧ as.length = na ∧ st = as.reverse ++ rest) ∨
     (∃ a as', as = .ref a :: as' ∧ as'.length = na ∧ st = as'.reverse ++ .ref a :: rest ∧ Jvm.Cond.instanceMethod y' ∈ ws ∧
      ((decode bytes pc = .ok (.invokespecial i, 3) ∧ y'.name = "<init>" ∧ r = none) ∨
       (decode bytes pc = .ok (.invokevirtual i, 3) ∧ ∃ C vs, H[a]? = some (.object C, vs) ∧ ((Jvm.Cond.privateMethod y' ∈ ws ∧ ∃ ki, Jvm.Cond.instantiable y'.cls ki ∈ ws) ∨ (Jvm.Cond.declares y' ∈ ws ∧ Jvm.Cond.selects y'.cls y' y' ∈ ws ∧ C = y'.cls)))))) := by
  unfold act at h
  split at h
  · cases h
  rename_i ins len hd
  split at h
  · cases h
  split at h
  · cases h
  unfold cstep at h
  split at h
  · obtain ⟨rfl, h⟩ := chk_some h
    split at h
    · split at h <;> cases h
    · cases h
  · obtain ⟨rfl, h⟩ := chk_some h
    split at h <;> cases h
  · obtain ⟨rfl, h⟩ := chk_some h
    split at h <;> cases h
  · rename_i i _ _
    obtain ⟨rfl, h⟩ := chk_some h
    split at h
    · rename_i y1 b1 mx r1 na sl hq
      split at h
      · rename_i g
        cases h
        unfold sR at hq
        split at hq
        · rename_i q hc
          split at hq
          · rename_i hs
            cases hq
            refine ⟨i, mx, na, sl, _, hc, rfl, g.2.2, g.2.1, Or.inl ⟨hd, hasStat_mem hs, by simp; omega, by simp⟩⟩
          · cases hq
        · cases hq
      · cases h
    · cases h
  · rename_i i _ _
    obtain ⟨rfl, h⟩ := chk_some h
    split at h
    · split at h
      · split at h <;> cases h
      · cases h
    · split at h
      · rename_i y1 b1 mx r1 na sl hq
        split at h
        · rename_i a rest' hdrop
          split at h
          · rename_i g
            cases h
            unfold nR at hq
            split at hq
            · rename_i q hc
              split at hq
              · rename_i hs
                cases hq
                refine ⟨i, mx, na, sl, _, hc, rfl, g.2.1, g.1, Or.inr ⟨a, _, rfl, by simp; omega, ?_, hasIM_mem hs.2.1, Or.inl ⟨hd, hs.1, hs.2.2⟩⟩⟩
                rw [List.reverse_reverse, ← hdrop, List.take_append_drop]
              · cases hq
            · cases hq
          · cases h
        · cases h
      · cases h
  · rename_i i _ _
    obtain ⟨rfl, h⟩ := chk_some h
    split at h
    · rename_i pv y1 b1 mx r1 na sl hq
      split at h
      · rename_i a rest' hdrop
        split at h
        · rename_i C vs hH
          split at h
          · rename_i g
            cases h
            unfold vR at hq
            split at hq
            · rename_i q hc
              split at hq
              · rename_i hs
                split at hq
                · rename_i hp; cases hq
                  obtain ⟨ki, hki⟩ := Option.isSome_iff_exists.mp hp.2
                  exact ⟨i, mx, na, sl, _, hc, rfl, g.2.2.1, g.2.1, Or.inr ⟨a, _, rfl, by simp; omega, by rw [List.reverse_reverse, ← hdrop, List.take_append_drop], hasIM_mem hs, Or.inr ⟨hd, C, vs, hH, Or.inl ⟨hasPriv_mem hp.1, ki, rInst_mem hki⟩⟩⟩⟩
                · split at hq
                  · rename_i hp; cases hq
                    exact ⟨i, mx, na, sl, _, hc, rfl, g.2.2.1, g.2.1, Or.inr ⟨a, _, rfl, by simp; omega, by rw [List.reverse_reverse, ← hdrop, List.take_append_drop], hasIM_mem hs, Or.inr ⟨hd, C, vs, hH, Or.inr ⟨hasDecl_mem hp.1, hasSel_mem hp.2, g.1.resolve_left (by simp)⟩⟩⟩⟩
                  · cases hq
              · cases hq
            · cases hq
          · cases h
        · cases h
      · cases h
    · cases h
  · cases h
theorem act_size {pc' : Nat} {ls' : List Slot} {st' : List Value} {H' : AHeap} (h : act ws dn k y bytes ret pc ls st H = some (.inr (.inl (pc', ls', st', H')))) : H.length ≤ H'.length ∧ tot ws H ≤ tot ws H' ∧ ls'.length = ls.length := by
  obtain ⟨ins, len, hd, ⟨g, rfl⟩ | ⟨rfl, g⟩ | ⟨i, sl, a, r, -, -, -, -, -, -, rfl, -, rfl⟩⟩ := act_step h
  · exact ⟨Nat.le_refl _, Nat.le_refl _, xstep_size g⟩
  · have := hstep_size g; exact ⟨this.1, this.2, rfl⟩
  · exact ⟨Nat.le_refl _, Nat.le_refl _, rfl⟩
end Inv
theorem run_size {ws : Ws} {dn : Dn} {k : Nat} : ∀ {n : Nat} {y : MethodName} {bytes : ByteArray} {ret : Option FieldType} {pc : Nat} {ls : List Slot} {st : List Value} {H : AHeap} {v : Option Value} {H' : AHeap}, run ws dn k n y bytes ret pc ls st H = some (v, H') → H.length ≤ H'.length ∧ tot ws H ≤ tot ws H'
  | 0, _, _, _, _, _, _, _, _, _, h => by cases h
  | n + 1, y, bytes, ret, pc, ls, st, H, v, H', h => by
    rw [run] at h
    split at h
    · cases h
    · cases h; exact ⟨Nat.le_refl _, Nat.le_refl _⟩
    · rename_i g
      have h1 := run_size h
      have h2 := act_size g
      exact ⟨Nat.le_trans h2.1 h1.1, Nat.le_trans h2.2.1 h1.2⟩
    · split at h
      · rename_i g
        have h1 := run_size h
        have h2 := run_size g
        exact ⟨Nat.le_trans h2.1 h1.1, Nat.le_trans h2.2 h1.2⟩
      · cases h
section Snd
/-- from here on the machine comes to a return of v with the heap H' -/
def Goes (p : Program) (l : Launch) (e : Env) (R : Room) (s : State) (m : MethodId) (args : Array Value) (below : List Frame) (meth : Method) (c : Code) (T : State) (Z : State) (ws : Ws) (k sa n0 cells slots : Nat) (H : AHeap) (g : JFrame) (ret : Option FieldType) (v : Option Value) (H' : AHeap) : Prop :=
  ∃ T' locs', Stand p l e R s m args below meth c T' locs' (cells + (H'.length - H.length)) (slots + (tot ws H' - tot ws H)) ∧ Sim Z ws k sa n0 H' T'.heap ∧ Fr n0 locs' ∧ (ret = none → v = none) ∧
    ∀ fs, (∀ (fj : JFrame) (acts : List Action), fj.method = m → fj.locked = none → fj.entered = [] → (doReturn e (T'.setTop fj) acts (v.map (ren (adr k sa n0)))).1 = T'.setFrames fs) → Steps p.tables e below (T.setTop g) (T'.setFrames fs)
variable {p : Program} {l : Launch} {e : Env} {R : Room} {s : State} {m : MethodId} {args : Array Value} {below : List Frame} {meth : Method} {c : Code} {T : State} {locs : List Loc} {cells slots : Nat}
  {Z : State} {a0 : Array Value} {ws : Ws} {dn : Dn} {k sa n0 : Nat}
theorem Goes.of {T1 : State} {H H1 H' : AHeap} {g g1 : JFrame} {ret : Option FieldType} {v : Option Value} (hst : ∀ target, Steps p.tables e below (T1.setTop g1) target → Steps p.tables e below (T.setTop g) target)
    (G : Goes p l e R s m args below meth c T1 Z ws k sa n0 (cells + (H1.length - H.length)) (slots + (tot ws H1 - tot ws H)) H1 g1 ret v H') (m1 : H.length ≤ H1.length ∧ tot ws H ≤ tot ws H1) (m2 : H1.length ≤ H'.length ∧ tot ws H1 ≤ tot ws H') :
    Goes p l e R s m args below meth c T Z ws k sa n0 cells slots H g ret v H' := by
  obtain ⟨T', locs', X', S', N', hv, go⟩ := G
  have e1 : cells + (H1.length - H.length) + (H'.length - H1.length) = cells + (H'.length - H.length) := by omega
  have e2 : slots + (tot ws H1 - tot ws H) + (tot ws H' - tot ws H1) = slots + (tot ws H' - tot ws H) := by omega
  rw [e1, e2] at X'
  exact ⟨T', locs', X', S', N', hv, fun fs hf => hst _ (go fs hf)⟩
def Snd (Z : State) (ws : Ws) (dn : Dn) (k sa n0 n : Nat) : Prop :=
  ∀ (y : MethodName) (bytes : ByteArray) (ret : Option FieldType) (pc : Nat) (ls : List Slot) (st : List Value) (H : AHeap) (v : Option Value) (H' : AHeap), run ws dn k n y bytes ret pc ls st H = some (v, H') →
  ∀ (p : Program) (l : Launch) (e : Env) (R : Room) (s : State) (m : MethodId) (args : Array Value) (below : List Frame) (meth : Method) (c : Code) (T : State) (locs : List Loc) (cells slots : Nat),
    Stand p l e R s m args below meth c T locs cells slots → p.tables.exec = Jvm.exec → Z.Warmed39 s.vm → s.vm.findClass y.cls = some m.cls → meth.name = y.name → meth.sig.returnType = ret → c.code = bytes → ls.length = c.maxLocals →
    (∀ f lc, dnOf dn y = some (f, lc) → f ≤ R.frames ∧ lc ≤ R.locals) → Sim Z ws k sa n0 H T.heap → Fr n0 locs → cells + (H'.length - H.length) ≤ R.cells → slots + (tot ws H' - tot ws H) ≤ R.slots → T.heap.size = s.heap.size + cells →
    Goes p l e R s m args below meth c T Z ws k sa n0 cells slots H (fr (adr k sa n0) m pc ls st) ret v H'
theorem met_of {n : Nat} (ih : Snd Z ws dn k sa n0 n) (l : Launch) {y : MethodName} {b : ByteArray} {mx f lc : Nat} {r : Option FieldType} (wsx : List Jvm.Cond) (hp : Jvm.plainName y.cls = true) {as : List Value} (he : (ent as).length ≤ mx) {H H1 : AHeap} {v : Option Value}
    (hrun : run ws dn k n y b r 0 (entry as mx) [] H = some (v, H1)) (hdn : ∀ f' l', dnOf dn y = some (f', l') → f' ≤ f ∧ l' ≤ lc) {h : Heap} (S : Sim Z ws k sa n0 H h) {rc rs : Nat} (hc : H1.length - H.length ≤ rc) (hs : tot ws H1 - tot ws H ≤ rs) :
    MetFree l y (head1 (Jvm.Cond.code y b mx r :: wsx) ({ frames := f, cells := rc, slots := rs, locals := lc } : Room)) (fun a U => a = (as.map (ren (adr k sa n0))).toArray ∧ Z.Warmed39 U.vm ∧ U.heap = h) (fun _ _ _ _ _ => True)
      (fun _ U o U' => ∃ w L, o = .returned w ∧ (w = v.map (ren (adr k sa n0)) ∧ Sim Z ws k sa n0 H1 U'.heap ∧ Fr n0 L) ∧ FrameEnd U o U' L (H1.length - H.length) (tot ws H1 - tot ws H)) := by
  refine MetFree.of_bodySF (plainFor_of_name hp) hisR ?_
  intro p e s m args below meth c s₁ Bd hml0 hP hK
  obtain ⟨rfl, hZ, hh⟩ := hP
  have hown : s.vm.findClass y.cls = some m.cls := findClass_of_methodNamed Bd.named
  have hnm := (name_of_methodNamed Bd.named Bd.method).1
  have X0 : Stand p l e ({ frames := f, cells := rc, slots := rs, locals := lc } : Room) s m (as.map (ren (adr k sa n0))).toArray below meth c s₁ [] 0 0 := Stand.of_body Bd
  have e0 : s₁.heap = h := by rw [← hh, Bd.state]; rfl
  obtain ⟨T', locs', X', S', N', hv, go⟩ := ih y b r 0 (entry as mx) [] H v H1 hrun p l e _ s m _ below meth c s₁ [] 0 0 X0 Bd.exec hZ hown hnm Bd.returns Bd.bytes (by rw [entry_len he]; exact hml0.symm) hdn (by rw [e0]; exact S) (Fr.nil n0) (by rw [Nat.zero_add]; exact hc) (by rw [Nat.zero_add]; exact hs) (by rw [e0, ← hh, Nat.add_zero])
  obtain ⟨fs, hr, hrun', hended, hW, hsame⟩ := X'.leave (v := v.map (ren (adr k sa n0))) (fun hn => by rw [Bd.returns] at hn; rw [hv hn]; rfl)
  refine ⟨_, _, castTop (entry_eq _ m as mx) (go fs hr), hrun', hended, _, locs', rfl, ⟨rfl, S', N'⟩, ⟨_, rfl⟩, hW, hsame.mono (Nat.le_of_eq (Nat.zero_add _)) (Nat.le_of_eq (Nat.zero_add _))⟩
set_option maxHeartbeats 2000000 in
theorem snd (hw : ∀ d ∈ ws, d.before a0 Z = true) : ∀ n, Snd Z ws dn k sa n0 n
  | 0 => fun y bytes ret pc ls st H v H' h => by cases h
  | n + 1 => fun y bytes ret pc ls st H v H' h p l e R s m args below meth c T locs cells slots X hx hZ hown hnm hret hby hls hF S N hc hl hz0 => by
    have ih := snd hw n
    rw [run] at h
    split at h
    · cases h
    · rename_i v' ha
      cases h
      have stay : ∀ {v : Option Value}, (ret = none → v = none) → (∀ fs, (∀ (fj : JFrame) (acts : List Action), fj.method = m → fj.locked = none → fj.entered = [] → (doReturn e (T.setTop fj) acts (v.map (ren (adr k sa n0)))).1 = T.setFrames fs) → Steps p.tables e below (T.setTop (fr (adr k sa n0) m pc ls st)) (T.setFrames fs)) →
          Goes p l e R s m args below meth c T Z ws k sa n0 cells slots H (fr (adr k sa n0) m pc ls st) ret v H := fun hv hg => ⟨T, locs, by rw [Nat.sub_self, Nat.sub_self]; exact X, S, N, hv, hg⟩
      rcases act_ret ha with ⟨z, r, t, hd, rfl, rfl, ht, rfl⟩ | ⟨z, hd, rfl, rfl, rfl⟩ | ⟨hd, rfl, rfl, rfl⟩
      · refine stay (fun h => by cases h) fun fs hf => ?_
        rcases ht with rfl | ht
        · exact retOut X hx hret (w := .int z) (rest := r.map (ren (adr k sa n0))) rfl (Or.inl ⟨rfl, Or.inl rfl, z, rfl⟩) (hb hby hd) hf
        · exact retN X hx hret ht (hb hby hd) hf
      · exact stay (fun h => by cases h) fun fs hf => retOut X hx hret (w := .long z) (rest := []) rfl (Or.inr (Or.inl ⟨rfl, rfl, z, rfl⟩)) (hb hby hd) hf
      · exact stay (fun _ => rfl) fun fs hf => X.returnOut hx hret (hb hby hd) hf
    · rename_i pc' ls' st' H1 ha
      have m1 := act_size ha
      have m2 := run_size h
      obtain ⟨ins, len, hd, ⟨g, rfl⟩ | ⟨rfl, g⟩ | ⟨i, sl, a, r, rfl, rfl, ho, rfl, hW, rfl, rfl, rfl, rfl⟩⟩ := act_step ha
      · obtain ⟨T', locs', X', S', N', hv, go⟩ := ih y bytes ret pc' ls' st' H1 v H' h p l e R s m args below meth c T locs cells slots X hx hZ hown hnm hret hby (m1.2.2.trans hls) hF S N hc hl hz0
        exact ⟨T', locs', X', S', N', hv, fun fs hf => xstep_sound X.here hx (adr k sa n0) (hb hby hd) g (go fs hf)⟩
      · obtain ⟨T1, locs1, X1, S1, N1, st1⟩ := hstep_sound (ls := ls') hw X hx hZ hown hnm (hb hby hd) g S N (by dsimp only; omega) (by dsimp only; omega) hz0
        dsimp only at X1 S1 st1
        have z1 := S.1
        have z2 := S1.1
        have z3 := S.2.1
        have G := ih y bytes ret pc' ls' st' H1 v H' h p l e R s m args below meth c T1 locs1 _ _ X1 hx hZ hown hnm hret hby hls hF S1 N1 (by omega) (by omega) (by omega)
        exact Goes.of st1 G ⟨m1.1, m1.2.1⟩ m2
      · unfold oR at ho
        split at ho
        · rename_i y1 b1 mx1 r1 f1 l1 q1 q2 q3
          split at ho
          · rename_i g
            cases ho
            obtain ⟨rfl, g2, g3, rfl, rfl, g4, g5⟩ := g
            obtain ⟨u1, u2⟩ := hF _ _ q3
            have eb : b1 = ⟨#[0xb1]⟩ := by cases b1; cases g3; rfl
            subst eb
            obtain ⟨T1, X1, e1, st1⟩ := initO X hx hZ hown (hw _ (rMth_mem q1)) (hw _ (hasIM_mem g2)) (hw _ (rCode_mem q2)) rfl (g := fr (adr k sa n0) m pc ls' (.ref a :: st')) rfl (by simp [hls]) rfl (hb hby hd) (by omega) (W := l1 - 12) (by show 2 * 0 + _ ≤ _; rw [wsum_ren]; omega) (by omega)
            have G := ih y bytes ret (pc + 3) ls' st' H1 v H' h p l e R s m args below meth c T1 locs cells slots X1 hx hZ hown hnm hret hby hls hF (by rw [e1]; exact S) N hc hl (by rw [e1]; exact hz0)
            obtain ⟨T', locs', X', S', N', hv, go⟩ := G
            exact ⟨T', locs', X', S', N', hv, fun fs hf => st1 _ (go fs hf)⟩
          · cases ho
        · cases ho
    · rename_i y' b r en rest ha
      split at h
      · rename_i v1 H1 h1
        have m1 := run_size h1
        have m2 := run_size h
        obtain ⟨i, mx, na, sl, as, hq, rfl, hen, hW, hk⟩ := act_call ha
        obtain ⟨w1, w2, w3, w4, w5, -, f', l', f, lc, sig, d1, d2, d3, d4, d5, d6⟩ := cR_some hq
        obtain ⟨u1, u2⟩ := hF _ _ d2
        have hM := met_of ih l [] w4 hen h1 (f := f') (lc := l') (fun f2 l2 q => by rw [d1] at q; cases q; exact ⟨Nat.le_refl _, Nat.le_refl _⟩) S (Nat.le_refl _) (Nat.le_refl _)
        have hB := backOf (R := R) (p := p) (e := e) (below := below) (s := s) (args := args) (len := 3) (W := sl) (rm := ({ frames := f', cells := H1.length - H.length, slots := tot ws H1 - tot ws H, locals := l' } : Room)) (Q := fun w h L => w = v1.map (ren (adr k sa n0)) ∧ Sim Z ws k sa n0 H1 h ∧ Fr n0 L) hM hZ (hw _ w2) (hw _ w3) (by show f' + 1 ≤ _; omega) (by show sl + (mx + 11) + l' ≤ _; omega)
        have hsz : (fr (adr k sa n0) m pc ls st).locals.size = c.maxLocals := by simp [hls]
        have hWW : ∀ st' : List Value, wsum st' ≤ sl → 2 * (fr (adr k sa n0) m pc ls st).monitorRoom + ((st'.map (ren (adr k sa n0))).map fun v => v.category).sum ≤ sl := fun st' q => by show 2 * 0 + _ ≤ _; rw [wsum_ren]; omega
        have hback : ∀ (v' : Option Value) (vm₁ : Vm) (B : Pt), Stand p l e R s m args below meth c B.U B.locs B.cells B.slots →
            (∃ L, (v' = v1.map (ren (adr k sa n0)) ∧ Sim Z ws k sa n0 H1 B.U.heap ∧ Fr n0 L) ∧ B.locs = locs ++ L ∧ B.cells = cells + (H1.length - H.length) ∧ B.slots = slots + (tot ws H1 - tot ws H)) →
            (∀ target, Steps p.tables e below (B.U.setTop { fr (adr k sa n0) m pc ls st with pc := pc + 3, stack := v'.toList ++ rest.map (ren (adr k sa n0)) }) target → Steps p.tables e below (T.setTop (fr (adr k sa n0) m pc ls st)) target) →
            Goes p l e R s m args below meth c T Z ws k sa n0 cells slots H (fr (adr k sa n0) m pc ls st) ret v H' := by
          rintro v' vm₁ ⟨T1, L1, k1, n1⟩ X1 ⟨Lc, ⟨rfl, S1, N1⟩, l1, y1, z1⟩ st1
          dsimp only [Pt.U, Pt.locs, Pt.cells, Pt.slots] at X1 l1 y1 z1 st1 S1
          subst l1 y1 z1
          have z1 := S.1
          have z2 := S1.1
          have z3 := S.2.1
          have G := ih y bytes ret (pc + 3) ls (v1.toList ++ rest) H1 v H' h p l e R s m args below meth c T1 _ _ _ X1 hx hZ hown hnm hret hby hls hF S1 (Fr.app N N1) (by omega) (by omega) (by omega)
          refine Goes.of (fun target ht => st1 target ?_) G m1 m2
          have e1 : (v1.toList ++ rest).map (ren (adr k sa n0)) = (v1.map (ren (adr k sa n0))).toList ++ rest.map (ren (adr k sa n0)) := by cases v1 <;> simp
          rw [← e1]; exact ht
        rcases hk with ⟨hd, ws1, hna, rfl⟩ | ⟨a, as', rfl, hna, rfl, wi, ⟨hd, hn, rfl⟩ | ⟨hd, C, vs, hH, hpd⟩⟩
        · obtain ⟨v', vm₁, B, -, X1, P1, st1⟩ := Jvm.LawKit.callS X hx (y := y') hown (mvT hZ (hw _ w1)) (mvT hZ (hw _ ws1)) (mvT hZ (hw _ w3)) (mvT hZ (hw _ w2)) w5 hB (g := fr (adr k sa n0) m pc ls (as.reverse ++ rest)) rfl hsz (argsL := as.map (ren (adr k sa n0))) (rest := rest.map (ren (adr k sa n0)))
            (fun sg hsg => by rw [d3] at hsg; cases hsg; simp [hna, d4]) (by simp) (hWW rest hW) (hb hby hd) (fun _ _ => ⟨rfl, rfl, by show cells + (H1.length - H.length) ≤ _; omega, by show slots + (tot ws H1 - tot ws H) ≤ _; omega⟩)
          exact hback v' vm₁ B X1 P1 st1
        · obtain ⟨v', vm₁, B, -, X1, P1, st1⟩ := X.specialBack hx (y := y') hn hown (mvT hZ (hw _ w1)) (mvT hZ (hw _ wi)) (mvT hZ (hw _ w2)) w5 hB (g := fr (adr k sa n0) m pc ls (as'.reverse ++ .ref a :: rest)) rfl hsz (Steps.refl _) (a := adr k sa n0 a) (argsL := as'.map (ren (adr k sa n0))) (rest := rest.map (ren (adr k sa n0)))
            (fun sg hsg => by rw [d3] at hsg; cases hsg; simp [hna, d4]) (by simp [ren]) (hWW rest hW) (hb hby hd) (fun _ _ => ⟨rfl, rfl, by show cells + (H1.length - H.length) ≤ _; omega, by show slots + (tot ws H1 - tot ws H) ≤ _; omega⟩)
          exact hback v' vm₁ B X1 P1 fun target ht => st1.trans ht
        · have E := (S.2.2.2.2 a _ hH).1
          rcases hpd with ⟨wp, ki, wki⟩ | ⟨wd, wsel, rfl⟩
          · obtain ⟨cq, hq1, hq2⟩ := E.cell
            have hpa : s.PrivateAt y' := Cond.privateMethod_at (mvP hZ (hw _ wp) (args := #[]))
            have hsel : (Jvm.Cond.selects y'.cls y' y').before args s = true := by
              have wz : (Jvm.Cond.instantiable y'.cls ki).before args s = true := mvT hZ (hw _ wki)
              obtain ⟨c2, k2, i1, i2, -, i4, -⟩ := Cond.instantiable_spec wz
              exact selects_self_of_private i1 i2 (Bool.or_eq_false_iff.mp i4).1 hpa (mvT hZ (hw _ wi)) w5
            obtain ⟨v', vm₁, B, -, X1, P1, st1⟩ := X.privateBack hx (y := y') hown (mvT hZ (hw _ w1)) (mvT hZ (hw _ wi)) hsel hpa (mvT hZ (hw _ w2)) w5 hB (g := fr (adr k sa n0) m pc ls (as'.reverse ++ .ref a :: rest)) rfl hsz (Steps.refl _) (a := adr k sa n0 a) hq1 hq2 (argsL := as'.map (ren (adr k sa n0))) (rest := rest.map (ren (adr k sa n0)))
              (fun sg hsg => by rw [d3] at hsg; cases hsg; simp [hna, d4]) (by simp [ren]) (hWW rest hW) (hb hby hd) (fun _ _ => ⟨rfl, rfl, by show cells + (H1.length - H.length) ≤ _; omega, by show slots + (tot ws H1 - tot ws H) ≤ _; omega⟩)
            exact hback v' vm₁ B X1 P1 fun target ht => st1.trans ht
          · obtain ⟨cq, kq, qa, qb, qc⟩ := isOf hZ rfl E
            obtain ⟨v', vm₁, B, -, X1, P1, st1⟩ := X.virtualBack hx (y := y') (z := y') hown (mvT hZ (hw _ w1)) (mvT hZ (hw _ wd)) (notFace_of_selects (args := #[]) (mvT hZ (hw _ wsel))) (mvT hZ (hw _ wsel)) (mvT hZ (hw _ wi)) w5 hB qa qc (g := fr (adr k sa n0) m pc ls (as'.reverse ++ .ref a :: rest)) rfl hsz (Steps.refl _) (argsL := as'.map (ren (adr k sa n0))) (rest := rest.map (ren (adr k sa n0)))
              (fun sg hsg => by rw [d3] at hsg; cases hsg; simp [hna, d4]) (by simp [ren]) (hWW rest hW) (hb hby hd) (fun _ _ => ⟨rfl, rfl, by show cells + (H1.length - H.length) ≤ _; omega, by show slots + (tot ws H1 - tot ws H) ≤ _; omega⟩)
            exact hback v' vm₁ B X1 P1 fun target ht => st1.trans ht
      · cases h
end Snd
end Jvm.Own
namespace Jvm.Own
open Sem ClassFile Op Lib Jvm.Stand Jvm.Free Jvm.LawKit Jvm.RoadKit
/-! OWN 6: from here on no machine is in sight -/
theorem run_succ {ws : Ws} {dn : Dn} {k : Nat} : ∀ {n : Nat} {y : MethodName} {bytes : ByteArray} {ret : Option FieldType} {pc : Nat} {ls : List Slot} {st : List Value} {H : AHeap} {r : Option Value × AHeap}, run ws dn k n y bytes ret pc ls st H = some r → run ws dn k (n + 1) y bytes ret pc ls st H = some r
  | 0, _, _, _, _, _, _, _, _, h => by cases h
  | n + 1, y, bytes, ret, pc, ls, st, H, r, h => by
    rw [run] at h
    rw [run]
    split at h
    · cases h
    · exact h
    · exact run_succ h
    · split at h
      · rename_i v H1 g
        rw [run_succ g]
        exact run_succ h
      · cases h
theorem run_mono {ws : Ws} {dn : Dn} {k n n' : Nat} {y : MethodName} {bytes : ByteArray} {ret : Option FieldType} {pc : Nat} {ls : List Slot} {st : List Value} {H : AHeap} {r : Option Value × AHeap} (hn : n ≤ n') (h : run ws dn k n y bytes ret pc ls st H = some r) : run ws dn k n' y bytes ret pc ls st H = some r := by
  induction hn with
  | refl => exact h
  | step _ ih => exact run_succ ih
/-- from here on a run comes to a return at which Q holds -/
def W (ws : Ws) (dn : Dn) (k : Nat) (y : MethodName) (bytes : ByteArray) (ret : Option FieldType) (pc : Nat) (ls : List Slot) (st : List Value) (H : AHeap) (Q : Option Value → AHeap → Prop) : Prop :=
  ∃ n v H', run ws dn k n y bytes ret pc ls st H = some (v, H') ∧ Q v H'
section
variable {ws : Ws} {dn : Dn} {k : Nat} {y : MethodName} {bytes : ByteArray} {ret : Option FieldType} {pc : Nat} {ls : List Slot} {st : List Value} {H : AHeap} {Q : Option Value → AHeap → Prop}
theorem W_step {pc' : Nat} {ls' : List Slot} {st' : List Value} {H' : AHeap} (h : act ws dn k y bytes ret pc ls st H = some (.inr (.inl (pc', ls', st', H')))) : W ws dn k y bytes ret pc ls st H Q = W ws dn k y bytes ret pc' ls' st' H' Q := by
  refine propext ⟨fun ⟨n, v, H1, h1, h2⟩ => ?_, fun ⟨n, v, H1, h1, h2⟩ => ⟨n + 1, v, H1, by rw [run, h]; exact h1, h2⟩⟩
  cases n with
  | zero => cases h1
  | succ n => rw [run, h] at h1; exact ⟨n, v, H1, h1, h2⟩
theorem W_ret {v : Option Value} (h : act ws dn k y bytes ret pc ls st H = some (.inl v)) : W ws dn k y bytes ret pc ls st H Q = Q v H := by
  refine propext ⟨fun ⟨n, v, H1, h1, h2⟩ => ?_, fun h2 => ⟨1, v, H, by rw [run, h], h2⟩⟩
  cases n with
  | zero => cases h1
  | succ n => rw [run, h] at h1; cases h1; exact h2
theorem W_call {y' : MethodName} {b : ByteArray} {r : Option FieldType} {en : List Slot} {rest : List Value} (h : act ws dn k y bytes ret pc ls st H = some (.inr (.inr (y', b, r, en, rest)))) :
    W ws dn k y bytes ret pc ls st H Q = W ws dn k y' b r 0 en [] H (fun v H1 => W ws dn k y bytes ret (pc + 3) ls (v.toList ++ rest) H1 Q) := by
  refine propext ⟨fun ⟨n, v, H1, h1, h2⟩ => ?_, fun ⟨n, v, H1, h1, n', v', H', h2, h3⟩ => ⟨max n n' + 1, v', H', ?_, h3⟩⟩
  · cases n with
    | zero => cases h1
    | succ n =>
      rw [run, h] at h1
      dsimp only at h1
      split at h1
      · rename_i v' H' g; exact ⟨n, v', H', g, n, v, H1, h1, h2⟩
      · cases h1
  · rw [run, h]
    dsimp only
    rw [run_mono (Nat.le_max_left _ _) h1]
    exact run_mono (Nat.le_max_right _ _) h2
theorem W.mono {Q' : Option Value → AHeap → Prop} (h : W ws dn k y bytes ret pc ls st H Q) (hq : ∀ v H', Q v H' → Q' v H') : W ws dn k y bytes ret pc ls st H Q' := by
  obtain ⟨n, v, H', h1, h2⟩ := h; exact ⟨n, v, H', h1, hq _ _ h2⟩
theorem act_x {ins : Instr} {len pc' : Nat} {ls' : List Slot} {st' : List Value} (hd : decode bytes pc = .ok (ins, len)) (hx : xstep ins len pc ls st = some (pc', ls', st')) : act ws dn k y bytes ret pc ls st H = some (.inr (.inl (pc', ls', st', H))) := by
  unfold act; rw [hd]; dsimp only; rw [hx]
theorem act_h {ins : Instr} {len pc' : Nat} {st' : List Value} {H' : AHeap} (hd : decode bytes pc = .ok (ins, len)) (hx : xstep ins len pc ls st = none) (hh : hstep ws k y ins len pc st H = some (pc', st', H')) : act ws dn k y bytes ret pc ls st H = some (.inr (.inl (pc', ls, st', H'))) := by
  unfold act; rw [hd]; dsimp only; rw [hx]; dsimp only; rw [hh]
theorem act_c {ins : Instr} {len : Nat} (hd : decode bytes pc = .ok (ins, len)) (hx : xstep ins len pc ls st = none) (hh : hstep ws k y ins len pc st H = none) : act ws dn k y bytes ret pc ls st H = cstep ws dn y ret ins len pc ls st H := by
  unfold act; rw [hd]; dsimp only; rw [hx]; dsimp only; rw [hh]
/-- a plain step -/
theorem w_x {ins : Instr} {len pc' : Nat} {ls' : List Slot} {st' : List Value} (hd : decode bytes pc = .ok (ins, len)) (hx : xstep ins len pc ls st = some (pc', ls', st')) : W ws dn k y bytes ret pc ls st H Q = W ws dn k y bytes ret pc' ls' st' H Q := W_step (act_x hd hx)
/-- a conditional branch -/
theorem w_if {cd : ClassFile.Cond} {o : Int} {x : Int32} {t : Nat} {P : Prop} [Decidable P] (hd : decode bytes pc = .ok (.ifCond cd o, 3)) (hp : ifCond.holds cd x = decide P) (hj : jmp pc o = some t) :
    W ws dn k y bytes ret pc ls (.int x :: st) H Q = if P then W ws dn k y bytes ret t ls st H Q else W ws dn k y bytes ret (pc + 3) ls st H Q := by
  split
  · exact w_x hd (by simp only [xstep, chk, br, hp, hj, if_true]; simp [*])
  · exact w_x hd (by simp only [xstep, chk, br, hp, hj, if_true]; simp [*])
theorem w_icmp {cd : ClassFile.Cond} {o : Int} {x1 x2 : Int32} {t : Nat} {P : Prop} [Decidable P] (hd : decode bytes pc = .ok (.if_icmp cd o, 3)) (hp : if_icmp.holds cd x1 x2 = decide P) (hj : jmp pc o = some t) :
    W ws dn k y bytes ret pc ls (.int x2 :: .int x1 :: st) H Q = if P then W ws dn k y bytes ret t ls st H Q else W ws dn k y bytes ret (pc + 3) ls st H Q := by
  split
  · exact w_x hd (by simp only [xstep, chk, br, hp, hj, if_true]; simp [*])
  · exact w_x hd (by simp only [xstep, chk, br, hp, hj, if_true]; simp [*])
theorem w_get {i j : Nat} {a : Nat} {C : String} {vs : List Value} {v : Value} (hd : decode bytes pc = .ok (.getfield i, 3)) (hr : gfR ws y.cls i = some (C, j)) (ho : H[a]? = some (.object C, vs)) (hv : vs[j]? = some v) :
    W ws dn k y bytes ret pc ls (.ref a :: st) H Q = W ws dn k y bytes ret (pc + 3) ls (v :: st) H Q :=
  W_step (act_h hd rfl (by simp only [hstep, chk, hGet, hr, ho, hv, if_true, Option.map_some]))
theorem w_put {i j : Nat} {a : Nat} {C : String} {ty : FieldType} {vs : List Value} {v v' : Value} {H' : AHeap} (hd : decode bytes pc = .ok (.putfield i, 3)) (hr : pfR ws y.cls y.name i = some (C, j, ty)) (ho : H[a]? = some (.object C, vs)) (hk : k ≤ a) (hj : j < vs.length) (hv : putv ty v = some v') (hH : H.set a (.object C, vs.set j v') = H') :
    W ws dn k y bytes ret pc ls (v :: .ref a :: st) H Q = W ws dn k y bytes ret (pc + 3) ls st H' Q :=
  W_step (act_h hd rfl (by simp only [hstep, chk, hPut, hr, ho, hv, if_true, true_and, hk, hj, Option.map_some, hH, and_self]))
theorem w_new {i : Nat} {C : String} (hd : decode bytes pc = .ok (.new i, 3)) (hr : hNew ws y.cls i pc H st = some (pc + 3, .ref H.length :: st, H ++ [(.object C, (olay ws C).map dflt)])) :
    W ws dn k y bytes ret pc ls st H Q = W ws dn k y bytes ret (pc + 3) ls (.ref H.length :: st) (H ++ [(.object C, (olay ws C).map dflt)]) Q :=
  W_step (act_h hd rfl (by simp only [hstep, chk, if_true]; exact hr))
theorem w_newA {aty : ArrayType} {n : Int32} {ty : FieldType} (hd : decode bytes pc = .ok (.newarray aty, 2)) (ht : newarray.typeOf aty = ty) (hr : hasArr ws ty = true) (hn : ¬ n < 0) (hb : n.toNatClampNeg * 8 ≤ 536870912) :
    W ws dn k y bytes ret pc ls (.int n :: st) H Q = W ws dn k y bytes ret (pc + 2) ls (.ref H.length :: st) (H ++ [(.array ty, List.replicate n.toNatClampNeg (defaultValue ty))]) Q := by
  subst ht
  exact W_step (act_h hd rfl (by simp only [hstep, chk, hNewA, hr, hn, hb, if_true, not_false_eq_true, and_self]))
/-- may the instruction read an array of that kind? -/
def ldOk : Instr → FieldType → Bool
  | .iaload, .int | .caload, .char | .laload, .long | .baload, .byte | .baload, .boolean => true
  | _, _ => false
def stOk : Instr → FieldType → Bool
  | .iastore, .int | .castore, .char | .lastore, .long | .bastore, .byte | .bastore, .boolean => true
  | _, _ => false
theorem w_ald {ins : Instr} {a : Nat} {j : Int32} {ty : FieldType} {vs : List Value} {v : Value} (hd : decode bytes pc = .ok (ins, 1)) (hi : ldOk ins ty = true) (ho : H[a]? = some (.array ty, vs)) (hj : ¬ j < 0) (hv : vs[j.toNatClampNeg]? = some v) :
    W ws dn k y bytes ret pc ls (.int j :: .ref a :: st) H Q = W ws dn k y bytes ret (pc + 1) ls (v :: st) H Q := by
  unfold ldOk at hi
  split at hi
  all_goals first
    | exact W_step (act_h hd rfl (by simp only [hstep, chk, hLd, okT, okB, ho, hv, hj, if_true, Option.map_some, decide_true, not_false_eq_true, and_self, Bool.or_true, Bool.true_or]))
    | cases hi
theorem w_ast {ins : Instr} {a : Nat} {j : Int32} {ty : FieldType} {vs : List Value} {v v' : Value} {H' : AHeap} (hd : decode bytes pc = .ok (ins, 1)) (hi : stOk ins ty = true) (ho : H[a]? = some (.array ty, vs)) (hk : k ≤ a) (hj : ¬ j < 0) (hl : j.toNatClampNeg < vs.length) (hv : putv ty v = some v') (hH : H.set a (.array ty, vs.set j.toNatClampNeg v') = H') :
    W ws dn k y bytes ret pc ls (v :: .int j :: .ref a :: st) H Q = W ws dn k y bytes ret (pc + 1) ls st H' Q := by
  unfold stOk at hi
  split at hi
  all_goals first
    | exact W_step (act_h hd rfl (by simp only [hstep, chk, hSt, okT, okB, ho, hv, hj, hk, hl, hH, if_true, Option.map_some, decide_true, not_false_eq_true, and_self, Bool.or_true, Bool.true_or]))
    | cases hi
theorem w_len {a : Nat} {ty : FieldType} {vs : List Value} (hd : decode bytes pc = .ok (.arraylength, 1)) (ho : H[a]? = some (.array ty, vs)) :
    W ws dn k y bytes ret pc ls (.ref a :: st) H Q = W ws dn k y bytes ret (pc + 1) ls (.int vs.length.toInt32 :: st) H Q :=
  W_step (act_h hd rfl (by simp only [hstep, chk, hLen, ho, if_true]))
theorem w_ldc {i : Nat} {v : Int32} (hd : decode bytes pc = .ok (.ldc i, 2)) (hr : rCon ws y.cls i = some v) : W ws dn k y bytes ret pc ls st H Q = W ws dn k y bytes ret (pc + 2) ls (.int v :: st) H Q :=
  W_step (act_h hd rfl (by simp only [hstep, chk, hr, if_true, Option.map_some]))
theorem w_ldcw {i : Nat} {v : Int32} (hd : decode bytes pc = .ok (.ldc_w i, 3)) (hr : rCon ws y.cls i = some v) : W ws dn k y bytes ret pc ls st H Q = W ws dn k y bytes ret (pc + 3) ls (.int v :: st) H Q :=
  W_step (act_h hd rfl (by simp only [hstep, chk, hr, if_true, Option.map_some]))
theorem w_ldc2 {i : Nat} {v : Int64} (hd : decode bytes pc = .ok (.ldc2_w i, 3)) (hr : rConL ws y.cls i = some v) : W ws dn k y bytes ret pc ls st H Q = W ws dn k y bytes ret (pc + 3) ls (.long v :: st) H Q :=
  W_step (act_h hd rfl (by simp only [hstep, chk, hr, if_true, Option.map_some]))
theorem w_iret {z : Int32} (hd : decode bytes pc = .ok (.ireturn, 1)) (hr : ret = some .int) : W ws dn k y bytes ret pc ls (.int z :: st) H Q = Q (some (.int z)) H := by
  subst hr; exact W_ret (by rw [act_c hd rfl rfl]; rfl)
theorem w_iretN {z : Int32} {t : FieldType} (hd : decode bytes pc = .ok (.ireturn, 1)) (hr : ret = some t) (ht : t = .int ∨ t = .boolean ∨ t = .byte ∨ t = .char ∨ t = .short) : W ws dn k y bytes ret pc ls (.int z :: st) H Q = Q (some (.int (nar t z))) H := by
  subst hr; exact W_ret (by rw [act_c hd rfl rfl]; simp only [cstep, chk, if_true, ht])
theorem w_lret {z : Int64} (hd : decode bytes pc = .ok (.lreturn, 1)) (hr : ret = some .long) : W ws dn k y bytes ret pc ls [.long z] H Q = Q (some (.long z)) H := by
  subst hr; exact W_ret (by rw [act_c hd rfl rfl]; rfl)
theorem w_vret (hd : decode bytes pc = .ok (.return_, 1)) (hr : ret = none) : W ws dn k y bytes ret pc ls [] H Q = Q none H := by
  subst hr; exact W_ret (by rw [act_c hd rfl rfl]; rfl)
theorem w_obj {i sl : Nat} {a : Nat} (hd : decode bytes pc = .ok (.invokespecial i, 3)) (hr : oR ws dn y i = some sl) (hw : wsum st ≤ sl) : W ws dn k y bytes ret pc ls (.ref a :: st) H Q = W ws dn k y bytes ret (pc + 3) ls st H Q :=
  W_step (by rw [act_c hd rfl rfl]; simp only [cstep, chk, if_true, hr, hw])
theorem w_stat {i mx na sl : Nat} {y' : MethodName} {b : ByteArray} {r : Option FieldType} {as rest : List Value} {en : List Slot} (hd : decode bytes pc = .ok (.invokestatic i, 3)) (hr : sR ws dn y i = some (y', b, mx, r, na, sl)) (hn : as.length = na) (hw : wsum rest ≤ sl) (he : (ent as.reverse).length ≤ mx) (hen : entry as.reverse mx = en) :
    W ws dn k y bytes ret pc ls (as ++ rest) H Q = W ws dn k y' b r 0 en [] H (fun v H1 => W ws dn k y bytes ret (pc + 3) ls (v.toList ++ rest) H1 Q) := by
  subst hn hen
  have e1 : (as ++ rest).take as.length = as := by simp
  have e2 : (as ++ rest).drop as.length = rest := by simp
  exact W_call (by rw [act_c hd rfl rfl]; simp only [cstep, chk, if_true, hr, e1, e2, hw, he, List.length_append, Nat.le_add_right, and_self])
theorem w_spec {i mx na sl a : Nat} {y' : MethodName} {b : ByteArray} {r : Option FieldType} {as rest : List Value} {en : List Slot} (hd : decode bytes pc = .ok (.invokespecial i, 3)) (h0 : oR ws dn y i = none) (hr : nR ws dn y i = some (y', b, mx, r, na, sl)) (hn : as.length = na) (hw : wsum rest ≤ sl) (he : (ent (.ref a :: as.reverse)).length ≤ mx) (hen : entry (.ref a :: as.reverse) mx = en) :
    W ws dn k y bytes ret pc ls (as ++ .ref a :: rest) H Q = W ws dn k y' b r 0 en [] H (fun v H1 => W ws dn k y bytes ret (pc + 3) ls (v.toList ++ rest) H1 Q) := by
  subst hn hen
  have e1 : (as ++ .ref a :: rest).take as.length = as := by simp
  have e2 : (as ++ .ref a :: rest).drop as.length = .ref a :: rest := by simp
  exact W_call (by rw [act_c hd rfl rfl]; simp only [cstep, chk, if_true, h0, hr, e1, e2, hw, he, List.length_append, Nat.le_add_right, and_self])
theorem w_virt {i mx na sl a : Nat} {pv : Bool} {y' : MethodName} {b : ByteArray} {r : Option FieldType} {as rest : List Value} {en : List Slot} {C : String} {vs : List Value} (hd : decode bytes pc = .ok (.invokevirtual i, 3)) (hr : vR ws dn y i = some (pv, y', b, mx, r, na, sl)) (ho : H[a]? = some (.object C, vs)) (hC : C = y'.cls) (hn : as.length = na) (hw : wsum rest ≤ sl) (he : (ent (.ref a :: as.reverse)).length ≤ mx) (hen : entry (.ref a :: as.reverse) mx = en) :
    W ws dn k y bytes ret pc ls (as ++ .ref a :: rest) H Q = W ws dn k y' b r 0 en [] H (fun v H1 => W ws dn k y bytes ret (pc + 3) ls (v.toList ++ rest) H1 Q) := by
  subst hn hen hC
  have e1 : (as ++ .ref a :: rest).take as.length = as := by simp
  have e2 : (as ++ .ref a :: rest).drop as.length = .ref a :: rest := by simp
  exact W_call (by rw [act_c hd rfl rfl]; simp only [cstep, chk, if_true, hr, e1, e2, ho, hw, he, List.length_append, Nat.le_add_right, and_self, or_true])
end
theorem law_of {Z : State} {a0 : Array Value} {ws : Ws} {dn : Dn} {k sa n0 : Nat} (hw : ∀ d ∈ ws, d.before a0 Z = true) (l : Launch) {y : MethodName} {b : ByteArray} {mx f lc rc rs : Nat} {r : Option FieldType} (wsx : List Jvm.Cond) (hp : Jvm.plainName y.cls = true) {as : List Value} (he : (ent as).length ≤ mx) {H : AHeap}
    (hW : W ws dn k y b r 0 (entry as mx) [] H (fun v H1 => v = some (.int 1) ∧ H1.length - H.length ≤ rc ∧ tot ws H1 - tot ws H ≤ rs)) (hdn : ∀ f' l', dnOf dn y = some (f', l') → f' ≤ f ∧ l' ≤ lc) {h : Heap} (S : Sim Z ws k sa n0 H h) :
    MetFree l y (head1 (Jvm.Cond.code y b mx r :: wsx) ({ frames := f, cells := rc, slots := rs, locals := lc } : Room)) (fun a U => a = (as.map (ren (adr k sa n0))).toArray ∧ Z.Warmed39 U.vm ∧ U.heap = h) (fun _ _ _ _ _ => True)
      (fun _ U o U' => ∃ w L, o = .returned w ∧ (w = some (.int 1) ∧ Fr n0 L) ∧ FrameEnd U o U' L rc rs) := by
  obtain ⟨n, v, H1, h1, rfl, h3, h4⟩ := hW
  have M := met_of (snd hw n) l wsx hp he h1 hdn S h3 h4
  intro p e ha hc hk s m args below hf happ hP hK
  obtain ⟨n', o, g1, g2, g3, w, L, rfl, ⟨rfl, -, N⟩, F⟩ := M p e ha hc hk s m args below hf happ hP hK
  exact ⟨n', _, g1, g2, g3, _, L, rfl, ⟨rfl, N⟩, F.1, F.2.1, F.2.2.mono h3 h4⟩
/-- the start of a law whose arguments hold no reference -/
theorem Sim.empty (Z : State) (ws : Ws) (h : Heap) : Sim Z ws 0 0 h.size [] h :=
  ⟨by simp, Nat.le_refl _, Nat.zero_le _, (fun q => absurd q (by decide)), (fun i o q => by simp at q)⟩
/-- the start of a law over one array of ints -/
theorem Sim.script {Z : State} (ws : Ws) {h : Heap} {a : Addr} {c : Cell} {vs : List Int32} (A : Arr Z h a c .int) (e : c.slots = (vs.map Value.int).toArray) : Sim Z ws 1 a h.size [(.array .int, vs.map Value.int)] h := by
  refine ⟨by simp, Nat.le_refl _, Nat.le_refl _, fun _ => A.lt, fun i o q => ?_⟩
  cases i with
  | zero =>
    cases q
    refine ⟨c, A, e.trans ?_⟩
    rw [List.map_map]; rfl
  | succ i => cases q
end Jvm.Own
namespace Jvm.Own
open Sem ClassFile Op Lib Jvm.Stand Jvm.Free Jvm.LawKit Jvm.RoadKit
/-! OWN 7: states of an object as plain functions -/
def ou {α : Type} (s : Nat → α) (i : Nat) (v : α) : Nat → α := fun j => if j = i then v else s j
theorem ou_a {α : Type} (s : Nat → α) (i : Nat) (v : α) (j : Nat) : ou s i v j = if j = i then v else s j := rfl
def pad (b : Nat) (pre : AHeap) : AHeap := (pre ++ List.replicate b (FieldType.int, [])).take b
theorem pad_len (b : Nat) (pre : AHeap) : (pad b pre).length = b := by simp [pad]
theorem pad_eq {b : Nat} {pre : AHeap} (h : pre.length = b) : pad b pre = pre := by subst h; simp [pad]
theorem pad_0 (pre : AHeap) : pad 0 pre = [] := by simp [pad]
theorem tot_cons (ws : Ws) (o : FieldType × List Value) (r : AHeap) : tot ws (o :: r) = cost ws o + tot ws r := by simp [tot]
theorem tot_append (ws : Ws) (a r : AHeap) : tot ws (a ++ r) = tot ws a + tot ws r := by simp [tot]
theorem tot_nil (ws : Ws) : tot ws [] = 0 := rfl
theorem pad_get (b : Nat) (pre r : AHeap) (i : Nat) : (pad b pre ++ r)[b + i]? = r[i]? := by
  rw [List.getElem?_append_right (by rw [pad_len]; omega), pad_len]; congr 1; omega
theorem pad_get0 (b : Nat) (pre r : AHeap) : (pad b pre ++ r)[b]? = r[0]? := pad_get b pre r 0
theorem pad_set (b : Nat) (pre r : AHeap) (i : Nat) (o : FieldType × List Value) : (pad b pre ++ r).set (b + i) o = pad b pre ++ r.set i o := by
  rw [List.set_append_right _ _ (by rw [pad_len]; omega), pad_len]; congr 2; omega
theorem pad_set0 (b : Nat) (pre r : AHeap) (o : FieldType × List Value) : (pad b pre ++ r).set b o = pad b pre ++ r.set 0 o := pad_set b pre r 0 o
theorem rCode_of {ws : Ws} {y : MethodName} {b : ByteArray} {m i : Nat} {r : Option FieldType} (h : ws[i]? = some (.code y b m r)) (h2 : (ws.take i).all (fun d => match d with | .code z _ _ _ => !decide (z = y) | _ => true) = true) : rCode ws y = some (b, m, r) := by
  have e : ws = ws.take i ++ (.code y b m r :: ws.drop (i + 1)) := by
    obtain ⟨hi, hg⟩ := List.getElem?_eq_some_iff.mp h
    rw [← hg, ← List.drop_eq_getElem_cons hi, List.take_append_drop]
  unfold rCode
  rw [e, List.findSome?_append]
  have e1 : (ws.take i).findSome? (fun d => match d with | .code z b m r => if z = y then some (b, m, r) else none | _ => none) = none := by
    rw [List.findSome?_eq_none_iff]
    intro d hd
    have q := List.all_eq_true.mp h2 d hd
    split
    · rename_i z b' m' r'
      simp at q
      simp [q]
    · rfl
  rw [e1]
  simp
theorem cR_of {ws : Ws} {dn : Dn} {y y' : MethodName} {b : ByteArray} {mx i f' l' f l na sl : Nat} {r : Option FieldType} {sig : MethodDescriptor} (h1 : rMth ws y.cls i = some y') (h2 : rCode ws y' = some (b, mx, r)) (h3 : dnOf dn y' = some (f', l')) (h4 : dnOf dn y = some (f, l)) (h5 : parseMethodDescriptor y'.desc = some sig)
    (h6 : decide (hasInit ws y'.cls = true ∧ Jvm.plainName y'.cls = true ∧ y'.cls ≠ "java/lang/invoke/MethodHandle" ∧ y'.cls ≠ "java/lang/invoke/VarHandle" ∧ f' + 1 ≤ f ∧ mx + 11 + l' ≤ l) = true) (h7 : sig.parameters.length = na) (h8 : l - (mx + 11 + l') = sl) : cR ws dn y i = some (y', b, mx, r, na, sl) := by
  subst h7 h8
  unfold cR
  rw [h1]; dsimp only
  rw [h2, h3, h4, h5]; dsimp only
  rw [if_pos (of_decide_eq_true h6)]
theorem sR_of {ws : Ws} {dn : Dn} {y : MethodName} {i : Nat} {q : MethodName × ByteArray × Nat × Option FieldType × Nat × Nat} (h : cR ws dn y i = some q) (hs : hasStat ws q.1 = true) : sR ws dn y i = some q := by
  unfold sR; rw [h]; dsimp only; rw [if_pos hs]
theorem nR_of {ws : Ws} {dn : Dn} {y : MethodName} {i : Nat} {q : MethodName × ByteArray × Nat × Option FieldType × Nat × Nat} (h : cR ws dn y i = some q) (h1 : q.1.name = "<init>") (h2 : hasIM ws q.1 = true) (h3 : q.2.2.2.1 = none) : nR ws dn y i = some q := by
  unfold nR; rw [h]; dsimp only; rw [if_pos ⟨h1, h2, h3⟩]
theorem vR_of {ws : Ws} {dn : Dn} {y : MethodName} {i : Nat} {q : MethodName × ByteArray × Nat × Option FieldType × Nat × Nat} (h : cR ws dn y i = some q) (h1 : hasIM ws q.1 = true) (h2 : decide (hasPriv ws q.1 = true ∧ (rInst ws q.1.cls).isSome = true) = false) (h3 : decide (hasDecl ws q.1 = true ∧ hasSel ws q.1 = true) = true) : vR ws dn y i = some (false, q) := by
  unfold vR; rw [h]; dsimp only; rw [if_pos h1, if_neg (of_decide_eq_false h2), if_pos (of_decide_eq_true h3)]
theorem pR_of {ws : Ws} {dn : Dn} {y : MethodName} {i : Nat} {q : MethodName × ByteArray × Nat × Option FieldType × Nat × Nat} (h : cR ws dn y i = some q) (h1 : hasIM ws q.1 = true) (h2 : decide (hasPriv ws q.1 = true ∧ (rInst ws q.1.cls).isSome = true) = true) : vR ws dn y i = some (true, q) := by
  unfold vR; rw [h]; dsimp only; rw [if_pos h1, if_pos (of_decide_eq_true h2)]
def inB {α : Type} (j : Int32) (l : List α) : Prop := ¬ j < 0 ∧ j.toNatClampNeg < l.length
def getA (l : List Int32) (j : Int32) : Int32 := l.getD j.toNatClampNeg 0
def getL (l : List Int64) (j : Int32) : Int64 := l.getD j.toNatClampNeg 0
def setA {α : Type} (l : List α) (j : Int32) (v : α) : List α := l.set j.toNatClampNeg v
def c1 : Slot → Bool
  | .unset => true
  | .second => false
  | .val v => v.category == 1
theorem c1_u : c1 .unset = true := rfl
theorem c1_i (x : Int32) : c1 (.val (.int x)) = true := rfl
theorem c1_r (a : Nat) : c1 (.val (.ref a)) = true := rfl
theorem c1_n : c1 (.val .null) = true := rfl
theorem i_eq (x y : Int32) : if_icmp.holds .eq x y = decide (x = y) := by simp only [if_icmp.holds]; by_cases h : x = y <;> simp [h]
theorem i_ne (x y : Int32) : if_icmp.holds .ne x y = !decide (x = y) := by simp only [if_icmp.holds]; by_cases h : x = y <;> simp [h]
theorem i_lt (x y : Int32) : if_icmp.holds .lt x y = decide (x < y) := rfl
theorem i_gt (x y : Int32) : if_icmp.holds .gt x y = decide (y < x) := rfl
theorem i_ge (x y : Int32) : if_icmp.holds .ge x y = !decide (x < y) := by
  show decide (y ≤ x) = _
  have e1 : (y ≤ x) ↔ ¬ (x < y) := by rw [Int32.le_iff_toInt_le, Int32.lt_iff_toInt_lt]; omega
  by_cases h : x < y
  · have : ¬ y ≤ x := fun g => e1.mp g h
    simp [h, this]
  · have := e1.mpr h
    simp [h, this]
theorem i_le (x y : Int32) : if_icmp.holds .le x y = !decide (y < x) := i_ge y x
theorem z_eq (x : Int32) : ifCond.holds .eq x = decide (x = 0) := i_eq x 0
theorem z_ne (x : Int32) : ifCond.holds .ne x = !decide (x = 0) := i_ne x 0
theorem z_lt (x : Int32) : ifCond.holds .lt x = decide (x < 0) := rfl
theorem z_gt (x : Int32) : ifCond.holds .gt x = decide (0 < x) := rfl
theorem z_ge (x : Int32) : ifCond.holds .ge x = !decide (x < 0) := i_ge x 0
theorem z_le (x : Int32) : ifCond.holds .le x = !decide (0 < x) := i_le x 0
theorem nb0 : nar .boolean 0 = 0 := by decide
theorem nb1 : nar .boolean 1 = 1 := by decide
section
variable {ws : Ws} {dn : Dn} {k : Nat} {y : MethodName} {bytes : ByteArray} {ret : Option FieldType} {pc : Nat} {ls : List Slot} {st : List Value} {H : AHeap} {Q : Option Value → AHeap → Prop}
theorem W_stuck (h : act ws dn k y bytes ret pc ls st H = none) : W ws dn k y bytes ret pc ls st H Q = False := by
  refine propext ⟨fun ⟨n, v, H1, h1, h2⟩ => ?_, False.elim⟩
  cases n with
  | zero => cases h1
  | succ n => rw [run, h] at h1; cases h1
theorem stl_c1 {i : Nat} {o : Slot} {v : Value} (ho : ls[i]? = some o) (hc : c1 o = true) (hv : v.category = 1) : stl ls i v = some (ls.set i (.val v)) := by
  have h := XS.store1 (l := ls.toArray) (i := i) (v := v) (o := o) (by simpa using ho) (by
    cases o with
    | unset => exact Or.inl rfl
    | second => cases hc
    | val w => exact Or.inr ⟨w, rfl, by simpa [c1] using hc⟩) hv
  unfold stl
  rw [h]; simp
/-- a store of one word -/
theorem w_st {ins : Instr} {len i : Nat} {o : Slot} {v : Value} {p : Value → Bool} {nx : Nat} {ls' : List Slot} (hd : decode bytes pc = .ok (ins, len)) (hx : xstep ins len pc ls (v :: st) = stV p nx i ls (v :: st)) (hp : p v = true) (hv : v.category = 1) (ho : ls[i]? = some o) (hs : ls.set i (.val v) = ls') (hc : c1 o = true) :
    W ws dn k y bytes ret pc ls (v :: st) H Q = W ws dn k y bytes ret nx ls' st H Q := by
  subst hs
  exact w_x hd (by rw [hx]; simp only [stV, hp, if_true, stl_c1 ho hc hv, Option.map_some])
theorem w_iinc {i : Nat} {c : Int} {x z : Int32} {ls' : List Slot} (hd : decode bytes pc = .ok (.iinc i c, 3)) (ho : ls[i]? = some (.val (.int x))) (hz : Int32.ofInt c = z) (hs : ls.set i (.val (.int (x + z))) = ls') :
    W ws dn k y bytes ret pc ls st H Q = W ws dn k y bytes ret (pc + 3) ls' st H Q := by
  subst hs hz
  exact w_x hd (by simp only [xstep, chk, if_true, ho, stl_c1 (v := .int (x + Int32.ofInt c)) ho rfl rfl, Option.map_some])
theorem w_con {ins : Instr} {len nx : Nat} {v v' : Value} (hd : decode bytes pc = .ok (ins, len)) (hx : xstep ins len pc ls st = some (nx, ls, v :: st)) (hv : v = v') : W ws dn k y bytes ret pc ls st H Q = W ws dn k y bytes ret nx ls (v' :: st) H Q := by
  subst hv; exact w_x hd hx
theorem w_ifN {cd : ClassFile.Cond} {o : Int} {x : Int32} {t : Nat} {P : Prop} [Decidable P] (hd : decode bytes pc = .ok (.ifCond cd o, 3)) (hp : ifCond.holds cd x = !decide P) (hj : jmp pc o = some t) :
    W ws dn k y bytes ret pc ls (.int x :: st) H Q = if P then W ws dn k y bytes ret (pc + 3) ls st H Q else W ws dn k y bytes ret t ls st H Q := by
  split
  · exact w_x hd (by simp only [xstep, chk, br, hp, hj, if_true]; simp [*])
  · exact w_x hd (by simp only [xstep, chk, br, hp, hj, if_true]; simp [*])
theorem w_icmpN {cd : ClassFile.Cond} {o : Int} {x1 x2 : Int32} {t : Nat} {P : Prop} [Decidable P] (hd : decode bytes pc = .ok (.if_icmp cd o, 3)) (hp : if_icmp.holds cd x1 x2 = !decide P) (hj : jmp pc o = some t) :
    W ws dn k y bytes ret pc ls (.int x2 :: .int x1 :: st) H Q = if P then W ws dn k y bytes ret (pc + 3) ls st H Q else W ws dn k y bytes ret t ls st H Q := by
  split
  · exact w_x hd (by simp only [xstep, chk, br, hp, hj, if_true]; simp [*])
  · exact w_x hd (by simp only [xstep, chk, br, hp, hj, if_true]; simp [*])
theorem ld_stuck {ins : Instr} {a : Nat} {j : Int32} {ty : FieldType} {vs : List Value} (hd : decode bytes pc = .ok (ins, 1)) (hi : ldOk ins ty = true) (ho : H[a]? = some (.array ty, vs)) (hj : ¬ (¬ j < 0 ∧ j.toNatClampNeg < vs.length)) : act ws dn k y bytes ret pc ls (.int j :: .ref a :: st) H = none := by
  have hv : j < 0 ∨ vs[j.toNatClampNeg]? = none := by
    by_cases q : j < 0
    · exact Or.inl q
    · exact Or.inr (List.getElem?_eq_none (Nat.le_of_not_lt fun g => hj ⟨q, g⟩))
  unfold ldOk at hi
  split at hi
  all_goals first
    | (rw [act_c hd rfl (by rcases hv with q | q <;> simp [hstep, chk, hLd, okT, okB, ho, q])]; rfl)
    | cases hi
theorem st_stuck {ins : Instr} {a : Nat} {j : Int32} {ty : FieldType} {vs : List Value} {v : Value} (hd : decode bytes pc = .ok (ins, 1)) (hi : stOk ins ty = true) (ho : H[a]? = some (.array ty, vs)) (hj : ¬ (¬ j < 0 ∧ j.toNatClampNeg < vs.length)) : act ws dn k y bytes ret pc ls (v :: .int j :: .ref a :: st) H = none := by
  have hv : ¬ (¬ j < 0 ∧ j.toNatClampNeg < vs.length) := hj
  unfold stOk at hi
  split at hi
  all_goals first
    | (rw [act_c hd rfl (by simp only [hstep, chk, hSt, okT, okB, ho, if_true]; rw [if_neg (fun q => hv q.2.2)])]; rfl)
    | cases hi
theorem w_ild {ins : Instr} {a : Nat} {j : Int32} {ty : FieldType} {l : List Int32} (hd : decode bytes pc = .ok (ins, 1)) (hi : ldOk ins ty = true) (ho : H[a]? = some (.array ty, l.map Value.int)) :
    W ws dn k y bytes ret pc ls (.int j :: .ref a :: st) H Q = (inB j l ∧ W ws dn k y bytes ret (pc + 1) ls (.int (getA l j) :: st) H Q) := by
  by_cases h : inB j l
  · rw [w_ald hd hi ho h.1 (v := .int (getA l j)) (by simp [getA, h.2])]
    simp [h]
  · rw [W_stuck (ld_stuck hd hi ho (by simpa [inB] using h))]
    simp [h]
theorem w_lld {a : Nat} {j : Int32} {l : List Int64} (hd : decode bytes pc = .ok (.laload, 1)) (ho : H[a]? = some (.array .long, l.map Value.long)) :
    W ws dn k y bytes ret pc ls (.int j :: .ref a :: st) H Q = (inB j l ∧ W ws dn k y bytes ret (pc + 1) ls (.long (getL l j) :: st) H Q) := by
  by_cases h : inB j l
  · rw [w_ald hd rfl ho h.1 (v := .long (getL l j)) (by simp [getL, h.2])]
    simp [h]
  · rw [W_stuck (ld_stuck hd rfl ho (by simpa [inB] using h))]
    simp [h]
theorem w_ist {ins : Instr} {a : Nat} {j v v' : Int32} {ty : FieldType} {l : List Int32} {H' : AHeap} (hd : decode bytes pc = .ok (ins, 1)) (hi : stOk ins ty = true) (ho : H[a]? = some (.array ty, l.map Value.int)) (hk : k ≤ a) (hv : putv ty (.int v) = some (.int v')) (hH : H.set a (.array ty, (setA l j v').map Value.int) = H') :
    W ws dn k y bytes ret pc ls (.int v :: .int j :: .ref a :: st) H Q = (inB j l ∧ W ws dn k y bytes ret (pc + 1) ls st H' Q) := by
  by_cases h : inB j l
  · rw [w_ast (H' := H') hd hi ho hk h.1 (by simpa using h.2) hv (by rw [← hH, setA, List.map_set])]
    simp [h]
  · rw [W_stuck (st_stuck hd hi ho (by simpa [inB] using h))]
    simp [h]
theorem w_lst {a : Nat} {j : Int32} {v : Int64} {l : List Int64} {H' : AHeap} (hd : decode bytes pc = .ok (.lastore, 1)) (ho : H[a]? = some (.array .long, l.map Value.long)) (hk : k ≤ a) (hH : H.set a (.array .long, (setA l j v).map Value.long) = H') :
    W ws dn k y bytes ret pc ls (.long v :: .int j :: .ref a :: st) H Q = (inB j l ∧ W ws dn k y bytes ret (pc + 1) ls st H' Q) := by
  by_cases h : inB j l
  · rw [w_ast (H' := H') hd rfl ho hk h.1 (by simpa using h.2) rfl (by rw [← hH, setA, List.map_set])]
    simp [h]
  · rw [W_stuck (st_stuck hd rfl ho (by simpa [inB] using h))]
    simp [h]
theorem w_div {ins : Instr} {f : Int32 → Int32 → Int32} {x z : Int32} (hd : decode bytes pc = .ok (ins, 1)) (hx : ∀ st, xstep ins 1 pc ls st = d2 f (pc + 1) ls st) (hh : hstep ws k y ins 1 pc (.int z :: .int x :: st) H = none) (hc : cstep ws dn y ret ins 1 pc ls (.int z :: .int x :: st) H = none) :
    W ws dn k y bytes ret pc ls (.int z :: .int x :: st) H Q = (z ≠ 0 ∧ W ws dn k y bytes ret (pc + 1) ls (.int (f x z) :: st) H Q) := by
  by_cases h : z = 0
  · rw [W_stuck (by rw [act_c hd (by rw [hx]; simp [d2, h]) hh, hc])]; simp [h]
  · rw [w_x (pc' := pc + 1) (ls' := ls) (st' := .int (f x z) :: st) hd (by rw [hx]; simp only [d2, h, if_false])]; simp [h]
/-- a field's array made in a constructor -/
theorem w_iarr {i j p1 p2 p3 : Nat} {C : String} {vs : List Value} {r : AHeap} {n : Int32} {v : Value} {aty : ArrayType} {ty at' : FieldType} {l0 : Slot} {lr : List Slot} {ins : Instr} {len : Nat} {b : Nat} (hl : l0 = .val (.ref b)) (hH : H.length = b) (hk : k ≤ b)
    (d0 : decode bytes pc = .ok (.aload_n 0, 1)) (e0 : pc + 1 = p1) (dn1 : decode bytes p1 = .ok (ins, len)) (hx : ∀ st, xstep ins len p1 (l0 :: lr) st = some (p2, l0 :: lr, v :: st)) (hv : v = .int n) (d2' : decode bytes p2 = .ok (.newarray aty, 2)) (ht : newarray.typeOf aty = ty) (hr : hasArr ws ty = true) (hn : ¬ n < 0) (hb : n.toNatClampNeg * 8 ≤ 536870912) (e3 : p2 + 2 = p3)
    (d3 : decode bytes p3 = .ok (.putfield i, 3)) (hp : pfR ws y.cls y.name i = some (C, j, .array at')) (hj : j < vs.length) :
    W ws dn k y bytes ret pc (l0 :: lr) [] (H ++ (.object C, vs) :: r) Q = W ws dn k y bytes ret (p3 + 3) (l0 :: lr) [] (H ++ (.object C, vs.set j (.ref (b + (r.length + 1)))) :: (r ++ [(.array ty, List.replicate n.toNatClampNeg (defaultValue ty))])) Q := by
  subst hl e0 e3 hv hH
  rw [w_x d0 (ls' := .val (.ref H.length) :: lr) (st' := [.ref H.length]) (pc' := pc + 1) rfl, w_x dn1 (hx _), w_newA d2' ht hr hn hb]
  have e1 : (H ++ (FieldType.object C, vs) :: r).length = H.length + (r.length + 1) := by simp
  rw [e1, w_put d3 hp (vs := vs) (H' := H ++ (.object C, vs.set j (.ref (H.length + (r.length + 1)))) :: (r ++ [(.array ty, List.replicate n.toNatClampNeg (defaultValue ty))])) (by simp) hk hj rfl (by simp)]
/-- a field's plain value put at a constructor's head -/
theorem w_iint {i j p1 p2 : Nat} {C : String} {vs : List Value} {r : AHeap} {v v0 v' : Value} {ty : FieldType} {l0 : Slot} {lr : List Slot} {ins : Instr} {len : Nat} {b : Nat} (hl : l0 = .val (.ref b)) (hH : H.length = b) (hk : k ≤ b)
    (d0 : decode bytes pc = .ok (.aload_n 0, 1)) (e0 : pc + 1 = p1) (dn1 : decode bytes p1 = .ok (ins, len)) (hx : ∀ st, xstep ins len p1 (l0 :: lr) st = some (p2, l0 :: lr, v0 :: st)) (hv : v0 = v)
    (d3 : decode bytes p2 = .ok (.putfield i, 3)) (hp : pfR ws y.cls y.name i = some (C, j, ty)) (hv' : putv ty v = some v') (hj : j < vs.length) :
    W ws dn k y bytes ret pc (l0 :: lr) [] (H ++ (.object C, vs) :: r) Q = W ws dn k y bytes ret (p2 + 3) (l0 :: lr) [] (H ++ (.object C, vs.set j v') :: r) Q := by
  subst hl e0 hv hH
  rw [w_x d0 (ls' := .val (.ref H.length) :: lr) (st' := [.ref H.length]) (pc' := pc + 1) rfl, w_x dn1 (hx _)]
  rw [w_put d3 hp (vs := vs) (H' := H ++ (.object C, vs.set j v') :: r) (by simp) hk hj hv' (by simp)]
end
end Jvm.Own
namespace Jvm.Own
open Sem ClassFile Op Lib Jvm.Stand Jvm.Free Jvm.LawKit Jvm.RoadKit
theorem getA_rep (n : Nat) (j : Int32) : getA (List.replicate n 0) j = 0 := by
  simp only [getA, List.getD_eq_getElem?_getD, List.getElem?_replicate]
  split <;> rfl
/-- the array's words as plain ints -/
theorem script_of {s : State} {a : Addr} {c : Cell} (hf : Fit s) (A : Arr s s.heap a c .int) (hl : c.slots.size < 2 ^ 31) : ∃ vs : List Int32, c.slots = (vs.map Value.int).toArray := by
  have h : ∀ v ∈ c.slots.toList, ∃ x : Int32, v = .int x := fun v hv => by
    obtain ⟨i, hi, e⟩ := List.getElem_of_mem hv
    have hi' : i < c.slots.size := by simpa using hi
    have e1 : (Nat.toInt32 i).toNatClampNeg = i := by simp only [Int32.toNatClampNeg, len_toInt (Nat.lt_trans hi' hl)]; rfl
    obtain ⟨w, h1, h2⟩ := elem_fit hf A (idx_in hi' hl)
    rw [e1] at h1
    have : w = v := by rw [Array.getElem?_eq_getElem hi'] at h1; rw [← e]; simpa using (Option.some.inj h1).symm
    subst this
    exact fit_I h2 (by simp)
  have g : ∀ l : List Value, (∀ v ∈ l, ∃ x : Int32, v = .int x) → ∃ vs : List Int32, l = vs.map Value.int := fun l => by
    induction l with
    | nil => exact fun _ => ⟨[], rfl⟩
    | cons v r ih =>
      intro q
      obtain ⟨x, rfl⟩ := q _ (List.mem_cons_self ..)
      obtain ⟨vs, e⟩ := ih fun w hw => q w (List.mem_cons_of_mem _ hw)
      exact ⟨x :: vs, by rw [e]; rfl⟩
  obtain ⟨vs, e⟩ := g _ h
  exact ⟨vs, by rw [← e]⟩
end Jvm.Own
namespace Jvm.Own
open Sem ClassFile Op Lib Jvm.Stand Jvm.Free Jvm.LawKit Jvm.RoadKit
/-! OWN 8: small facts on arrays and ints -/
theorem toNat_eq (j : Int32) : j.toNatClampNeg = j.toInt.toNat := rfl
theorem lt_i {x y : Int32} : x < y ↔ x.toInt < y.toInt := Int32.lt_iff_toInt_lt
theorem inB_iff {α : Type} {j : Int32} {l : List α} : inB j l ↔ 0 ≤ j.toInt ∧ j.toInt < (l.length : Int) := by
  have e0 : (0 : Int32).toInt = 0 := rfl
  unfold inB
  rw [lt_i, toNat_eq, e0]
  omega
theorem inB_lt {α : Type} {j n : Int32} {l : List α} (hl : (l.length : Int) = n.toInt) (h0 : ¬ j < 0) (h1 : j < n) : inB j l := by
  have e0 : (0 : Int32).toInt = 0 := rfl
  rw [inB_iff]
  rw [lt_i] at h0 h1
  rw [e0] at h0
  omega
theorem setA_len {α : Type} (l : List α) (j : Int32) (v : α) : (setA l j v).length = l.length := List.length_set
theorem getA_set {l : List Int32} {i j v : Int32} (h : inB i l) : getA (setA l i v) j = if j.toNatClampNeg = i.toNatClampNeg then v else getA l j := by
  simp only [getA, setA, List.getD_eq_getElem?_getD, List.getElem?_set]
  by_cases e : j.toNatClampNeg = i.toNatClampNeg
  · rw [e]; simp [h.2]
  · simp [e, Ne.symm e]
theorem getA_set2 (l : List Int32) (i j v : Int32) : getA (setA l i v) j = if j.toNatClampNeg = i.toNatClampNeg ∧ i.toNatClampNeg < l.length then v else getA l j := by
  simp only [getA, setA, List.getD_eq_getElem?_getD, List.getElem?_set]
  by_cases e : j.toNatClampNeg = i.toNatClampNeg
  · rw [e]
    by_cases q : i.toNatClampNeg < l.length <;> simp [q]
  · simp [e, Ne.symm e]
theorem len_ou {B A : Nat → List Int32} {j : Nat} {l : List Int32} (h : ∀ i, (A i).length = (B i).length) (hl : l.length = (B j).length) : ∀ i, (ou A j l i).length = (B i).length := fun i => by
  rw [ou_a]
  split
  · rename_i e; rw [e]; exact hl
  · exact h i
end Jvm.Own
namespace Jvm.Own
open Sem ClassFile Op Lib Jvm.Stand Jvm.Free Jvm.LawKit Jvm.RoadKit
/-! OWN 9: a normal form of states; masks and ranges -/
theorem ou_same {α : Type} (s : Nat → α) (i : Nat) (v w : α) : ou (ou s i v) i w = ou s i w := by
  funext j
  simp only [ou_a]
  by_cases h : j = i <;> simp [h]
theorem ou_comm {α : Type} {s : Nat → α} {i j : Nat} {v w : α} (h : j < i) : ou (ou s i v) j w = ou (ou s j w) (i + 0) v := by
  show ou (ou s i v) j w = ou (ou s j w) i v
  funext k
  simp only [ou_a]
  by_cases h1 : k = j
  · have h2 : ¬ k = i := by omega
    simp [h1]
    intro h3; omega
  · simp [h1]
theorem setA_same {α : Type} (l : List α) (i : Int32) (v w : α) : setA (setA l i v) i w = setA l i w := by
  simp only [setA, List.set_set]
theorem clamp_ne {i j : Int32} (h0 : ¬ j < 0) (h : j < i) : j.toNatClampNeg ≠ i.toNatClampNeg := by
  have e0 : (0 : Int32).toInt = 0 := rfl
  rw [lt_i] at *
  rw [toNat_eq, toNat_eq]
  omega
theorem setA_comm {α : Type} {l : List α} {i j : Int32} {v w : α} (h0 : ¬ j < 0) (h : j < i) : setA (setA l i v) j w = setA (setA l j w) (i + 0) v := by
  rw [Int32.add_zero]
  simp only [setA]
  exact List.set_comm _ _ (Ne.symm (clamp_ne h0 h))
theorem lt_irr (x : Int32) : (x < x) = False := by
  apply propext
  rw [lt_i]
  constructor
  · intro h; omega
  · exact False.elim
theorem bit1 (x : Int32) : x &&& 1 = 0 ∨ x &&& 1 = 1 := by
  have h : (x &&& 1).toBitVec.toNat = x.toBitVec.toNat % 2 := by
    rw [Int32.toBitVec_and, BitVec.toNat_and]
    exact Nat.and_one_is_mod _
  rcases Nat.mod_two_eq_zero_or_one x.toBitVec.toNat with e | e
  · exact Or.inl (Int32.toBitVec_inj.mp (BitVec.eq_of_toNat_eq (by rw [h, e]; rfl)))
  · exact Or.inr (Int32.toBitVec_inj.mp (BitVec.eq_of_toNat_eq (by rw [h, e]; rfl)))
theorem and_bd (x m : Int32) (hm : m.toBitVec.toNat < 2147483648) : 0 ≤ (x &&& m).toInt ∧ (x &&& m).toInt ≤ (m.toBitVec.toNat : Int) := by
  have h : (x &&& m).toBitVec.toNat ≤ m.toBitVec.toNat := by
    rw [Int32.toBitVec_and, BitVec.toNat_and]
    exact Nat.and_le_right
  have e : (x &&& m).toInt = ((x &&& m).toBitVec.toNat : Int) := BitVec.toInt_eq_toNat_of_lt (by omega)
  rw [e]
  omega
theorem rng {x : Int32} {n : Nat} (h0 : 0 ≤ x.toInt) (h1 : x.toInt < n) : ∃ k, k < n ∧ x = Int32.ofNat k := by
  have e : (x.toInt.toNat : Int) = x.toInt := Int.toNat_of_nonneg h0
  refine ⟨x.toInt.toNat, by omega, ?_⟩
  have e2 : Int32.ofNat x.toInt.toNat = Int32.ofInt (x.toInt.toNat : Int) := rfl
  rw [e2, e, Int32.ofInt_toInt]
theorem getL_rep (n : Nat) (j : Int32) : getL (List.replicate n 0) j = 0 := by
  simp only [getL, List.getD_eq_getElem?_getD, List.getElem?_replicate]
  split <;> rfl
theorem getL_set2 (l : List Int64) (i j : Int32) (v : Int64) : getL (setA l i v) j = if j.toNatClampNeg = i.toNatClampNeg ∧ i.toNatClampNeg < l.length then v else getL l j := by
  simp only [getL, setA, List.getD_eq_getElem?_getD, List.getElem?_set]
  by_cases e : j.toNatClampNeg = i.toNatClampNeg
  · rw [e]
    by_cases q : i.toNatClampNeg < l.length <;> simp [q]
  · simp [e, Ne.symm e]
theorem add_i {a b : Int32} (h : -2147483648 ≤ a.toInt + b.toInt) (h' : a.toInt + b.toInt < 2147483648) : (a + b).toInt = a.toInt + b.toInt := by
  rw [Int32.toInt_add]
  have e : ((2 ^ 32 : Nat) : Int) = 4294967296 := rfl
  exact Int.bmod_eq_of_le (by rw [e]; omega) (by rw [e]; omega)
theorem sub_i {a b : Int32} (h : -2147483648 ≤ a.toInt - b.toInt) (h' : a.toInt - b.toInt < 2147483648) : (a - b).toInt = a.toInt - b.toInt := by
  rw [Int32.toInt_sub]
  have e : ((2 ^ 32 : Nat) : Int) = 4294967296 := rfl
  exact Int.bmod_eq_of_le (by rw [e]; omega) (by rw [e]; omega)
theorem mul_i {a b : Int32} (h : -2147483648 ≤ a.toInt * b.toInt) (h' : a.toInt * b.toInt < 2147483648) : (a * b).toInt = a.toInt * b.toInt := by
  rw [Int32.toInt_mul]
  have e : ((2 ^ 32 : Nat) : Int) = 4294967296 := rfl
  exact Int.bmod_eq_of_le (by rw [e]; omega) (by rw [e]; omega)
theorem i_0 : (0 : Int32).toInt = 0 := rfl
theorem i_1 : (1 : Int32).toInt = 1 := rfl
theorem add1_i {a : Int32} (h : a.toInt < 2147483647) : (a + 1).toInt = a.toInt + 1 := by
  have := Int32.le_toInt a
  exact add_i (by rw [i_1]; omega) (by rw [i_1]; omega)
theorem nn_i {a : Int32} : ¬ a < 0 ↔ 0 ≤ a.toInt := by rw [lt_i, i_0]; omega
theorem succ_nn {a : Int32} (h0 : ¬ a < 0) (h : a.toInt < 2147483647) : ¬ a + 1 < 0 := by
  rw [nn_i] at *
  rw [add1_i h]
  omega
theorem inB_set {α : Type} {l : List α} {i j : Int32} {v : α} : inB j (setA l i v) = inB j l := by
  simp only [inB, setA_len]
theorem pad_1 (c : FieldType × List Value) : pad 1 [c] = [c] := rfl
def okS (l : Slot) : Prop := l = .unset ∨ ∃ z : Int32, l = .val (.int z)
theorem okS_u : okS .unset := Or.inl rfl
theorem okS_i (z : Int32) : okS (.val (.int z)) := Or.inr ⟨z, rfl⟩
end Jvm.Own
namespace Jvm.Pilot.@@N@@
open Jvm Jvm.ClassFile Sem Op Lib Jvm.Free Jvm.Stand Jvm.LawKit Jvm.RoadKit Bundle Jvm.Own Jvm.Pilot.@@N@@.Jvm.D
/-- frames and words that each method asks -/
def dn : Dn := [(⟨"ResponseTimeGate", "<init>", "(I)V"⟩, 1, 13), (⟨"ResponseTimeGate", "resetSim", "()V"⟩, 0, 0), (⟨"ResponseTimeGate", "run", "(I)I"⟩, 3, 45), (⟨"ResponseTimeGate", "tick", "()V"⟩, 2, 32), (⟨"ResponseTimeGate", "releaseJobs", "()V"⟩, 0, 0), (⟨"ResponseTimeGate", "pickRunning", "()I"⟩, 1, 14), (⟨"ResponseTimeGate", "checkMisses", "()V"⟩, 0, 0), (⟨"ResponseTimeGate", "taskCount", "()I"⟩, 0, 0), (⟨"ResponseTimeGate", "hyperperiod", "()I"⟩, 0, 0), (⟨"ResponseTimeGate", "failedTask", "()I"⟩, 0, 0), (⟨"ResponseTimeGate", "bound", "(I)I"⟩, 1, 13), (⟨"ResponseTimeGate", "admitted", "(I)Z"⟩, 0, 0), (⟨"ResponseTimeGate", "blocking", "(I)I"⟩, 1, 13), (⟨"ResponseTimeGate", "ceiling", "(I)I"⟩, 0, 0), (⟨"ResponseTimeGate", "beginTask", "(IIII)I"⟩, 1, 14), (⟨"ResponseTimeGate", "commitTask", "()I"⟩, 3, 55), (⟨"ResponseTimeGate", "addSection", "(III)I"⟩, 1, 17), (⟨"ResponseTimeGate", "priorityTaken", "(I)Z"⟩, 0, 0), (⟨"ResponseTimeGate", "lcmWith", "(II)I"⟩, 1, 18), (⟨"ResponseTimeGate", "gcd", "(II)I"⟩, 0, 0), (⟨"ResponseTimeGate", "placeStaged", "(I)V"⟩, 0, 0), (⟨"ResponseTimeGate", "analyze", "(I)I"⟩, 2, 39), (⟨"ResponseTimeGate", "computeCeilings", "(I)V"⟩, 0, 0), (⟨"ResponseTimeGate", "blockingOf", "(II)I"⟩, 0, 0), (⟨"ResponseTimeGate", "responseOf", "(III)I"⟩, 1, 20), (⟨"ResponseTimeGate", "interference", "(III)I"⟩, 0, 0), (⟨"ResponseTimeGate", "adoptResults", "(I)V"⟩, 0, 0), (⟨"ResponseTimeGate", "time", "()I"⟩, 0, 0), (⟨"ResponseTimeGate", "misses", "()I"⟩, 0, 0), (⟨"ResponseTimeGate", "jobsDone", "(I)I"⟩, 1, 13), (⟨"ResponseTimeGate", "maxResponse", "(I)I"⟩, 1, 13), (⟨"ResponseTimeGate", "progress", "(I)I"⟩, 1, 13), (⟨"ResponseTimeGate", "holder", "(I)I"⟩, 0, 0), (⟨"ResponseTimeGate", "activePriority", "(I)I"⟩, 0, 0), (⟨"ResponseTimeGate", "executeUnit", "(I)V"⟩, 1, 14), (⟨"ResponseTimeGate", "takeResourceIfStart", "(I)V"⟩, 0, 0), (⟨"ResponseTimeGate", "completeJob", "(I)V"⟩, 0, 0), (⟨"ResponseTimeGate", "overlapsStaged", "(II)Z"⟩, 0, 0), (⟨"ResponseTimeGateL5", "sameAnalysis", "(LResponseTimeGate;LResponseTimeGate;)Z"⟩, 2, 27), (⟨"ResponseTimeGateL5", "sameSim", "(LResponseTimeGate;LResponseTimeGate;)Z"⟩, 2, 27), (⟨"ResponseTimeGateL5", "law", "([I)Z"⟩, 4, 70)]
/- scalars: 0=cap 1=count 2=hyper 3=failed 4=staged 5=stT 6=stD 7=stC 8=stP 9=now 10=missCount; arrays: 0=per@1 1=dl@2 2=wc@3 3=pr@4 4=secS@5 5=secL@6 6=bnd@7 7=blk@8 8=ceil@9 9=stS@10 10=stL@11 11=candCeil@12 12=candB@13 13=candR@14 14=pend@15 15=rel@16 16=prog@17 17=held@18 18=done@19 19=maxR@20; longs: []; long arrays: [] -/
def objv (b : Nat) (s : Nat → Int32) : List Value := [.ref (b + 1), .ref (b + 2), .ref (b + 3), .ref (b + 4), .ref (b + 5), .ref (b + 6), .ref (b + 7), .ref (b + 8), .ref (b + 9), .ref (b + 10), .ref (b + 11), .ref (b + 12), .ref (b + 13), .ref (b + 14), .ref (b + 15), .ref (b + 16), .ref (b + 17), .ref (b + 18), .ref (b + 19), .ref (b + 20), .int (s 0), .int (s 1), .int (s 4), .int (s 3), .int (s 2), .int (s 9), .int (s 10), .int (s 5), .int (s 6), .int (s 7), .int (s 8)]
def put (b : Nat) (pre : AHeap) (s : Nat → Int32) (A : Nat → List Int32) (post : AHeap) : AHeap := pad b pre ++ ((.object "ResponseTimeGate", objv b s) :: (.array .int, (A 0).map Value.int) :: (.array .int, (A 1).map Value.int) :: (.array .int, (A 2).map Value.int) :: (.array .int, (A 3).map Value.int) :: (.array .int, (A 4).map Value.int) :: (.array .int, (A 5).map Value.int) :: (.array .int, (A 6).map Value.int) :: (.array .int, (A 7).map Value.int) :: (.array .int, (A 8).map Value.int) :: (.array .int, (A 9).map Value.int) :: (.array .int, (A 10).map Value.int) :: (.array .int, (A 11).map Value.int) :: (.array .int, (A 12).map Value.int) :: (.array .int, (A 13).map Value.int) :: (.array .boolean, (A 14).map Value.int) :: (.array .int, (A 15).map Value.int) :: (.array .int, (A 16).map Value.int) :: (.array .int, (A 17).map Value.int) :: (.array .int, (A 18).map Value.int) :: (.array .int, (A 19).map Value.int) :: post)
theorem put_o {b : Nat} {pre : AHeap} {s : Nat → Int32} {A : Nat → List Int32} {post : AHeap} : (put b pre s A post)[b]? = some (.object "ResponseTimeGate", objv b s) := pad_get0 _ _ _
theorem put_a0 {b : Nat} {pre : AHeap} {s : Nat → Int32} {A : Nat → List Int32} {post : AHeap} : (put b pre s A post)[b + 1]? = some (.array .int, (A 0).map Value.int) := pad_get _ _ _ 1
theorem put_w0 {b : Nat} {pre : AHeap} {s : Nat → Int32} {A : Nat → List Int32} {post : AHeap} {l : List Int32} : (put b pre s A post).set (b + 1) (.array .int, l.map Value.int) = put b pre s (ou A 0 l) post := pad_set _ _ _ 1 _
theorem put_a1 {b : Nat} {pre : AHeap} {s : Nat → Int32} {A : Nat → List Int32} {post : AHeap} : (put b pre s A post)[b + 2]? = some (.array .int, (A 1).map Value.int) := pad_get _ _ _ 2
theorem put_w1 {b : Nat} {pre : AHeap} {s : Nat → Int32} {A : Nat → List Int32} {post : AHeap} {l : List Int32} : (put b pre s A post).set (b + 2) (.array .int, l.map Value.int) = put b pre s (ou A 1 l) post := pad_set _ _ _ 2 _
theorem put_a2 {b : Nat} {pre : AHeap} {s : Nat → Int32} {A : Nat → List Int32} {post : AHeap} : (put b pre s A post)[b + 3]? = some (.array .int, (A 2).map Value.int) := pad_get _ _ _ 3
theorem put_w2 {b : Nat} {pre : AHeap} {s : Nat → Int32} {A : Nat → List Int32} {post : AHeap} {l : List Int32} : (put b pre s A post).set (b + 3) (.array .int, l.map Value.int) = put b pre s (ou A 2 l) post := pad_set _ _ _ 3 _
theorem put_a3 {b : Nat} {pre : AHeap} {s : Nat → Int32} {A : Nat → List Int32} {post : AHeap} : (put b pre s A post)[b + 4]? = some (.array .int, (A 3).map Value.int) := pad_get _ _ _ 4
theorem put_w3 {b : Nat} {pre : AHeap} {s : Nat → Int32} {A : Nat → List Int32} {post : AHeap} {l : List Int32} : (put b pre s A post).set (b + 4) (.array .int, l.map Value.int) = put b pre s (ou A 3 l) post := pad_set _ _ _ 4 _
theorem put_a4 {b : Nat} {pre : AHeap} {s : Nat → Int32} {A : Nat → List Int32} {post : AHeap} : (put b pre s A post)[b + 5]? = some (.array .int, (A 4).map Value.int) := pad_get _ _ _ 5
theorem put_w4 {b : Nat} {pre : AHeap} {s : Nat → Int32} {A : Nat → List Int32} {post : AHeap} {l : List Int32} : (put b pre s A post).set (b + 5) (.array .int, l.map Value.int) = put b pre s (ou A 4 l) post := pad_set _ _ _ 5 _
theorem put_a5 {b : Nat} {pre : AHeap} {s : Nat → Int32} {A : Nat → List Int32} {post : AHeap} : (put b pre s A post)[b + 6]? = some (.array .int, (A 5).map Value.int) := pad_get _ _ _ 6
theorem put_w5 {b : Nat} {pre : AHeap} {s : Nat → Int32} {A : Nat → List Int32} {post : AHeap} {l : List Int32} : (put b pre s A post).set (b + 6) (.array .int, l.map Value.int) = put b pre s (ou A 5 l) post := pad_set _ _ _ 6 _
theorem put_a6 {b : Nat} {pre : AHeap} {s : Nat → Int32} {A : Nat → List Int32} {post : AHeap} : (put b pre s A post)[b + 7]? = some (.array .int, (A 6).map Value.int) := pad_get _ _ _ 7
theorem put_w6 {b : Nat} {pre : AHeap} {s : Nat → Int32} {A : Nat → List Int32} {post : AHeap} {l : List Int32} : (put b pre s A post).set (b + 7) (.array .int, l.map Value.int) = put b pre s (ou A 6 l) post := pad_set _ _ _ 7 _
theorem put_a7 {b : Nat} {pre : AHeap} {s : Nat → Int32} {A : Nat → List Int32} {post : AHeap} : (put b pre s A post)[b + 8]? = some (.array .int, (A 7).map Value.int) := pad_get _ _ _ 8
theorem put_w7 {b : Nat} {pre : AHeap} {s : Nat → Int32} {A : Nat → List Int32} {post : AHeap} {l : List Int32} : (put b pre s A post).set (b + 8) (.array .int, l.map Value.int) = put b pre s (ou A 7 l) post := pad_set _ _ _ 8 _
theorem put_a8 {b : Nat} {pre : AHeap} {s : Nat → Int32} {A : Nat → List Int32} {post : AHeap} : (put b pre s A post)[b + 9]? = some (.array .int, (A 8).map Value.int) := pad_get _ _ _ 9
theorem put_w8 {b : Nat} {pre : AHeap} {s : Nat → Int32} {A : Nat → List Int32} {post : AHeap} {l : List Int32} : (put b pre s A post).set (b + 9) (.array .int, l.map Value.int) = put b pre s (ou A 8 l) post := pad_set _ _ _ 9 _
theorem put_a9 {b : Nat} {pre : AHeap} {s : Nat → Int32} {A : Nat → List Int32} {post : AHeap} : (put b pre s A post)[b + 10]? = some (.array .int, (A 9).map Value.int) := pad_get _ _ _ 10
theorem put_w9 {b : Nat} {pre : AHeap} {s : Nat → Int32} {A : Nat → List Int32} {post : AHeap} {l : List Int32} : (put b pre s A post).set (b + 10) (.array .int, l.map Value.int) = put b pre s (ou A 9 l) post := pad_set _ _ _ 10 _
theorem put_a10 {b : Nat} {pre : AHeap} {s : Nat → Int32} {A : Nat → List Int32} {post : AHeap} : (put b pre s A post)[b + 11]? = some (.array .int, (A 10).map Value.int) := pad_get _ _ _ 11
theorem put_w10 {b : Nat} {pre : AHeap} {s : Nat → Int32} {A : Nat → List Int32} {post : AHeap} {l : List Int32} : (put b pre s A post).set (b + 11) (.array .int, l.map Value.int) = put b pre s (ou A 10 l) post := pad_set _ _ _ 11 _
theorem put_a11 {b : Nat} {pre : AHeap} {s : Nat → Int32} {A : Nat → List Int32} {post : AHeap} : (put b pre s A post)[b + 12]? = some (.array .int, (A 11).map Value.int) := pad_get _ _ _ 12
theorem put_w11 {b : Nat} {pre : AHeap} {s : Nat → Int32} {A : Nat → List Int32} {post : AHeap} {l : List Int32} : (put b pre s A post).set (b + 12) (.array .int, l.map Value.int) = put b pre s (ou A 11 l) post := pad_set _ _ _ 12 _
theorem put_a12 {b : Nat} {pre : AHeap} {s : Nat → Int32} {A : Nat → List Int32} {post : AHeap} : (put b pre s A post)[b + 13]? = some (.array .int, (A 12).map Value.int) := pad_get _ _ _ 13
theorem put_w12 {b : Nat} {pre : AHeap} {s : Nat → Int32} {A : Nat → List Int32} {post : AHeap} {l : List Int32} : (put b pre s A post).set (b + 13) (.array .int, l.map Value.int) = put b pre s (ou A 12 l) post := pad_set _ _ _ 13 _
theorem put_a13 {b : Nat} {pre : AHeap} {s : Nat → Int32} {A : Nat → List Int32} {post : AHeap} : (put b pre s A post)[b + 14]? = some (.array .int, (A 13).map Value.int) := pad_get _ _ _ 14
theorem put_w13 {b : Nat} {pre : AHeap} {s : Nat → Int32} {A : Nat → List Int32} {post : AHeap} {l : List Int32} : (put b pre s A post).set (b + 14) (.array .int, l.map Value.int) = put b pre s (ou A 13 l) post := pad_set _ _ _ 14 _
theorem put_a14 {b : Nat} {pre : AHeap} {s : Nat → Int32} {A : Nat → List Int32} {post : AHeap} : (put b pre s A post)[b + 15]? = some (.array .boolean, (A 14).map Value.int) := pad_get _ _ _ 15
theorem put_w14 {b : Nat} {pre : AHeap} {s : Nat → Int32} {A : Nat → List Int32} {post : AHeap} {l : List Int32} : (put b pre s A post).set (b + 15) (.array .boolean, l.map Value.int) = put b pre s (ou A 14 l) post := pad_set _ _ _ 15 _
theorem put_a15 {b : Nat} {pre : AHeap} {s : Nat → Int32} {A : Nat → List Int32} {post : AHeap} : (put b pre s A post)[b + 16]? = some (.array .int, (A 15).map Value.int) := pad_get _ _ _ 16
theorem put_w15 {b : Nat} {pre : AHeap} {s : Nat → Int32} {A : Nat → List Int32} {post : AHeap} {l : List Int32} : (put b pre s A post).set (b + 16) (.array .int, l.map Value.int) = put b pre s (ou A 15 l) post := pad_set _ _ _ 16 _
theorem put_a16 {b : Nat} {pre : AHeap} {s : Nat → Int32} {A : Nat → List Int32} {post : AHeap} : (put b pre s A post)[b + 17]? = some (.array .int, (A 16).map Value.int) := pad_get _ _ _ 17
theorem put_w16 {b : Nat} {pre : AHeap} {s : Nat → Int32} {A : Nat → List Int32} {post : AHeap} {l : List Int32} : (put b pre s A post).set (b + 17) (.array .int, l.map Value.int) = put b pre s (ou A 16 l) post := pad_set _ _ _ 17 _
theorem put_a17 {b : Nat} {pre : AHeap} {s : Nat → Int32} {A : Nat → List Int32} {post : AHeap} : (put b pre s A post)[b + 18]? = some (.array .int, (A 17).map Value.int) := pad_get _ _ _ 18
theorem put_w17 {b : Nat} {pre : AHeap} {s : Nat → Int32} {A : Nat → List Int32} {post : AHeap} {l : List Int32} : (put b pre s A post).set (b + 18) (.array .int, l.map Value.int) = put b pre s (ou A 17 l) post := pad_set _ _ _ 18 _
theorem put_a18 {b : Nat} {pre : AHeap} {s : Nat → Int32} {A : Nat → List Int32} {post : AHeap} : (put b pre s A post)[b + 19]? = some (.array .int, (A 18).map Value.int) := pad_get _ _ _ 19
theorem put_w18 {b : Nat} {pre : AHeap} {s : Nat → Int32} {A : Nat → List Int32} {post : AHeap} {l : List Int32} : (put b pre s A post).set (b + 19) (.array .int, l.map Value.int) = put b pre s (ou A 18 l) post := pad_set _ _ _ 19 _
theorem put_a19 {b : Nat} {pre : AHeap} {s : Nat → Int32} {A : Nat → List Int32} {post : AHeap} : (put b pre s A post)[b + 20]? = some (.array .int, (A 19).map Value.int) := pad_get _ _ _ 20
theorem put_w19 {b : Nat} {pre : AHeap} {s : Nat → Int32} {A : Nat → List Int32} {post : AHeap} {l : List Int32} : (put b pre s A post).set (b + 20) (.array .int, l.map Value.int) = put b pre s (ou A 19 l) post := pad_set _ _ _ 20 _
theorem put_s0 {b : Nat} {pre : AHeap} {s : Nat → Int32} {A : Nat → List Int32} {post : AHeap} {v : Int32} : (put b pre s A post).set b (.object "ResponseTimeGate", (objv b s).set 20 (.int v)) = put b pre (ou s 0 v) A post := pad_set0 _ _ _ _
theorem put_s1 {b : Nat} {pre : AHeap} {s : Nat → Int32} {A : Nat → List Int32} {post : AHeap} {v : Int32} : (put b pre s A post).set b (.object "ResponseTimeGate", (objv b s).set 21 (.int v)) = put b pre (ou s 1 v) A post := pad_set0 _ _ _ _
theorem put_s4 {b : Nat} {pre : AHeap} {s : Nat → Int32} {A : Nat → List Int32} {post : AHeap} {v : Int32} : (put b pre s A post).set b (.object "ResponseTimeGate", (objv b s).set 22 (.int v)) = put b pre (ou s 4 v) A post := pad_set0 _ _ _ _
theorem put_s3 {b : Nat} {pre : AHeap} {s : Nat → Int32} {A : Nat → List Int32} {post : AHeap} {v : Int32} : (put b pre s A post).set b (.object "ResponseTimeGate", (objv b s).set 23 (.int v)) = put b pre (ou s 3 v) A post := pad_set0 _ _ _ _
theorem put_s2 {b : Nat} {pre : AHeap} {s : Nat → Int32} {A : Nat → List Int32} {post : AHeap} {v : Int32} : (put b pre s A post).set b (.object "ResponseTimeGate", (objv b s).set 24 (.int v)) = put b pre (ou s 2 v) A post := pad_set0 _ _ _ _
theorem put_s9 {b : Nat} {pre : AHeap} {s : Nat → Int32} {A : Nat → List Int32} {post : AHeap} {v : Int32} : (put b pre s A post).set b (.object "ResponseTimeGate", (objv b s).set 25 (.int v)) = put b pre (ou s 9 v) A post := pad_set0 _ _ _ _
theorem put_s10 {b : Nat} {pre : AHeap} {s : Nat → Int32} {A : Nat → List Int32} {post : AHeap} {v : Int32} : (put b pre s A post).set b (.object "ResponseTimeGate", (objv b s).set 26 (.int v)) = put b pre (ou s 10 v) A post := pad_set0 _ _ _ _
theorem put_s5 {b : Nat} {pre : AHeap} {s : Nat → Int32} {A : Nat → List Int32} {post : AHeap} {v : Int32} : (put b pre s A post).set b (.object "ResponseTimeGate", (objv b s).set 27 (.int v)) = put b pre (ou s 5 v) A post := pad_set0 _ _ _ _
theorem put_s6 {b : Nat} {pre : AHeap} {s : Nat → Int32} {A : Nat → List Int32} {post : AHeap} {v : Int32} : (put b pre s A post).set b (.object "ResponseTimeGate", (objv b s).set 28 (.int v)) = put b pre (ou s 6 v) A post := pad_set0 _ _ _ _
theorem put_s7 {b : Nat} {pre : AHeap} {s : Nat → Int32} {A : Nat → List Int32} {post : AHeap} {v : Int32} : (put b pre s A post).set b (.object "ResponseTimeGate", (objv b s).set 29 (.int v)) = put b pre (ou s 7 v) A post := pad_set0 _ _ _ _
theorem put_s8 {b : Nat} {pre : AHeap} {s : Nat → Int32} {A : Nat → List Int32} {post : AHeap} {v : Int32} : (put b pre s A post).set b (.object "ResponseTimeGate", (objv b s).set 30 (.int v)) = put b pre (ou s 8 v) A post := pad_set0 _ _ _ _
theorem put_len {b : Nat} {pre : AHeap} {s : Nat → Int32} {A : Nat → List Int32} {post : AHeap} : (put b pre s A post).length = b + 21 + post.length := by rw [put, List.length_append, pad_len]; simp only [List.length_cons]; omega
theorem inst0 : rInst tables_1 "ResponseTimeGate" = some 31 := by decide +kernel
theorem put_tot {b : Nat} {pre : AHeap} {s : Nat → Int32} {A : Nat → List Int32} {post : AHeap} : tot tables_1 (put b pre s A post) = tot tables_1 (pad b pre) + (31 + ((A 0).length + ((A 1).length + ((A 2).length + ((A 3).length + ((A 4).length + ((A 5).length + ((A 6).length + ((A 7).length + ((A 8).length + ((A 9).length + ((A 10).length + ((A 11).length + ((A 12).length + ((A 13).length + ((A 14).length + ((A 15).length + ((A 16).length + ((A 17).length + ((A 18).length + ((A 19).length + tot tables_1 post))))))))))))))))))))) := by rw [put, tot_append]; simp only [tot_cons, cost, List.length_map, inst0, Option.getD_some]
def D0 : List Value := [.null, .null, .null, .null, .null, .null, .null, .null, .null, .null, .null, .null, .null, .null, .null, .null, .null, .null, .null, .null, .int 0, .int 0, .int 0, .int 0, .int 0, .int 0, .int 0, .int 0, .int 0, .int 0, .int 0]
theorem lay0 : (olay tables_1 "ResponseTimeGate").map dflt = D0 := by decide +kernel
abbrev y0 : MethodName := ⟨"ResponseTimeGate", "<init>", "(I)V"⟩
abbrev kb0 : ByteArray := prog_1_method_1_code
def M0 (pc : Nat) (ls : List Slot) (st : List Value) (H : AHeap) (Q : Option Value → AHeap → Prop) : Prop := W tables_1 dn 1 y0 prog_1_method_1_code none pc ls st H Q
abbrev y1 : MethodName := ⟨"ResponseTimeGate", "resetSim", "()V"⟩
abbrev kb1 : ByteArray := prog_1_method_23_code
def M1 (pc : Nat) (ls : List Slot) (st : List Value) (H : AHeap) (Q : Option Value → AHeap → Prop) : Prop := W tables_1 dn 1 y1 prog_1_method_23_code none pc ls st H Q
abbrev y2 : MethodName := ⟨"ResponseTimeGate", "run", "(I)I"⟩
abbrev kb2 : ByteArray := prog_1_method_24_code
def M2 (pc : Nat) (ls : List Slot) (st : List Value) (H : AHeap) (Q : Option Value → AHeap → Prop) : Prop := W tables_1 dn 1 y2 prog_1_method_24_code (some .int) pc ls st H Q
abbrev y3 : MethodName := ⟨"ResponseTimeGate", "tick", "()V"⟩
abbrev kb3 : ByteArray := prog_1_method_25_code
def M3 (pc : Nat) (ls : List Slot) (st : List Value) (H : AHeap) (Q : Option Value → AHeap → Prop) : Prop := W tables_1 dn 1 y3 prog_1_method_25_code none pc ls st H Q
abbrev y4 : MethodName := ⟨"ResponseTimeGate", "releaseJobs", "()V"⟩
abbrev kb4 : ByteArray := prog_1_method_26_code
def M4 (pc : Nat) (ls : List Slot) (st : List Value) (H : AHeap) (Q : Option Value → AHeap → Prop) : Prop := W tables_1 dn 1 y4 prog_1_method_26_code none pc ls st H Q
abbrev y5 : MethodName := ⟨"ResponseTimeGate", "pickRunning", "()I"⟩
abbrev kb5 : ByteArray := prog_1_method_28_code
def M5 (pc : Nat) (ls : List Slot) (st : List Value) (H : AHeap) (Q : Option Value → AHeap → Prop) : Prop := W tables_1 dn 1 y5 prog_1_method_28_code (some .int) pc ls st H Q
abbrev y6 : MethodName := ⟨"ResponseTimeGate", "checkMisses", "()V"⟩
abbrev kb6 : ByteArray := prog_1_method_32_code
def M6 (pc : Nat) (ls : List Slot) (st : List Value) (H : AHeap) (Q : Option Value → AHeap → Prop) : Prop := W tables_1 dn 1 y6 prog_1_method_32_code none pc ls st H Q
abbrev y7 : MethodName := ⟨"ResponseTimeGate", "taskCount", "()I"⟩
abbrev kb7 : ByteArray := prog_1_method_17_code
def M7 (pc : Nat) (ls : List Slot) (st : List Value) (H : AHeap) (Q : Option Value → AHeap → Prop) : Prop := W tables_1 dn 1 y7 prog_1_method_17_code (some .int) pc ls st H Q
abbrev y8 : MethodName := ⟨"ResponseTimeGate", "hyperperiod", "()I"⟩
abbrev kb8 : ByteArray := prog_1_method_21_code
def M8 (pc : Nat) (ls : List Slot) (st : List Value) (H : AHeap) (Q : Option Value → AHeap → Prop) : Prop := W tables_1 dn 1 y8 prog_1_method_21_code (some .int) pc ls st H Q
abbrev y9 : MethodName := ⟨"ResponseTimeGate", "failedTask", "()I"⟩
abbrev kb9 : ByteArray := prog_1_method_22_code
def M9 (pc : Nat) (ls : List Slot) (st : List Value) (H : AHeap) (Q : Option Value → AHeap → Prop) : Prop := W tables_1 dn 1 y9 prog_1_method_22_code (some .int) pc ls st H Q
abbrev y10 : MethodName := ⟨"ResponseTimeGate", "bound", "(I)I"⟩
abbrev kb10 : ByteArray := prog_1_method_18_code
def M10 (pc : Nat) (ls : List Slot) (st : List Value) (H : AHeap) (Q : Option Value → AHeap → Prop) : Prop := W tables_1 dn 1 y10 prog_1_method_18_code (some .int) pc ls st H Q
abbrev y11 : MethodName := ⟨"ResponseTimeGate", "admitted", "(I)Z"⟩
abbrev kb11 : ByteArray := prog_1_method_16_code
def M11 (pc : Nat) (ls : List Slot) (st : List Value) (H : AHeap) (Q : Option Value → AHeap → Prop) : Prop := W tables_1 dn 1 y11 prog_1_method_16_code (some .boolean) pc ls st H Q
abbrev y12 : MethodName := ⟨"ResponseTimeGate", "blocking", "(I)I"⟩
abbrev kb12 : ByteArray := prog_1_method_19_code
def M12 (pc : Nat) (ls : List Slot) (st : List Value) (H : AHeap) (Q : Option Value → AHeap → Prop) : Prop := W tables_1 dn 1 y12 prog_1_method_19_code (some .int) pc ls st H Q
abbrev y13 : MethodName := ⟨"ResponseTimeGate", "ceiling", "(I)I"⟩
abbrev kb13 : ByteArray := prog_1_method_20_code
def M13 (pc : Nat) (ls : List Slot) (st : List Value) (H : AHeap) (Q : Option Value → AHeap → Prop) : Prop := W tables_1 dn 1 y13 prog_1_method_20_code (some .int) pc ls st H Q
abbrev y14 : MethodName := ⟨"ResponseTimeGate", "beginTask", "(IIII)I"⟩
abbrev kb14 : ByteArray := prog_1_method_2_code
def M14 (pc : Nat) (ls : List Slot) (st : List Value) (H : AHeap) (Q : Option Value → AHeap → Prop) : Prop := W tables_1 dn 1 y14 prog_1_method_2_code (some .int) pc ls st H Q
abbrev y15 : MethodName := ⟨"ResponseTimeGate", "commitTask", "()I"⟩
abbrev kb15 : ByteArray := prog_1_method_6_code
def M15 (pc : Nat) (ls : List Slot) (st : List Value) (H : AHeap) (Q : Option Value → AHeap → Prop) : Prop := W tables_1 dn 1 y15 prog_1_method_6_code (some .int) pc ls st H Q
abbrev y16 : MethodName := ⟨"ResponseTimeGate", "addSection", "(III)I"⟩
abbrev kb16 : ByteArray := prog_1_method_4_code
def M16 (pc : Nat) (ls : List Slot) (st : List Value) (H : AHeap) (Q : Option Value → AHeap → Prop) : Prop := W tables_1 dn 1 y16 prog_1_method_4_code (some .int) pc ls st H Q
abbrev y17 : MethodName := ⟨"ResponseTimeGate", "priorityTaken", "(I)Z"⟩
abbrev kb17 : ByteArray := prog_1_method_3_code
def M17 (pc : Nat) (ls : List Slot) (st : List Value) (H : AHeap) (Q : Option Value → AHeap → Prop) : Prop := W tables_1 dn 1 y17 prog_1_method_3_code (some .boolean) pc ls st H Q
abbrev y18 : MethodName := ⟨"ResponseTimeGate", "lcmWith", "(II)I"⟩
abbrev kb18 : ByteArray := prog_1_method_10_code
def M18 (pc : Nat) (ls : List Slot) (st : List Value) (H : AHeap) (Q : Option Value → AHeap → Prop) : Prop := W tables_1 dn 1 y18 prog_1_method_10_code (some .int) pc ls st H Q
abbrev y19 : MethodName := ⟨"ResponseTimeGate", "gcd", "(II)I"⟩
abbrev kb19 : ByteArray := prog_1_method_9_code
def M19 (pc : Nat) (ls : List Slot) (st : List Value) (H : AHeap) (Q : Option Value → AHeap → Prop) : Prop := W tables_1 dn 1 y19 prog_1_method_9_code (some .int) pc ls st H Q
abbrev y20 : MethodName := ⟨"ResponseTimeGate", "placeStaged", "(I)V"⟩
abbrev kb20 : ByteArray := prog_1_method_7_code
def M20 (pc : Nat) (ls : List Slot) (st : List Value) (H : AHeap) (Q : Option Value → AHeap → Prop) : Prop := W tables_1 dn 1 y20 prog_1_method_7_code none pc ls st H Q
abbrev y21 : MethodName := ⟨"ResponseTimeGate", "analyze", "(I)I"⟩
abbrev kb21 : ByteArray := prog_1_method_11_code
def M21 (pc : Nat) (ls : List Slot) (st : List Value) (H : AHeap) (Q : Option Value → AHeap → Prop) : Prop := W tables_1 dn 1 y21 prog_1_method_11_code (some .int) pc ls st H Q
abbrev y22 : MethodName := ⟨"ResponseTimeGate", "computeCeilings", "(I)V"⟩
abbrev kb22 : ByteArray := prog_1_method_12_code
def M22 (pc : Nat) (ls : List Slot) (st : List Value) (H : AHeap) (Q : Option Value → AHeap → Prop) : Prop := W tables_1 dn 1 y22 prog_1_method_12_code none pc ls st H Q
abbrev y23 : MethodName := ⟨"ResponseTimeGate", "blockingOf", "(II)I"⟩
abbrev kb23 : ByteArray := prog_1_method_13_code
def M23 (pc : Nat) (ls : List Slot) (st : List Value) (H : AHeap) (Q : Option Value → AHeap → Prop) : Prop := W tables_1 dn 1 y23 prog_1_method_13_code (some .int) pc ls st H Q
abbrev y24 : MethodName := ⟨"ResponseTimeGate", "responseOf", "(III)I"⟩
abbrev kb24 : ByteArray := prog_1_method_14_code
def M24 (pc : Nat) (ls : List Slot) (st : List Value) (H : AHeap) (Q : Option Value → AHeap → Prop) : Prop := W tables_1 dn 1 y24 prog_1_method_14_code (some .int) pc ls st H Q
abbrev y25 : MethodName := ⟨"ResponseTimeGate", "interference", "(III)I"⟩
abbrev kb25 : ByteArray := prog_1_method_15_code
def M25 (pc : Nat) (ls : List Slot) (st : List Value) (H : AHeap) (Q : Option Value → AHeap → Prop) : Prop := W tables_1 dn 1 y25 prog_1_method_15_code (some .int) pc ls st H Q
abbrev y26 : MethodName := ⟨"ResponseTimeGate", "adoptResults", "(I)V"⟩
abbrev kb26 : ByteArray := prog_1_method_8_code
def M26 (pc : Nat) (ls : List Slot) (st : List Value) (H : AHeap) (Q : Option Value → AHeap → Prop) : Prop := W tables_1 dn 1 y26 prog_1_method_8_code none pc ls st H Q
abbrev y27 : MethodName := ⟨"ResponseTimeGate", "time", "()I"⟩
abbrev kb27 : ByteArray := prog_1_method_33_code
def M27 (pc : Nat) (ls : List Slot) (st : List Value) (H : AHeap) (Q : Option Value → AHeap → Prop) : Prop := W tables_1 dn 1 y27 prog_1_method_33_code (some .int) pc ls st H Q
abbrev y28 : MethodName := ⟨"ResponseTimeGate", "misses", "()I"⟩
abbrev kb28 : ByteArray := prog_1_method_36_code
def M28 (pc : Nat) (ls : List Slot) (st : List Value) (H : AHeap) (Q : Option Value → AHeap → Prop) : Prop := W tables_1 dn 1 y28 prog_1_method_36_code (some .int) pc ls st H Q
abbrev y29 : MethodName := ⟨"ResponseTimeGate", "jobsDone", "(I)I"⟩
abbrev kb29 : ByteArray := prog_1_method_35_code
def M29 (pc : Nat) (ls : List Slot) (st : List Value) (H : AHeap) (Q : Option Value → AHeap → Prop) : Prop := W tables_1 dn 1 y29 prog_1_method_35_code (some .int) pc ls st H Q
abbrev y30 : MethodName := ⟨"ResponseTimeGate", "maxResponse", "(I)I"⟩
abbrev kb30 : ByteArray := prog_1_method_34_code
def M30 (pc : Nat) (ls : List Slot) (st : List Value) (H : AHeap) (Q : Option Value → AHeap → Prop) : Prop := W tables_1 dn 1 y30 prog_1_method_34_code (some .int) pc ls st H Q
abbrev y31 : MethodName := ⟨"ResponseTimeGate", "progress", "(I)I"⟩
abbrev kb31 : ByteArray := prog_1_method_37_code
def M31 (pc : Nat) (ls : List Slot) (st : List Value) (H : AHeap) (Q : Option Value → AHeap → Prop) : Prop := W tables_1 dn 1 y31 prog_1_method_37_code (some .int) pc ls st H Q
abbrev y32 : MethodName := ⟨"ResponseTimeGate", "holder", "(I)I"⟩
abbrev kb32 : ByteArray := prog_1_method_38_code
def M32 (pc : Nat) (ls : List Slot) (st : List Value) (H : AHeap) (Q : Option Value → AHeap → Prop) : Prop := W tables_1 dn 1 y32 prog_1_method_38_code (some .int) pc ls st H Q
abbrev y33 : MethodName := ⟨"ResponseTimeGate", "activePriority", "(I)I"⟩
abbrev kb33 : ByteArray := prog_1_method_27_code
def M33 (pc : Nat) (ls : List Slot) (st : List Value) (H : AHeap) (Q : Option Value → AHeap → Prop) : Prop := W tables_1 dn 1 y33 prog_1_method_27_code (some .int) pc ls st H Q
abbrev y34 : MethodName := ⟨"ResponseTimeGate", "executeUnit", "(I)V"⟩
abbrev kb34 : ByteArray := prog_1_method_30_code
def M34 (pc : Nat) (ls : List Slot) (st : List Value) (H : AHeap) (Q : Option Value → AHeap → Prop) : Prop := W tables_1 dn 1 y34 prog_1_method_30_code none pc ls st H Q
abbrev y35 : MethodName := ⟨"ResponseTimeGate", "takeResourceIfStart", "(I)V"⟩
abbrev kb35 : ByteArray := prog_1_method_29_code
def M35 (pc : Nat) (ls : List Slot) (st : List Value) (H : AHeap) (Q : Option Value → AHeap → Prop) : Prop := W tables_1 dn 1 y35 prog_1_method_29_code none pc ls st H Q
abbrev y36 : MethodName := ⟨"ResponseTimeGate", "completeJob", "(I)V"⟩
abbrev kb36 : ByteArray := prog_1_method_31_code
def M36 (pc : Nat) (ls : List Slot) (st : List Value) (H : AHeap) (Q : Option Value → AHeap → Prop) : Prop := W tables_1 dn 1 y36 prog_1_method_31_code none pc ls st H Q
abbrev y37 : MethodName := ⟨"ResponseTimeGate", "overlapsStaged", "(II)Z"⟩
abbrev kb37 : ByteArray := prog_1_method_5_code
def M37 (pc : Nat) (ls : List Slot) (st : List Value) (H : AHeap) (Q : Option Value → AHeap → Prop) : Prop := W tables_1 dn 1 y37 prog_1_method_5_code (some .boolean) pc ls st H Q
abbrev y38 : MethodName := ⟨"ResponseTimeGateL5", "sameAnalysis", "(LResponseTimeGate;LResponseTimeGate;)Z"⟩
abbrev kb38 : ByteArray := method_3_code
def M38 (pc : Nat) (ls : List Slot) (st : List Value) (H : AHeap) (Q : Option Value → AHeap → Prop) : Prop := W tables_1 dn 1 y38 method_3_code (some .boolean) pc ls st H Q
abbrev y39 : MethodName := ⟨"ResponseTimeGateL5", "sameSim", "(LResponseTimeGate;LResponseTimeGate;)Z"⟩
abbrev kb39 : ByteArray := method_4_code
def M39 (pc : Nat) (ls : List Slot) (st : List Value) (H : AHeap) (Q : Option Value → AHeap → Prop) : Prop := W tables_1 dn 1 y39 method_4_code (some .boolean) pc ls st H Q
abbrev y40 : MethodName := ⟨"ResponseTimeGateL5", "law", "([I)Z"⟩
abbrev kb40 : ByteArray := code
def M40 (pc : Nat) (ls : List Slot) (st : List Value) (H : AHeap) (Q : Option Value → AHeap → Prop) : Prop := W tables_1 dn 1 y40 code (some .boolean) pc ls st H Q
theorem dn_0 : dnOf dn y0 = some (1, 13) := by decide +kernel
theorem rc_0 : rCode tables_1 y0 = some (prog_1_method_1_code, 4, none) := rCode_of (i := 5) rfl (by decide +kernel)
theorem dn_1 : dnOf dn y1 = some (0, 0) := by decide +kernel
theorem rc_1 : rCode tables_1 y1 = some (prog_1_method_23_code, 2, none) := rCode_of (i := 64) rfl (by decide +kernel)
theorem dn_2 : dnOf dn y2 = some (3, 45) := by decide +kernel
theorem rc_2 : rCode tables_1 y2 = some (prog_1_method_24_code, 4, some .int) := rCode_of (i := 73) rfl (by decide +kernel)
theorem dn_3 : dnOf dn y3 = some (2, 32) := by decide +kernel
theorem rc_3 : rCode tables_1 y3 = some (prog_1_method_25_code, 2, none) := rCode_of (i := 77) rfl (by decide +kernel)
theorem dn_4 : dnOf dn y4 = some (0, 0) := by decide +kernel
theorem rc_4 : rCode tables_1 y4 = some (prog_1_method_26_code, 3, none) := rCode_of (i := 81) rfl (by decide +kernel)
theorem dn_5 : dnOf dn y5 = some (1, 14) := by decide +kernel
theorem rc_5 : rCode tables_1 y5 = some (prog_1_method_28_code, 7, some .int) := rCode_of (i := 85) rfl (by decide +kernel)
theorem dn_6 : dnOf dn y6 = some (0, 0) := by decide +kernel
theorem rc_6 : rCode tables_1 y6 = some (prog_1_method_32_code, 2, none) := rCode_of (i := 89) rfl (by decide +kernel)
theorem dn_7 : dnOf dn y7 = some (0, 0) := by decide +kernel
theorem rc_7 : rCode tables_1 y7 = some (prog_1_method_17_code, 1, some .int) := rCode_of (i := 98) rfl (by decide +kernel)
theorem dn_8 : dnOf dn y8 = some (0, 0) := by decide +kernel
theorem rc_8 : rCode tables_1 y8 = some (prog_1_method_21_code, 1, some .int) := rCode_of (i := 103) rfl (by decide +kernel)
theorem dn_9 : dnOf dn y9 = some (0, 0) := by decide +kernel
theorem rc_9 : rCode tables_1 y9 = some (prog_1_method_22_code, 1, some .int) := rCode_of (i := 108) rfl (by decide +kernel)
theorem dn_10 : dnOf dn y10 = some (1, 13) := by decide +kernel
theorem rc_10 : rCode tables_1 y10 = some (prog_1_method_18_code, 2, some .int) := rCode_of (i := 113) rfl (by decide +kernel)
theorem dn_11 : dnOf dn y11 = some (0, 0) := by decide +kernel
theorem rc_11 : rCode tables_1 y11 = some (prog_1_method_16_code, 2, some .boolean) := rCode_of (i := 117) rfl (by decide +kernel)
theorem dn_12 : dnOf dn y12 = some (1, 13) := by decide +kernel
theorem rc_12 : rCode tables_1 y12 = some (prog_1_method_19_code, 2, some .int) := rCode_of (i := 122) rfl (by decide +kernel)
theorem dn_13 : dnOf dn y13 = some (0, 0) := by decide +kernel
theorem rc_13 : rCode tables_1 y13 = some (prog_1_method_20_code, 2, some .int) := rCode_of (i := 127) rfl (by decide +kernel)
theorem dn_14 : dnOf dn y14 = some (1, 14) := by decide +kernel
theorem rc_14 : rCode tables_1 y14 = some (prog_1_method_2_code, 6, some .int) := rCode_of (i := 132) rfl (by decide +kernel)
theorem dn_15 : dnOf dn y15 = some (3, 55) := by decide +kernel
theorem rc_15 : rCode tables_1 y15 = some (prog_1_method_6_code, 4, some .int) := rCode_of (i := 137) rfl (by decide +kernel)
theorem dn_16 : dnOf dn y16 = some (1, 17) := by decide +kernel
theorem rc_16 : rCode tables_1 y16 = some (prog_1_method_4_code, 4, some .int) := rCode_of (i := 142) rfl (by decide +kernel)
theorem dn_17 : dnOf dn y17 = some (0, 0) := by decide +kernel
theorem rc_17 : rCode tables_1 y17 = some (prog_1_method_3_code, 3, some .boolean) := rCode_of (i := 146) rfl (by decide +kernel)
theorem dn_18 : dnOf dn y18 = some (1, 18) := by decide +kernel
theorem rc_18 : rCode tables_1 y18 = some (prog_1_method_10_code, 4, some .int) := rCode_of (i := 158) rfl (by decide +kernel)
theorem dn_19 : dnOf dn y19 = some (0, 0) := by decide +kernel
theorem rc_19 : rCode tables_1 y19 = some (prog_1_method_9_code, 7, some .int) := rCode_of (i := 162) rfl (by decide +kernel)
theorem dn_20 : dnOf dn y20 = some (0, 0) := by decide +kernel
theorem rc_20 : rCode tables_1 y20 = some (prog_1_method_7_code, 3, none) := rCode_of (i := 166) rfl (by decide +kernel)
theorem dn_21 : dnOf dn y21 = some (2, 39) := by decide +kernel
theorem rc_21 : rCode tables_1 y21 = some (prog_1_method_11_code, 5, some .int) := rCode_of (i := 170) rfl (by decide +kernel)
theorem dn_22 : dnOf dn y22 = some (0, 0) := by decide +kernel
theorem rc_22 : rCode tables_1 y22 = some (prog_1_method_12_code, 5, none) := rCode_of (i := 174) rfl (by decide +kernel)
theorem dn_23 : dnOf dn y23 = some (0, 0) := by decide +kernel
theorem rc_23 : rCode tables_1 y23 = some (prog_1_method_13_code, 8, some .int) := rCode_of (i := 178) rfl (by decide +kernel)
theorem dn_24 : dnOf dn y24 = some (1, 20) := by decide +kernel
theorem rc_24 : rCode tables_1 y24 = some (prog_1_method_14_code, 8, some .int) := rCode_of (i := 182) rfl (by decide +kernel)
theorem dn_25 : dnOf dn y25 = some (0, 0) := by decide +kernel
theorem rc_25 : rCode tables_1 y25 = some (prog_1_method_15_code, 8, some .int) := rCode_of (i := 186) rfl (by decide +kernel)
theorem dn_26 : dnOf dn y26 = some (0, 0) := by decide +kernel
theorem rc_26 : rCode tables_1 y26 = some (prog_1_method_8_code, 3, none) := rCode_of (i := 190) rfl (by decide +kernel)
theorem dn_27 : dnOf dn y27 = some (0, 0) := by decide +kernel
theorem rc_27 : rCode tables_1 y27 = some (prog_1_method_33_code, 1, some .int) := rCode_of (i := 198) rfl (by decide +kernel)
theorem dn_28 : dnOf dn y28 = some (0, 0) := by decide +kernel
theorem rc_28 : rCode tables_1 y28 = some (prog_1_method_36_code, 1, some .int) := rCode_of (i := 203) rfl (by decide +kernel)
theorem dn_29 : dnOf dn y29 = some (1, 13) := by decide +kernel
theorem rc_29 : rCode tables_1 y29 = some (prog_1_method_35_code, 2, some .int) := rCode_of (i := 208) rfl (by decide +kernel)
theorem dn_30 : dnOf dn y30 = some (1, 13) := by decide +kernel
theorem rc_30 : rCode tables_1 y30 = some (prog_1_method_34_code, 2, some .int) := rCode_of (i := 213) rfl (by decide +kernel)
theorem dn_31 : dnOf dn y31 = some (1, 13) := by decide +kernel
theorem rc_31 : rCode tables_1 y31 = some (prog_1_method_37_code, 2, some .int) := rCode_of (i := 218) rfl (by decide +kernel)
theorem dn_32 : dnOf dn y32 = some (0, 0) := by decide +kernel
theorem rc_32 : rCode tables_1 y32 = some (prog_1_method_38_code, 3, some .int) := rCode_of (i := 223) rfl (by decide +kernel)
theorem dn_33 : dnOf dn y33 = some (0, 0) := by decide +kernel
theorem rc_33 : rCode tables_1 y33 = some (prog_1_method_27_code, 3, some .int) := rCode_of (i := 227) rfl (by decide +kernel)
theorem dn_34 : dnOf dn y34 = some (1, 14) := by decide +kernel
theorem rc_34 : rCode tables_1 y34 = some (prog_1_method_30_code, 3, none) := rCode_of (i := 231) rfl (by decide +kernel)
theorem dn_35 : dnOf dn y35 = some (0, 0) := by decide +kernel
theorem rc_35 : rCode tables_1 y35 = some (prog_1_method_29_code, 3, none) := rCode_of (i := 235) rfl (by decide +kernel)
theorem dn_36 : dnOf dn y36 = some (0, 0) := by decide +kernel
theorem rc_36 : rCode tables_1 y36 = some (prog_1_method_31_code, 3, none) := rCode_of (i := 239) rfl (by decide +kernel)
theorem dn_37 : dnOf dn y37 = some (0, 0) := by decide +kernel
theorem rc_37 : rCode tables_1 y37 = some (prog_1_method_5_code, 6, some .boolean) := rCode_of (i := 243) rfl (by decide +kernel)
theorem dn_38 : dnOf dn y38 = some (2, 27) := by decide +kernel
theorem rc_38 : rCode tables_1 y38 = some (method_3_code, 3, some .boolean) := rCode_of (i := 93) rfl (by decide +kernel)
theorem dn_39 : dnOf dn y39 = some (2, 27) := by decide +kernel
theorem rc_39 : rCode tables_1 y39 = some (method_4_code, 3, some .boolean) := rCode_of (i := 193) rfl (by decide +kernel)
theorem dn_40 : dnOf dn y40 = some (4, 70) := by decide +kernel
theorem gf_7 : gfR tables_1 "ResponseTimeGate" 7 = some ("ResponseTimeGate", 0) := by decide +kernel
theorem gf_13 : gfR tables_1 "ResponseTimeGate" 13 = some ("ResponseTimeGate", 1) := by decide +kernel
theorem gf_16 : gfR tables_1 "ResponseTimeGate" 16 = some ("ResponseTimeGate", 2) := by decide +kernel
theorem gf_19 : gfR tables_1 "ResponseTimeGate" 19 = some ("ResponseTimeGate", 3) := by decide +kernel
theorem gf_22 : gfR tables_1 "ResponseTimeGate" 22 = some ("ResponseTimeGate", 4) := by decide +kernel
theorem gf_25 : gfR tables_1 "ResponseTimeGate" 25 = some ("ResponseTimeGate", 5) := by decide +kernel
theorem gf_28 : gfR tables_1 "ResponseTimeGate" 28 = some ("ResponseTimeGate", 6) := by decide +kernel
theorem gf_31 : gfR tables_1 "ResponseTimeGate" 31 = some ("ResponseTimeGate", 7) := by decide +kernel
theorem gf_34 : gfR tables_1 "ResponseTimeGate" 34 = some ("ResponseTimeGate", 8) := by decide +kernel
theorem gf_37 : gfR tables_1 "ResponseTimeGate" 37 = some ("ResponseTimeGate", 9) := by decide +kernel
theorem gf_40 : gfR tables_1 "ResponseTimeGate" 40 = some ("ResponseTimeGate", 10) := by decide +kernel
theorem gf_43 : gfR tables_1 "ResponseTimeGate" 43 = some ("ResponseTimeGate", 11) := by decide +kernel
theorem gf_46 : gfR tables_1 "ResponseTimeGate" 46 = some ("ResponseTimeGate", 12) := by decide +kernel
theorem gf_49 : gfR tables_1 "ResponseTimeGate" 49 = some ("ResponseTimeGate", 13) := by decide +kernel
theorem gf_52 : gfR tables_1 "ResponseTimeGate" 52 = some ("ResponseTimeGate", 14) := by decide +kernel
theorem gf_56 : gfR tables_1 "ResponseTimeGate" 56 = some ("ResponseTimeGate", 15) := by decide +kernel
theorem gf_59 : gfR tables_1 "ResponseTimeGate" 59 = some ("ResponseTimeGate", 16) := by decide +kernel
theorem gf_62 : gfR tables_1 "ResponseTimeGate" 62 = some ("ResponseTimeGate", 17) := by decide +kernel
theorem gf_65 : gfR tables_1 "ResponseTimeGate" 65 = some ("ResponseTimeGate", 18) := by decide +kernel
theorem gf_68 : gfR tables_1 "ResponseTimeGate" 68 = some ("ResponseTimeGate", 19) := by decide +kernel
theorem gf_71 : gfR tables_1 "ResponseTimeGate" 71 = some ("ResponseTimeGate", 20) := by decide +kernel
theorem gf_75 : gfR tables_1 "ResponseTimeGate" 75 = some ("ResponseTimeGate", 21) := by decide +kernel
theorem gf_78 : gfR tables_1 "ResponseTimeGate" 78 = some ("ResponseTimeGate", 22) := by decide +kernel
theorem gf_82 : gfR tables_1 "ResponseTimeGate" 82 = some ("ResponseTimeGate", 23) := by decide +kernel
theorem gf_85 : gfR tables_1 "ResponseTimeGate" 85 = some ("ResponseTimeGate", 24) := by decide +kernel
theorem gf_95 : gfR tables_1 "ResponseTimeGate" 95 = some ("ResponseTimeGate", 27) := by decide +kernel
theorem gf_98 : gfR tables_1 "ResponseTimeGate" 98 = some ("ResponseTimeGate", 28) := by decide +kernel
theorem gf_101 : gfR tables_1 "ResponseTimeGate" 101 = some ("ResponseTimeGate", 29) := by decide +kernel
theorem gf_104 : gfR tables_1 "ResponseTimeGate" 104 = some ("ResponseTimeGate", 30) := by decide +kernel
theorem gf_145 : gfR tables_1 "ResponseTimeGate" 145 = some ("ResponseTimeGate", 25) := by decide +kernel
theorem gf_148 : gfR tables_1 "ResponseTimeGate" 148 = some ("ResponseTimeGate", 26) := by decide +kernel
section Rules
variable {b r q : Nat} {pre : AHeap} {s : Nat → Int32} {A : Nat → List Int32} {post : AHeap} {ls : List Slot} {st : List Value} {H R : AHeap} {Q : Option Value → AHeap → Prop} {x y v z j : Int32} {J1 J2 : Int64} {sc : List Int32} {l0 l1 l2 l3 l4 l5 l6 l7 : Slot}
theorem m0_0 : M0 0 [.val (.ref r), l1, l2, l3] st H Q = M0 1 [.val (.ref r), l1, l2, l3] (.ref r :: st) H Q := w_x (show decode kb0 0 = .ok (.aload_n 0, 1) from by decide +kernel) rfl
theorem m0_1 : M0 1 ls [.ref r] H Q = M0 4 ls [] H Q := w_obj (show decode kb0 1 = .ok (.invokespecial 1, 3) from by decide +kernel) (sl := 1) (by decide +kernel) (by decide)
theorem m0_4 : M0 4 [.val (.ref r), l1, l2, l3] st H Q = M0 5 [.val (.ref r), l1, l2, l3] (.ref r :: st) H Q := w_x (show decode kb0 4 = .ok (.aload_n 0, 1) from by decide +kernel) rfl
theorem m0_5 : M0 5 ls st H Q = M0 7 ls (.int 9 :: st) H Q := w_con (show decode kb0 5 = .ok (.bipush 9, 2) from by decide +kernel) rfl (by decide)
theorem m0_12 : M0 12 [.val (.ref r), l1, l2, l3] st H Q = M0 13 [.val (.ref r), l1, l2, l3] (.ref r :: st) H Q := w_x (show decode kb0 12 = .ok (.aload_n 0, 1) from by decide +kernel) rfl
theorem m0_13 : M0 13 ls st H Q = M0 15 ls (.int 9 :: st) H Q := w_con (show decode kb0 13 = .ok (.bipush 9, 2) from by decide +kernel) rfl (by decide)
theorem m0_20 : M0 20 [.val (.ref r), l1, l2, l3] st H Q = M0 21 [.val (.ref r), l1, l2, l3] (.ref r :: st) H Q := w_x (show decode kb0 20 = .ok (.aload_n 0, 1) from by decide +kernel) rfl
theorem m0_21 : M0 21 ls st H Q = M0 23 ls (.int 9 :: st) H Q := w_con (show decode kb0 21 = .ok (.bipush 9, 2) from by decide +kernel) rfl (by decide)
theorem m0_28 : M0 28 [.val (.ref r), l1, l2, l3] st H Q = M0 29 [.val (.ref r), l1, l2, l3] (.ref r :: st) H Q := w_x (show decode kb0 28 = .ok (.aload_n 0, 1) from by decide +kernel) rfl
theorem m0_29 : M0 29 ls st H Q = M0 31 ls (.int 9 :: st) H Q := w_con (show decode kb0 29 = .ok (.bipush 9, 2) from by decide +kernel) rfl (by decide)
theorem m0_36 : M0 36 [.val (.ref r), l1, l2, l3] st H Q = M0 37 [.val (.ref r), l1, l2, l3] (.ref r :: st) H Q := w_x (show decode kb0 36 = .ok (.aload_n 0, 1) from by decide +kernel) rfl
theorem m0_37 : M0 37 ls st H Q = M0 39 ls (.int 36 :: st) H Q := w_con (show decode kb0 37 = .ok (.bipush 36, 2) from by decide +kernel) rfl (by decide)
theorem m0_44 : M0 44 [.val (.ref r), l1, l2, l3] st H Q = M0 45 [.val (.ref r), l1, l2, l3] (.ref r :: st) H Q := w_x (show decode kb0 44 = .ok (.aload_n 0, 1) from by decide +kernel) rfl
theorem m0_45 : M0 45 ls st H Q = M0 47 ls (.int 36 :: st) H Q := w_con (show decode kb0 45 = .ok (.bipush 36, 2) from by decide +kernel) rfl (by decide)
theorem m0_52 : M0 52 [.val (.ref r), l1, l2, l3] st H Q = M0 53 [.val (.ref r), l1, l2, l3] (.ref r :: st) H Q := w_x (show decode kb0 52 = .ok (.aload_n 0, 1) from by decide +kernel) rfl
theorem m0_53 : M0 53 ls st H Q = M0 55 ls (.int 9 :: st) H Q := w_con (show decode kb0 53 = .ok (.bipush 9, 2) from by decide +kernel) rfl (by decide)
theorem m0_60 : M0 60 [.val (.ref r), l1, l2, l3] st H Q = M0 61 [.val (.ref r), l1, l2, l3] (.ref r :: st) H Q := w_x (show decode kb0 60 = .ok (.aload_n 0, 1) from by decide +kernel) rfl
theorem m0_61 : M0 61 ls st H Q = M0 63 ls (.int 9 :: st) H Q := w_con (show decode kb0 61 = .ok (.bipush 9, 2) from by decide +kernel) rfl (by decide)
theorem m0_68 : M0 68 [.val (.ref r), l1, l2, l3] st H Q = M0 69 [.val (.ref r), l1, l2, l3] (.ref r :: st) H Q := w_x (show decode kb0 68 = .ok (.aload_n 0, 1) from by decide +kernel) rfl
theorem m0_69 : M0 69 ls st H Q = M0 70 ls (.int 4 :: st) H Q := w_con (show decode kb0 69 = .ok (.iconst 4, 1) from by decide +kernel) rfl (by decide)
theorem m0_75 : M0 75 [.val (.ref r), l1, l2, l3] st H Q = M0 76 [.val (.ref r), l1, l2, l3] (.ref r :: st) H Q := w_x (show decode kb0 75 = .ok (.aload_n 0, 1) from by decide +kernel) rfl
theorem m0_76 : M0 76 ls st H Q = M0 77 ls (.int 4 :: st) H Q := w_con (show decode kb0 76 = .ok (.iconst 4, 1) from by decide +kernel) rfl (by decide)
theorem m0_82 : M0 82 [.val (.ref r), l1, l2, l3] st H Q = M0 83 [.val (.ref r), l1, l2, l3] (.ref r :: st) H Q := w_x (show decode kb0 82 = .ok (.aload_n 0, 1) from by decide +kernel) rfl
theorem m0_83 : M0 83 ls st H Q = M0 84 ls (.int 4 :: st) H Q := w_con (show decode kb0 83 = .ok (.iconst 4, 1) from by decide +kernel) rfl (by decide)
theorem m0_89 : M0 89 [.val (.ref r), l1, l2, l3] st H Q = M0 90 [.val (.ref r), l1, l2, l3] (.ref r :: st) H Q := w_x (show decode kb0 89 = .ok (.aload_n 0, 1) from by decide +kernel) rfl
theorem m0_90 : M0 90 ls st H Q = M0 91 ls (.int 4 :: st) H Q := w_con (show decode kb0 90 = .ok (.iconst 4, 1) from by decide +kernel) rfl (by decide)
theorem m0_96 : M0 96 [.val (.ref r), l1, l2, l3] st H Q = M0 97 [.val (.ref r), l1, l2, l3] (.ref r :: st) H Q := w_x (show decode kb0 96 = .ok (.aload_n 0, 1) from by decide +kernel) rfl
theorem m0_97 : M0 97 ls st H Q = M0 99 ls (.int 9 :: st) H Q := w_con (show decode kb0 97 = .ok (.bipush 9, 2) from by decide +kernel) rfl (by decide)
theorem m0_104 : M0 104 [.val (.ref r), l1, l2, l3] st H Q = M0 105 [.val (.ref r), l1, l2, l3] (.ref r :: st) H Q := w_x (show decode kb0 104 = .ok (.aload_n 0, 1) from by decide +kernel) rfl
theorem m0_105 : M0 105 ls st H Q = M0 107 ls (.int 9 :: st) H Q := w_con (show decode kb0 105 = .ok (.bipush 9, 2) from by decide +kernel) rfl (by decide)
theorem m0_112 : M0 112 [.val (.ref r), l1, l2, l3] st H Q = M0 113 [.val (.ref r), l1, l2, l3] (.ref r :: st) H Q := w_x (show decode kb0 112 = .ok (.aload_n 0, 1) from by decide +kernel) rfl
theorem m0_113 : M0 113 ls st H Q = M0 115 ls (.int 9 :: st) H Q := w_con (show decode kb0 113 = .ok (.bipush 9, 2) from by decide +kernel) rfl (by decide)
theorem m0_120 : M0 120 [.val (.ref r), l1, l2, l3] st H Q = M0 121 [.val (.ref r), l1, l2, l3] (.ref r :: st) H Q := w_x (show decode kb0 120 = .ok (.aload_n 0, 1) from by decide +kernel) rfl
theorem m0_121 : M0 121 ls st H Q = M0 123 ls (.int 9 :: st) H Q := w_con (show decode kb0 121 = .ok (.bipush 9, 2) from by decide +kernel) rfl (by decide)
theorem m0_128 : M0 128 [.val (.ref r), l1, l2, l3] st H Q = M0 129 [.val (.ref r), l1, l2, l3] (.ref r :: st) H Q := w_x (show decode kb0 128 = .ok (.aload_n 0, 1) from by decide +kernel) rfl
theorem m0_129 : M0 129 ls st H Q = M0 131 ls (.int 9 :: st) H Q := w_con (show decode kb0 129 = .ok (.bipush 9, 2) from by decide +kernel) rfl (by decide)
theorem m0_136 : M0 136 [.val (.ref r), l1, l2, l3] st H Q = M0 137 [.val (.ref r), l1, l2, l3] (.ref r :: st) H Q := w_x (show decode kb0 136 = .ok (.aload_n 0, 1) from by decide +kernel) rfl
theorem m0_137 : M0 137 ls st H Q = M0 139 ls (.int 9 :: st) H Q := w_con (show decode kb0 137 = .ok (.bipush 9, 2) from by decide +kernel) rfl (by decide)
theorem m0_144 : M0 144 [.val (.ref r), l1, l2, l3] st H Q = M0 145 [.val (.ref r), l1, l2, l3] (.ref r :: st) H Q := w_x (show decode kb0 144 = .ok (.aload_n 0, 1) from by decide +kernel) rfl
theorem m0_145 : M0 145 ls st H Q = M0 147 ls (.int 9 :: st) H Q := w_con (show decode kb0 145 = .ok (.bipush 9, 2) from by decide +kernel) rfl (by decide)
theorem m0_152 : M0 152 [.val (.ref r), l1, l2, l3] st H Q = M0 153 [.val (.ref r), l1, l2, l3] (.ref r :: st) H Q := w_x (show decode kb0 152 = .ok (.aload_n 0, 1) from by decide +kernel) rfl
theorem m0_153 : M0 153 ls st H Q = M0 155 ls (.int 9 :: st) H Q := w_con (show decode kb0 153 = .ok (.bipush 9, 2) from by decide +kernel) rfl (by decide)
theorem m0_160 : M0 160 [l0, .val (.int v), l2, l3] st H Q = M0 161 [l0, .val (.int v), l2, l3] (.int v :: st) H Q := w_x (show decode kb0 160 = .ok (.iload_n 1, 1) from by decide +kernel) rfl
theorem m0_161u : M0 161 [l0, l1, .unset, l3] ((.int v) :: st) H Q = M0 162 [l0, l1, .val (.int v), l3] st H Q := w_st (i := 2) (p := isI) (show decode kb0 161 = .ok (.istore_n 2, 1) from by decide +kernel) rfl rfl rfl rfl rfl rfl
theorem m0_162 : M0 162 [l0, l1, .val (.int v), l3] st H Q = M0 163 [l0, l1, .val (.int v), l3] (.int v :: st) H Q := w_x (show decode kb0 162 = .ok (.iload_n 2, 1) from by decide +kernel) rfl
theorem m0_163 : M0 163 ls st H Q = M0 164 ls (.int 1 :: st) H Q := w_con (show decode kb0 163 = .ok (.iconst 1, 1) from by decide +kernel) rfl (by decide)
theorem m0_164 : M0 164 ls (.int y :: .int x :: st) H Q = if x < y then M0 167 ls st H Q else M0 169 ls st H Q := w_icmpN (show decode kb0 164 = .ok (.if_icmp .ge 5, 3) from by decide +kernel) (i_ge x y) rfl
theorem m0_167 : M0 167 ls st H Q = M0 168 ls (.int 1 :: st) H Q := w_con (show decode kb0 167 = .ok (.iconst 1, 1) from by decide +kernel) rfl (by decide)
theorem m0_168i : M0 168 [l0, l1, .val (.int z), l3] ((.int v) :: st) H Q = M0 169 [l0, l1, .val (.int v), l3] st H Q := w_st (i := 2) (p := isI) (show decode kb0 168 = .ok (.istore_n 2, 1) from by decide +kernel) rfl rfl rfl rfl rfl rfl
theorem m0_169 : M0 169 [l0, l1, .val (.int v), l3] st H Q = M0 170 [l0, l1, .val (.int v), l3] (.int v :: st) H Q := w_x (show decode kb0 169 = .ok (.iload_n 2, 1) from by decide +kernel) rfl
theorem m0_170 : M0 170 ls st H Q = M0 172 ls (.int 8 :: st) H Q := w_con (show decode kb0 170 = .ok (.bipush 8, 2) from by decide +kernel) rfl (by decide)
theorem m0_172 : M0 172 ls (.int y :: .int x :: st) H Q = if y < x then M0 175 ls st H Q else M0 178 ls st H Q := w_icmpN (show decode kb0 172 = .ok (.if_icmp .le 6, 3) from by decide +kernel) (i_le x y) rfl
theorem m0_175 : M0 175 ls st H Q = M0 177 ls (.int 8 :: st) H Q := w_con (show decode kb0 175 = .ok (.bipush 8, 2) from by decide +kernel) rfl (by decide)
theorem m0_177i : M0 177 [l0, l1, .val (.int z), l3] ((.int v) :: st) H Q = M0 178 [l0, l1, .val (.int v), l3] st H Q := w_st (i := 2) (p := isI) (show decode kb0 177 = .ok (.istore_n 2, 1) from by decide +kernel) rfl rfl rfl rfl rfl rfl
theorem m0_178 : M0 178 [.val (.ref r), l1, l2, l3] st H Q = M0 179 [.val (.ref r), l1, l2, l3] (.ref r :: st) H Q := w_x (show decode kb0 178 = .ok (.aload_n 0, 1) from by decide +kernel) rfl
theorem m0_179 : M0 179 [l0, l1, .val (.int v), l3] st H Q = M0 180 [l0, l1, .val (.int v), l3] (.int v :: st) H Q := w_x (show decode kb0 179 = .ok (.iload_n 2, 1) from by decide +kernel) rfl
theorem pf0_71 : pfR tables_1 y0.cls y0.name 71 = some ("ResponseTimeGate", 20, .int) := by decide +kernel
theorem m0_180 : M0 180 ls (.int v :: .ref (b + 1) :: st) (put (b + 1) pre s A post) Q = M0 183 ls st (put (b + 1) pre (ou s 0 v) A post) Q := w_put (show decode kb0 180 = .ok (.putfield 71, 3) from by decide +kernel) pf0_71 put_o (Nat.succ_le_succ (Nat.zero_le _)) (by show 20 < 31; omega) rfl put_s0
theorem m0_183 : M0 183 [.val (.ref r), l1, l2, l3] st H Q = M0 184 [.val (.ref r), l1, l2, l3] (.ref r :: st) H Q := w_x (show decode kb0 183 = .ok (.aload_n 0, 1) from by decide +kernel) rfl
theorem m0_184 : M0 184 ls st H Q = M0 185 ls (.int 0 :: st) H Q := w_con (show decode kb0 184 = .ok (.iconst 0, 1) from by decide +kernel) rfl (by decide)
theorem pf0_75 : pfR tables_1 y0.cls y0.name 75 = some ("ResponseTimeGate", 21, .int) := by decide +kernel
theorem m0_185 : M0 185 ls (.int v :: .ref (b + 1) :: st) (put (b + 1) pre s A post) Q = M0 188 ls st (put (b + 1) pre (ou s 1 v) A post) Q := w_put (show decode kb0 185 = .ok (.putfield 75, 3) from by decide +kernel) pf0_75 put_o (Nat.succ_le_succ (Nat.zero_le _)) (by show 21 < 31; omega) rfl put_s1
theorem m0_188 : M0 188 [.val (.ref r), l1, l2, l3] st H Q = M0 189 [.val (.ref r), l1, l2, l3] (.ref r :: st) H Q := w_x (show decode kb0 188 = .ok (.aload_n 0, 1) from by decide +kernel) rfl
theorem m0_189 : M0 189 ls st H Q = M0 190 ls (.int 0 :: st) H Q := w_con (show decode kb0 189 = .ok (.iconst 0, 1) from by decide +kernel) rfl (by decide)
theorem pf0_78 : pfR tables_1 y0.cls y0.name 78 = some ("ResponseTimeGate", 22, .boolean) := by decide +kernel
theorem m0_190 : M0 190 ls (.int v :: .ref (b + 1) :: st) (put (b + 1) pre s A post) Q = M0 193 ls st (put (b + 1) pre (ou s 4 (nar .boolean v)) A post) Q := w_put (show decode kb0 190 = .ok (.putfield 78, 3) from by decide +kernel) pf0_78 put_o (Nat.succ_le_succ (Nat.zero_le _)) (by show 22 < 31; omega) rfl put_s4
theorem m0_193 : M0 193 [.val (.ref r), l1, l2, l3] st H Q = M0 194 [.val (.ref r), l1, l2, l3] (.ref r :: st) H Q := w_x (show decode kb0 193 = .ok (.aload_n 0, 1) from by decide +kernel) rfl
theorem m0_194 : M0 194 ls st H Q = M0 195 ls (.int (-1) :: st) H Q := w_con (show decode kb0 194 = .ok (.iconst (-1), 1) from by decide +kernel) rfl (by decide)
theorem pf0_82 : pfR tables_1 y0.cls y0.name 82 = some ("ResponseTimeGate", 23, .int) := by decide +kernel
theorem m0_195 : M0 195 ls (.int v :: .ref (b + 1) :: st) (put (b + 1) pre s A post) Q = M0 198 ls st (put (b + 1) pre (ou s 3 v) A post) Q := w_put (show decode kb0 195 = .ok (.putfield 82, 3) from by decide +kernel) pf0_82 put_o (Nat.succ_le_succ (Nat.zero_le _)) (by show 23 < 31; omega) rfl put_s3
theorem m0_198 : M0 198 [.val (.ref r), l1, l2, l3] st H Q = M0 199 [.val (.ref r), l1, l2, l3] (.ref r :: st) H Q := w_x (show decode kb0 198 = .ok (.aload_n 0, 1) from by decide +kernel) rfl
theorem m0_199 : M0 199 ls st H Q = M0 200 ls (.int 1 :: st) H Q := w_con (show decode kb0 199 = .ok (.iconst 1, 1) from by decide +kernel) rfl (by decide)
theorem pf0_85 : pfR tables_1 y0.cls y0.name 85 = some ("ResponseTimeGate", 24, .int) := by decide +kernel
theorem m0_200 : M0 200 ls (.int v :: .ref (b + 1) :: st) (put (b + 1) pre s A post) Q = M0 203 ls st (put (b + 1) pre (ou s 2 v) A post) Q := w_put (show decode kb0 200 = .ok (.putfield 85, 3) from by decide +kernel) pf0_85 put_o (Nat.succ_le_succ (Nat.zero_le _)) (by show 24 < 31; omega) rfl put_s2
theorem m0_203 : M0 203 ls st H Q = M0 204 ls (.int 0 :: st) H Q := w_con (show decode kb0 203 = .ok (.iconst 0, 1) from by decide +kernel) rfl (by decide)
theorem m0_204u : M0 204 [l0, l1, l2, .unset] ((.int v) :: st) H Q = M0 205 [l0, l1, l2, .val (.int v)] st H Q := w_st (i := 3) (p := isI) (show decode kb0 204 = .ok (.istore_n 3, 1) from by decide +kernel) rfl rfl rfl rfl rfl rfl
theorem m0_205 : M0 205 [l0, l1, l2, .val (.int v)] st H Q = M0 206 [l0, l1, l2, .val (.int v)] (.int v :: st) H Q := w_x (show decode kb0 205 = .ok (.iload_n 3, 1) from by decide +kernel) rfl
theorem m0_206 : M0 206 ls st H Q = M0 207 ls (.int 4 :: st) H Q := w_con (show decode kb0 206 = .ok (.iconst 4, 1) from by decide +kernel) rfl (by decide)
theorem m0_207 : M0 207 ls (.int y :: .int x :: st) H Q = if x < y then M0 210 ls st H Q else M0 223 ls st H Q := w_icmpN (show decode kb0 207 = .ok (.if_icmp .ge 16, 3) from by decide +kernel) (i_ge x y) rfl
theorem m0_210 : M0 210 [.val (.ref r), l1, l2, l3] st H Q = M0 211 [.val (.ref r), l1, l2, l3] (.ref r :: st) H Q := w_x (show decode kb0 210 = .ok (.aload_n 0, 1) from by decide +kernel) rfl
theorem m0_211 : M0 211 ls (.ref (b + 1) :: st) (put (b + 1) pre s A post) Q = M0 214 ls (.ref ((b + 1) + 9) :: st) (put (b + 1) pre s A post) Q := w_get (show decode kb0 211 = .ok (.getfield 34, 3) from by decide +kernel) gf_34 put_o rfl
theorem m0_214 : M0 214 [l0, l1, l2, .val (.int v)] st H Q = M0 215 [l0, l1, l2, .val (.int v)] (.int v :: st) H Q := w_x (show decode kb0 214 = .ok (.iload_n 3, 1) from by decide +kernel) rfl
theorem m0_215 : M0 215 ls st H Q = M0 216 ls (.int 0 :: st) H Q := w_con (show decode kb0 215 = .ok (.iconst 0, 1) from by decide +kernel) rfl (by decide)
theorem m0_216  : M0 216 ls (.int v :: .int j :: .ref ((b + 1) + 9) :: st) (put (b + 1) pre s A post) Q = (inB j (A 8) ∧ M0 217 ls st (put (b + 1) pre s (ou A 8 (setA (A 8) j v)) post) Q) := w_ist (show decode kb0 216 = .ok (.iastore, 1) from by decide +kernel) rfl put_a8 (by omega) rfl put_w8
theorem m0_217 : M0 217 [l0, l1, l2, .val (.int v)] st H Q = M0 220 [l0, l1, l2, .val (.int (v + 1))] st H Q := w_iinc (show decode kb0 217 = .ok (.iinc 3 1, 3) from by decide +kernel) rfl (by decide) rfl
theorem m0_220 : M0 220 ls st H Q = M0 205 ls st H Q := w_x (show decode kb0 220 = .ok (.goto (-15), 3) from by decide +kernel) rfl
theorem m0_223 : M0 223 [.val (.ref r), l1, l2, l3] st H Q = M0 224 [.val (.ref r), l1, l2, l3] (.ref r :: st) H Q := w_x (show decode kb0 223 = .ok (.aload_n 0, 1) from by decide +kernel) rfl
theorem cr0_88 : vR tables_1 dn y0 88 = some (true, y1, prog_1_method_23_code, 2, none, 0, 0) := pR_of (cR_of (by decide +kernel) rc_1 dn_1 dn_0 (sig := ⟨[], none⟩) (by decide +kernel) (by decide +kernel) rfl rfl) (by decide +kernel) (by decide +kernel)
theorem m0_224 : M0 224 ls [.ref (b + 1)] (put (b + 1) pre s A post) Q = M1 0 [.val (.ref (b + 1)), .unset] [] (put (b + 1) pre s A post) (fun v H1 => M0 227 ls (v.toList ++ []) H1 Q) := w_virt (as := []) (rest := []) (a := (b + 1)) (show decode kb0 224 = .ok (.invokevirtual 88, 3) from by decide +kernel) cr0_88 put_o rfl rfl (Nat.le_of_ble_eq_true rfl) (by show 1 ≤ 2; omega) rfl
theorem m0_227 : M0 227 ls [] H Q = Q none H := w_vret (show decode kb0 227 = .ok (.return_, 1) from by decide +kernel) rfl
theorem m1_0 : M1 0 [.val (.ref r), l1] st H Q = M1 1 [.val (.ref r), l1] (.ref r :: st) H Q := w_x (show decode kb1 0 = .ok (.aload_n 0, 1) from by decide +kernel) rfl
theorem m1_1 : M1 1 ls st H Q = M1 2 ls (.int 0 :: st) H Q := w_con (show decode kb1 1 = .ok (.iconst 0, 1) from by decide +kernel) rfl (by decide)
theorem pf1_145 : pfR tables_1 y1.cls y1.name 145 = some ("ResponseTimeGate", 25, .int) := by decide +kernel
theorem m1_2 : M1 2 ls (.int v :: .ref (b + 1) :: st) (put (b + 1) pre s A post) Q = M1 5 ls st (put (b + 1) pre (ou s 9 v) A post) Q := w_put (show decode kb1 2 = .ok (.putfield 145, 3) from by decide +kernel) pf1_145 put_o (Nat.succ_le_succ (Nat.zero_le _)) (by show 25 < 31; omega) rfl put_s9
theorem m1_5 : M1 5 [.val (.ref r), l1] st H Q = M1 6 [.val (.ref r), l1] (.ref r :: st) H Q := w_x (show decode kb1 5 = .ok (.aload_n 0, 1) from by decide +kernel) rfl
theorem m1_6 : M1 6 ls st H Q = M1 7 ls (.int 0 :: st) H Q := w_con (show decode kb1 6 = .ok (.iconst 0, 1) from by decide +kernel) rfl (by decide)
theorem pf1_148 : pfR tables_1 y1.cls y1.name 148 = some ("ResponseTimeGate", 26, .int) := by decide +kernel
theorem m1_7 : M1 7 ls (.int v :: .ref (b + 1) :: st) (put (b + 1) pre s A post) Q = M1 10 ls st (put (b + 1) pre (ou s 10 v) A post) Q := w_put (show decode kb1 7 = .ok (.putfield 148, 3) from by decide +kernel) pf1_148 put_o (Nat.succ_le_succ (Nat.zero_le _)) (by show 26 < 31; omega) rfl put_s10
theorem m1_10 : M1 10 ls st H Q = M1 11 ls (.int 0 :: st) H Q := w_con (show decode kb1 10 = .ok (.iconst 0, 1) from by decide +kernel) rfl (by decide)
theorem m1_11u : M1 11 [l0, .unset] ((.int v) :: st) H Q = M1 12 [l0, .val (.int v)] st H Q := w_st (i := 1) (p := isI) (show decode kb1 11 = .ok (.istore_n 1, 1) from by decide +kernel) rfl rfl rfl rfl rfl rfl
theorem m1_12 : M1 12 [l0, .val (.int v)] st H Q = M1 13 [l0, .val (.int v)] (.int v :: st) H Q := w_x (show decode kb1 12 = .ok (.iload_n 1, 1) from by decide +kernel) rfl
theorem m1_13 : M1 13 ls st H Q = M1 15 ls (.int 9 :: st) H Q := w_con (show decode kb1 13 = .ok (.bipush 9, 2) from by decide +kernel) rfl (by decide)
theorem m1_15 : M1 15 ls (.int y :: .int x :: st) H Q = if x < y then M1 18 ls st H Q else M1 66 ls st H Q := w_icmpN (show decode kb1 15 = .ok (.if_icmp .ge 51, 3) from by decide +kernel) (i_ge x y) rfl
theorem m1_18 : M1 18 [.val (.ref r), l1] st H Q = M1 19 [.val (.ref r), l1] (.ref r :: st) H Q := w_x (show decode kb1 18 = .ok (.aload_n 0, 1) from by decide +kernel) rfl
theorem m1_19 : M1 19 ls (.ref (b + 1) :: st) (put (b + 1) pre s A post) Q = M1 22 ls (.ref ((b + 1) + 15) :: st) (put (b + 1) pre s A post) Q := w_get (show decode kb1 19 = .ok (.getfield 52, 3) from by decide +kernel) gf_52 put_o rfl
theorem m1_22 : M1 22 [l0, .val (.int v)] st H Q = M1 23 [l0, .val (.int v)] (.int v :: st) H Q := w_x (show decode kb1 22 = .ok (.iload_n 1, 1) from by decide +kernel) rfl
theorem m1_23 : M1 23 ls st H Q = M1 24 ls (.int 0 :: st) H Q := w_con (show decode kb1 23 = .ok (.iconst 0, 1) from by decide +kernel) rfl (by decide)
theorem m1_24  : M1 24 ls (.int v :: .int j :: .ref ((b + 1) + 15) :: st) (put (b + 1) pre s A post) Q = (inB j (A 14) ∧ M1 25 ls st (put (b + 1) pre s (ou A 14 (setA (A 14) j (nar .boolean v))) post) Q) := w_ist (show decode kb1 24 = .ok (.bastore, 1) from by decide +kernel) rfl put_a14 (by omega) rfl put_w14
theorem m1_25 : M1 25 [.val (.ref r), l1] st H Q = M1 26 [.val (.ref r), l1] (.ref r :: st) H Q := w_x (show decode kb1 25 = .ok (.aload_n 0, 1) from by decide +kernel) rfl
theorem m1_26 : M1 26 ls (.ref (b + 1) :: st) (put (b + 1) pre s A post) Q = M1 29 ls (.ref ((b + 1) + 16) :: st) (put (b + 1) pre s A post) Q := w_get (show decode kb1 26 = .ok (.getfield 56, 3) from by decide +kernel) gf_56 put_o rfl
theorem m1_29 : M1 29 [l0, .val (.int v)] st H Q = M1 30 [l0, .val (.int v)] (.int v :: st) H Q := w_x (show decode kb1 29 = .ok (.iload_n 1, 1) from by decide +kernel) rfl
theorem m1_30 : M1 30 ls st H Q = M1 31 ls (.int 0 :: st) H Q := w_con (show decode kb1 30 = .ok (.iconst 0, 1) from by decide +kernel) rfl (by decide)
theorem m1_31  : M1 31 ls (.int v :: .int j :: .ref ((b + 1) + 16) :: st) (put (b + 1) pre s A post) Q = (inB j (A 15) ∧ M1 32 ls st (put (b + 1) pre s (ou A 15 (setA (A 15) j v)) post) Q) := w_ist (show decode kb1 31 = .ok (.iastore, 1) from by decide +kernel) rfl put_a15 (by omega) rfl put_w15
theorem m1_32 : M1 32 [.val (.ref r), l1] st H Q = M1 33 [.val (.ref r), l1] (.ref r :: st) H Q := w_x (show decode kb1 32 = .ok (.aload_n 0, 1) from by decide +kernel) rfl
theorem m1_33 : M1 33 ls (.ref (b + 1) :: st) (put (b + 1) pre s A post) Q = M1 36 ls (.ref ((b + 1) + 17) :: st) (put (b + 1) pre s A post) Q := w_get (show decode kb1 33 = .ok (.getfield 59, 3) from by decide +kernel) gf_59 put_o rfl
theorem m1_36 : M1 36 [l0, .val (.int v)] st H Q = M1 37 [l0, .val (.int v)] (.int v :: st) H Q := w_x (show decode kb1 36 = .ok (.iload_n 1, 1) from by decide +kernel) rfl
theorem m1_37 : M1 37 ls st H Q = M1 38 ls (.int 0 :: st) H Q := w_con (show decode kb1 37 = .ok (.iconst 0, 1) from by decide +kernel) rfl (by decide)
theorem m1_38  : M1 38 ls (.int v :: .int j :: .ref ((b + 1) + 17) :: st) (put (b + 1) pre s A post) Q = (inB j (A 16) ∧ M1 39 ls st (put (b + 1) pre s (ou A 16 (setA (A 16) j v)) post) Q) := w_ist (show decode kb1 38 = .ok (.iastore, 1) from by decide +kernel) rfl put_a16 (by omega) rfl put_w16
theorem m1_39 : M1 39 [.val (.ref r), l1] st H Q = M1 40 [.val (.ref r), l1] (.ref r :: st) H Q := w_x (show decode kb1 39 = .ok (.aload_n 0, 1) from by decide +kernel) rfl
theorem m1_40 : M1 40 ls (.ref (b + 1) :: st) (put (b + 1) pre s A post) Q = M1 43 ls (.ref ((b + 1) + 18) :: st) (put (b + 1) pre s A post) Q := w_get (show decode kb1 40 = .ok (.getfield 62, 3) from by decide +kernel) gf_62 put_o rfl
theorem m1_43 : M1 43 [l0, .val (.int v)] st H Q = M1 44 [l0, .val (.int v)] (.int v :: st) H Q := w_x (show decode kb1 43 = .ok (.iload_n 1, 1) from by decide +kernel) rfl
theorem m1_44 : M1 44 ls st H Q = M1 45 ls (.int (-1) :: st) H Q := w_con (show decode kb1 44 = .ok (.iconst (-1), 1) from by decide +kernel) rfl (by decide)
theorem m1_45  : M1 45 ls (.int v :: .int j :: .ref ((b + 1) + 18) :: st) (put (b + 1) pre s A post) Q = (inB j (A 17) ∧ M1 46 ls st (put (b + 1) pre s (ou A 17 (setA (A 17) j v)) post) Q) := w_ist (show decode kb1 45 = .ok (.iastore, 1) from by decide +kernel) rfl put_a17 (by omega) rfl put_w17
theorem m1_46 : M1 46 [.val (.ref r), l1] st H Q = M1 47 [.val (.ref r), l1] (.ref r :: st) H Q := w_x (show decode kb1 46 = .ok (.aload_n 0, 1) from by decide +kernel) rfl
theorem m1_47 : M1 47 ls (.ref (b + 1) :: st) (put (b + 1) pre s A post) Q = M1 50 ls (.ref ((b + 1) + 19) :: st) (put (b + 1) pre s A post) Q := w_get (show decode kb1 47 = .ok (.getfield 65, 3) from by decide +kernel) gf_65 put_o rfl
theorem m1_50 : M1 50 [l0, .val (.int v)] st H Q = M1 51 [l0, .val (.int v)] (.int v :: st) H Q := w_x (show decode kb1 50 = .ok (.iload_n 1, 1) from by decide +kernel) rfl
theorem m1_51 : M1 51 ls st H Q = M1 52 ls (.int 0 :: st) H Q := w_con (show decode kb1 51 = .ok (.iconst 0, 1) from by decide +kernel) rfl (by decide)
theorem m1_52  : M1 52 ls (.int v :: .int j :: .ref ((b + 1) + 19) :: st) (put (b + 1) pre s A post) Q = (inB j (A 18) ∧ M1 53 ls st (put (b + 1) pre s (ou A 18 (setA (A 18) j v)) post) Q) := w_ist (show decode kb1 52 = .ok (.iastore, 1) from by decide +kernel) rfl put_a18 (by omega) rfl put_w18
theorem m1_53 : M1 53 [.val (.ref r), l1] st H Q = M1 54 [.val (.ref r), l1] (.ref r :: st) H Q := w_x (show decode kb1 53 = .ok (.aload_n 0, 1) from by decide +kernel) rfl
theorem m1_54 : M1 54 ls (.ref (b + 1) :: st) (put (b + 1) pre s A post) Q = M1 57 ls (.ref ((b + 1) + 20) :: st) (put (b + 1) pre s A post) Q := w_get (show decode kb1 54 = .ok (.getfield 68, 3) from by decide +kernel) gf_68 put_o rfl
theorem m1_57 : M1 57 [l0, .val (.int v)] st H Q = M1 58 [l0, .val (.int v)] (.int v :: st) H Q := w_x (show decode kb1 57 = .ok (.iload_n 1, 1) from by decide +kernel) rfl
theorem m1_58 : M1 58 ls st H Q = M1 59 ls (.int 0 :: st) H Q := w_con (show decode kb1 58 = .ok (.iconst 0, 1) from by decide +kernel) rfl (by decide)
theorem m1_59  : M1 59 ls (.int v :: .int j :: .ref ((b + 1) + 20) :: st) (put (b + 1) pre s A post) Q = (inB j (A 19) ∧ M1 60 ls st (put (b + 1) pre s (ou A 19 (setA (A 19) j v)) post) Q) := w_ist (show decode kb1 59 = .ok (.iastore, 1) from by decide +kernel) rfl put_a19 (by omega) rfl put_w19
theorem m1_60 : M1 60 [l0, .val (.int v)] st H Q = M1 63 [l0, .val (.int (v + 1))] st H Q := w_iinc (show decode kb1 60 = .ok (.iinc 1 1, 3) from by decide +kernel) rfl (by decide) rfl
theorem m1_63 : M1 63 ls st H Q = M1 12 ls st H Q := w_x (show decode kb1 63 = .ok (.goto (-51), 3) from by decide +kernel) rfl
theorem m1_66 : M1 66 ls [] H Q = Q none H := w_vret (show decode kb1 66 = .ok (.return_, 1) from by decide +kernel) rfl
theorem m2_0 : M2 0 [l0, .val (.int v), l2, l3] st H Q = M2 1 [l0, .val (.int v), l2, l3] (.int v :: st) H Q := w_x (show decode kb2 0 = .ok (.iload_n 1, 1) from by decide +kernel) rfl
theorem m2_1u : M2 1 [l0, l1, .unset, l3] ((.int v) :: st) H Q = M2 2 [l0, l1, .val (.int v), l3] st H Q := w_st (i := 2) (p := isI) (show decode kb2 1 = .ok (.istore_n 2, 1) from by decide +kernel) rfl rfl rfl rfl rfl rfl
theorem m2_2 : M2 2 [l0, l1, .val (.int v), l3] st H Q = M2 3 [l0, l1, .val (.int v), l3] (.int v :: st) H Q := w_x (show decode kb2 2 = .ok (.iload_n 2, 1) from by decide +kernel) rfl
theorem m2_3 : M2 3 ls (.int x :: st) H Q = if x < 0 then M2 6 ls st H Q else M2 8 ls st H Q := w_ifN (show decode kb2 3 = .ok (.ifCond .ge 5, 3) from by decide +kernel) (z_ge x) rfl
theorem m2_6 : M2 6 ls st H Q = M2 7 ls (.int 0 :: st) H Q := w_con (show decode kb2 6 = .ok (.iconst 0, 1) from by decide +kernel) rfl (by decide)
theorem m2_7i : M2 7 [l0, l1, .val (.int z), l3] ((.int v) :: st) H Q = M2 8 [l0, l1, .val (.int v), l3] st H Q := w_st (i := 2) (p := isI) (show decode kb2 7 = .ok (.istore_n 2, 1) from by decide +kernel) rfl rfl rfl rfl rfl rfl
theorem m2_8 : M2 8 [l0, l1, .val (.int v), l3] st H Q = M2 9 [l0, l1, .val (.int v), l3] (.int v :: st) H Q := w_x (show decode kb2 8 = .ok (.iload_n 2, 1) from by decide +kernel) rfl
theorem m2_9 : M2 9 ls st H Q = M2 12 ls (.int 840 :: st) H Q := w_con (show decode kb2 9 = .ok (.sipush 840, 3) from by decide +kernel) rfl (by decide)
theorem m2_12 : M2 12 ls (.int y :: .int x :: st) H Q = if y < x then M2 15 ls st H Q else M2 19 ls st H Q := w_icmpN (show decode kb2 12 = .ok (.if_icmp .le 7, 3) from by decide +kernel) (i_le x y) rfl
theorem m2_15 : M2 15 ls st H Q = M2 18 ls (.int 840 :: st) H Q := w_con (show decode kb2 15 = .ok (.sipush 840, 3) from by decide +kernel) rfl (by decide)
theorem m2_18i : M2 18 [l0, l1, .val (.int z), l3] ((.int v) :: st) H Q = M2 19 [l0, l1, .val (.int v), l3] st H Q := w_st (i := 2) (p := isI) (show decode kb2 18 = .ok (.istore_n 2, 1) from by decide +kernel) rfl rfl rfl rfl rfl rfl
theorem m2_19 : M2 19 ls st H Q = M2 20 ls (.int 0 :: st) H Q := w_con (show decode kb2 19 = .ok (.iconst 0, 1) from by decide +kernel) rfl (by decide)
theorem m2_20u : M2 20 [l0, l1, l2, .unset] ((.int v) :: st) H Q = M2 21 [l0, l1, l2, .val (.int v)] st H Q := w_st (i := 3) (p := isI) (show decode kb2 20 = .ok (.istore_n 3, 1) from by decide +kernel) rfl rfl rfl rfl rfl rfl
theorem m2_21 : M2 21 ls st H Q = M2 22 ls (.int 0 :: st) H Q := w_con (show decode kb2 21 = .ok (.iconst 0, 1) from by decide +kernel) rfl (by decide)
theorem m2_22i : M2 22 [l0, l1, l2, .val (.int z)] ((.int v) :: st) H Q = M2 23 [l0, l1, l2, .val (.int v)] st H Q := w_st (i := 3) (p := isI) (show decode kb2 22 = .ok (.istore_n 3, 1) from by decide +kernel) rfl rfl rfl rfl rfl rfl
theorem m2_23 : M2 23 [l0, l1, l2, .val (.int v)] st H Q = M2 24 [l0, l1, l2, .val (.int v)] (.int v :: st) H Q := w_x (show decode kb2 23 = .ok (.iload_n 3, 1) from by decide +kernel) rfl
theorem m2_24 : M2 24 [l0, l1, .val (.int v), l3] st H Q = M2 25 [l0, l1, .val (.int v), l3] (.int v :: st) H Q := w_x (show decode kb2 24 = .ok (.iload_n 2, 1) from by decide +kernel) rfl
theorem m2_25 : M2 25 ls (.int y :: .int x :: st) H Q = if x < y then M2 28 ls st H Q else M2 52 ls st H Q := w_icmpN (show decode kb2 25 = .ok (.if_icmp .ge 27, 3) from by decide +kernel) (i_ge x y) rfl
theorem m2_28 : M2 28 [.val (.ref r), l1, l2, l3] st H Q = M2 29 [.val (.ref r), l1, l2, l3] (.ref r :: st) H Q := w_x (show decode kb2 28 = .ok (.aload_n 0, 1) from by decide +kernel) rfl
theorem m2_29 : M2 29 ls (.ref (b + 1) :: st) (put (b + 1) pre s A post) Q = M2 32 ls (.int (s 9) :: st) (put (b + 1) pre s A post) Q := w_get (show decode kb2 29 = .ok (.getfield 145, 3) from by decide +kernel) gf_145 put_o rfl
theorem m2_32 : M2 32 [.val (.ref r), l1, l2, l3] st H Q = M2 33 [.val (.ref r), l1, l2, l3] (.ref r :: st) H Q := w_x (show decode kb2 32 = .ok (.aload_n 0, 1) from by decide +kernel) rfl
theorem m2_33 : M2 33 ls (.ref (b + 1) :: st) (put (b + 1) pre s A post) Q = M2 36 ls (.int (s 2) :: st) (put (b + 1) pre s A post) Q := w_get (show decode kb2 33 = .ok (.getfield 85, 3) from by decide +kernel) gf_85 put_o rfl
theorem m2_36 : M2 36 ls (.int y :: .int x :: st) H Q = if x < y then M2 42 ls st H Q else M2 39 ls st H Q := w_icmp (show decode kb2 36 = .ok (.if_icmp .lt 6, 3) from by decide +kernel) (i_lt x y) rfl
theorem m2_39 : M2 39 ls st H Q = M2 52 ls st H Q := w_x (show decode kb2 39 = .ok (.goto 13, 3) from by decide +kernel) rfl
theorem m2_42 : M2 42 [.val (.ref r), l1, l2, l3] st H Q = M2 43 [.val (.ref r), l1, l2, l3] (.ref r :: st) H Q := w_x (show decode kb2 42 = .ok (.aload_n 0, 1) from by decide +kernel) rfl
theorem cr2_151 : vR tables_1 dn y2 151 = some (true, y3, prog_1_method_25_code, 2, none, 0, 0) := pR_of (cR_of (by decide +kernel) rc_3 dn_3 dn_2 (sig := ⟨[], none⟩) (by decide +kernel) (by decide +kernel) rfl rfl) (by decide +kernel) (by decide +kernel)
theorem m2_43 : M2 43 ls [.ref (b + 1)] (put (b + 1) pre s A post) Q = M3 0 [.val (.ref (b + 1)), .unset] [] (put (b + 1) pre s A post) (fun v H1 => M2 46 ls (v.toList ++ []) H1 Q) := w_virt (as := []) (rest := []) (a := (b + 1)) (show decode kb2 43 = .ok (.invokevirtual 151, 3) from by decide +kernel) cr2_151 put_o rfl rfl (Nat.le_of_ble_eq_true rfl) (by show 1 ≤ 2; omega) rfl
theorem m2_46 : M2 46 [l0, l1, l2, .val (.int v)] st H Q = M2 49 [l0, l1, l2, .val (.int (v + 1))] st H Q := w_iinc (show decode kb2 46 = .ok (.iinc 3 1, 3) from by decide +kernel) rfl (by decide) rfl
theorem m2_49 : M2 49 ls st H Q = M2 23 ls st H Q := w_x (show decode kb2 49 = .ok (.goto (-26), 3) from by decide +kernel) rfl
theorem m2_52 : M2 52 [l0, l1, l2, .val (.int v)] st H Q = M2 53 [l0, l1, l2, .val (.int v)] (.int v :: st) H Q := w_x (show decode kb2 52 = .ok (.iload_n 3, 1) from by decide +kernel) rfl
theorem m2_53 : M2 53 ls (.int z :: st) H Q = Q (some (.int z)) H := w_iret (show decode kb2 53 = .ok (.ireturn, 1) from by decide +kernel) rfl
theorem m3_0 : M3 0 [.val (.ref r), l1] st H Q = M3 1 [.val (.ref r), l1] (.ref r :: st) H Q := w_x (show decode kb3 0 = .ok (.aload_n 0, 1) from by decide +kernel) rfl
theorem cr3_154 : vR tables_1 dn y3 154 = some (true, y4, prog_1_method_26_code, 3, none, 0, 18) := pR_of (cR_of (by decide +kernel) rc_4 dn_4 dn_3 (sig := ⟨[], none⟩) (by decide +kernel) (by decide +kernel) rfl rfl) (by decide +kernel) (by decide +kernel)
theorem m3_1 : M3 1 ls [.ref (b + 1)] (put (b + 1) pre s A post) Q = M4 0 [.val (.ref (b + 1)), .unset, .unset] [] (put (b + 1) pre s A post) (fun v H1 => M3 4 ls (v.toList ++ []) H1 Q) := w_virt (as := []) (rest := []) (a := (b + 1)) (show decode kb3 1 = .ok (.invokevirtual 154, 3) from by decide +kernel) cr3_154 put_o rfl rfl (Nat.le_of_ble_eq_true rfl) (by show 1 ≤ 3; omega) rfl
theorem m3_4 : M3 4 [.val (.ref r), l1] st H Q = M3 5 [.val (.ref r), l1] (.ref r :: st) H Q := w_x (show decode kb3 4 = .ok (.aload_n 0, 1) from by decide +kernel) rfl
theorem cr3_157 : vR tables_1 dn y3 157 = some (true, y5, prog_1_method_28_code, 7, (some .int), 0, 0) := pR_of (cR_of (by decide +kernel) rc_5 dn_5 dn_3 (sig := ⟨[], some .int⟩) (by decide +kernel) (by decide +kernel) rfl rfl) (by decide +kernel) (by decide +kernel)
theorem m3_5 : M3 5 ls [.ref (b + 1)] (put (b + 1) pre s A post) Q = M5 0 [.val (.ref (b + 1)), .unset, .unset, .unset, .unset, .unset, .unset] [] (put (b + 1) pre s A post) (fun v H1 => M3 8 ls (v.toList ++ []) H1 Q) := w_virt (as := []) (rest := []) (a := (b + 1)) (show decode kb3 5 = .ok (.invokevirtual 157, 3) from by decide +kernel) cr3_157 put_o rfl rfl (Nat.le_of_ble_eq_true rfl) (by show 1 ≤ 7; omega) rfl
theorem m3_8u : M3 8 [l0, .unset] ((.int v) :: st) H Q = M3 9 [l0, .val (.int v)] st H Q := w_st (i := 1) (p := isI) (show decode kb3 8 = .ok (.istore_n 1, 1) from by decide +kernel) rfl rfl rfl rfl rfl rfl
theorem m3_9 : M3 9 [l0, .val (.int v)] st H Q = M3 10 [l0, .val (.int v)] (.int v :: st) H Q := w_x (show decode kb3 9 = .ok (.iload_n 1, 1) from by decide +kernel) rfl
theorem m3_10 : M3 10 ls (.int x :: st) H Q = if x < 0 then M3 18 ls st H Q else M3 13 ls st H Q := w_if (show decode kb3 10 = .ok (.ifCond .lt 8, 3) from by decide +kernel) (z_lt x) rfl
theorem m3_13 : M3 13 [.val (.ref r), l1] st H Q = M3 14 [.val (.ref r), l1] (.ref r :: st) H Q := w_x (show decode kb3 13 = .ok (.aload_n 0, 1) from by decide +kernel) rfl
theorem m3_14 : M3 14 [l0, .val (.int v)] st H Q = M3 15 [l0, .val (.int v)] (.int v :: st) H Q := w_x (show decode kb3 14 = .ok (.iload_n 1, 1) from by decide +kernel) rfl
theorem cr3_161 : vR tables_1 dn y3 161 = some (true, y34, prog_1_method_30_code, 3, none, 1, 4) := pR_of (cR_of (by decide +kernel) rc_34 dn_34 dn_3 (sig := ⟨[.int], none⟩) (by decide +kernel) (by decide +kernel) rfl rfl) (by decide +kernel) (by decide +kernel)
theorem m3_15 (a0 : Int32) : M3 15 ls [.int a0, .ref (b + 1)] (put (b + 1) pre s A post) Q = M34 0 [.val (.ref (b + 1)), .val (.int a0), .unset] [] (put (b + 1) pre s A post) (fun v H1 => M3 18 ls (v.toList ++ []) H1 Q) := w_virt (as := [.int a0]) (rest := []) (a := (b + 1)) (show decode kb3 15 = .ok (.invokevirtual 161, 3) from by decide +kernel) cr3_161 put_o rfl rfl (Nat.le_of_ble_eq_true rfl) (by show 2 ≤ 3; omega) rfl
theorem m3_18 : M3 18 [.val (.ref r), l1] st H Q = M3 19 [.val (.ref r), l1] (.ref r :: st) H Q := w_x (show decode kb3 18 = .ok (.aload_n 0, 1) from by decide +kernel) rfl
theorem m3_19 : M3 19 ls ((.ref r) :: st) H Q = M3 20 ls ((.ref r) :: (.ref r) :: st) H Q := w_x (show decode kb3 19 = .ok (.dup, 1) from by decide +kernel) rfl
theorem m3_20 : M3 20 ls (.ref (b + 1) :: st) (put (b + 1) pre s A post) Q = M3 23 ls (.int (s 9) :: st) (put (b + 1) pre s A post) Q := w_get (show decode kb3 20 = .ok (.getfield 145, 3) from by decide +kernel) gf_145 put_o rfl
theorem m3_23 : M3 23 ls st H Q = M3 24 ls (.int 1 :: st) H Q := w_con (show decode kb3 23 = .ok (.iconst 1, 1) from by decide +kernel) rfl (by decide)
theorem m3_24 : M3 24 ls (.int y :: .int x :: st) H Q = M3 25 ls (.int (x + y) :: st) H Q := w_x (show decode kb3 24 = .ok (.iadd, 1) from by decide +kernel) rfl
theorem pf3_145 : pfR tables_1 y3.cls y3.name 145 = some ("ResponseTimeGate", 25, .int) := by decide +kernel
theorem m3_25 : M3 25 ls (.int v :: .ref (b + 1) :: st) (put (b + 1) pre s A post) Q = M3 28 ls st (put (b + 1) pre (ou s 9 v) A post) Q := w_put (show decode kb3 25 = .ok (.putfield 145, 3) from by decide +kernel) pf3_145 put_o (Nat.succ_le_succ (Nat.zero_le _)) (by show 25 < 31; omega) rfl put_s9
theorem m3_28 : M3 28 [.val (.ref r), l1] st H Q = M3 29 [.val (.ref r), l1] (.ref r :: st) H Q := w_x (show decode kb3 28 = .ok (.aload_n 0, 1) from by decide +kernel) rfl
theorem cr3_164 : vR tables_1 dn y3 164 = some (true, y6, prog_1_method_32_code, 2, none, 0, 19) := pR_of (cR_of (by decide +kernel) rc_6 dn_6 dn_3 (sig := ⟨[], none⟩) (by decide +kernel) (by decide +kernel) rfl rfl) (by decide +kernel) (by decide +kernel)
theorem m3_29 : M3 29 ls [.ref (b + 1)] (put (b + 1) pre s A post) Q = M6 0 [.val (.ref (b + 1)), .unset] [] (put (b + 1) pre s A post) (fun v H1 => M3 32 ls (v.toList ++ []) H1 Q) := w_virt (as := []) (rest := []) (a := (b + 1)) (show decode kb3 29 = .ok (.invokevirtual 164, 3) from by decide +kernel) cr3_164 put_o rfl rfl (Nat.le_of_ble_eq_true rfl) (by show 1 ≤ 2; omega) rfl
theorem m3_32 : M3 32 ls [] H Q = Q none H := w_vret (show decode kb3 32 = .ok (.return_, 1) from by decide +kernel) rfl
theorem m4_0 : M4 0 ls st H Q = M4 1 ls (.int 0 :: st) H Q := w_con (show decode kb4 0 = .ok (.iconst 0, 1) from by decide +kernel) rfl (by decide)
theorem m4_1u : M4 1 [l0, .unset, l2] ((.int v) :: st) H Q = M4 2 [l0, .val (.int v), l2] st H Q := w_st (i := 1) (p := isI) (show decode kb4 1 = .ok (.istore_n 1, 1) from by decide +kernel) rfl rfl rfl rfl rfl rfl
theorem m4_2 : M4 2 [l0, .val (.int v), l2] st H Q = M4 3 [l0, .val (.int v), l2] (.int v :: st) H Q := w_x (show decode kb4 2 = .ok (.iload_n 1, 1) from by decide +kernel) rfl
theorem m4_3 : M4 3 [.val (.ref r), l1, l2] st H Q = M4 4 [.val (.ref r), l1, l2] (.ref r :: st) H Q := w_x (show decode kb4 3 = .ok (.aload_n 0, 1) from by decide +kernel) rfl
theorem m4_4 : M4 4 ls (.ref (b + 1) :: st) (put (b + 1) pre s A post) Q = M4 7 ls (.int (s 1) :: st) (put (b + 1) pre s A post) Q := w_get (show decode kb4 4 = .ok (.getfield 75, 3) from by decide +kernel) gf_75 put_o rfl
theorem m4_7 : M4 7 ls (.int y :: .int x :: st) H Q = if x < y then M4 10 ls st H Q else M4 67 ls st H Q := w_icmpN (show decode kb4 7 = .ok (.if_icmp .ge 60, 3) from by decide +kernel) (i_ge x y) rfl
theorem m4_10 : M4 10 [.val (.ref r), l1, l2] st H Q = M4 11 [.val (.ref r), l1, l2] (.ref r :: st) H Q := w_x (show decode kb4 10 = .ok (.aload_n 0, 1) from by decide +kernel) rfl
theorem m4_11 : M4 11 ls (.ref (b + 1) :: st) (put (b + 1) pre s A post) Q = M4 14 ls (.ref ((b + 1) + 1) :: st) (put (b + 1) pre s A post) Q := w_get (show decode kb4 11 = .ok (.getfield 7, 3) from by decide +kernel) gf_7 put_o rfl
theorem m4_14 : M4 14 [l0, .val (.int v), l2] st H Q = M4 15 [l0, .val (.int v), l2] (.int v :: st) H Q := w_x (show decode kb4 14 = .ok (.iload_n 1, 1) from by decide +kernel) rfl
theorem m4_15  : M4 15 ls (.int j :: .ref ((b + 1) + 1) :: st) (put (b + 1) pre s A post) Q = (inB j (A 0) ∧ M4 16 ls (.int (getA (A 0) j) :: st) (put (b + 1) pre s A post) Q) := w_ild (show decode kb4 15 = .ok (.iaload, 1) from by decide +kernel) rfl put_a0
theorem m4_16u : M4 16 [l0, l1, .unset] ((.int v) :: st) H Q = M4 17 [l0, l1, .val (.int v)] st H Q := w_st (i := 2) (p := isI) (show decode kb4 16 = .ok (.istore_n 2, 1) from by decide +kernel) rfl rfl rfl rfl rfl rfl
theorem m4_16i : M4 16 [l0, l1, .val (.int z)] ((.int v) :: st) H Q = M4 17 [l0, l1, .val (.int v)] st H Q := w_st (i := 2) (p := isI) (show decode kb4 16 = .ok (.istore_n 2, 1) from by decide +kernel) rfl rfl rfl rfl rfl rfl
theorem m4_16r : M4 16 [l0, l1, .val (.ref q)] ((.int v) :: st) H Q = M4 17 [l0, l1, .val (.int v)] st H Q := w_st (i := 2) (p := isI) (show decode kb4 16 = .ok (.istore_n 2, 1) from by decide +kernel) rfl rfl rfl rfl rfl rfl
theorem m4_16g (h : okS l2) : M4 16 [l0, l1, l2] ((.int v) :: st) H Q = M4 17 [l0, l1, .val (.int v)] st H Q := by rcases h with rfl | ⟨z, rfl⟩ <;> first | exact m4_16u | exact m4_16i
theorem m4_17 : M4 17 [l0, l1, .val (.int v)] st H Q = M4 18 [l0, l1, .val (.int v)] (.int v :: st) H Q := w_x (show decode kb4 17 = .ok (.iload_n 2, 1) from by decide +kernel) rfl
theorem m4_18 : M4 18 ls (.int x :: st) H Q = if 0 < x then M4 21 ls st H Q else M4 61 ls st H Q := w_ifN (show decode kb4 18 = .ok (.ifCond .le 43, 3) from by decide +kernel) (z_le x) rfl
theorem m4_21 : M4 21 [.val (.ref r), l1, l2] st H Q = M4 22 [.val (.ref r), l1, l2] (.ref r :: st) H Q := w_x (show decode kb4 21 = .ok (.aload_n 0, 1) from by decide +kernel) rfl
theorem m4_22 : M4 22 ls (.ref (b + 1) :: st) (put (b + 1) pre s A post) Q = M4 25 ls (.int (s 9) :: st) (put (b + 1) pre s A post) Q := w_get (show decode kb4 22 = .ok (.getfield 145, 3) from by decide +kernel) gf_145 put_o rfl
theorem m4_25 : M4 25 [l0, l1, .val (.int v)] st H Q = M4 26 [l0, l1, .val (.int v)] (.int v :: st) H Q := w_x (show decode kb4 25 = .ok (.iload_n 2, 1) from by decide +kernel) rfl
theorem m4_26 : M4 26 ls (.int y :: .int x :: st) H Q = (y ≠ 0 ∧ M4 27 ls (.int (x % y) :: st) H Q) := w_div (f := fun x y => x % y) (show decode kb4 26 = .ok (.irem, 1) from by decide +kernel) (fun _ => rfl) rfl rfl
theorem m4_27 : M4 27 ls (.int x :: st) H Q = if x = 0 then M4 30 ls st H Q else M4 61 ls st H Q := w_ifN (show decode kb4 27 = .ok (.ifCond .ne 34, 3) from by decide +kernel) (z_ne x) rfl
theorem m4_30 : M4 30 [.val (.ref r), l1, l2] st H Q = M4 31 [.val (.ref r), l1, l2] (.ref r :: st) H Q := w_x (show decode kb4 30 = .ok (.aload_n 0, 1) from by decide +kernel) rfl
theorem m4_31 : M4 31 ls (.ref (b + 1) :: st) (put (b + 1) pre s A post) Q = M4 34 ls (.ref ((b + 1) + 15) :: st) (put (b + 1) pre s A post) Q := w_get (show decode kb4 31 = .ok (.getfield 52, 3) from by decide +kernel) gf_52 put_o rfl
theorem m4_34 : M4 34 [l0, .val (.int v), l2] st H Q = M4 35 [l0, .val (.int v), l2] (.int v :: st) H Q := w_x (show decode kb4 34 = .ok (.iload_n 1, 1) from by decide +kernel) rfl
theorem m4_35 : M4 35 ls st H Q = M4 36 ls (.int 1 :: st) H Q := w_con (show decode kb4 35 = .ok (.iconst 1, 1) from by decide +kernel) rfl (by decide)
theorem m4_36  : M4 36 ls (.int v :: .int j :: .ref ((b + 1) + 15) :: st) (put (b + 1) pre s A post) Q = (inB j (A 14) ∧ M4 37 ls st (put (b + 1) pre s (ou A 14 (setA (A 14) j (nar .boolean v))) post) Q) := w_ist (show decode kb4 36 = .ok (.bastore, 1) from by decide +kernel) rfl put_a14 (by omega) rfl put_w14
theorem m4_37 : M4 37 [.val (.ref r), l1, l2] st H Q = M4 38 [.val (.ref r), l1, l2] (.ref r :: st) H Q := w_x (show decode kb4 37 = .ok (.aload_n 0, 1) from by decide +kernel) rfl
theorem m4_38 : M4 38 ls (.ref (b + 1) :: st) (put (b + 1) pre s A post) Q = M4 41 ls (.ref ((b + 1) + 16) :: st) (put (b + 1) pre s A post) Q := w_get (show decode kb4 38 = .ok (.getfield 56, 3) from by decide +kernel) gf_56 put_o rfl
theorem m4_41 : M4 41 [l0, .val (.int v), l2] st H Q = M4 42 [l0, .val (.int v), l2] (.int v :: st) H Q := w_x (show decode kb4 41 = .ok (.iload_n 1, 1) from by decide +kernel) rfl
theorem m4_42 : M4 42 [.val (.ref r), l1, l2] st H Q = M4 43 [.val (.ref r), l1, l2] (.ref r :: st) H Q := w_x (show decode kb4 42 = .ok (.aload_n 0, 1) from by decide +kernel) rfl
theorem m4_43 : M4 43 ls (.ref (b + 1) :: st) (put (b + 1) pre s A post) Q = M4 46 ls (.int (s 9) :: st) (put (b + 1) pre s A post) Q := w_get (show decode kb4 43 = .ok (.getfield 145, 3) from by decide +kernel) gf_145 put_o rfl
theorem m4_46  : M4 46 ls (.int v :: .int j :: .ref ((b + 1) + 16) :: st) (put (b + 1) pre s A post) Q = (inB j (A 15) ∧ M4 47 ls st (put (b + 1) pre s (ou A 15 (setA (A 15) j v)) post) Q) := w_ist (show decode kb4 46 = .ok (.iastore, 1) from by decide +kernel) rfl put_a15 (by omega) rfl put_w15
theorem m4_47 : M4 47 [.val (.ref r), l1, l2] st H Q = M4 48 [.val (.ref r), l1, l2] (.ref r :: st) H Q := w_x (show decode kb4 47 = .ok (.aload_n 0, 1) from by decide +kernel) rfl
theorem m4_48 : M4 48 ls (.ref (b + 1) :: st) (put (b + 1) pre s A post) Q = M4 51 ls (.ref ((b + 1) + 17) :: st) (put (b + 1) pre s A post) Q := w_get (show decode kb4 48 = .ok (.getfield 59, 3) from by decide +kernel) gf_59 put_o rfl
theorem m4_51 : M4 51 [l0, .val (.int v), l2] st H Q = M4 52 [l0, .val (.int v), l2] (.int v :: st) H Q := w_x (show decode kb4 51 = .ok (.iload_n 1, 1) from by decide +kernel) rfl
theorem m4_52 : M4 52 ls st H Q = M4 53 ls (.int 0 :: st) H Q := w_con (show decode kb4 52 = .ok (.iconst 0, 1) from by decide +kernel) rfl (by decide)
theorem m4_53  : M4 53 ls (.int v :: .int j :: .ref ((b + 1) + 17) :: st) (put (b + 1) pre s A post) Q = (inB j (A 16) ∧ M4 54 ls st (put (b + 1) pre s (ou A 16 (setA (A 16) j v)) post) Q) := w_ist (show decode kb4 53 = .ok (.iastore, 1) from by decide +kernel) rfl put_a16 (by omega) rfl put_w16
theorem m4_54 : M4 54 [.val (.ref r), l1, l2] st H Q = M4 55 [.val (.ref r), l1, l2] (.ref r :: st) H Q := w_x (show decode kb4 54 = .ok (.aload_n 0, 1) from by decide +kernel) rfl
theorem m4_55 : M4 55 ls (.ref (b + 1) :: st) (put (b + 1) pre s A post) Q = M4 58 ls (.ref ((b + 1) + 18) :: st) (put (b + 1) pre s A post) Q := w_get (show decode kb4 55 = .ok (.getfield 62, 3) from by decide +kernel) gf_62 put_o rfl
theorem m4_58 : M4 58 [l0, .val (.int v), l2] st H Q = M4 59 [l0, .val (.int v), l2] (.int v :: st) H Q := w_x (show decode kb4 58 = .ok (.iload_n 1, 1) from by decide +kernel) rfl
theorem m4_59 : M4 59 ls st H Q = M4 60 ls (.int (-1) :: st) H Q := w_con (show decode kb4 59 = .ok (.iconst (-1), 1) from by decide +kernel) rfl (by decide)
theorem m4_60  : M4 60 ls (.int v :: .int j :: .ref ((b + 1) + 18) :: st) (put (b + 1) pre s A post) Q = (inB j (A 17) ∧ M4 61 ls st (put (b + 1) pre s (ou A 17 (setA (A 17) j v)) post) Q) := w_ist (show decode kb4 60 = .ok (.iastore, 1) from by decide +kernel) rfl put_a17 (by omega) rfl put_w17
theorem m4_61 : M4 61 [l0, .val (.int v), l2] st H Q = M4 64 [l0, .val (.int (v + 1)), l2] st H Q := w_iinc (show decode kb4 61 = .ok (.iinc 1 1, 3) from by decide +kernel) rfl (by decide) rfl
theorem m4_64 : M4 64 ls st H Q = M4 2 ls st H Q := w_x (show decode kb4 64 = .ok (.goto (-62), 3) from by decide +kernel) rfl
theorem m4_67 : M4 67 ls [] H Q = Q none H := w_vret (show decode kb4 67 = .ok (.return_, 1) from by decide +kernel) rfl
theorem m5_0 : M5 0 ls st H Q = M5 1 ls (.int (-1) :: st) H Q := w_con (show decode kb5 0 = .ok (.iconst (-1), 1) from by decide +kernel) rfl (by decide)
theorem m5_1u : M5 1 [l0, .unset, l2, l3, l4, l5, l6] ((.int v) :: st) H Q = M5 2 [l0, .val (.int v), l2, l3, l4, l5, l6] st H Q := w_st (i := 1) (p := isI) (show decode kb5 1 = .ok (.istore_n 1, 1) from by decide +kernel) rfl rfl rfl rfl rfl rfl
theorem m5_2 : M5 2 ls st H Q = M5 3 ls (.int (-1) :: st) H Q := w_con (show decode kb5 2 = .ok (.iconst (-1), 1) from by decide +kernel) rfl (by decide)
theorem m5_3u : M5 3 [l0, l1, .unset, l3, l4, l5, l6] ((.int v) :: st) H Q = M5 4 [l0, l1, .val (.int v), l3, l4, l5, l6] st H Q := w_st (i := 2) (p := isI) (show decode kb5 3 = .ok (.istore_n 2, 1) from by decide +kernel) rfl rfl rfl rfl rfl rfl
theorem m5_4 : M5 4 ls st H Q = M5 5 ls (.int 0 :: st) H Q := w_con (show decode kb5 4 = .ok (.iconst 0, 1) from by decide +kernel) rfl (by decide)
theorem m5_5u : M5 5 [l0, l1, l2, .unset, l4, l5, l6] ((.int v) :: st) H Q = M5 6 [l0, l1, l2, .val (.int v), l4, l5, l6] st H Q := w_st (i := 3) (p := isI) (show decode kb5 5 = .ok (.istore_n 3, 1) from by decide +kernel) rfl rfl rfl rfl rfl rfl
theorem m5_6 : M5 6 ls st H Q = M5 7 ls (.int 0 :: st) H Q := w_con (show decode kb5 6 = .ok (.iconst 0, 1) from by decide +kernel) rfl (by decide)
theorem m5_7u : M5 7 [l0, l1, l2, l3, .unset, l5, l6] ((.int v) :: st) H Q = M5 9 [l0, l1, l2, l3, .val (.int v), l5, l6] st H Q := w_st (i := 4) (p := isI) (show decode kb5 7 = .ok (.istore 4, 2) from by decide +kernel) rfl rfl rfl rfl rfl rfl
theorem m5_9 : M5 9 [l0, l1, l2, l3, .val (.int v), l5, l6] st H Q = M5 11 [l0, l1, l2, l3, .val (.int v), l5, l6] (.int v :: st) H Q := w_x (show decode kb5 9 = .ok (.iload 4, 2) from by decide +kernel) rfl
theorem m5_11 : M5 11 [.val (.ref r), l1, l2, l3, l4, l5, l6] st H Q = M5 12 [.val (.ref r), l1, l2, l3, l4, l5, l6] (.ref r :: st) H Q := w_x (show decode kb5 11 = .ok (.aload_n 0, 1) from by decide +kernel) rfl
theorem m5_12 : M5 12 ls (.ref (b + 1) :: st) (put (b + 1) pre s A post) Q = M5 15 ls (.int (s 1) :: st) (put (b + 1) pre s A post) Q := w_get (show decode kb5 12 = .ok (.getfield 75, 3) from by decide +kernel) gf_75 put_o rfl
theorem m5_15 : M5 15 ls (.int y :: .int x :: st) H Q = if x < y then M5 18 ls st H Q else M5 96 ls st H Q := w_icmpN (show decode kb5 15 = .ok (.if_icmp .ge 81, 3) from by decide +kernel) (i_ge x y) rfl
theorem m5_18 : M5 18 [.val (.ref r), l1, l2, l3, l4, l5, l6] st H Q = M5 19 [.val (.ref r), l1, l2, l3, l4, l5, l6] (.ref r :: st) H Q := w_x (show decode kb5 18 = .ok (.aload_n 0, 1) from by decide +kernel) rfl
theorem m5_19 : M5 19 ls (.ref (b + 1) :: st) (put (b + 1) pre s A post) Q = M5 22 ls (.ref ((b + 1) + 15) :: st) (put (b + 1) pre s A post) Q := w_get (show decode kb5 19 = .ok (.getfield 52, 3) from by decide +kernel) gf_52 put_o rfl
theorem m5_22 : M5 22 [l0, l1, l2, l3, .val (.int v), l5, l6] st H Q = M5 24 [l0, l1, l2, l3, .val (.int v), l5, l6] (.int v :: st) H Q := w_x (show decode kb5 22 = .ok (.iload 4, 2) from by decide +kernel) rfl
theorem m5_24  : M5 24 ls (.int j :: .ref ((b + 1) + 15) :: st) (put (b + 1) pre s A post) Q = (inB j (A 14) ∧ M5 25 ls (.int (getA (A 14) j) :: st) (put (b + 1) pre s A post) Q) := w_ild (show decode kb5 24 = .ok (.baload, 1) from by decide +kernel) rfl put_a14
theorem m5_25 : M5 25 ls (.int x :: st) H Q = if x = 0 then M5 28 ls st H Q else M5 31 ls st H Q := w_ifN (show decode kb5 25 = .ok (.ifCond .ne 6, 3) from by decide +kernel) (z_ne x) rfl
theorem m5_28 : M5 28 ls st H Q = M5 90 ls st H Q := w_x (show decode kb5 28 = .ok (.goto 62, 3) from by decide +kernel) rfl
theorem m5_31 : M5 31 [.val (.ref r), l1, l2, l3, l4, l5, l6] st H Q = M5 32 [.val (.ref r), l1, l2, l3, l4, l5, l6] (.ref r :: st) H Q := w_x (show decode kb5 31 = .ok (.aload_n 0, 1) from by decide +kernel) rfl
theorem m5_32 : M5 32 [l0, l1, l2, l3, .val (.int v), l5, l6] st H Q = M5 34 [l0, l1, l2, l3, .val (.int v), l5, l6] (.int v :: st) H Q := w_x (show decode kb5 32 = .ok (.iload 4, 2) from by decide +kernel) rfl
theorem cr5_167 : vR tables_1 dn y5 167 = some (true, y33, prog_1_method_27_code, 3, (some .int), 1, 0) := pR_of (cR_of (by decide +kernel) rc_33 dn_33 dn_5 (sig := ⟨[.int], some .int⟩) (by decide +kernel) (by decide +kernel) rfl rfl) (by decide +kernel) (by decide +kernel)
theorem m5_34 (a0 : Int32) : M5 34 ls [.int a0, .ref (b + 1)] (put (b + 1) pre s A post) Q = M33 0 [.val (.ref (b + 1)), .val (.int a0), .unset] [] (put (b + 1) pre s A post) (fun v H1 => M5 37 ls (v.toList ++ []) H1 Q) := w_virt (as := [.int a0]) (rest := []) (a := (b + 1)) (show decode kb5 34 = .ok (.invokevirtual 167, 3) from by decide +kernel) cr5_167 put_o rfl rfl (Nat.le_of_ble_eq_true rfl) (by show 2 ≤ 3; omega) rfl
theorem m5_37u : M5 37 [l0, l1, l2, l3, l4, .unset, l6] ((.int v) :: st) H Q = M5 39 [l0, l1, l2, l3, l4, .val (.int v), l6] st H Q := w_st (i := 5) (p := isI) (show decode kb5 37 = .ok (.istore 5, 2) from by decide +kernel) rfl rfl rfl rfl rfl rfl
theorem m5_37i : M5 37 [l0, l1, l2, l3, l4, .val (.int z), l6] ((.int v) :: st) H Q = M5 39 [l0, l1, l2, l3, l4, .val (.int v), l6] st H Q := w_st (i := 5) (p := isI) (show decode kb5 37 = .ok (.istore 5, 2) from by decide +kernel) rfl rfl rfl rfl rfl rfl
theorem m5_37r : M5 37 [l0, l1, l2, l3, l4, .val (.ref q), l6] ((.int v) :: st) H Q = M5 39 [l0, l1, l2, l3, l4, .val (.int v), l6] st H Q := w_st (i := 5) (p := isI) (show decode kb5 37 = .ok (.istore 5, 2) from by decide +kernel) rfl rfl rfl rfl rfl rfl
theorem m5_37g (h : okS l5) : M5 37 [l0, l1, l2, l3, l4, l5, l6] ((.int v) :: st) H Q = M5 39 [l0, l1, l2, l3, l4, .val (.int v), l6] st H Q := by rcases h with rfl | ⟨z, rfl⟩ <;> first | exact m5_37u | exact m5_37i
theorem m5_39 : M5 39 [.val (.ref r), l1, l2, l3, l4, l5, l6] st H Q = M5 40 [.val (.ref r), l1, l2, l3, l4, l5, l6] (.ref r :: st) H Q := w_x (show decode kb5 39 = .ok (.aload_n 0, 1) from by decide +kernel) rfl
theorem m5_40 : M5 40 ls (.ref (b + 1) :: st) (put (b + 1) pre s A post) Q = M5 43 ls (.ref ((b + 1) + 18) :: st) (put (b + 1) pre s A post) Q := w_get (show decode kb5 40 = .ok (.getfield 62, 3) from by decide +kernel) gf_62 put_o rfl
theorem m5_43 : M5 43 [l0, l1, l2, l3, .val (.int v), l5, l6] st H Q = M5 45 [l0, l1, l2, l3, .val (.int v), l5, l6] (.int v :: st) H Q := w_x (show decode kb5 43 = .ok (.iload 4, 2) from by decide +kernel) rfl
theorem m5_45  : M5 45 ls (.int j :: .ref ((b + 1) + 18) :: st) (put (b + 1) pre s A post) Q = (inB j (A 17) ∧ M5 46 ls (.int (getA (A 17) j) :: st) (put (b + 1) pre s A post) Q) := w_ild (show decode kb5 45 = .ok (.iaload, 1) from by decide +kernel) rfl put_a17
theorem m5_46 : M5 46 ls (.int x :: st) H Q = if x < 0 then M5 53 ls st H Q else M5 49 ls st H Q := w_if (show decode kb5 46 = .ok (.ifCond .lt 7, 3) from by decide +kernel) (z_lt x) rfl
theorem m5_49 : M5 49 ls st H Q = M5 50 ls (.int 1 :: st) H Q := w_con (show decode kb5 49 = .ok (.iconst 1, 1) from by decide +kernel) rfl (by decide)
theorem m5_50 : M5 50 ls st H Q = M5 54 ls st H Q := w_x (show decode kb5 50 = .ok (.goto 4, 3) from by decide +kernel) rfl
theorem m5_53 : M5 53 ls st H Q = M5 54 ls (.int 0 :: st) H Q := w_con (show decode kb5 53 = .ok (.iconst 0, 1) from by decide +kernel) rfl (by decide)
theorem m5_54u : M5 54 [l0, l1, l2, l3, l4, l5, .unset] ((.int v) :: st) H Q = M5 56 [l0, l1, l2, l3, l4, l5, .val (.int v)] st H Q := w_st (i := 6) (p := isI) (show decode kb5 54 = .ok (.istore 6, 2) from by decide +kernel) rfl rfl rfl rfl rfl rfl
theorem m5_54i : M5 54 [l0, l1, l2, l3, l4, l5, .val (.int z)] ((.int v) :: st) H Q = M5 56 [l0, l1, l2, l3, l4, l5, .val (.int v)] st H Q := w_st (i := 6) (p := isI) (show decode kb5 54 = .ok (.istore 6, 2) from by decide +kernel) rfl rfl rfl rfl rfl rfl
theorem m5_54r : M5 54 [l0, l1, l2, l3, l4, l5, .val (.ref q)] ((.int v) :: st) H Q = M5 56 [l0, l1, l2, l3, l4, l5, .val (.int v)] st H Q := w_st (i := 6) (p := isI) (show decode kb5 54 = .ok (.istore 6, 2) from by decide +kernel) rfl rfl rfl rfl rfl rfl
theorem m5_54g (h : okS l6) : M5 54 [l0, l1, l2, l3, l4, l5, l6] ((.int v) :: st) H Q = M5 56 [l0, l1, l2, l3, l4, l5, .val (.int v)] st H Q := by rcases h with rfl | ⟨z, rfl⟩ <;> first | exact m5_54u | exact m5_54i
theorem m5_56 : M5 56 [l0, .val (.int v), l2, l3, l4, l5, l6] st H Q = M5 57 [l0, .val (.int v), l2, l3, l4, l5, l6] (.int v :: st) H Q := w_x (show decode kb5 56 = .ok (.iload_n 1, 1) from by decide +kernel) rfl
theorem m5_57 : M5 57 ls (.int x :: st) H Q = if x < 0 then M5 81 ls st H Q else M5 60 ls st H Q := w_if (show decode kb5 57 = .ok (.ifCond .lt 24, 3) from by decide +kernel) (z_lt x) rfl
theorem m5_60 : M5 60 [l0, l1, l2, l3, l4, .val (.int v), l6] st H Q = M5 62 [l0, l1, l2, l3, l4, .val (.int v), l6] (.int v :: st) H Q := w_x (show decode kb5 60 = .ok (.iload 5, 2) from by decide +kernel) rfl
theorem m5_62 : M5 62 [l0, l1, .val (.int v), l3, l4, l5, l6] st H Q = M5 63 [l0, l1, .val (.int v), l3, l4, l5, l6] (.int v :: st) H Q := w_x (show decode kb5 62 = .ok (.iload_n 2, 1) from by decide +kernel) rfl
theorem m5_63 : M5 63 ls (.int y :: .int x :: st) H Q = if y < x then M5 81 ls st H Q else M5 66 ls st H Q := w_icmp (show decode kb5 63 = .ok (.if_icmp .gt 18, 3) from by decide +kernel) (i_gt x y) rfl
theorem m5_66 : M5 66 [l0, l1, l2, l3, l4, .val (.int v), l6] st H Q = M5 68 [l0, l1, l2, l3, l4, .val (.int v), l6] (.int v :: st) H Q := w_x (show decode kb5 66 = .ok (.iload 5, 2) from by decide +kernel) rfl
theorem m5_68 : M5 68 [l0, l1, .val (.int v), l3, l4, l5, l6] st H Q = M5 69 [l0, l1, .val (.int v), l3, l4, l5, l6] (.int v :: st) H Q := w_x (show decode kb5 68 = .ok (.iload_n 2, 1) from by decide +kernel) rfl
theorem m5_69 : M5 69 ls (.int y :: .int x :: st) H Q = if x = y then M5 72 ls st H Q else M5 90 ls st H Q := w_icmpN (show decode kb5 69 = .ok (.if_icmp .ne 21, 3) from by decide +kernel) (i_ne x y) rfl
theorem m5_72 : M5 72 [l0, l1, l2, l3, l4, l5, .val (.int v)] st H Q = M5 74 [l0, l1, l2, l3, l4, l5, .val (.int v)] (.int v :: st) H Q := w_x (show decode kb5 72 = .ok (.iload 6, 2) from by decide +kernel) rfl
theorem m5_74 : M5 74 ls (.int x :: st) H Q = if x = 0 then M5 90 ls st H Q else M5 77 ls st H Q := w_if (show decode kb5 74 = .ok (.ifCond .eq 16, 3) from by decide +kernel) (z_eq x) rfl
theorem m5_77 : M5 77 [l0, l1, l2, .val (.int v), l4, l5, l6] st H Q = M5 78 [l0, l1, l2, .val (.int v), l4, l5, l6] (.int v :: st) H Q := w_x (show decode kb5 77 = .ok (.iload_n 3, 1) from by decide +kernel) rfl
theorem m5_78 : M5 78 ls (.int x :: st) H Q = if x = 0 then M5 81 ls st H Q else M5 90 ls st H Q := w_ifN (show decode kb5 78 = .ok (.ifCond .ne 12, 3) from by decide +kernel) (z_ne x) rfl
theorem m5_81 : M5 81 [l0, l1, l2, l3, .val (.int v), l5, l6] st H Q = M5 83 [l0, l1, l2, l3, .val (.int v), l5, l6] (.int v :: st) H Q := w_x (show decode kb5 81 = .ok (.iload 4, 2) from by decide +kernel) rfl
theorem m5_83i : M5 83 [l0, .val (.int z), l2, l3, l4, l5, l6] ((.int v) :: st) H Q = M5 84 [l0, .val (.int v), l2, l3, l4, l5, l6] st H Q := w_st (i := 1) (p := isI) (show decode kb5 83 = .ok (.istore_n 1, 1) from by decide +kernel) rfl rfl rfl rfl rfl rfl
theorem m5_84 : M5 84 [l0, l1, l2, l3, l4, .val (.int v), l6] st H Q = M5 86 [l0, l1, l2, l3, l4, .val (.int v), l6] (.int v :: st) H Q := w_x (show decode kb5 84 = .ok (.iload 5, 2) from by decide +kernel) rfl
theorem m5_86i : M5 86 [l0, l1, .val (.int z), l3, l4, l5, l6] ((.int v) :: st) H Q = M5 87 [l0, l1, .val (.int v), l3, l4, l5, l6] st H Q := w_st (i := 2) (p := isI) (show decode kb5 86 = .ok (.istore_n 2, 1) from by decide +kernel) rfl rfl rfl rfl rfl rfl
theorem m5_87 : M5 87 [l0, l1, l2, l3, l4, l5, .val (.int v)] st H Q = M5 89 [l0, l1, l2, l3, l4, l5, .val (.int v)] (.int v :: st) H Q := w_x (show decode kb5 87 = .ok (.iload 6, 2) from by decide +kernel) rfl
theorem m5_89i : M5 89 [l0, l1, l2, .val (.int z), l4, l5, l6] ((.int v) :: st) H Q = M5 90 [l0, l1, l2, .val (.int v), l4, l5, l6] st H Q := w_st (i := 3) (p := isI) (show decode kb5 89 = .ok (.istore_n 3, 1) from by decide +kernel) rfl rfl rfl rfl rfl rfl
theorem m5_90 : M5 90 [l0, l1, l2, l3, .val (.int v), l5, l6] st H Q = M5 93 [l0, l1, l2, l3, .val (.int (v + 1)), l5, l6] st H Q := w_iinc (show decode kb5 90 = .ok (.iinc 4 1, 3) from by decide +kernel) rfl (by decide) rfl
theorem m5_93 : M5 93 ls st H Q = M5 9 ls st H Q := w_x (show decode kb5 93 = .ok (.goto (-84), 3) from by decide +kernel) rfl
theorem m5_96 : M5 96 [l0, .val (.int v), l2, l3, l4, l5, l6] st H Q = M5 97 [l0, .val (.int v), l2, l3, l4, l5, l6] (.int v :: st) H Q := w_x (show decode kb5 96 = .ok (.iload_n 1, 1) from by decide +kernel) rfl
theorem m5_97 : M5 97 ls (.int z :: st) H Q = Q (some (.int z)) H := w_iret (show decode kb5 97 = .ok (.ireturn, 1) from by decide +kernel) rfl
theorem m6_0 : M6 0 ls st H Q = M6 1 ls (.int 0 :: st) H Q := w_con (show decode kb6 0 = .ok (.iconst 0, 1) from by decide +kernel) rfl (by decide)
theorem m6_1u : M6 1 [l0, .unset] ((.int v) :: st) H Q = M6 2 [l0, .val (.int v)] st H Q := w_st (i := 1) (p := isI) (show decode kb6 1 = .ok (.istore_n 1, 1) from by decide +kernel) rfl rfl rfl rfl rfl rfl
theorem m6_2 : M6 2 [l0, .val (.int v)] st H Q = M6 3 [l0, .val (.int v)] (.int v :: st) H Q := w_x (show decode kb6 2 = .ok (.iload_n 1, 1) from by decide +kernel) rfl
theorem m6_3 : M6 3 [.val (.ref r), l1] st H Q = M6 4 [.val (.ref r), l1] (.ref r :: st) H Q := w_x (show decode kb6 3 = .ok (.aload_n 0, 1) from by decide +kernel) rfl
theorem m6_4 : M6 4 ls (.ref (b + 1) :: st) (put (b + 1) pre s A post) Q = M6 7 ls (.int (s 1) :: st) (put (b + 1) pre s A post) Q := w_get (show decode kb6 4 = .ok (.getfield 75, 3) from by decide +kernel) gf_75 put_o rfl
theorem m6_7 : M6 7 ls (.int y :: .int x :: st) H Q = if x < y then M6 10 ls st H Q else M6 69 ls st H Q := w_icmpN (show decode kb6 7 = .ok (.if_icmp .ge 62, 3) from by decide +kernel) (i_ge x y) rfl
theorem m6_10 : M6 10 [.val (.ref r), l1] st H Q = M6 11 [.val (.ref r), l1] (.ref r :: st) H Q := w_x (show decode kb6 10 = .ok (.aload_n 0, 1) from by decide +kernel) rfl
theorem m6_11 : M6 11 ls (.ref (b + 1) :: st) (put (b + 1) pre s A post) Q = M6 14 ls (.ref ((b + 1) + 15) :: st) (put (b + 1) pre s A post) Q := w_get (show decode kb6 11 = .ok (.getfield 52, 3) from by decide +kernel) gf_52 put_o rfl
theorem m6_14 : M6 14 [l0, .val (.int v)] st H Q = M6 15 [l0, .val (.int v)] (.int v :: st) H Q := w_x (show decode kb6 14 = .ok (.iload_n 1, 1) from by decide +kernel) rfl
theorem m6_15  : M6 15 ls (.int j :: .ref ((b + 1) + 15) :: st) (put (b + 1) pre s A post) Q = (inB j (A 14) ∧ M6 16 ls (.int (getA (A 14) j) :: st) (put (b + 1) pre s A post) Q) := w_ild (show decode kb6 15 = .ok (.baload, 1) from by decide +kernel) rfl put_a14
theorem m6_16 : M6 16 ls (.int x :: st) H Q = if x = 0 then M6 63 ls st H Q else M6 19 ls st H Q := w_if (show decode kb6 16 = .ok (.ifCond .eq 47, 3) from by decide +kernel) (z_eq x) rfl
theorem m6_19 : M6 19 [.val (.ref r), l1] st H Q = M6 20 [.val (.ref r), l1] (.ref r :: st) H Q := w_x (show decode kb6 19 = .ok (.aload_n 0, 1) from by decide +kernel) rfl
theorem m6_20 : M6 20 ls (.ref (b + 1) :: st) (put (b + 1) pre s A post) Q = M6 23 ls (.ref ((b + 1) + 16) :: st) (put (b + 1) pre s A post) Q := w_get (show decode kb6 20 = .ok (.getfield 56, 3) from by decide +kernel) gf_56 put_o rfl
theorem m6_23 : M6 23 [l0, .val (.int v)] st H Q = M6 24 [l0, .val (.int v)] (.int v :: st) H Q := w_x (show decode kb6 23 = .ok (.iload_n 1, 1) from by decide +kernel) rfl
theorem m6_24  : M6 24 ls (.int j :: .ref ((b + 1) + 16) :: st) (put (b + 1) pre s A post) Q = (inB j (A 15) ∧ M6 25 ls (.int (getA (A 15) j) :: st) (put (b + 1) pre s A post) Q) := w_ild (show decode kb6 24 = .ok (.iaload, 1) from by decide +kernel) rfl put_a15
theorem m6_25 : M6 25 [.val (.ref r), l1] st H Q = M6 26 [.val (.ref r), l1] (.ref r :: st) H Q := w_x (show decode kb6 25 = .ok (.aload_n 0, 1) from by decide +kernel) rfl
theorem m6_26 : M6 26 ls (.ref (b + 1) :: st) (put (b + 1) pre s A post) Q = M6 29 ls (.ref ((b + 1) + 2) :: st) (put (b + 1) pre s A post) Q := w_get (show decode kb6 26 = .ok (.getfield 13, 3) from by decide +kernel) gf_13 put_o rfl
theorem m6_29 : M6 29 [l0, .val (.int v)] st H Q = M6 30 [l0, .val (.int v)] (.int v :: st) H Q := w_x (show decode kb6 29 = .ok (.iload_n 1, 1) from by decide +kernel) rfl
theorem m6_30  : M6 30 ls (.int j :: .ref ((b + 1) + 2) :: st) (put (b + 1) pre s A post) Q = (inB j (A 1) ∧ M6 31 ls (.int (getA (A 1) j) :: st) (put (b + 1) pre s A post) Q) := w_ild (show decode kb6 30 = .ok (.iaload, 1) from by decide +kernel) rfl put_a1
theorem m6_31 : M6 31 ls (.int y :: .int x :: st) H Q = M6 32 ls (.int (x + y) :: st) H Q := w_x (show decode kb6 31 = .ok (.iadd, 1) from by decide +kernel) rfl
theorem m6_32 : M6 32 [.val (.ref r), l1] st H Q = M6 33 [.val (.ref r), l1] (.ref r :: st) H Q := w_x (show decode kb6 32 = .ok (.aload_n 0, 1) from by decide +kernel) rfl
theorem m6_33 : M6 33 ls (.ref (b + 1) :: st) (put (b + 1) pre s A post) Q = M6 36 ls (.int (s 9) :: st) (put (b + 1) pre s A post) Q := w_get (show decode kb6 33 = .ok (.getfield 145, 3) from by decide +kernel) gf_145 put_o rfl
theorem m6_36 : M6 36 ls (.int y :: .int x :: st) H Q = if x = y then M6 39 ls st H Q else M6 63 ls st H Q := w_icmpN (show decode kb6 36 = .ok (.if_icmp .ne 27, 3) from by decide +kernel) (i_ne x y) rfl
theorem m6_39 : M6 39 [.val (.ref r), l1] st H Q = M6 40 [.val (.ref r), l1] (.ref r :: st) H Q := w_x (show decode kb6 39 = .ok (.aload_n 0, 1) from by decide +kernel) rfl
theorem m6_40 : M6 40 ls ((.ref r) :: st) H Q = M6 41 ls ((.ref r) :: (.ref r) :: st) H Q := w_x (show decode kb6 40 = .ok (.dup, 1) from by decide +kernel) rfl
theorem m6_41 : M6 41 ls (.ref (b + 1) :: st) (put (b + 1) pre s A post) Q = M6 44 ls (.int (s 10) :: st) (put (b + 1) pre s A post) Q := w_get (show decode kb6 41 = .ok (.getfield 148, 3) from by decide +kernel) gf_148 put_o rfl
theorem m6_44 : M6 44 ls st H Q = M6 45 ls (.int 1 :: st) H Q := w_con (show decode kb6 44 = .ok (.iconst 1, 1) from by decide +kernel) rfl (by decide)
theorem m6_45 : M6 45 ls (.int y :: .int x :: st) H Q = M6 46 ls (.int (x + y) :: st) H Q := w_x (show decode kb6 45 = .ok (.iadd, 1) from by decide +kernel) rfl
theorem pf6_148 : pfR tables_1 y6.cls y6.name 148 = some ("ResponseTimeGate", 26, .int) := by decide +kernel
theorem m6_46 : M6 46 ls (.int v :: .ref (b + 1) :: st) (put (b + 1) pre s A post) Q = M6 49 ls st (put (b + 1) pre (ou s 10 v) A post) Q := w_put (show decode kb6 46 = .ok (.putfield 148, 3) from by decide +kernel) pf6_148 put_o (Nat.succ_le_succ (Nat.zero_le _)) (by show 26 < 31; omega) rfl put_s10
theorem m6_49 : M6 49 [.val (.ref r), l1] st H Q = M6 50 [.val (.ref r), l1] (.ref r :: st) H Q := w_x (show decode kb6 49 = .ok (.aload_n 0, 1) from by decide +kernel) rfl
theorem m6_50 : M6 50 ls (.ref (b + 1) :: st) (put (b + 1) pre s A post) Q = M6 53 ls (.ref ((b + 1) + 18) :: st) (put (b + 1) pre s A post) Q := w_get (show decode kb6 50 = .ok (.getfield 62, 3) from by decide +kernel) gf_62 put_o rfl
theorem m6_53 : M6 53 [l0, .val (.int v)] st H Q = M6 54 [l0, .val (.int v)] (.int v :: st) H Q := w_x (show decode kb6 53 = .ok (.iload_n 1, 1) from by decide +kernel) rfl
theorem m6_54 : M6 54 ls st H Q = M6 55 ls (.int (-1) :: st) H Q := w_con (show decode kb6 54 = .ok (.iconst (-1), 1) from by decide +kernel) rfl (by decide)
theorem m6_55  : M6 55 ls (.int v :: .int j :: .ref ((b + 1) + 18) :: st) (put (b + 1) pre s A post) Q = (inB j (A 17) ∧ M6 56 ls st (put (b + 1) pre s (ou A 17 (setA (A 17) j v)) post) Q) := w_ist (show decode kb6 55 = .ok (.iastore, 1) from by decide +kernel) rfl put_a17 (by omega) rfl put_w17
theorem m6_56 : M6 56 [.val (.ref r), l1] st H Q = M6 57 [.val (.ref r), l1] (.ref r :: st) H Q := w_x (show decode kb6 56 = .ok (.aload_n 0, 1) from by decide +kernel) rfl
theorem m6_57 : M6 57 ls (.ref (b + 1) :: st) (put (b + 1) pre s A post) Q = M6 60 ls (.ref ((b + 1) + 15) :: st) (put (b + 1) pre s A post) Q := w_get (show decode kb6 57 = .ok (.getfield 52, 3) from by decide +kernel) gf_52 put_o rfl
theorem m6_60 : M6 60 [l0, .val (.int v)] st H Q = M6 61 [l0, .val (.int v)] (.int v :: st) H Q := w_x (show decode kb6 60 = .ok (.iload_n 1, 1) from by decide +kernel) rfl
theorem m6_61 : M6 61 ls st H Q = M6 62 ls (.int 0 :: st) H Q := w_con (show decode kb6 61 = .ok (.iconst 0, 1) from by decide +kernel) rfl (by decide)
theorem m6_62  : M6 62 ls (.int v :: .int j :: .ref ((b + 1) + 15) :: st) (put (b + 1) pre s A post) Q = (inB j (A 14) ∧ M6 63 ls st (put (b + 1) pre s (ou A 14 (setA (A 14) j (nar .boolean v))) post) Q) := w_ist (show decode kb6 62 = .ok (.bastore, 1) from by decide +kernel) rfl put_a14 (by omega) rfl put_w14
theorem m6_63 : M6 63 [l0, .val (.int v)] st H Q = M6 66 [l0, .val (.int (v + 1))] st H Q := w_iinc (show decode kb6 63 = .ok (.iinc 1 1, 3) from by decide +kernel) rfl (by decide) rfl
theorem m6_66 : M6 66 ls st H Q = M6 2 ls st H Q := w_x (show decode kb6 66 = .ok (.goto (-64), 3) from by decide +kernel) rfl
theorem m6_69 : M6 69 ls [] H Q = Q none H := w_vret (show decode kb6 69 = .ok (.return_, 1) from by decide +kernel) rfl
theorem m7_0 : M7 0 [.val (.ref r)] st H Q = M7 1 [.val (.ref r)] (.ref r :: st) H Q := w_x (show decode kb7 0 = .ok (.aload_n 0, 1) from by decide +kernel) rfl
theorem m7_1 : M7 1 ls (.ref (b + 1) :: st) (put (b + 1) pre s A post) Q = M7 4 ls (.int (s 1) :: st) (put (b + 1) pre s A post) Q := w_get (show decode kb7 1 = .ok (.getfield 75, 3) from by decide +kernel) gf_75 put_o rfl
theorem m7_4 : M7 4 ls (.int z :: st) H Q = Q (some (.int z)) H := w_iret (show decode kb7 4 = .ok (.ireturn, 1) from by decide +kernel) rfl
theorem m8_0 : M8 0 [.val (.ref r)] st H Q = M8 1 [.val (.ref r)] (.ref r :: st) H Q := w_x (show decode kb8 0 = .ok (.aload_n 0, 1) from by decide +kernel) rfl
theorem m8_1 : M8 1 ls (.ref (b + 1) :: st) (put (b + 1) pre s A post) Q = M8 4 ls (.int (s 2) :: st) (put (b + 1) pre s A post) Q := w_get (show decode kb8 1 = .ok (.getfield 85, 3) from by decide +kernel) gf_85 put_o rfl
theorem m8_4 : M8 4 ls (.int z :: st) H Q = Q (some (.int z)) H := w_iret (show decode kb8 4 = .ok (.ireturn, 1) from by decide +kernel) rfl
theorem m9_0 : M9 0 [.val (.ref r)] st H Q = M9 1 [.val (.ref r)] (.ref r :: st) H Q := w_x (show decode kb9 0 = .ok (.aload_n 0, 1) from by decide +kernel) rfl
theorem m9_1 : M9 1 ls (.ref (b + 1) :: st) (put (b + 1) pre s A post) Q = M9 4 ls (.int (s 3) :: st) (put (b + 1) pre s A post) Q := w_get (show decode kb9 1 = .ok (.getfield 82, 3) from by decide +kernel) gf_82 put_o rfl
theorem m9_4 : M9 4 ls (.int z :: st) H Q = Q (some (.int z)) H := w_iret (show decode kb9 4 = .ok (.ireturn, 1) from by decide +kernel) rfl
theorem m10_0 : M10 0 [.val (.ref r), l1] st H Q = M10 1 [.val (.ref r), l1] (.ref r :: st) H Q := w_x (show decode kb10 0 = .ok (.aload_n 0, 1) from by decide +kernel) rfl
theorem m10_1 : M10 1 [l0, .val (.int v)] st H Q = M10 2 [l0, .val (.int v)] (.int v :: st) H Q := w_x (show decode kb10 1 = .ok (.iload_n 1, 1) from by decide +kernel) rfl
theorem cr10_142 : vR tables_1 dn y10 142 = some (true, y11, prog_1_method_16_code, 2, (some .boolean), 1, 0) := pR_of (cR_of (by decide +kernel) rc_11 dn_11 dn_10 (sig := ⟨[.int], some .boolean⟩) (by decide +kernel) (by decide +kernel) rfl rfl) (by decide +kernel) (by decide +kernel)
theorem m10_2 (a0 : Int32) : M10 2 ls [.int a0, .ref (b + 1)] (put (b + 1) pre s A post) Q = M11 0 [.val (.ref (b + 1)), .val (.int a0)] [] (put (b + 1) pre s A post) (fun v H1 => M10 5 ls (v.toList ++ []) H1 Q) := w_virt (as := [.int a0]) (rest := []) (a := (b + 1)) (show decode kb10 2 = .ok (.invokevirtual 142, 3) from by decide +kernel) cr10_142 put_o rfl rfl (Nat.le_of_ble_eq_true rfl) (by show 2 ≤ 2; omega) rfl
theorem m10_5 : M10 5 ls (.int x :: st) H Q = if x = 0 then M10 8 ls st H Q else M10 10 ls st H Q := w_ifN (show decode kb10 5 = .ok (.ifCond .ne 5, 3) from by decide +kernel) (z_ne x) rfl
theorem m10_8 : M10 8 ls st H Q = M10 9 ls (.int (-1) :: st) H Q := w_con (show decode kb10 8 = .ok (.iconst (-1), 1) from by decide +kernel) rfl (by decide)
theorem m10_9 : M10 9 ls (.int z :: st) H Q = Q (some (.int z)) H := w_iret (show decode kb10 9 = .ok (.ireturn, 1) from by decide +kernel) rfl
theorem m10_10 : M10 10 [.val (.ref r), l1] st H Q = M10 11 [.val (.ref r), l1] (.ref r :: st) H Q := w_x (show decode kb10 10 = .ok (.aload_n 0, 1) from by decide +kernel) rfl
theorem m10_11 : M10 11 ls (.ref (b + 1) :: st) (put (b + 1) pre s A post) Q = M10 14 ls (.ref ((b + 1) + 7) :: st) (put (b + 1) pre s A post) Q := w_get (show decode kb10 11 = .ok (.getfield 28, 3) from by decide +kernel) gf_28 put_o rfl
theorem m10_14 : M10 14 [l0, .val (.int v)] st H Q = M10 15 [l0, .val (.int v)] (.int v :: st) H Q := w_x (show decode kb10 14 = .ok (.iload_n 1, 1) from by decide +kernel) rfl
theorem m10_15  : M10 15 ls (.int j :: .ref ((b + 1) + 7) :: st) (put (b + 1) pre s A post) Q = (inB j (A 6) ∧ M10 16 ls (.int (getA (A 6) j) :: st) (put (b + 1) pre s A post) Q) := w_ild (show decode kb10 15 = .ok (.iaload, 1) from by decide +kernel) rfl put_a6
theorem m10_16 : M10 16 ls (.int z :: st) H Q = Q (some (.int z)) H := w_iret (show decode kb10 16 = .ok (.ireturn, 1) from by decide +kernel) rfl
theorem m11_0 : M11 0 [l0, .val (.int v)] st H Q = M11 1 [l0, .val (.int v)] (.int v :: st) H Q := w_x (show decode kb11 0 = .ok (.iload_n 1, 1) from by decide +kernel) rfl
theorem m11_1 : M11 1 ls (.int x :: st) H Q = if x < 0 then M11 16 ls st H Q else M11 4 ls st H Q := w_if (show decode kb11 1 = .ok (.ifCond .lt 15, 3) from by decide +kernel) (z_lt x) rfl
theorem m11_4 : M11 4 [l0, .val (.int v)] st H Q = M11 5 [l0, .val (.int v)] (.int v :: st) H Q := w_x (show decode kb11 4 = .ok (.iload_n 1, 1) from by decide +kernel) rfl
theorem m11_5 : M11 5 [.val (.ref r), l1] st H Q = M11 6 [.val (.ref r), l1] (.ref r :: st) H Q := w_x (show decode kb11 5 = .ok (.aload_n 0, 1) from by decide +kernel) rfl
theorem m11_6 : M11 6 ls (.ref (b + 1) :: st) (put (b + 1) pre s A post) Q = M11 9 ls (.int (s 1) :: st) (put (b + 1) pre s A post) Q := w_get (show decode kb11 6 = .ok (.getfield 75, 3) from by decide +kernel) gf_75 put_o rfl
theorem m11_9 : M11 9 ls (.int y :: .int x :: st) H Q = if x < y then M11 12 ls st H Q else M11 16 ls st H Q := w_icmpN (show decode kb11 9 = .ok (.if_icmp .ge 7, 3) from by decide +kernel) (i_ge x y) rfl
theorem m11_12 : M11 12 ls st H Q = M11 13 ls (.int 1 :: st) H Q := w_con (show decode kb11 12 = .ok (.iconst 1, 1) from by decide +kernel) rfl (by decide)
theorem m11_13 : M11 13 ls st H Q = M11 17 ls st H Q := w_x (show decode kb11 13 = .ok (.goto 4, 3) from by decide +kernel) rfl
theorem m11_16 : M11 16 ls st H Q = M11 17 ls (.int 0 :: st) H Q := w_con (show decode kb11 16 = .ok (.iconst 0, 1) from by decide +kernel) rfl (by decide)
theorem m11_17 : M11 17 ls (.int z :: st) H Q = Q (some (.int (nar .boolean z))) H := w_iretN (show decode kb11 17 = .ok (.ireturn, 1) from by decide +kernel) rfl (by simp)
theorem m12_0 : M12 0 [.val (.ref r), l1] st H Q = M12 1 [.val (.ref r), l1] (.ref r :: st) H Q := w_x (show decode kb12 0 = .ok (.aload_n 0, 1) from by decide +kernel) rfl
theorem m12_1 : M12 1 [l0, .val (.int v)] st H Q = M12 2 [l0, .val (.int v)] (.int v :: st) H Q := w_x (show decode kb12 1 = .ok (.iload_n 1, 1) from by decide +kernel) rfl
theorem cr12_142 : vR tables_1 dn y12 142 = some (true, y11, prog_1_method_16_code, 2, (some .boolean), 1, 0) := pR_of (cR_of (by decide +kernel) rc_11 dn_11 dn_12 (sig := ⟨[.int], some .boolean⟩) (by decide +kernel) (by decide +kernel) rfl rfl) (by decide +kernel) (by decide +kernel)
theorem m12_2 (a0 : Int32) : M12 2 ls [.int a0, .ref (b + 1)] (put (b + 1) pre s A post) Q = M11 0 [.val (.ref (b + 1)), .val (.int a0)] [] (put (b + 1) pre s A post) (fun v H1 => M12 5 ls (v.toList ++ []) H1 Q) := w_virt (as := [.int a0]) (rest := []) (a := (b + 1)) (show decode kb12 2 = .ok (.invokevirtual 142, 3) from by decide +kernel) cr12_142 put_o rfl rfl (Nat.le_of_ble_eq_true rfl) (by show 2 ≤ 2; omega) rfl
theorem m12_5 : M12 5 ls (.int x :: st) H Q = if x = 0 then M12 8 ls st H Q else M12 10 ls st H Q := w_ifN (show decode kb12 5 = .ok (.ifCond .ne 5, 3) from by decide +kernel) (z_ne x) rfl
theorem m12_8 : M12 8 ls st H Q = M12 9 ls (.int (-1) :: st) H Q := w_con (show decode kb12 8 = .ok (.iconst (-1), 1) from by decide +kernel) rfl (by decide)
theorem m12_9 : M12 9 ls (.int z :: st) H Q = Q (some (.int z)) H := w_iret (show decode kb12 9 = .ok (.ireturn, 1) from by decide +kernel) rfl
theorem m12_10 : M12 10 [.val (.ref r), l1] st H Q = M12 11 [.val (.ref r), l1] (.ref r :: st) H Q := w_x (show decode kb12 10 = .ok (.aload_n 0, 1) from by decide +kernel) rfl
theorem m12_11 : M12 11 ls (.ref (b + 1) :: st) (put (b + 1) pre s A post) Q = M12 14 ls (.ref ((b + 1) + 8) :: st) (put (b + 1) pre s A post) Q := w_get (show decode kb12 11 = .ok (.getfield 31, 3) from by decide +kernel) gf_31 put_o rfl
theorem m12_14 : M12 14 [l0, .val (.int v)] st H Q = M12 15 [l0, .val (.int v)] (.int v :: st) H Q := w_x (show decode kb12 14 = .ok (.iload_n 1, 1) from by decide +kernel) rfl
theorem m12_15  : M12 15 ls (.int j :: .ref ((b + 1) + 8) :: st) (put (b + 1) pre s A post) Q = (inB j (A 7) ∧ M12 16 ls (.int (getA (A 7) j) :: st) (put (b + 1) pre s A post) Q) := w_ild (show decode kb12 15 = .ok (.iaload, 1) from by decide +kernel) rfl put_a7
theorem m12_16 : M12 16 ls (.int z :: st) H Q = Q (some (.int z)) H := w_iret (show decode kb12 16 = .ok (.ireturn, 1) from by decide +kernel) rfl
theorem m13_0 : M13 0 [l0, .val (.int v)] st H Q = M13 1 [l0, .val (.int v)] (.int v :: st) H Q := w_x (show decode kb13 0 = .ok (.iload_n 1, 1) from by decide +kernel) rfl
theorem m13_1 : M13 1 ls (.int x :: st) H Q = if x < 0 then M13 9 ls st H Q else M13 4 ls st H Q := w_if (show decode kb13 1 = .ok (.ifCond .lt 8, 3) from by decide +kernel) (z_lt x) rfl
theorem m13_4 : M13 4 [l0, .val (.int v)] st H Q = M13 5 [l0, .val (.int v)] (.int v :: st) H Q := w_x (show decode kb13 4 = .ok (.iload_n 1, 1) from by decide +kernel) rfl
theorem m13_5 : M13 5 ls st H Q = M13 6 ls (.int 4 :: st) H Q := w_con (show decode kb13 5 = .ok (.iconst 4, 1) from by decide +kernel) rfl (by decide)
theorem m13_6 : M13 6 ls (.int y :: .int x :: st) H Q = if x < y then M13 11 ls st H Q else M13 9 ls st H Q := w_icmp (show decode kb13 6 = .ok (.if_icmp .lt 5, 3) from by decide +kernel) (i_lt x y) rfl
theorem m13_9 : M13 9 ls st H Q = M13 10 ls (.int (-1) :: st) H Q := w_con (show decode kb13 9 = .ok (.iconst (-1), 1) from by decide +kernel) rfl (by decide)
theorem m13_10 : M13 10 ls (.int z :: st) H Q = Q (some (.int z)) H := w_iret (show decode kb13 10 = .ok (.ireturn, 1) from by decide +kernel) rfl
theorem m13_11 : M13 11 [.val (.ref r), l1] st H Q = M13 12 [.val (.ref r), l1] (.ref r :: st) H Q := w_x (show decode kb13 11 = .ok (.aload_n 0, 1) from by decide +kernel) rfl
theorem m13_12 : M13 12 ls (.ref (b + 1) :: st) (put (b + 1) pre s A post) Q = M13 15 ls (.ref ((b + 1) + 9) :: st) (put (b + 1) pre s A post) Q := w_get (show decode kb13 12 = .ok (.getfield 34, 3) from by decide +kernel) gf_34 put_o rfl
theorem m13_15 : M13 15 [l0, .val (.int v)] st H Q = M13 16 [l0, .val (.int v)] (.int v :: st) H Q := w_x (show decode kb13 15 = .ok (.iload_n 1, 1) from by decide +kernel) rfl
theorem m13_16  : M13 16 ls (.int j :: .ref ((b + 1) + 9) :: st) (put (b + 1) pre s A post) Q = (inB j (A 8) ∧ M13 17 ls (.int (getA (A 8) j) :: st) (put (b + 1) pre s A post) Q) := w_ild (show decode kb13 16 = .ok (.iaload, 1) from by decide +kernel) rfl put_a8
theorem m13_17 : M13 17 ls (.int z :: st) H Q = Q (some (.int z)) H := w_iret (show decode kb13 17 = .ok (.ireturn, 1) from by decide +kernel) rfl
theorem m14_0 : M14 0 [.val (.ref r), l1, l2, l3, l4, l5] st H Q = M14 1 [.val (.ref r), l1, l2, l3, l4, l5] (.ref r :: st) H Q := w_x (show decode kb14 0 = .ok (.aload_n 0, 1) from by decide +kernel) rfl
theorem m14_1 : M14 1 ls (.ref (b + 1) :: st) (put (b + 1) pre s A post) Q = M14 4 ls (.int (s 1) :: st) (put (b + 1) pre s A post) Q := w_get (show decode kb14 1 = .ok (.getfield 75, 3) from by decide +kernel) gf_75 put_o rfl
theorem m14_4 : M14 4 [.val (.ref r), l1, l2, l3, l4, l5] st H Q = M14 5 [.val (.ref r), l1, l2, l3, l4, l5] (.ref r :: st) H Q := w_x (show decode kb14 4 = .ok (.aload_n 0, 1) from by decide +kernel) rfl
theorem m14_5 : M14 5 ls (.ref (b + 1) :: st) (put (b + 1) pre s A post) Q = M14 8 ls (.int (s 0) :: st) (put (b + 1) pre s A post) Q := w_get (show decode kb14 5 = .ok (.getfield 71, 3) from by decide +kernel) gf_71 put_o rfl
theorem m14_8 : M14 8 ls (.int y :: .int x :: st) H Q = if x < y then M14 13 ls st H Q else M14 11 ls st H Q := w_icmp (show decode kb14 8 = .ok (.if_icmp .lt 5, 3) from by decide +kernel) (i_lt x y) rfl
theorem m14_11 : M14 11 ls st H Q = M14 12 ls (.int (-1) :: st) H Q := w_con (show decode kb14 11 = .ok (.iconst (-1), 1) from by decide +kernel) rfl (by decide)
theorem m14_12 : M14 12 ls (.int z :: st) H Q = Q (some (.int z)) H := w_iret (show decode kb14 12 = .ok (.ireturn, 1) from by decide +kernel) rfl
theorem m14_13 : M14 13 [l0, .val (.int v), l2, l3, l4, l5] st H Q = M14 14 [l0, .val (.int v), l2, l3, l4, l5] (.int v :: st) H Q := w_x (show decode kb14 13 = .ok (.iload_n 1, 1) from by decide +kernel) rfl
theorem m14_14 : M14 14 ls st H Q = M14 15 ls (.int 1 :: st) H Q := w_con (show decode kb14 14 = .ok (.iconst 1, 1) from by decide +kernel) rfl (by decide)
theorem m14_15 : M14 15 ls (.int y :: .int x :: st) H Q = if x < y then M14 25 ls st H Q else M14 18 ls st H Q := w_icmp (show decode kb14 15 = .ok (.if_icmp .lt 10, 3) from by decide +kernel) (i_lt x y) rfl
theorem m14_18 : M14 18 [l0, .val (.int v), l2, l3, l4, l5] st H Q = M14 19 [l0, .val (.int v), l2, l3, l4, l5] (.int v :: st) H Q := w_x (show decode kb14 18 = .ok (.iload_n 1, 1) from by decide +kernel) rfl
theorem m14_19 : M14 19 ls st H Q = M14 22 ls (.int 840 :: st) H Q := w_con (show decode kb14 19 = .ok (.sipush 840, 3) from by decide +kernel) rfl (by decide)
theorem m14_22 : M14 22 ls (.int y :: .int x :: st) H Q = if y < x then M14 25 ls st H Q else M14 28 ls st H Q := w_icmpN (show decode kb14 22 = .ok (.if_icmp .le 6, 3) from by decide +kernel) (i_le x y) rfl
theorem m14_25 : M14 25 ls st H Q = M14 27 ls (.int (-2) :: st) H Q := w_con (show decode kb14 25 = .ok (.bipush (-2), 2) from by decide +kernel) rfl (by decide)
theorem m14_27 : M14 27 ls (.int z :: st) H Q = Q (some (.int z)) H := w_iret (show decode kb14 27 = .ok (.ireturn, 1) from by decide +kernel) rfl
theorem m14_28 : M14 28 [l0, l1, .val (.int v), l3, l4, l5] st H Q = M14 29 [l0, l1, .val (.int v), l3, l4, l5] (.int v :: st) H Q := w_x (show decode kb14 28 = .ok (.iload_n 2, 1) from by decide +kernel) rfl
theorem m14_29 : M14 29 ls st H Q = M14 30 ls (.int 1 :: st) H Q := w_con (show decode kb14 29 = .ok (.iconst 1, 1) from by decide +kernel) rfl (by decide)
theorem m14_30 : M14 30 ls (.int y :: .int x :: st) H Q = if x < y then M14 38 ls st H Q else M14 33 ls st H Q := w_icmp (show decode kb14 30 = .ok (.if_icmp .lt 8, 3) from by decide +kernel) (i_lt x y) rfl
theorem m14_33 : M14 33 [l0, l1, .val (.int v), l3, l4, l5] st H Q = M14 34 [l0, l1, .val (.int v), l3, l4, l5] (.int v :: st) H Q := w_x (show decode kb14 33 = .ok (.iload_n 2, 1) from by decide +kernel) rfl
theorem m14_34 : M14 34 [l0, .val (.int v), l2, l3, l4, l5] st H Q = M14 35 [l0, .val (.int v), l2, l3, l4, l5] (.int v :: st) H Q := w_x (show decode kb14 34 = .ok (.iload_n 1, 1) from by decide +kernel) rfl
theorem m14_35 : M14 35 ls (.int y :: .int x :: st) H Q = if y < x then M14 38 ls st H Q else M14 41 ls st H Q := w_icmpN (show decode kb14 35 = .ok (.if_icmp .le 6, 3) from by decide +kernel) (i_le x y) rfl
theorem m14_38 : M14 38 ls st H Q = M14 40 ls (.int (-2) :: st) H Q := w_con (show decode kb14 38 = .ok (.bipush (-2), 2) from by decide +kernel) rfl (by decide)
theorem m14_40 : M14 40 ls (.int z :: st) H Q = Q (some (.int z)) H := w_iret (show decode kb14 40 = .ok (.ireturn, 1) from by decide +kernel) rfl
theorem m14_41 : M14 41 [l0, l1, l2, .val (.int v), l4, l5] st H Q = M14 42 [l0, l1, l2, .val (.int v), l4, l5] (.int v :: st) H Q := w_x (show decode kb14 41 = .ok (.iload_n 3, 1) from by decide +kernel) rfl
theorem m14_42 : M14 42 ls st H Q = M14 43 ls (.int 1 :: st) H Q := w_con (show decode kb14 42 = .ok (.iconst 1, 1) from by decide +kernel) rfl (by decide)
theorem m14_43 : M14 43 ls (.int y :: .int x :: st) H Q = if x < y then M14 51 ls st H Q else M14 46 ls st H Q := w_icmp (show decode kb14 43 = .ok (.if_icmp .lt 8, 3) from by decide +kernel) (i_lt x y) rfl
theorem m14_46 : M14 46 [l0, l1, l2, .val (.int v), l4, l5] st H Q = M14 47 [l0, l1, l2, .val (.int v), l4, l5] (.int v :: st) H Q := w_x (show decode kb14 46 = .ok (.iload_n 3, 1) from by decide +kernel) rfl
theorem m14_47 : M14 47 [l0, l1, .val (.int v), l3, l4, l5] st H Q = M14 48 [l0, l1, .val (.int v), l3, l4, l5] (.int v :: st) H Q := w_x (show decode kb14 47 = .ok (.iload_n 2, 1) from by decide +kernel) rfl
theorem m14_48 : M14 48 ls (.int y :: .int x :: st) H Q = if y < x then M14 51 ls st H Q else M14 54 ls st H Q := w_icmpN (show decode kb14 48 = .ok (.if_icmp .le 6, 3) from by decide +kernel) (i_le x y) rfl
theorem m14_51 : M14 51 ls st H Q = M14 53 ls (.int (-2) :: st) H Q := w_con (show decode kb14 51 = .ok (.bipush (-2), 2) from by decide +kernel) rfl (by decide)
theorem m14_53 : M14 53 ls (.int z :: st) H Q = Q (some (.int z)) H := w_iret (show decode kb14 53 = .ok (.ireturn, 1) from by decide +kernel) rfl
theorem m14_54 : M14 54 [l0, l1, l2, l3, .val (.int v), l5] st H Q = M14 56 [l0, l1, l2, l3, .val (.int v), l5] (.int v :: st) H Q := w_x (show decode kb14 54 = .ok (.iload 4, 2) from by decide +kernel) rfl
theorem m14_56 : M14 56 ls st H Q = M14 57 ls (.int 1 :: st) H Q := w_con (show decode kb14 56 = .ok (.iconst 1, 1) from by decide +kernel) rfl (by decide)
theorem m14_57 : M14 57 ls (.int y :: .int x :: st) H Q = if x < y then M14 67 ls st H Q else M14 60 ls st H Q := w_icmp (show decode kb14 57 = .ok (.if_icmp .lt 10, 3) from by decide +kernel) (i_lt x y) rfl
theorem m14_60 : M14 60 [l0, l1, l2, l3, .val (.int v), l5] st H Q = M14 62 [l0, l1, l2, l3, .val (.int v), l5] (.int v :: st) H Q := w_x (show decode kb14 60 = .ok (.iload 4, 2) from by decide +kernel) rfl
theorem m14_62 : M14 62 ls st H Q = M14 64 ls (.int 63 :: st) H Q := w_con (show decode kb14 62 = .ok (.bipush 63, 2) from by decide +kernel) rfl (by decide)
theorem m14_64 : M14 64 ls (.int y :: .int x :: st) H Q = if y < x then M14 67 ls st H Q else M14 70 ls st H Q := w_icmpN (show decode kb14 64 = .ok (.if_icmp .le 6, 3) from by decide +kernel) (i_le x y) rfl
theorem m14_67 : M14 67 ls st H Q = M14 69 ls (.int (-3) :: st) H Q := w_con (show decode kb14 67 = .ok (.bipush (-3), 2) from by decide +kernel) rfl (by decide)
theorem m14_69 : M14 69 ls (.int z :: st) H Q = Q (some (.int z)) H := w_iret (show decode kb14 69 = .ok (.ireturn, 1) from by decide +kernel) rfl
theorem m14_70 : M14 70 [.val (.ref r), l1, l2, l3, l4, l5] st H Q = M14 71 [.val (.ref r), l1, l2, l3, l4, l5] (.ref r :: st) H Q := w_x (show decode kb14 70 = .ok (.aload_n 0, 1) from by decide +kernel) rfl
theorem m14_71 : M14 71 [l0, l1, l2, l3, .val (.int v), l5] st H Q = M14 73 [l0, l1, l2, l3, .val (.int v), l5] (.int v :: st) H Q := w_x (show decode kb14 71 = .ok (.iload 4, 2) from by decide +kernel) rfl
theorem cr14_91 : vR tables_1 dn y14 91 = some (true, y17, prog_1_method_3_code, 3, (some .boolean), 1, 0) := pR_of (cR_of (by decide +kernel) rc_17 dn_17 dn_14 (sig := ⟨[.int], some .boolean⟩) (by decide +kernel) (by decide +kernel) rfl rfl) (by decide +kernel) (by decide +kernel)
theorem m14_73 (a0 : Int32) : M14 73 ls [.int a0, .ref (b + 1)] (put (b + 1) pre s A post) Q = M17 0 [.val (.ref (b + 1)), .val (.int a0), .unset] [] (put (b + 1) pre s A post) (fun v H1 => M14 76 ls (v.toList ++ []) H1 Q) := w_virt (as := [.int a0]) (rest := []) (a := (b + 1)) (show decode kb14 73 = .ok (.invokevirtual 91, 3) from by decide +kernel) cr14_91 put_o rfl rfl (Nat.le_of_ble_eq_true rfl) (by show 2 ≤ 3; omega) rfl
theorem m14_76 : M14 76 ls (.int x :: st) H Q = if x = 0 then M14 82 ls st H Q else M14 79 ls st H Q := w_if (show decode kb14 76 = .ok (.ifCond .eq 6, 3) from by decide +kernel) (z_eq x) rfl
theorem m14_79 : M14 79 ls st H Q = M14 81 ls (.int (-3) :: st) H Q := w_con (show decode kb14 79 = .ok (.bipush (-3), 2) from by decide +kernel) rfl (by decide)
theorem m14_81 : M14 81 ls (.int z :: st) H Q = Q (some (.int z)) H := w_iret (show decode kb14 81 = .ok (.ireturn, 1) from by decide +kernel) rfl
theorem m14_82 : M14 82 [.val (.ref r), l1, l2, l3, l4, l5] st H Q = M14 83 [.val (.ref r), l1, l2, l3, l4, l5] (.ref r :: st) H Q := w_x (show decode kb14 82 = .ok (.aload_n 0, 1) from by decide +kernel) rfl
theorem m14_83 : M14 83 ls st H Q = M14 84 ls (.int 1 :: st) H Q := w_con (show decode kb14 83 = .ok (.iconst 1, 1) from by decide +kernel) rfl (by decide)
theorem pf14_78 : pfR tables_1 y14.cls y14.name 78 = some ("ResponseTimeGate", 22, .boolean) := by decide +kernel
theorem m14_84 : M14 84 ls (.int v :: .ref (b + 1) :: st) (put (b + 1) pre s A post) Q = M14 87 ls st (put (b + 1) pre (ou s 4 (nar .boolean v)) A post) Q := w_put (show decode kb14 84 = .ok (.putfield 78, 3) from by decide +kernel) pf14_78 put_o (Nat.succ_le_succ (Nat.zero_le _)) (by show 22 < 31; omega) rfl put_s4
theorem m14_87 : M14 87 [.val (.ref r), l1, l2, l3, l4, l5] st H Q = M14 88 [.val (.ref r), l1, l2, l3, l4, l5] (.ref r :: st) H Q := w_x (show decode kb14 87 = .ok (.aload_n 0, 1) from by decide +kernel) rfl
theorem m14_88 : M14 88 [l0, .val (.int v), l2, l3, l4, l5] st H Q = M14 89 [l0, .val (.int v), l2, l3, l4, l5] (.int v :: st) H Q := w_x (show decode kb14 88 = .ok (.iload_n 1, 1) from by decide +kernel) rfl
theorem pf14_95 : pfR tables_1 y14.cls y14.name 95 = some ("ResponseTimeGate", 27, .int) := by decide +kernel
theorem m14_89 : M14 89 ls (.int v :: .ref (b + 1) :: st) (put (b + 1) pre s A post) Q = M14 92 ls st (put (b + 1) pre (ou s 5 v) A post) Q := w_put (show decode kb14 89 = .ok (.putfield 95, 3) from by decide +kernel) pf14_95 put_o (Nat.succ_le_succ (Nat.zero_le _)) (by show 27 < 31; omega) rfl put_s5
theorem m14_92 : M14 92 [.val (.ref r), l1, l2, l3, l4, l5] st H Q = M14 93 [.val (.ref r), l1, l2, l3, l4, l5] (.ref r :: st) H Q := w_x (show decode kb14 92 = .ok (.aload_n 0, 1) from by decide +kernel) rfl
theorem m14_93 : M14 93 [l0, l1, .val (.int v), l3, l4, l5] st H Q = M14 94 [l0, l1, .val (.int v), l3, l4, l5] (.int v :: st) H Q := w_x (show decode kb14 93 = .ok (.iload_n 2, 1) from by decide +kernel) rfl
theorem pf14_98 : pfR tables_1 y14.cls y14.name 98 = some ("ResponseTimeGate", 28, .int) := by decide +kernel
theorem m14_94 : M14 94 ls (.int v :: .ref (b + 1) :: st) (put (b + 1) pre s A post) Q = M14 97 ls st (put (b + 1) pre (ou s 6 v) A post) Q := w_put (show decode kb14 94 = .ok (.putfield 98, 3) from by decide +kernel) pf14_98 put_o (Nat.succ_le_succ (Nat.zero_le _)) (by show 28 < 31; omega) rfl put_s6
theorem m14_97 : M14 97 [.val (.ref r), l1, l2, l3, l4, l5] st H Q = M14 98 [.val (.ref r), l1, l2, l3, l4, l5] (.ref r :: st) H Q := w_x (show decode kb14 97 = .ok (.aload_n 0, 1) from by decide +kernel) rfl
theorem m14_98 : M14 98 [l0, l1, l2, .val (.int v), l4, l5] st H Q = M14 99 [l0, l1, l2, .val (.int v), l4, l5] (.int v :: st) H Q := w_x (show decode kb14 98 = .ok (.iload_n 3, 1) from by decide +kernel) rfl
theorem pf14_101 : pfR tables_1 y14.cls y14.name 101 = some ("ResponseTimeGate", 29, .int) := by decide +kernel
theorem m14_99 : M14 99 ls (.int v :: .ref (b + 1) :: st) (put (b + 1) pre s A post) Q = M14 102 ls st (put (b + 1) pre (ou s 7 v) A post) Q := w_put (show decode kb14 99 = .ok (.putfield 101, 3) from by decide +kernel) pf14_101 put_o (Nat.succ_le_succ (Nat.zero_le _)) (by show 29 < 31; omega) rfl put_s7
theorem m14_102 : M14 102 [.val (.ref r), l1, l2, l3, l4, l5] st H Q = M14 103 [.val (.ref r), l1, l2, l3, l4, l5] (.ref r :: st) H Q := w_x (show decode kb14 102 = .ok (.aload_n 0, 1) from by decide +kernel) rfl
theorem m14_103 : M14 103 [l0, l1, l2, l3, .val (.int v), l5] st H Q = M14 105 [l0, l1, l2, l3, .val (.int v), l5] (.int v :: st) H Q := w_x (show decode kb14 103 = .ok (.iload 4, 2) from by decide +kernel) rfl
theorem pf14_104 : pfR tables_1 y14.cls y14.name 104 = some ("ResponseTimeGate", 30, .int) := by decide +kernel
theorem m14_105 : M14 105 ls (.int v :: .ref (b + 1) :: st) (put (b + 1) pre s A post) Q = M14 108 ls st (put (b + 1) pre (ou s 8 v) A post) Q := w_put (show decode kb14 105 = .ok (.putfield 104, 3) from by decide +kernel) pf14_104 put_o (Nat.succ_le_succ (Nat.zero_le _)) (by show 30 < 31; omega) rfl put_s8
theorem m14_108 : M14 108 ls st H Q = M14 109 ls (.int 0 :: st) H Q := w_con (show decode kb14 108 = .ok (.iconst 0, 1) from by decide +kernel) rfl (by decide)
theorem m14_109u : M14 109 [l0, l1, l2, l3, l4, .unset] ((.int v) :: st) H Q = M14 111 [l0, l1, l2, l3, l4, .val (.int v)] st H Q := w_st (i := 5) (p := isI) (show decode kb14 109 = .ok (.istore 5, 2) from by decide +kernel) rfl rfl rfl rfl rfl rfl
theorem m14_111 : M14 111 [l0, l1, l2, l3, l4, .val (.int v)] st H Q = M14 113 [l0, l1, l2, l3, l4, .val (.int v)] (.int v :: st) H Q := w_x (show decode kb14 111 = .ok (.iload 5, 2) from by decide +kernel) rfl
theorem m14_113 : M14 113 ls st H Q = M14 114 ls (.int 4 :: st) H Q := w_con (show decode kb14 113 = .ok (.iconst 4, 1) from by decide +kernel) rfl (by decide)
theorem m14_114 : M14 114 ls (.int y :: .int x :: st) H Q = if x < y then M14 117 ls st H Q else M14 139 ls st H Q := w_icmpN (show decode kb14 114 = .ok (.if_icmp .ge 25, 3) from by decide +kernel) (i_ge x y) rfl
theorem m14_117 : M14 117 [.val (.ref r), l1, l2, l3, l4, l5] st H Q = M14 118 [.val (.ref r), l1, l2, l3, l4, l5] (.ref r :: st) H Q := w_x (show decode kb14 117 = .ok (.aload_n 0, 1) from by decide +kernel) rfl
theorem m14_118 : M14 118 ls (.ref (b + 1) :: st) (put (b + 1) pre s A post) Q = M14 121 ls (.ref ((b + 1) + 10) :: st) (put (b + 1) pre s A post) Q := w_get (show decode kb14 118 = .ok (.getfield 37, 3) from by decide +kernel) gf_37 put_o rfl
theorem m14_121 : M14 121 [l0, l1, l2, l3, l4, .val (.int v)] st H Q = M14 123 [l0, l1, l2, l3, l4, .val (.int v)] (.int v :: st) H Q := w_x (show decode kb14 121 = .ok (.iload 5, 2) from by decide +kernel) rfl
theorem m14_123 : M14 123 ls st H Q = M14 124 ls (.int 0 :: st) H Q := w_con (show decode kb14 123 = .ok (.iconst 0, 1) from by decide +kernel) rfl (by decide)
theorem m14_124  : M14 124 ls (.int v :: .int j :: .ref ((b + 1) + 10) :: st) (put (b + 1) pre s A post) Q = (inB j (A 9) ∧ M14 125 ls st (put (b + 1) pre s (ou A 9 (setA (A 9) j v)) post) Q) := w_ist (show decode kb14 124 = .ok (.iastore, 1) from by decide +kernel) rfl put_a9 (by omega) rfl put_w9
theorem m14_125 : M14 125 [.val (.ref r), l1, l2, l3, l4, l5] st H Q = M14 126 [.val (.ref r), l1, l2, l3, l4, l5] (.ref r :: st) H Q := w_x (show decode kb14 125 = .ok (.aload_n 0, 1) from by decide +kernel) rfl
theorem m14_126 : M14 126 ls (.ref (b + 1) :: st) (put (b + 1) pre s A post) Q = M14 129 ls (.ref ((b + 1) + 11) :: st) (put (b + 1) pre s A post) Q := w_get (show decode kb14 126 = .ok (.getfield 40, 3) from by decide +kernel) gf_40 put_o rfl
theorem m14_129 : M14 129 [l0, l1, l2, l3, l4, .val (.int v)] st H Q = M14 131 [l0, l1, l2, l3, l4, .val (.int v)] (.int v :: st) H Q := w_x (show decode kb14 129 = .ok (.iload 5, 2) from by decide +kernel) rfl
theorem m14_131 : M14 131 ls st H Q = M14 132 ls (.int 0 :: st) H Q := w_con (show decode kb14 131 = .ok (.iconst 0, 1) from by decide +kernel) rfl (by decide)
theorem m14_132  : M14 132 ls (.int v :: .int j :: .ref ((b + 1) + 11) :: st) (put (b + 1) pre s A post) Q = (inB j (A 10) ∧ M14 133 ls st (put (b + 1) pre s (ou A 10 (setA (A 10) j v)) post) Q) := w_ist (show decode kb14 132 = .ok (.iastore, 1) from by decide +kernel) rfl put_a10 (by omega) rfl put_w10
theorem m14_133 : M14 133 [l0, l1, l2, l3, l4, .val (.int v)] st H Q = M14 136 [l0, l1, l2, l3, l4, .val (.int (v + 1))] st H Q := w_iinc (show decode kb14 133 = .ok (.iinc 5 1, 3) from by decide +kernel) rfl (by decide) rfl
theorem m14_136 : M14 136 ls st H Q = M14 111 ls st H Q := w_x (show decode kb14 136 = .ok (.goto (-25), 3) from by decide +kernel) rfl
theorem m14_139 : M14 139 ls st H Q = M14 140 ls (.int 0 :: st) H Q := w_con (show decode kb14 139 = .ok (.iconst 0, 1) from by decide +kernel) rfl (by decide)
theorem m14_140 : M14 140 ls (.int z :: st) H Q = Q (some (.int z)) H := w_iret (show decode kb14 140 = .ok (.ireturn, 1) from by decide +kernel) rfl
theorem m15_0 : M15 0 [.val (.ref r), l1, l2, l3] st H Q = M15 1 [.val (.ref r), l1, l2, l3] (.ref r :: st) H Q := w_x (show decode kb15 0 = .ok (.aload_n 0, 1) from by decide +kernel) rfl
theorem m15_1 : M15 1 ls (.ref (b + 1) :: st) (put (b + 1) pre s A post) Q = M15 4 ls (.int (s 4) :: st) (put (b + 1) pre s A post) Q := w_get (show decode kb15 1 = .ok (.getfield 78, 3) from by decide +kernel) gf_78 put_o rfl
theorem m15_4 : M15 4 ls (.int x :: st) H Q = if x = 0 then M15 7 ls st H Q else M15 10 ls st H Q := w_ifN (show decode kb15 4 = .ok (.ifCond .ne 6, 3) from by decide +kernel) (z_ne x) rfl
theorem m15_7 : M15 7 ls st H Q = M15 9 ls (.int (-4) :: st) H Q := w_con (show decode kb15 7 = .ok (.bipush (-4), 2) from by decide +kernel) rfl (by decide)
theorem m15_9 : M15 9 ls (.int z :: st) H Q = Q (some (.int z)) H := w_iret (show decode kb15 9 = .ok (.ireturn, 1) from by decide +kernel) rfl
theorem m15_10 : M15 10 [.val (.ref r), l1, l2, l3] st H Q = M15 11 [.val (.ref r), l1, l2, l3] (.ref r :: st) H Q := w_x (show decode kb15 10 = .ok (.aload_n 0, 1) from by decide +kernel) rfl
theorem m15_11 : M15 11 ls (.ref (b + 1) :: st) (put (b + 1) pre s A post) Q = M15 14 ls (.int (s 1) :: st) (put (b + 1) pre s A post) Q := w_get (show decode kb15 11 = .ok (.getfield 75, 3) from by decide +kernel) gf_75 put_o rfl
theorem m15_14u : M15 14 [l0, .unset, l2, l3] ((.int v) :: st) H Q = M15 15 [l0, .val (.int v), l2, l3] st H Q := w_st (i := 1) (p := isI) (show decode kb15 14 = .ok (.istore_n 1, 1) from by decide +kernel) rfl rfl rfl rfl rfl rfl
theorem m15_15 : M15 15 [l0, .val (.int v), l2, l3] st H Q = M15 16 [l0, .val (.int v), l2, l3] (.int v :: st) H Q := w_x (show decode kb15 15 = .ok (.iload_n 1, 1) from by decide +kernel) rfl
theorem m15_16 : M15 16 ls st H Q = M15 18 ls (.int 8 :: st) H Q := w_con (show decode kb15 16 = .ok (.bipush 8, 2) from by decide +kernel) rfl (by decide)
theorem m15_18 : M15 18 ls (.int y :: .int x :: st) H Q = if x < y then M15 28 ls st H Q else M15 21 ls st H Q := w_icmp (show decode kb15 18 = .ok (.if_icmp .lt 10, 3) from by decide +kernel) (i_lt x y) rfl
theorem m15_21 : M15 21 [.val (.ref r), l1, l2, l3] st H Q = M15 22 [.val (.ref r), l1, l2, l3] (.ref r :: st) H Q := w_x (show decode kb15 21 = .ok (.aload_n 0, 1) from by decide +kernel) rfl
theorem m15_22 : M15 22 ls st H Q = M15 23 ls (.int 0 :: st) H Q := w_con (show decode kb15 22 = .ok (.iconst 0, 1) from by decide +kernel) rfl (by decide)
theorem pf15_78 : pfR tables_1 y15.cls y15.name 78 = some ("ResponseTimeGate", 22, .boolean) := by decide +kernel
theorem m15_23 : M15 23 ls (.int v :: .ref (b + 1) :: st) (put (b + 1) pre s A post) Q = M15 26 ls st (put (b + 1) pre (ou s 4 (nar .boolean v)) A post) Q := w_put (show decode kb15 23 = .ok (.putfield 78, 3) from by decide +kernel) pf15_78 put_o (Nat.succ_le_succ (Nat.zero_le _)) (by show 22 < 31; omega) rfl put_s4
theorem m15_26 : M15 26 ls st H Q = M15 27 ls (.int (-1) :: st) H Q := w_con (show decode kb15 26 = .ok (.iconst (-1), 1) from by decide +kernel) rfl (by decide)
theorem m15_27 : M15 27 ls (.int z :: st) H Q = Q (some (.int z)) H := w_iret (show decode kb15 27 = .ok (.ireturn, 1) from by decide +kernel) rfl
theorem m15_28 : M15 28 [.val (.ref r), l1, l2, l3] st H Q = M15 29 [.val (.ref r), l1, l2, l3] (.ref r :: st) H Q := w_x (show decode kb15 28 = .ok (.aload_n 0, 1) from by decide +kernel) rfl
theorem m15_29 : M15 29 [.val (.ref r), l1, l2, l3] st H Q = M15 30 [.val (.ref r), l1, l2, l3] (.ref r :: st) H Q := w_x (show decode kb15 29 = .ok (.aload_n 0, 1) from by decide +kernel) rfl
theorem m15_30 : M15 30 ls (.ref (b + 1) :: st) (put (b + 1) pre s A post) Q = M15 33 ls (.int (s 2) :: st) (put (b + 1) pre s A post) Q := w_get (show decode kb15 30 = .ok (.getfield 85, 3) from by decide +kernel) gf_85 put_o rfl
theorem m15_33 : M15 33 [.val (.ref r), l1, l2, l3] st H Q = M15 34 [.val (.ref r), l1, l2, l3] (.ref r :: st) H Q := w_x (show decode kb15 33 = .ok (.aload_n 0, 1) from by decide +kernel) rfl
theorem m15_34 : M15 34 ls (.ref (b + 1) :: st) (put (b + 1) pre s A post) Q = M15 37 ls (.int (s 5) :: st) (put (b + 1) pre s A post) Q := w_get (show decode kb15 34 = .ok (.getfield 95, 3) from by decide +kernel) gf_95 put_o rfl
theorem cr15_111 : vR tables_1 dn y15 111 = some (true, y18, prog_1_method_10_code, 4, (some .int), 2, 22) := pR_of (cR_of (by decide +kernel) rc_18 dn_18 dn_15 (sig := ⟨[.int, .int], some .int⟩) (by decide +kernel) (by decide +kernel) rfl rfl) (by decide +kernel) (by decide +kernel)
theorem m15_37 (a0 : Int32) (a1 : Int32) : M15 37 ls [.int a1, .int a0, .ref (b + 1)] (put (b + 1) pre s A post) Q = M18 0 [.val (.ref (b + 1)), .val (.int a0), .val (.int a1), .unset] [] (put (b + 1) pre s A post) (fun v H1 => M15 40 ls (v.toList ++ []) H1 Q) := w_virt (as := [.int a1, .int a0]) (rest := []) (a := (b + 1)) (show decode kb15 37 = .ok (.invokevirtual 111, 3) from by decide +kernel) cr15_111 put_o rfl rfl (Nat.le_of_ble_eq_true rfl) (by show 3 ≤ 4; omega) rfl
theorem m15_40u : M15 40 [l0, l1, .unset, l3] ((.int v) :: st) H Q = M15 41 [l0, l1, .val (.int v), l3] st H Q := w_st (i := 2) (p := isI) (show decode kb15 40 = .ok (.istore_n 2, 1) from by decide +kernel) rfl rfl rfl rfl rfl rfl
theorem m15_41 : M15 41 [l0, l1, .val (.int v), l3] st H Q = M15 42 [l0, l1, .val (.int v), l3] (.int v :: st) H Q := w_x (show decode kb15 41 = .ok (.iload_n 2, 1) from by decide +kernel) rfl
theorem m15_42 : M15 42 ls st H Q = M15 45 ls (.int 840 :: st) H Q := w_con (show decode kb15 42 = .ok (.sipush 840, 3) from by decide +kernel) rfl (by decide)
theorem m15_45 : M15 45 ls (.int y :: .int x :: st) H Q = if y < x then M15 48 ls st H Q else M15 61 ls st H Q := w_icmpN (show decode kb15 45 = .ok (.if_icmp .le 16, 3) from by decide +kernel) (i_le x y) rfl
theorem m15_48 : M15 48 [.val (.ref r), l1, l2, l3] st H Q = M15 49 [.val (.ref r), l1, l2, l3] (.ref r :: st) H Q := w_x (show decode kb15 48 = .ok (.aload_n 0, 1) from by decide +kernel) rfl
theorem m15_49 : M15 49 ls st H Q = M15 50 ls (.int 0 :: st) H Q := w_con (show decode kb15 49 = .ok (.iconst 0, 1) from by decide +kernel) rfl (by decide)
theorem m15_50 : M15 50 ls (.int v :: .ref (b + 1) :: st) (put (b + 1) pre s A post) Q = M15 53 ls st (put (b + 1) pre (ou s 4 (nar .boolean v)) A post) Q := w_put (show decode kb15 50 = .ok (.putfield 78, 3) from by decide +kernel) pf15_78 put_o (Nat.succ_le_succ (Nat.zero_le _)) (by show 22 < 31; omega) rfl put_s4
theorem m15_53 : M15 53 [.val (.ref r), l1, l2, l3] st H Q = M15 54 [.val (.ref r), l1, l2, l3] (.ref r :: st) H Q := w_x (show decode kb15 53 = .ok (.aload_n 0, 1) from by decide +kernel) rfl
theorem m15_54 : M15 54 ls st H Q = M15 55 ls (.int (-1) :: st) H Q := w_con (show decode kb15 54 = .ok (.iconst (-1), 1) from by decide +kernel) rfl (by decide)
theorem pf15_82 : pfR tables_1 y15.cls y15.name 82 = some ("ResponseTimeGate", 23, .int) := by decide +kernel
theorem m15_55 : M15 55 ls (.int v :: .ref (b + 1) :: st) (put (b + 1) pre s A post) Q = M15 58 ls st (put (b + 1) pre (ou s 3 v) A post) Q := w_put (show decode kb15 55 = .ok (.putfield 82, 3) from by decide +kernel) pf15_82 put_o (Nat.succ_le_succ (Nat.zero_le _)) (by show 23 < 31; omega) rfl put_s3
theorem m15_58 : M15 58 ls st H Q = M15 60 ls (.int (-6) :: st) H Q := w_con (show decode kb15 58 = .ok (.bipush (-6), 2) from by decide +kernel) rfl (by decide)
theorem m15_60 : M15 60 ls (.int z :: st) H Q = Q (some (.int z)) H := w_iret (show decode kb15 60 = .ok (.ireturn, 1) from by decide +kernel) rfl
theorem m15_61 : M15 61 [.val (.ref r), l1, l2, l3] st H Q = M15 62 [.val (.ref r), l1, l2, l3] (.ref r :: st) H Q := w_x (show decode kb15 61 = .ok (.aload_n 0, 1) from by decide +kernel) rfl
theorem m15_62 : M15 62 [l0, .val (.int v), l2, l3] st H Q = M15 63 [l0, .val (.int v), l2, l3] (.int v :: st) H Q := w_x (show decode kb15 62 = .ok (.iload_n 1, 1) from by decide +kernel) rfl
theorem cr15_115 : vR tables_1 dn y15 115 = some (true, y20, prog_1_method_7_code, 3, none, 1, 41) := pR_of (cR_of (by decide +kernel) rc_20 dn_20 dn_15 (sig := ⟨[.int], none⟩) (by decide +kernel) (by decide +kernel) rfl rfl) (by decide +kernel) (by decide +kernel)
theorem m15_63 (a0 : Int32) : M15 63 ls [.int a0, .ref (b + 1)] (put (b + 1) pre s A post) Q = M20 0 [.val (.ref (b + 1)), .val (.int a0), .unset] [] (put (b + 1) pre s A post) (fun v H1 => M15 66 ls (v.toList ++ []) H1 Q) := w_virt (as := [.int a0]) (rest := []) (a := (b + 1)) (show decode kb15 63 = .ok (.invokevirtual 115, 3) from by decide +kernel) cr15_115 put_o rfl rfl (Nat.le_of_ble_eq_true rfl) (by show 2 ≤ 3; omega) rfl
theorem m15_66 : M15 66 [.val (.ref r), l1, l2, l3] st H Q = M15 67 [.val (.ref r), l1, l2, l3] (.ref r :: st) H Q := w_x (show decode kb15 66 = .ok (.aload_n 0, 1) from by decide +kernel) rfl
theorem m15_67 : M15 67 [l0, .val (.int v), l2, l3] st H Q = M15 68 [l0, .val (.int v), l2, l3] (.int v :: st) H Q := w_x (show decode kb15 67 = .ok (.iload_n 1, 1) from by decide +kernel) rfl
theorem m15_68 : M15 68 ls st H Q = M15 69 ls (.int 1 :: st) H Q := w_con (show decode kb15 68 = .ok (.iconst 1, 1) from by decide +kernel) rfl (by decide)
theorem m15_69 : M15 69 ls (.int y :: .int x :: st) H Q = M15 70 ls (.int (x + y) :: st) H Q := w_x (show decode kb15 69 = .ok (.iadd, 1) from by decide +kernel) rfl
theorem cr15_119 : vR tables_1 dn y15 119 = some (true, y21, prog_1_method_11_code, 5, (some .int), 1, 0) := pR_of (cR_of (by decide +kernel) rc_21 dn_21 dn_15 (sig := ⟨[.int], some .int⟩) (by decide +kernel) (by decide +kernel) rfl rfl) (by decide +kernel) (by decide +kernel)
theorem m15_70 (a0 : Int32) : M15 70 ls [.int a0, .ref (b + 1)] (put (b + 1) pre s A post) Q = M21 0 [.val (.ref (b + 1)), .val (.int a0), .unset, .unset, .unset] [] (put (b + 1) pre s A post) (fun v H1 => M15 73 ls (v.toList ++ []) H1 Q) := w_virt (as := [.int a0]) (rest := []) (a := (b + 1)) (show decode kb15 70 = .ok (.invokevirtual 119, 3) from by decide +kernel) cr15_119 put_o rfl rfl (Nat.le_of_ble_eq_true rfl) (by show 2 ≤ 5; omega) rfl
theorem m15_73u : M15 73 [l0, l1, l2, .unset] ((.int v) :: st) H Q = M15 74 [l0, l1, l2, .val (.int v)] st H Q := w_st (i := 3) (p := isI) (show decode kb15 73 = .ok (.istore_n 3, 1) from by decide +kernel) rfl rfl rfl rfl rfl rfl
theorem m15_74 : M15 74 [l0, l1, l2, .val (.int v)] st H Q = M15 75 [l0, l1, l2, .val (.int v)] (.int v :: st) H Q := w_x (show decode kb15 74 = .ok (.iload_n 3, 1) from by decide +kernel) rfl
theorem m15_75 : M15 75 ls (.int x :: st) H Q = if x < 0 then M15 91 ls st H Q else M15 78 ls st H Q := w_if (show decode kb15 75 = .ok (.ifCond .lt 16, 3) from by decide +kernel) (z_lt x) rfl
theorem m15_78 : M15 78 [.val (.ref r), l1, l2, l3] st H Q = M15 79 [.val (.ref r), l1, l2, l3] (.ref r :: st) H Q := w_x (show decode kb15 78 = .ok (.aload_n 0, 1) from by decide +kernel) rfl
theorem m15_79 : M15 79 ls st H Q = M15 80 ls (.int 0 :: st) H Q := w_con (show decode kb15 79 = .ok (.iconst 0, 1) from by decide +kernel) rfl (by decide)
theorem m15_80 : M15 80 ls (.int v :: .ref (b + 1) :: st) (put (b + 1) pre s A post) Q = M15 83 ls st (put (b + 1) pre (ou s 4 (nar .boolean v)) A post) Q := w_put (show decode kb15 80 = .ok (.putfield 78, 3) from by decide +kernel) pf15_78 put_o (Nat.succ_le_succ (Nat.zero_le _)) (by show 22 < 31; omega) rfl put_s4
theorem m15_83 : M15 83 [.val (.ref r), l1, l2, l3] st H Q = M15 84 [.val (.ref r), l1, l2, l3] (.ref r :: st) H Q := w_x (show decode kb15 83 = .ok (.aload_n 0, 1) from by decide +kernel) rfl
theorem m15_84 : M15 84 [l0, l1, l2, .val (.int v)] st H Q = M15 85 [l0, l1, l2, .val (.int v)] (.int v :: st) H Q := w_x (show decode kb15 84 = .ok (.iload_n 3, 1) from by decide +kernel) rfl
theorem m15_85 : M15 85 ls (.int v :: .ref (b + 1) :: st) (put (b + 1) pre s A post) Q = M15 88 ls st (put (b + 1) pre (ou s 3 v) A post) Q := w_put (show decode kb15 85 = .ok (.putfield 82, 3) from by decide +kernel) pf15_82 put_o (Nat.succ_le_succ (Nat.zero_le _)) (by show 23 < 31; omega) rfl put_s3
theorem m15_88 : M15 88 ls st H Q = M15 90 ls (.int (-7) :: st) H Q := w_con (show decode kb15 88 = .ok (.bipush (-7), 2) from by decide +kernel) rfl (by decide)
theorem m15_90 : M15 90 ls (.int z :: st) H Q = Q (some (.int z)) H := w_iret (show decode kb15 90 = .ok (.ireturn, 1) from by decide +kernel) rfl
theorem m15_91 : M15 91 [.val (.ref r), l1, l2, l3] st H Q = M15 92 [.val (.ref r), l1, l2, l3] (.ref r :: st) H Q := w_x (show decode kb15 91 = .ok (.aload_n 0, 1) from by decide +kernel) rfl
theorem m15_92 : M15 92 [l0, .val (.int v), l2, l3] st H Q = M15 93 [l0, .val (.int v), l2, l3] (.int v :: st) H Q := w_x (show decode kb15 92 = .ok (.iload_n 1, 1) from by decide +kernel) rfl
theorem m15_93 : M15 93 ls st H Q = M15 94 ls (.int 1 :: st) H Q := w_con (show decode kb15 93 = .ok (.iconst 1, 1) from by decide +kernel) rfl (by decide)
theorem m15_94 : M15 94 ls (.int y :: .int x :: st) H Q = M15 95 ls (.int (x + y) :: st) H Q := w_x (show decode kb15 94 = .ok (.iadd, 1) from by decide +kernel) rfl
theorem cr15_123 : vR tables_1 dn y15 123 = some (true, y26, prog_1_method_8_code, 3, none, 1, 41) := pR_of (cR_of (by decide +kernel) rc_26 dn_26 dn_15 (sig := ⟨[.int], none⟩) (by decide +kernel) (by decide +kernel) rfl rfl) (by decide +kernel) (by decide +kernel)
theorem m15_95 (a0 : Int32) : M15 95 ls [.int a0, .ref (b + 1)] (put (b + 1) pre s A post) Q = M26 0 [.val (.ref (b + 1)), .val (.int a0), .unset] [] (put (b + 1) pre s A post) (fun v H1 => M15 98 ls (v.toList ++ []) H1 Q) := w_virt (as := [.int a0]) (rest := []) (a := (b + 1)) (show decode kb15 95 = .ok (.invokevirtual 123, 3) from by decide +kernel) cr15_123 put_o rfl rfl (Nat.le_of_ble_eq_true rfl) (by show 2 ≤ 3; omega) rfl
theorem m15_98 : M15 98 [.val (.ref r), l1, l2, l3] st H Q = M15 99 [.val (.ref r), l1, l2, l3] (.ref r :: st) H Q := w_x (show decode kb15 98 = .ok (.aload_n 0, 1) from by decide +kernel) rfl
theorem m15_99 : M15 99 [l0, .val (.int v), l2, l3] st H Q = M15 100 [l0, .val (.int v), l2, l3] (.int v :: st) H Q := w_x (show decode kb15 99 = .ok (.iload_n 1, 1) from by decide +kernel) rfl
theorem m15_100 : M15 100 ls st H Q = M15 101 ls (.int 1 :: st) H Q := w_con (show decode kb15 100 = .ok (.iconst 1, 1) from by decide +kernel) rfl (by decide)
theorem m15_101 : M15 101 ls (.int y :: .int x :: st) H Q = M15 102 ls (.int (x + y) :: st) H Q := w_x (show decode kb15 101 = .ok (.iadd, 1) from by decide +kernel) rfl
theorem pf15_75 : pfR tables_1 y15.cls y15.name 75 = some ("ResponseTimeGate", 21, .int) := by decide +kernel
theorem m15_102 : M15 102 ls (.int v :: .ref (b + 1) :: st) (put (b + 1) pre s A post) Q = M15 105 ls st (put (b + 1) pre (ou s 1 v) A post) Q := w_put (show decode kb15 102 = .ok (.putfield 75, 3) from by decide +kernel) pf15_75 put_o (Nat.succ_le_succ (Nat.zero_le _)) (by show 21 < 31; omega) rfl put_s1
theorem m15_105 : M15 105 [.val (.ref r), l1, l2, l3] st H Q = M15 106 [.val (.ref r), l1, l2, l3] (.ref r :: st) H Q := w_x (show decode kb15 105 = .ok (.aload_n 0, 1) from by decide +kernel) rfl
theorem m15_106 : M15 106 ls st H Q = M15 107 ls (.int 0 :: st) H Q := w_con (show decode kb15 106 = .ok (.iconst 0, 1) from by decide +kernel) rfl (by decide)
theorem m15_107 : M15 107 ls (.int v :: .ref (b + 1) :: st) (put (b + 1) pre s A post) Q = M15 110 ls st (put (b + 1) pre (ou s 4 (nar .boolean v)) A post) Q := w_put (show decode kb15 107 = .ok (.putfield 78, 3) from by decide +kernel) pf15_78 put_o (Nat.succ_le_succ (Nat.zero_le _)) (by show 22 < 31; omega) rfl put_s4
theorem m15_110 : M15 110 [.val (.ref r), l1, l2, l3] st H Q = M15 111 [.val (.ref r), l1, l2, l3] (.ref r :: st) H Q := w_x (show decode kb15 110 = .ok (.aload_n 0, 1) from by decide +kernel) rfl
theorem m15_111 : M15 111 [l0, l1, .val (.int v), l3] st H Q = M15 112 [l0, l1, .val (.int v), l3] (.int v :: st) H Q := w_x (show decode kb15 111 = .ok (.iload_n 2, 1) from by decide +kernel) rfl
theorem pf15_85 : pfR tables_1 y15.cls y15.name 85 = some ("ResponseTimeGate", 24, .int) := by decide +kernel
theorem m15_112 : M15 112 ls (.int v :: .ref (b + 1) :: st) (put (b + 1) pre s A post) Q = M15 115 ls st (put (b + 1) pre (ou s 2 v) A post) Q := w_put (show decode kb15 112 = .ok (.putfield 85, 3) from by decide +kernel) pf15_85 put_o (Nat.succ_le_succ (Nat.zero_le _)) (by show 24 < 31; omega) rfl put_s2
theorem m15_115 : M15 115 [.val (.ref r), l1, l2, l3] st H Q = M15 116 [.val (.ref r), l1, l2, l3] (.ref r :: st) H Q := w_x (show decode kb15 115 = .ok (.aload_n 0, 1) from by decide +kernel) rfl
theorem m15_116 : M15 116 ls st H Q = M15 117 ls (.int (-1) :: st) H Q := w_con (show decode kb15 116 = .ok (.iconst (-1), 1) from by decide +kernel) rfl (by decide)
theorem m15_117 : M15 117 ls (.int v :: .ref (b + 1) :: st) (put (b + 1) pre s A post) Q = M15 120 ls st (put (b + 1) pre (ou s 3 v) A post) Q := w_put (show decode kb15 117 = .ok (.putfield 82, 3) from by decide +kernel) pf15_82 put_o (Nat.succ_le_succ (Nat.zero_le _)) (by show 23 < 31; omega) rfl put_s3
theorem m15_120 : M15 120 [.val (.ref r), l1, l2, l3] st H Q = M15 121 [.val (.ref r), l1, l2, l3] (.ref r :: st) H Q := w_x (show decode kb15 120 = .ok (.aload_n 0, 1) from by decide +kernel) rfl
theorem cr15_88 : vR tables_1 dn y15 88 = some (true, y1, prog_1_method_23_code, 2, none, 0, 42) := pR_of (cR_of (by decide +kernel) rc_1 dn_1 dn_15 (sig := ⟨[], none⟩) (by decide +kernel) (by decide +kernel) rfl rfl) (by decide +kernel) (by decide +kernel)
theorem m15_121 : M15 121 ls [.ref (b + 1)] (put (b + 1) pre s A post) Q = M1 0 [.val (.ref (b + 1)), .unset] [] (put (b + 1) pre s A post) (fun v H1 => M15 124 ls (v.toList ++ []) H1 Q) := w_virt (as := []) (rest := []) (a := (b + 1)) (show decode kb15 121 = .ok (.invokevirtual 88, 3) from by decide +kernel) cr15_88 put_o rfl rfl (Nat.le_of_ble_eq_true rfl) (by show 1 ≤ 2; omega) rfl
theorem m15_124 : M15 124 [l0, .val (.int v), l2, l3] st H Q = M15 125 [l0, .val (.int v), l2, l3] (.int v :: st) H Q := w_x (show decode kb15 124 = .ok (.iload_n 1, 1) from by decide +kernel) rfl
theorem m15_125 : M15 125 ls (.int z :: st) H Q = Q (some (.int z)) H := w_iret (show decode kb15 125 = .ok (.ireturn, 1) from by decide +kernel) rfl
theorem m16_0 : M16 0 [.val (.ref r), l1, l2, l3] st H Q = M16 1 [.val (.ref r), l1, l2, l3] (.ref r :: st) H Q := w_x (show decode kb16 0 = .ok (.aload_n 0, 1) from by decide +kernel) rfl
theorem m16_1 : M16 1 ls (.ref (b + 1) :: st) (put (b + 1) pre s A post) Q = M16 4 ls (.int (s 4) :: st) (put (b + 1) pre s A post) Q := w_get (show decode kb16 1 = .ok (.getfield 78, 3) from by decide +kernel) gf_78 put_o rfl
theorem m16_4 : M16 4 ls (.int x :: st) H Q = if x = 0 then M16 7 ls st H Q else M16 10 ls st H Q := w_ifN (show decode kb16 4 = .ok (.ifCond .ne 6, 3) from by decide +kernel) (z_ne x) rfl
theorem m16_7 : M16 7 ls st H Q = M16 9 ls (.int (-4) :: st) H Q := w_con (show decode kb16 7 = .ok (.bipush (-4), 2) from by decide +kernel) rfl (by decide)
theorem m16_9 : M16 9 ls (.int z :: st) H Q = Q (some (.int z)) H := w_iret (show decode kb16 9 = .ok (.ireturn, 1) from by decide +kernel) rfl
theorem m16_10 : M16 10 [l0, .val (.int v), l2, l3] st H Q = M16 11 [l0, .val (.int v), l2, l3] (.int v :: st) H Q := w_x (show decode kb16 10 = .ok (.iload_n 1, 1) from by decide +kernel) rfl
theorem m16_11 : M16 11 ls (.int x :: st) H Q = if x < 0 then M16 19 ls st H Q else M16 14 ls st H Q := w_if (show decode kb16 11 = .ok (.ifCond .lt 8, 3) from by decide +kernel) (z_lt x) rfl
theorem m16_14 : M16 14 [l0, .val (.int v), l2, l3] st H Q = M16 15 [l0, .val (.int v), l2, l3] (.int v :: st) H Q := w_x (show decode kb16 14 = .ok (.iload_n 1, 1) from by decide +kernel) rfl
theorem m16_15 : M16 15 ls st H Q = M16 16 ls (.int 4 :: st) H Q := w_con (show decode kb16 15 = .ok (.iconst 4, 1) from by decide +kernel) rfl (by decide)
theorem m16_16 : M16 16 ls (.int y :: .int x :: st) H Q = if x < y then M16 22 ls st H Q else M16 19 ls st H Q := w_icmp (show decode kb16 16 = .ok (.if_icmp .lt 6, 3) from by decide +kernel) (i_lt x y) rfl
theorem m16_19 : M16 19 ls st H Q = M16 21 ls (.int (-2) :: st) H Q := w_con (show decode kb16 19 = .ok (.bipush (-2), 2) from by decide +kernel) rfl (by decide)
theorem m16_21 : M16 21 ls (.int z :: st) H Q = Q (some (.int z)) H := w_iret (show decode kb16 21 = .ok (.ireturn, 1) from by decide +kernel) rfl
theorem m16_22 : M16 22 [l0, l1, .val (.int v), l3] st H Q = M16 23 [l0, l1, .val (.int v), l3] (.int v :: st) H Q := w_x (show decode kb16 22 = .ok (.iload_n 2, 1) from by decide +kernel) rfl
theorem m16_23 : M16 23 ls (.int x :: st) H Q = if x < 0 then M16 31 ls st H Q else M16 26 ls st H Q := w_if (show decode kb16 23 = .ok (.ifCond .lt 8, 3) from by decide +kernel) (z_lt x) rfl
theorem m16_26 : M16 26 [l0, l1, l2, .val (.int v)] st H Q = M16 27 [l0, l1, l2, .val (.int v)] (.int v :: st) H Q := w_x (show decode kb16 26 = .ok (.iload_n 3, 1) from by decide +kernel) rfl
theorem m16_27 : M16 27 ls st H Q = M16 28 ls (.int 1 :: st) H Q := w_con (show decode kb16 27 = .ok (.iconst 1, 1) from by decide +kernel) rfl (by decide)
theorem m16_28 : M16 28 ls (.int y :: .int x :: st) H Q = if x < y then M16 31 ls st H Q else M16 34 ls st H Q := w_icmpN (show decode kb16 28 = .ok (.if_icmp .ge 6, 3) from by decide +kernel) (i_ge x y) rfl
theorem m16_31 : M16 31 ls st H Q = M16 33 ls (.int (-2) :: st) H Q := w_con (show decode kb16 31 = .ok (.bipush (-2), 2) from by decide +kernel) rfl (by decide)
theorem m16_33 : M16 33 ls (.int z :: st) H Q = Q (some (.int z)) H := w_iret (show decode kb16 33 = .ok (.ireturn, 1) from by decide +kernel) rfl
theorem m16_34 : M16 34 [l0, l1, .val (.int v), l3] st H Q = M16 35 [l0, l1, .val (.int v), l3] (.int v :: st) H Q := w_x (show decode kb16 34 = .ok (.iload_n 2, 1) from by decide +kernel) rfl
theorem m16_35 : M16 35 [.val (.ref r), l1, l2, l3] st H Q = M16 36 [.val (.ref r), l1, l2, l3] (.ref r :: st) H Q := w_x (show decode kb16 35 = .ok (.aload_n 0, 1) from by decide +kernel) rfl
theorem m16_36 : M16 36 ls (.ref (b + 1) :: st) (put (b + 1) pre s A post) Q = M16 39 ls (.int (s 7) :: st) (put (b + 1) pre s A post) Q := w_get (show decode kb16 36 = .ok (.getfield 101, 3) from by decide +kernel) gf_101 put_o rfl
theorem m16_39 : M16 39 ls (.int y :: .int x :: st) H Q = if y < x then M16 52 ls st H Q else M16 42 ls st H Q := w_icmp (show decode kb16 39 = .ok (.if_icmp .gt 13, 3) from by decide +kernel) (i_gt x y) rfl
theorem m16_42 : M16 42 [l0, l1, l2, .val (.int v)] st H Q = M16 43 [l0, l1, l2, .val (.int v)] (.int v :: st) H Q := w_x (show decode kb16 42 = .ok (.iload_n 3, 1) from by decide +kernel) rfl
theorem m16_43 : M16 43 [.val (.ref r), l1, l2, l3] st H Q = M16 44 [.val (.ref r), l1, l2, l3] (.ref r :: st) H Q := w_x (show decode kb16 43 = .ok (.aload_n 0, 1) from by decide +kernel) rfl
theorem m16_44 : M16 44 ls (.ref (b + 1) :: st) (put (b + 1) pre s A post) Q = M16 47 ls (.int (s 7) :: st) (put (b + 1) pre s A post) Q := w_get (show decode kb16 44 = .ok (.getfield 101, 3) from by decide +kernel) gf_101 put_o rfl
theorem m16_47 : M16 47 [l0, l1, .val (.int v), l3] st H Q = M16 48 [l0, l1, .val (.int v), l3] (.int v :: st) H Q := w_x (show decode kb16 47 = .ok (.iload_n 2, 1) from by decide +kernel) rfl
theorem m16_48 : M16 48 ls (.int y :: .int x :: st) H Q = M16 49 ls (.int (x - y) :: st) H Q := w_x (show decode kb16 48 = .ok (.isub, 1) from by decide +kernel) rfl
theorem m16_49 : M16 49 ls (.int y :: .int x :: st) H Q = if y < x then M16 52 ls st H Q else M16 55 ls st H Q := w_icmpN (show decode kb16 49 = .ok (.if_icmp .le 6, 3) from by decide +kernel) (i_le x y) rfl
theorem m16_52 : M16 52 ls st H Q = M16 54 ls (.int (-2) :: st) H Q := w_con (show decode kb16 52 = .ok (.bipush (-2), 2) from by decide +kernel) rfl (by decide)
theorem m16_54 : M16 54 ls (.int z :: st) H Q = Q (some (.int z)) H := w_iret (show decode kb16 54 = .ok (.ireturn, 1) from by decide +kernel) rfl
theorem m16_55 : M16 55 [.val (.ref r), l1, l2, l3] st H Q = M16 56 [.val (.ref r), l1, l2, l3] (.ref r :: st) H Q := w_x (show decode kb16 55 = .ok (.aload_n 0, 1) from by decide +kernel) rfl
theorem m16_56 : M16 56 ls (.ref (b + 1) :: st) (put (b + 1) pre s A post) Q = M16 59 ls (.ref ((b + 1) + 11) :: st) (put (b + 1) pre s A post) Q := w_get (show decode kb16 56 = .ok (.getfield 40, 3) from by decide +kernel) gf_40 put_o rfl
theorem m16_59 : M16 59 [l0, .val (.int v), l2, l3] st H Q = M16 60 [l0, .val (.int v), l2, l3] (.int v :: st) H Q := w_x (show decode kb16 59 = .ok (.iload_n 1, 1) from by decide +kernel) rfl
theorem m16_60  : M16 60 ls (.int j :: .ref ((b + 1) + 11) :: st) (put (b + 1) pre s A post) Q = (inB j (A 10) ∧ M16 61 ls (.int (getA (A 10) j) :: st) (put (b + 1) pre s A post) Q) := w_ild (show decode kb16 60 = .ok (.iaload, 1) from by decide +kernel) rfl put_a10
theorem m16_61 : M16 61 ls (.int x :: st) H Q = if 0 < x then M16 64 ls st H Q else M16 67 ls st H Q := w_ifN (show decode kb16 61 = .ok (.ifCond .le 6, 3) from by decide +kernel) (z_le x) rfl
theorem m16_64 : M16 64 ls st H Q = M16 66 ls (.int (-5) :: st) H Q := w_con (show decode kb16 64 = .ok (.bipush (-5), 2) from by decide +kernel) rfl (by decide)
theorem m16_66 : M16 66 ls (.int z :: st) H Q = Q (some (.int z)) H := w_iret (show decode kb16 66 = .ok (.ireturn, 1) from by decide +kernel) rfl
theorem m16_67 : M16 67 [.val (.ref r), l1, l2, l3] st H Q = M16 68 [.val (.ref r), l1, l2, l3] (.ref r :: st) H Q := w_x (show decode kb16 67 = .ok (.aload_n 0, 1) from by decide +kernel) rfl
theorem m16_68 : M16 68 [l0, l1, .val (.int v), l3] st H Q = M16 69 [l0, l1, .val (.int v), l3] (.int v :: st) H Q := w_x (show decode kb16 68 = .ok (.iload_n 2, 1) from by decide +kernel) rfl
theorem m16_69 : M16 69 [l0, l1, l2, .val (.int v)] st H Q = M16 70 [l0, l1, l2, .val (.int v)] (.int v :: st) H Q := w_x (show decode kb16 69 = .ok (.iload_n 3, 1) from by decide +kernel) rfl
theorem cr16_107 : vR tables_1 dn y16 107 = some (true, y37, prog_1_method_5_code, 6, (some .boolean), 2, 0) := pR_of (cR_of (by decide +kernel) rc_37 dn_37 dn_16 (sig := ⟨[.int, .int], some .boolean⟩) (by decide +kernel) (by decide +kernel) rfl rfl) (by decide +kernel) (by decide +kernel)
theorem m16_70 (a0 : Int32) (a1 : Int32) : M16 70 ls [.int a1, .int a0, .ref (b + 1)] (put (b + 1) pre s A post) Q = M37 0 [.val (.ref (b + 1)), .val (.int a0), .val (.int a1), .unset, .unset, .unset] [] (put (b + 1) pre s A post) (fun v H1 => M16 73 ls (v.toList ++ []) H1 Q) := w_virt (as := [.int a1, .int a0]) (rest := []) (a := (b + 1)) (show decode kb16 70 = .ok (.invokevirtual 107, 3) from by decide +kernel) cr16_107 put_o rfl rfl (Nat.le_of_ble_eq_true rfl) (by show 3 ≤ 6; omega) rfl
theorem m16_73 : M16 73 ls (.int x :: st) H Q = if x = 0 then M16 79 ls st H Q else M16 76 ls st H Q := w_if (show decode kb16 73 = .ok (.ifCond .eq 6, 3) from by decide +kernel) (z_eq x) rfl
theorem m16_76 : M16 76 ls st H Q = M16 78 ls (.int (-5) :: st) H Q := w_con (show decode kb16 76 = .ok (.bipush (-5), 2) from by decide +kernel) rfl (by decide)
theorem m16_78 : M16 78 ls (.int z :: st) H Q = Q (some (.int z)) H := w_iret (show decode kb16 78 = .ok (.ireturn, 1) from by decide +kernel) rfl
theorem m16_79 : M16 79 [.val (.ref r), l1, l2, l3] st H Q = M16 80 [.val (.ref r), l1, l2, l3] (.ref r :: st) H Q := w_x (show decode kb16 79 = .ok (.aload_n 0, 1) from by decide +kernel) rfl
theorem m16_80 : M16 80 ls (.ref (b + 1) :: st) (put (b + 1) pre s A post) Q = M16 83 ls (.ref ((b + 1) + 10) :: st) (put (b + 1) pre s A post) Q := w_get (show decode kb16 80 = .ok (.getfield 37, 3) from by decide +kernel) gf_37 put_o rfl
theorem m16_83 : M16 83 [l0, .val (.int v), l2, l3] st H Q = M16 84 [l0, .val (.int v), l2, l3] (.int v :: st) H Q := w_x (show decode kb16 83 = .ok (.iload_n 1, 1) from by decide +kernel) rfl
theorem m16_84 : M16 84 [l0, l1, .val (.int v), l3] st H Q = M16 85 [l0, l1, .val (.int v), l3] (.int v :: st) H Q := w_x (show decode kb16 84 = .ok (.iload_n 2, 1) from by decide +kernel) rfl
theorem m16_85  : M16 85 ls (.int v :: .int j :: .ref ((b + 1) + 10) :: st) (put (b + 1) pre s A post) Q = (inB j (A 9) ∧ M16 86 ls st (put (b + 1) pre s (ou A 9 (setA (A 9) j v)) post) Q) := w_ist (show decode kb16 85 = .ok (.iastore, 1) from by decide +kernel) rfl put_a9 (by omega) rfl put_w9
theorem m16_86 : M16 86 [.val (.ref r), l1, l2, l3] st H Q = M16 87 [.val (.ref r), l1, l2, l3] (.ref r :: st) H Q := w_x (show decode kb16 86 = .ok (.aload_n 0, 1) from by decide +kernel) rfl
theorem m16_87 : M16 87 ls (.ref (b + 1) :: st) (put (b + 1) pre s A post) Q = M16 90 ls (.ref ((b + 1) + 11) :: st) (put (b + 1) pre s A post) Q := w_get (show decode kb16 87 = .ok (.getfield 40, 3) from by decide +kernel) gf_40 put_o rfl
theorem m16_90 : M16 90 [l0, .val (.int v), l2, l3] st H Q = M16 91 [l0, .val (.int v), l2, l3] (.int v :: st) H Q := w_x (show decode kb16 90 = .ok (.iload_n 1, 1) from by decide +kernel) rfl
theorem m16_91 : M16 91 [l0, l1, l2, .val (.int v)] st H Q = M16 92 [l0, l1, l2, .val (.int v)] (.int v :: st) H Q := w_x (show decode kb16 91 = .ok (.iload_n 3, 1) from by decide +kernel) rfl
theorem m16_92  : M16 92 ls (.int v :: .int j :: .ref ((b + 1) + 11) :: st) (put (b + 1) pre s A post) Q = (inB j (A 10) ∧ M16 93 ls st (put (b + 1) pre s (ou A 10 (setA (A 10) j v)) post) Q) := w_ist (show decode kb16 92 = .ok (.iastore, 1) from by decide +kernel) rfl put_a10 (by omega) rfl put_w10
theorem m16_93 : M16 93 ls st H Q = M16 94 ls (.int 0 :: st) H Q := w_con (show decode kb16 93 = .ok (.iconst 0, 1) from by decide +kernel) rfl (by decide)
theorem m16_94 : M16 94 ls (.int z :: st) H Q = Q (some (.int z)) H := w_iret (show decode kb16 94 = .ok (.ireturn, 1) from by decide +kernel) rfl
theorem m17_0 : M17 0 ls st H Q = M17 1 ls (.int 0 :: st) H Q := w_con (show decode kb17 0 = .ok (.iconst 0, 1) from by decide +kernel) rfl (by decide)
theorem m17_1u : M17 1 [l0, l1, .unset] ((.int v) :: st) H Q = M17 2 [l0, l1, .val (.int v)] st H Q := w_st (i := 2) (p := isI) (show decode kb17 1 = .ok (.istore_n 2, 1) from by decide +kernel) rfl rfl rfl rfl rfl rfl
theorem m17_2 : M17 2 [l0, l1, .val (.int v)] st H Q = M17 3 [l0, l1, .val (.int v)] (.int v :: st) H Q := w_x (show decode kb17 2 = .ok (.iload_n 2, 1) from by decide +kernel) rfl
theorem m17_3 : M17 3 [.val (.ref r), l1, l2] st H Q = M17 4 [.val (.ref r), l1, l2] (.ref r :: st) H Q := w_x (show decode kb17 3 = .ok (.aload_n 0, 1) from by decide +kernel) rfl
theorem m17_4 : M17 4 ls (.ref (b + 1) :: st) (put (b + 1) pre s A post) Q = M17 7 ls (.int (s 1) :: st) (put (b + 1) pre s A post) Q := w_get (show decode kb17 4 = .ok (.getfield 75, 3) from by decide +kernel) gf_75 put_o rfl
theorem m17_7 : M17 7 ls (.int y :: .int x :: st) H Q = if x < y then M17 10 ls st H Q else M17 28 ls st H Q := w_icmpN (show decode kb17 7 = .ok (.if_icmp .ge 21, 3) from by decide +kernel) (i_ge x y) rfl
theorem m17_10 : M17 10 [.val (.ref r), l1, l2] st H Q = M17 11 [.val (.ref r), l1, l2] (.ref r :: st) H Q := w_x (show decode kb17 10 = .ok (.aload_n 0, 1) from by decide +kernel) rfl
theorem m17_11 : M17 11 ls (.ref (b + 1) :: st) (put (b + 1) pre s A post) Q = M17 14 ls (.ref ((b + 1) + 4) :: st) (put (b + 1) pre s A post) Q := w_get (show decode kb17 11 = .ok (.getfield 19, 3) from by decide +kernel) gf_19 put_o rfl
theorem m17_14 : M17 14 [l0, l1, .val (.int v)] st H Q = M17 15 [l0, l1, .val (.int v)] (.int v :: st) H Q := w_x (show decode kb17 14 = .ok (.iload_n 2, 1) from by decide +kernel) rfl
theorem m17_15  : M17 15 ls (.int j :: .ref ((b + 1) + 4) :: st) (put (b + 1) pre s A post) Q = (inB j (A 3) ∧ M17 16 ls (.int (getA (A 3) j) :: st) (put (b + 1) pre s A post) Q) := w_ild (show decode kb17 15 = .ok (.iaload, 1) from by decide +kernel) rfl put_a3
theorem m17_16 : M17 16 [l0, .val (.int v), l2] st H Q = M17 17 [l0, .val (.int v), l2] (.int v :: st) H Q := w_x (show decode kb17 16 = .ok (.iload_n 1, 1) from by decide +kernel) rfl
theorem m17_17 : M17 17 ls (.int y :: .int x :: st) H Q = if x = y then M17 20 ls st H Q else M17 22 ls st H Q := w_icmpN (show decode kb17 17 = .ok (.if_icmp .ne 5, 3) from by decide +kernel) (i_ne x y) rfl
theorem m17_20 : M17 20 ls st H Q = M17 21 ls (.int 1 :: st) H Q := w_con (show decode kb17 20 = .ok (.iconst 1, 1) from by decide +kernel) rfl (by decide)
theorem m17_21 : M17 21 ls (.int z :: st) H Q = Q (some (.int (nar .boolean z))) H := w_iretN (show decode kb17 21 = .ok (.ireturn, 1) from by decide +kernel) rfl (by simp)
theorem m17_22 : M17 22 [l0, l1, .val (.int v)] st H Q = M17 25 [l0, l1, .val (.int (v + 1))] st H Q := w_iinc (show decode kb17 22 = .ok (.iinc 2 1, 3) from by decide +kernel) rfl (by decide) rfl
theorem m17_25 : M17 25 ls st H Q = M17 2 ls st H Q := w_x (show decode kb17 25 = .ok (.goto (-23), 3) from by decide +kernel) rfl
theorem m17_28 : M17 28 ls st H Q = M17 29 ls (.int 0 :: st) H Q := w_con (show decode kb17 28 = .ok (.iconst 0, 1) from by decide +kernel) rfl (by decide)
theorem m17_29 : M17 29 ls (.int z :: st) H Q = Q (some (.int (nar .boolean z))) H := w_iretN (show decode kb17 29 = .ok (.ireturn, 1) from by decide +kernel) rfl (by simp)
theorem m18_0 : M18 0 [l0, .val (.int v), l2, l3] st H Q = M18 1 [l0, .val (.int v), l2, l3] (.int v :: st) H Q := w_x (show decode kb18 0 = .ok (.iload_n 1, 1) from by decide +kernel) rfl
theorem m18_1 : M18 1 ls st H Q = M18 2 ls (.int 1 :: st) H Q := w_con (show decode kb18 1 = .ok (.iconst 1, 1) from by decide +kernel) rfl (by decide)
theorem m18_2 : M18 2 ls (.int y :: .int x :: st) H Q = if x < y then M18 10 ls st H Q else M18 5 ls st H Q := w_icmp (show decode kb18 2 = .ok (.if_icmp .lt 8, 3) from by decide +kernel) (i_lt x y) rfl
theorem m18_5 : M18 5 [l0, l1, .val (.int v), l3] st H Q = M18 6 [l0, l1, .val (.int v), l3] (.int v :: st) H Q := w_x (show decode kb18 5 = .ok (.iload_n 2, 1) from by decide +kernel) rfl
theorem m18_6 : M18 6 ls st H Q = M18 7 ls (.int 1 :: st) H Q := w_con (show decode kb18 6 = .ok (.iconst 1, 1) from by decide +kernel) rfl (by decide)
theorem m18_7 : M18 7 ls (.int y :: .int x :: st) H Q = if x < y then M18 10 ls st H Q else M18 14 ls st H Q := w_icmpN (show decode kb18 7 = .ok (.if_icmp .ge 7, 3) from by decide +kernel) (i_ge x y) rfl
theorem m18_10 : M18 10 ls st H Q = M18 13 ls (.int 841 :: st) H Q := w_con (show decode kb18 10 = .ok (.sipush 841, 3) from by decide +kernel) rfl (by decide)
theorem m18_13 : M18 13 ls (.int z :: st) H Q = Q (some (.int z)) H := w_iret (show decode kb18 13 = .ok (.ireturn, 1) from by decide +kernel) rfl
theorem m18_14 : M18 14 [.val (.ref r), l1, l2, l3] st H Q = M18 15 [.val (.ref r), l1, l2, l3] (.ref r :: st) H Q := w_x (show decode kb18 14 = .ok (.aload_n 0, 1) from by decide +kernel) rfl
theorem m18_15 : M18 15 [l0, .val (.int v), l2, l3] st H Q = M18 16 [l0, .val (.int v), l2, l3] (.int v :: st) H Q := w_x (show decode kb18 15 = .ok (.iload_n 1, 1) from by decide +kernel) rfl
theorem m18_16 : M18 16 [l0, l1, .val (.int v), l3] st H Q = M18 17 [l0, l1, .val (.int v), l3] (.int v :: st) H Q := w_x (show decode kb18 16 = .ok (.iload_n 2, 1) from by decide +kernel) rfl
theorem cr18_126 : vR tables_1 dn y18 126 = some (true, y19, prog_1_method_9_code, 7, (some .int), 2, 0) := pR_of (cR_of (by decide +kernel) rc_19 dn_19 dn_18 (sig := ⟨[.int, .int], some .int⟩) (by decide +kernel) (by decide +kernel) rfl rfl) (by decide +kernel) (by decide +kernel)
theorem m18_17 (a0 : Int32) (a1 : Int32) : M18 17 ls [.int a1, .int a0, .ref (b + 1)] (put (b + 1) pre s A post) Q = M19 0 [.val (.ref (b + 1)), .val (.int a0), .val (.int a1), .unset, .unset, .unset, .unset] [] (put (b + 1) pre s A post) (fun v H1 => M18 20 ls (v.toList ++ []) H1 Q) := w_virt (as := [.int a1, .int a0]) (rest := []) (a := (b + 1)) (show decode kb18 17 = .ok (.invokevirtual 126, 3) from by decide +kernel) cr18_126 put_o rfl rfl (Nat.le_of_ble_eq_true rfl) (by show 3 ≤ 7; omega) rfl
theorem m18_20u : M18 20 [l0, l1, l2, .unset] ((.int v) :: st) H Q = M18 21 [l0, l1, l2, .val (.int v)] st H Q := w_st (i := 3) (p := isI) (show decode kb18 20 = .ok (.istore_n 3, 1) from by decide +kernel) rfl rfl rfl rfl rfl rfl
theorem m18_21 : M18 21 [l0, l1, l2, .val (.int v)] st H Q = M18 22 [l0, l1, l2, .val (.int v)] (.int v :: st) H Q := w_x (show decode kb18 21 = .ok (.iload_n 3, 1) from by decide +kernel) rfl
theorem m18_22 : M18 22 ls st H Q = M18 23 ls (.int 1 :: st) H Q := w_con (show decode kb18 22 = .ok (.iconst 1, 1) from by decide +kernel) rfl (by decide)
theorem m18_23 : M18 23 ls (.int y :: .int x :: st) H Q = if x < y then M18 26 ls st H Q else M18 30 ls st H Q := w_icmpN (show decode kb18 23 = .ok (.if_icmp .ge 7, 3) from by decide +kernel) (i_ge x y) rfl
theorem m18_26 : M18 26 ls st H Q = M18 29 ls (.int 841 :: st) H Q := w_con (show decode kb18 26 = .ok (.sipush 841, 3) from by decide +kernel) rfl (by decide)
theorem m18_29 : M18 29 ls (.int z :: st) H Q = Q (some (.int z)) H := w_iret (show decode kb18 29 = .ok (.ireturn, 1) from by decide +kernel) rfl
theorem m18_30 : M18 30 [l0, .val (.int v), l2, l3] st H Q = M18 31 [l0, .val (.int v), l2, l3] (.int v :: st) H Q := w_x (show decode kb18 30 = .ok (.iload_n 1, 1) from by decide +kernel) rfl
theorem m18_31 : M18 31 [l0, l1, l2, .val (.int v)] st H Q = M18 32 [l0, l1, l2, .val (.int v)] (.int v :: st) H Q := w_x (show decode kb18 31 = .ok (.iload_n 3, 1) from by decide +kernel) rfl
theorem m18_32 : M18 32 ls (.int y :: .int x :: st) H Q = (y ≠ 0 ∧ M18 33 ls (.int (x / y) :: st) H Q) := w_div (f := fun x y => x / y) (show decode kb18 32 = .ok (.idiv, 1) from by decide +kernel) (fun _ => rfl) rfl rfl
theorem m18_33 : M18 33 [l0, l1, .val (.int v), l3] st H Q = M18 34 [l0, l1, .val (.int v), l3] (.int v :: st) H Q := w_x (show decode kb18 33 = .ok (.iload_n 2, 1) from by decide +kernel) rfl
theorem m18_34 : M18 34 ls (.int y :: .int x :: st) H Q = M18 35 ls (.int (x * y) :: st) H Q := w_x (show decode kb18 34 = .ok (.imul, 1) from by decide +kernel) rfl
theorem m18_35 : M18 35 ls (.int z :: st) H Q = Q (some (.int z)) H := w_iret (show decode kb18 35 = .ok (.ireturn, 1) from by decide +kernel) rfl
theorem m19_0 : M19 0 [l0, .val (.int v), l2, l3, l4, l5, l6] st H Q = M19 1 [l0, .val (.int v), l2, l3, l4, l5, l6] (.int v :: st) H Q := w_x (show decode kb19 0 = .ok (.iload_n 1, 1) from by decide +kernel) rfl
theorem m19_1u : M19 1 [l0, l1, l2, .unset, l4, l5, l6] ((.int v) :: st) H Q = M19 2 [l0, l1, l2, .val (.int v), l4, l5, l6] st H Q := w_st (i := 3) (p := isI) (show decode kb19 1 = .ok (.istore_n 3, 1) from by decide +kernel) rfl rfl rfl rfl rfl rfl
theorem m19_2 : M19 2 [l0, l1, .val (.int v), l3, l4, l5, l6] st H Q = M19 3 [l0, l1, .val (.int v), l3, l4, l5, l6] (.int v :: st) H Q := w_x (show decode kb19 2 = .ok (.iload_n 2, 1) from by decide +kernel) rfl
theorem m19_3u : M19 3 [l0, l1, l2, l3, .unset, l5, l6] ((.int v) :: st) H Q = M19 5 [l0, l1, l2, l3, .val (.int v), l5, l6] st H Q := w_st (i := 4) (p := isI) (show decode kb19 3 = .ok (.istore 4, 2) from by decide +kernel) rfl rfl rfl rfl rfl rfl
theorem m19_5 : M19 5 ls st H Q = M19 6 ls (.int 0 :: st) H Q := w_con (show decode kb19 5 = .ok (.iconst 0, 1) from by decide +kernel) rfl (by decide)
theorem m19_6u : M19 6 [l0, l1, l2, l3, l4, .unset, l6] ((.int v) :: st) H Q = M19 8 [l0, l1, l2, l3, l4, .val (.int v), l6] st H Q := w_st (i := 5) (p := isI) (show decode kb19 6 = .ok (.istore 5, 2) from by decide +kernel) rfl rfl rfl rfl rfl rfl
theorem m19_8 : M19 8 [l0, l1, l2, l3, l4, .val (.int v), l6] st H Q = M19 10 [l0, l1, l2, l3, l4, .val (.int v), l6] (.int v :: st) H Q := w_x (show decode kb19 8 = .ok (.iload 5, 2) from by decide +kernel) rfl
theorem m19_10 : M19 10 ls st H Q = M19 12 ls (.int 64 :: st) H Q := w_con (show decode kb19 10 = .ok (.bipush 64, 2) from by decide +kernel) rfl (by decide)
theorem m19_12 : M19 12 ls (.int y :: .int x :: st) H Q = if x < y then M19 15 ls st H Q else M19 42 ls st H Q := w_icmpN (show decode kb19 12 = .ok (.if_icmp .ge 30, 3) from by decide +kernel) (i_ge x y) rfl
theorem m19_15 : M19 15 [l0, l1, l2, l3, .val (.int v), l5, l6] st H Q = M19 17 [l0, l1, l2, l3, .val (.int v), l5, l6] (.int v :: st) H Q := w_x (show decode kb19 15 = .ok (.iload 4, 2) from by decide +kernel) rfl
theorem m19_17 : M19 17 ls (.int x :: st) H Q = if x = 0 then M19 20 ls st H Q else M19 23 ls st H Q := w_ifN (show decode kb19 17 = .ok (.ifCond .ne 6, 3) from by decide +kernel) (z_ne x) rfl
theorem m19_20 : M19 20 ls st H Q = M19 42 ls st H Q := w_x (show decode kb19 20 = .ok (.goto 22, 3) from by decide +kernel) rfl
theorem m19_23 : M19 23 [l0, l1, l2, .val (.int v), l4, l5, l6] st H Q = M19 24 [l0, l1, l2, .val (.int v), l4, l5, l6] (.int v :: st) H Q := w_x (show decode kb19 23 = .ok (.iload_n 3, 1) from by decide +kernel) rfl
theorem m19_24 : M19 24 [l0, l1, l2, l3, .val (.int v), l5, l6] st H Q = M19 26 [l0, l1, l2, l3, .val (.int v), l5, l6] (.int v :: st) H Q := w_x (show decode kb19 24 = .ok (.iload 4, 2) from by decide +kernel) rfl
theorem m19_26 : M19 26 ls (.int y :: .int x :: st) H Q = (y ≠ 0 ∧ M19 27 ls (.int (x % y) :: st) H Q) := w_div (f := fun x y => x % y) (show decode kb19 26 = .ok (.irem, 1) from by decide +kernel) (fun _ => rfl) rfl rfl
theorem m19_27u : M19 27 [l0, l1, l2, l3, l4, l5, .unset] ((.int v) :: st) H Q = M19 29 [l0, l1, l2, l3, l4, l5, .val (.int v)] st H Q := w_st (i := 6) (p := isI) (show decode kb19 27 = .ok (.istore 6, 2) from by decide +kernel) rfl rfl rfl rfl rfl rfl
theorem m19_27i : M19 27 [l0, l1, l2, l3, l4, l5, .val (.int z)] ((.int v) :: st) H Q = M19 29 [l0, l1, l2, l3, l4, l5, .val (.int v)] st H Q := w_st (i := 6) (p := isI) (show decode kb19 27 = .ok (.istore 6, 2) from by decide +kernel) rfl rfl rfl rfl rfl rfl
theorem m19_27r : M19 27 [l0, l1, l2, l3, l4, l5, .val (.ref q)] ((.int v) :: st) H Q = M19 29 [l0, l1, l2, l3, l4, l5, .val (.int v)] st H Q := w_st (i := 6) (p := isI) (show decode kb19 27 = .ok (.istore 6, 2) from by decide +kernel) rfl rfl rfl rfl rfl rfl
theorem m19_27g (h : okS l6) : M19 27 [l0, l1, l2, l3, l4, l5, l6] ((.int v) :: st) H Q = M19 29 [l0, l1, l2, l3, l4, l5, .val (.int v)] st H Q := by rcases h with rfl | ⟨z, rfl⟩ <;> first | exact m19_27u | exact m19_27i
theorem m19_29 : M19 29 [l0, l1, l2, l3, .val (.int v), l5, l6] st H Q = M19 31 [l0, l1, l2, l3, .val (.int v), l5, l6] (.int v :: st) H Q := w_x (show decode kb19 29 = .ok (.iload 4, 2) from by decide +kernel) rfl
theorem m19_31i : M19 31 [l0, l1, l2, .val (.int z), l4, l5, l6] ((.int v) :: st) H Q = M19 32 [l0, l1, l2, .val (.int v), l4, l5, l6] st H Q := w_st (i := 3) (p := isI) (show decode kb19 31 = .ok (.istore_n 3, 1) from by decide +kernel) rfl rfl rfl rfl rfl rfl
theorem m19_32 : M19 32 [l0, l1, l2, l3, l4, l5, .val (.int v)] st H Q = M19 34 [l0, l1, l2, l3, l4, l5, .val (.int v)] (.int v :: st) H Q := w_x (show decode kb19 32 = .ok (.iload 6, 2) from by decide +kernel) rfl
theorem m19_34i : M19 34 [l0, l1, l2, l3, .val (.int z), l5, l6] ((.int v) :: st) H Q = M19 36 [l0, l1, l2, l3, .val (.int v), l5, l6] st H Q := w_st (i := 4) (p := isI) (show decode kb19 34 = .ok (.istore 4, 2) from by decide +kernel) rfl rfl rfl rfl rfl rfl
theorem m19_36 : M19 36 [l0, l1, l2, l3, l4, .val (.int v), l6] st H Q = M19 39 [l0, l1, l2, l3, l4, .val (.int (v + 1)), l6] st H Q := w_iinc (show decode kb19 36 = .ok (.iinc 5 1, 3) from by decide +kernel) rfl (by decide) rfl
theorem m19_39 : M19 39 ls st H Q = M19 8 ls st H Q := w_x (show decode kb19 39 = .ok (.goto (-31), 3) from by decide +kernel) rfl
theorem m19_42 : M19 42 [l0, l1, l2, .val (.int v), l4, l5, l6] st H Q = M19 43 [l0, l1, l2, .val (.int v), l4, l5, l6] (.int v :: st) H Q := w_x (show decode kb19 42 = .ok (.iload_n 3, 1) from by decide +kernel) rfl
theorem m19_43 : M19 43 ls (.int z :: st) H Q = Q (some (.int z)) H := w_iret (show decode kb19 43 = .ok (.ireturn, 1) from by decide +kernel) rfl
theorem m20_0 : M20 0 [.val (.ref r), l1, l2] st H Q = M20 1 [.val (.ref r), l1, l2] (.ref r :: st) H Q := w_x (show decode kb20 0 = .ok (.aload_n 0, 1) from by decide +kernel) rfl
theorem m20_1 : M20 1 ls (.ref (b + 1) :: st) (put (b + 1) pre s A post) Q = M20 4 ls (.ref ((b + 1) + 1) :: st) (put (b + 1) pre s A post) Q := w_get (show decode kb20 1 = .ok (.getfield 7, 3) from by decide +kernel) gf_7 put_o rfl
theorem m20_4 : M20 4 [l0, .val (.int v), l2] st H Q = M20 5 [l0, .val (.int v), l2] (.int v :: st) H Q := w_x (show decode kb20 4 = .ok (.iload_n 1, 1) from by decide +kernel) rfl
theorem m20_5 : M20 5 [.val (.ref r), l1, l2] st H Q = M20 6 [.val (.ref r), l1, l2] (.ref r :: st) H Q := w_x (show decode kb20 5 = .ok (.aload_n 0, 1) from by decide +kernel) rfl
theorem m20_6 : M20 6 ls (.ref (b + 1) :: st) (put (b + 1) pre s A post) Q = M20 9 ls (.int (s 5) :: st) (put (b + 1) pre s A post) Q := w_get (show decode kb20 6 = .ok (.getfield 95, 3) from by decide +kernel) gf_95 put_o rfl
theorem m20_9  : M20 9 ls (.int v :: .int j :: .ref ((b + 1) + 1) :: st) (put (b + 1) pre s A post) Q = (inB j (A 0) ∧ M20 10 ls st (put (b + 1) pre s (ou A 0 (setA (A 0) j v)) post) Q) := w_ist (show decode kb20 9 = .ok (.iastore, 1) from by decide +kernel) rfl put_a0 (by omega) rfl put_w0
theorem m20_10 : M20 10 [.val (.ref r), l1, l2] st H Q = M20 11 [.val (.ref r), l1, l2] (.ref r :: st) H Q := w_x (show decode kb20 10 = .ok (.aload_n 0, 1) from by decide +kernel) rfl
theorem m20_11 : M20 11 ls (.ref (b + 1) :: st) (put (b + 1) pre s A post) Q = M20 14 ls (.ref ((b + 1) + 2) :: st) (put (b + 1) pre s A post) Q := w_get (show decode kb20 11 = .ok (.getfield 13, 3) from by decide +kernel) gf_13 put_o rfl
theorem m20_14 : M20 14 [l0, .val (.int v), l2] st H Q = M20 15 [l0, .val (.int v), l2] (.int v :: st) H Q := w_x (show decode kb20 14 = .ok (.iload_n 1, 1) from by decide +kernel) rfl
theorem m20_15 : M20 15 [.val (.ref r), l1, l2] st H Q = M20 16 [.val (.ref r), l1, l2] (.ref r :: st) H Q := w_x (show decode kb20 15 = .ok (.aload_n 0, 1) from by decide +kernel) rfl
theorem m20_16 : M20 16 ls (.ref (b + 1) :: st) (put (b + 1) pre s A post) Q = M20 19 ls (.int (s 6) :: st) (put (b + 1) pre s A post) Q := w_get (show decode kb20 16 = .ok (.getfield 98, 3) from by decide +kernel) gf_98 put_o rfl
theorem m20_19  : M20 19 ls (.int v :: .int j :: .ref ((b + 1) + 2) :: st) (put (b + 1) pre s A post) Q = (inB j (A 1) ∧ M20 20 ls st (put (b + 1) pre s (ou A 1 (setA (A 1) j v)) post) Q) := w_ist (show decode kb20 19 = .ok (.iastore, 1) from by decide +kernel) rfl put_a1 (by omega) rfl put_w1
theorem m20_20 : M20 20 [.val (.ref r), l1, l2] st H Q = M20 21 [.val (.ref r), l1, l2] (.ref r :: st) H Q := w_x (show decode kb20 20 = .ok (.aload_n 0, 1) from by decide +kernel) rfl
theorem m20_21 : M20 21 ls (.ref (b + 1) :: st) (put (b + 1) pre s A post) Q = M20 24 ls (.ref ((b + 1) + 3) :: st) (put (b + 1) pre s A post) Q := w_get (show decode kb20 21 = .ok (.getfield 16, 3) from by decide +kernel) gf_16 put_o rfl
theorem m20_24 : M20 24 [l0, .val (.int v), l2] st H Q = M20 25 [l0, .val (.int v), l2] (.int v :: st) H Q := w_x (show decode kb20 24 = .ok (.iload_n 1, 1) from by decide +kernel) rfl
theorem m20_25 : M20 25 [.val (.ref r), l1, l2] st H Q = M20 26 [.val (.ref r), l1, l2] (.ref r :: st) H Q := w_x (show decode kb20 25 = .ok (.aload_n 0, 1) from by decide +kernel) rfl
theorem m20_26 : M20 26 ls (.ref (b + 1) :: st) (put (b + 1) pre s A post) Q = M20 29 ls (.int (s 7) :: st) (put (b + 1) pre s A post) Q := w_get (show decode kb20 26 = .ok (.getfield 101, 3) from by decide +kernel) gf_101 put_o rfl
theorem m20_29  : M20 29 ls (.int v :: .int j :: .ref ((b + 1) + 3) :: st) (put (b + 1) pre s A post) Q = (inB j (A 2) ∧ M20 30 ls st (put (b + 1) pre s (ou A 2 (setA (A 2) j v)) post) Q) := w_ist (show decode kb20 29 = .ok (.iastore, 1) from by decide +kernel) rfl put_a2 (by omega) rfl put_w2
theorem m20_30 : M20 30 [.val (.ref r), l1, l2] st H Q = M20 31 [.val (.ref r), l1, l2] (.ref r :: st) H Q := w_x (show decode kb20 30 = .ok (.aload_n 0, 1) from by decide +kernel) rfl
theorem m20_31 : M20 31 ls (.ref (b + 1) :: st) (put (b + 1) pre s A post) Q = M20 34 ls (.ref ((b + 1) + 4) :: st) (put (b + 1) pre s A post) Q := w_get (show decode kb20 31 = .ok (.getfield 19, 3) from by decide +kernel) gf_19 put_o rfl
theorem m20_34 : M20 34 [l0, .val (.int v), l2] st H Q = M20 35 [l0, .val (.int v), l2] (.int v :: st) H Q := w_x (show decode kb20 34 = .ok (.iload_n 1, 1) from by decide +kernel) rfl
theorem m20_35 : M20 35 [.val (.ref r), l1, l2] st H Q = M20 36 [.val (.ref r), l1, l2] (.ref r :: st) H Q := w_x (show decode kb20 35 = .ok (.aload_n 0, 1) from by decide +kernel) rfl
theorem m20_36 : M20 36 ls (.ref (b + 1) :: st) (put (b + 1) pre s A post) Q = M20 39 ls (.int (s 8) :: st) (put (b + 1) pre s A post) Q := w_get (show decode kb20 36 = .ok (.getfield 104, 3) from by decide +kernel) gf_104 put_o rfl
theorem m20_39  : M20 39 ls (.int v :: .int j :: .ref ((b + 1) + 4) :: st) (put (b + 1) pre s A post) Q = (inB j (A 3) ∧ M20 40 ls st (put (b + 1) pre s (ou A 3 (setA (A 3) j v)) post) Q) := w_ist (show decode kb20 39 = .ok (.iastore, 1) from by decide +kernel) rfl put_a3 (by omega) rfl put_w3
theorem m20_40 : M20 40 ls st H Q = M20 41 ls (.int 0 :: st) H Q := w_con (show decode kb20 40 = .ok (.iconst 0, 1) from by decide +kernel) rfl (by decide)
theorem m20_41u : M20 41 [l0, l1, .unset] ((.int v) :: st) H Q = M20 42 [l0, l1, .val (.int v)] st H Q := w_st (i := 2) (p := isI) (show decode kb20 41 = .ok (.istore_n 2, 1) from by decide +kernel) rfl rfl rfl rfl rfl rfl
theorem m20_42 : M20 42 [l0, l1, .val (.int v)] st H Q = M20 43 [l0, l1, .val (.int v)] (.int v :: st) H Q := w_x (show decode kb20 42 = .ok (.iload_n 2, 1) from by decide +kernel) rfl
theorem m20_43 : M20 43 ls st H Q = M20 44 ls (.int 4 :: st) H Q := w_con (show decode kb20 43 = .ok (.iconst 4, 1) from by decide +kernel) rfl (by decide)
theorem m20_44 : M20 44 ls (.int y :: .int x :: st) H Q = if x < y then M20 47 ls st H Q else M20 85 ls st H Q := w_icmpN (show decode kb20 44 = .ok (.if_icmp .ge 41, 3) from by decide +kernel) (i_ge x y) rfl
theorem m20_47 : M20 47 [.val (.ref r), l1, l2] st H Q = M20 48 [.val (.ref r), l1, l2] (.ref r :: st) H Q := w_x (show decode kb20 47 = .ok (.aload_n 0, 1) from by decide +kernel) rfl
theorem m20_48 : M20 48 ls (.ref (b + 1) :: st) (put (b + 1) pre s A post) Q = M20 51 ls (.ref ((b + 1) + 5) :: st) (put (b + 1) pre s A post) Q := w_get (show decode kb20 48 = .ok (.getfield 22, 3) from by decide +kernel) gf_22 put_o rfl
theorem m20_51 : M20 51 [l0, .val (.int v), l2] st H Q = M20 52 [l0, .val (.int v), l2] (.int v :: st) H Q := w_x (show decode kb20 51 = .ok (.iload_n 1, 1) from by decide +kernel) rfl
theorem m20_52 : M20 52 ls st H Q = M20 53 ls (.int 4 :: st) H Q := w_con (show decode kb20 52 = .ok (.iconst 4, 1) from by decide +kernel) rfl (by decide)
theorem m20_53 : M20 53 ls (.int y :: .int x :: st) H Q = M20 54 ls (.int (x * y) :: st) H Q := w_x (show decode kb20 53 = .ok (.imul, 1) from by decide +kernel) rfl
theorem m20_54 : M20 54 [l0, l1, .val (.int v)] st H Q = M20 55 [l0, l1, .val (.int v)] (.int v :: st) H Q := w_x (show decode kb20 54 = .ok (.iload_n 2, 1) from by decide +kernel) rfl
theorem m20_55 : M20 55 ls (.int y :: .int x :: st) H Q = M20 56 ls (.int (x + y) :: st) H Q := w_x (show decode kb20 55 = .ok (.iadd, 1) from by decide +kernel) rfl
theorem m20_56 : M20 56 [.val (.ref r), l1, l2] st H Q = M20 57 [.val (.ref r), l1, l2] (.ref r :: st) H Q := w_x (show decode kb20 56 = .ok (.aload_n 0, 1) from by decide +kernel) rfl
theorem m20_57 : M20 57 ls (.ref (b + 1) :: st) (put (b + 1) pre s A post) Q = M20 60 ls (.ref ((b + 1) + 10) :: st) (put (b + 1) pre s A post) Q := w_get (show decode kb20 57 = .ok (.getfield 37, 3) from by decide +kernel) gf_37 put_o rfl
theorem m20_60 : M20 60 [l0, l1, .val (.int v)] st H Q = M20 61 [l0, l1, .val (.int v)] (.int v :: st) H Q := w_x (show decode kb20 60 = .ok (.iload_n 2, 1) from by decide +kernel) rfl
theorem m20_61  : M20 61 ls (.int j :: .ref ((b + 1) + 10) :: st) (put (b + 1) pre s A post) Q = (inB j (A 9) ∧ M20 62 ls (.int (getA (A 9) j) :: st) (put (b + 1) pre s A post) Q) := w_ild (show decode kb20 61 = .ok (.iaload, 1) from by decide +kernel) rfl put_a9
theorem m20_62  : M20 62 ls (.int v :: .int j :: .ref ((b + 1) + 5) :: st) (put (b + 1) pre s A post) Q = (inB j (A 4) ∧ M20 63 ls st (put (b + 1) pre s (ou A 4 (setA (A 4) j v)) post) Q) := w_ist (show decode kb20 62 = .ok (.iastore, 1) from by decide +kernel) rfl put_a4 (by omega) rfl put_w4
theorem m20_63 : M20 63 [.val (.ref r), l1, l2] st H Q = M20 64 [.val (.ref r), l1, l2] (.ref r :: st) H Q := w_x (show decode kb20 63 = .ok (.aload_n 0, 1) from by decide +kernel) rfl
theorem m20_64 : M20 64 ls (.ref (b + 1) :: st) (put (b + 1) pre s A post) Q = M20 67 ls (.ref ((b + 1) + 6) :: st) (put (b + 1) pre s A post) Q := w_get (show decode kb20 64 = .ok (.getfield 25, 3) from by decide +kernel) gf_25 put_o rfl
theorem m20_67 : M20 67 [l0, .val (.int v), l2] st H Q = M20 68 [l0, .val (.int v), l2] (.int v :: st) H Q := w_x (show decode kb20 67 = .ok (.iload_n 1, 1) from by decide +kernel) rfl
theorem m20_68 : M20 68 ls st H Q = M20 69 ls (.int 4 :: st) H Q := w_con (show decode kb20 68 = .ok (.iconst 4, 1) from by decide +kernel) rfl (by decide)
theorem m20_69 : M20 69 ls (.int y :: .int x :: st) H Q = M20 70 ls (.int (x * y) :: st) H Q := w_x (show decode kb20 69 = .ok (.imul, 1) from by decide +kernel) rfl
theorem m20_70 : M20 70 [l0, l1, .val (.int v)] st H Q = M20 71 [l0, l1, .val (.int v)] (.int v :: st) H Q := w_x (show decode kb20 70 = .ok (.iload_n 2, 1) from by decide +kernel) rfl
theorem m20_71 : M20 71 ls (.int y :: .int x :: st) H Q = M20 72 ls (.int (x + y) :: st) H Q := w_x (show decode kb20 71 = .ok (.iadd, 1) from by decide +kernel) rfl
theorem m20_72 : M20 72 [.val (.ref r), l1, l2] st H Q = M20 73 [.val (.ref r), l1, l2] (.ref r :: st) H Q := w_x (show decode kb20 72 = .ok (.aload_n 0, 1) from by decide +kernel) rfl
theorem m20_73 : M20 73 ls (.ref (b + 1) :: st) (put (b + 1) pre s A post) Q = M20 76 ls (.ref ((b + 1) + 11) :: st) (put (b + 1) pre s A post) Q := w_get (show decode kb20 73 = .ok (.getfield 40, 3) from by decide +kernel) gf_40 put_o rfl
theorem m20_76 : M20 76 [l0, l1, .val (.int v)] st H Q = M20 77 [l0, l1, .val (.int v)] (.int v :: st) H Q := w_x (show decode kb20 76 = .ok (.iload_n 2, 1) from by decide +kernel) rfl
theorem m20_77  : M20 77 ls (.int j :: .ref ((b + 1) + 11) :: st) (put (b + 1) pre s A post) Q = (inB j (A 10) ∧ M20 78 ls (.int (getA (A 10) j) :: st) (put (b + 1) pre s A post) Q) := w_ild (show decode kb20 77 = .ok (.iaload, 1) from by decide +kernel) rfl put_a10
theorem m20_78  : M20 78 ls (.int v :: .int j :: .ref ((b + 1) + 6) :: st) (put (b + 1) pre s A post) Q = (inB j (A 5) ∧ M20 79 ls st (put (b + 1) pre s (ou A 5 (setA (A 5) j v)) post) Q) := w_ist (show decode kb20 78 = .ok (.iastore, 1) from by decide +kernel) rfl put_a5 (by omega) rfl put_w5
theorem m20_79 : M20 79 [l0, l1, .val (.int v)] st H Q = M20 82 [l0, l1, .val (.int (v + 1))] st H Q := w_iinc (show decode kb20 79 = .ok (.iinc 2 1, 3) from by decide +kernel) rfl (by decide) rfl
theorem m20_82 : M20 82 ls st H Q = M20 42 ls st H Q := w_x (show decode kb20 82 = .ok (.goto (-40), 3) from by decide +kernel) rfl
theorem m20_85 : M20 85 ls [] H Q = Q none H := w_vret (show decode kb20 85 = .ok (.return_, 1) from by decide +kernel) rfl
theorem m21_0 : M21 0 [.val (.ref r), l1, l2, l3, l4] st H Q = M21 1 [.val (.ref r), l1, l2, l3, l4] (.ref r :: st) H Q := w_x (show decode kb21 0 = .ok (.aload_n 0, 1) from by decide +kernel) rfl
theorem m21_1 : M21 1 [l0, .val (.int v), l2, l3, l4] st H Q = M21 2 [l0, .val (.int v), l2, l3, l4] (.int v :: st) H Q := w_x (show decode kb21 1 = .ok (.iload_n 1, 1) from by decide +kernel) rfl
theorem cr21_129 : vR tables_1 dn y21 129 = some (true, y22, prog_1_method_12_code, 5, none, 1, 23) := pR_of (cR_of (by decide +kernel) rc_22 dn_22 dn_21 (sig := ⟨[.int], none⟩) (by decide +kernel) (by decide +kernel) rfl rfl) (by decide +kernel) (by decide +kernel)
theorem m21_2 (a0 : Int32) : M21 2 ls [.int a0, .ref (b + 1)] (put (b + 1) pre s A post) Q = M22 0 [.val (.ref (b + 1)), .val (.int a0), .unset, .unset, .unset] [] (put (b + 1) pre s A post) (fun v H1 => M21 5 ls (v.toList ++ []) H1 Q) := w_virt (as := [.int a0]) (rest := []) (a := (b + 1)) (show decode kb21 2 = .ok (.invokevirtual 129, 3) from by decide +kernel) cr21_129 put_o rfl rfl (Nat.le_of_ble_eq_true rfl) (by show 2 ≤ 5; omega) rfl
theorem m21_5 : M21 5 ls st H Q = M21 6 ls (.int 0 :: st) H Q := w_con (show decode kb21 5 = .ok (.iconst 0, 1) from by decide +kernel) rfl (by decide)
theorem m21_6u : M21 6 [l0, l1, .unset, l3, l4] ((.int v) :: st) H Q = M21 7 [l0, l1, .val (.int v), l3, l4] st H Q := w_st (i := 2) (p := isI) (show decode kb21 6 = .ok (.istore_n 2, 1) from by decide +kernel) rfl rfl rfl rfl rfl rfl
theorem m21_7 : M21 7 [l0, l1, .val (.int v), l3, l4] st H Q = M21 8 [l0, l1, .val (.int v), l3, l4] (.int v :: st) H Q := w_x (show decode kb21 7 = .ok (.iload_n 2, 1) from by decide +kernel) rfl
theorem m21_8 : M21 8 [l0, .val (.int v), l2, l3, l4] st H Q = M21 9 [l0, .val (.int v), l2, l3, l4] (.int v :: st) H Q := w_x (show decode kb21 8 = .ok (.iload_n 1, 1) from by decide +kernel) rfl
theorem m21_9 : M21 9 ls (.int y :: .int x :: st) H Q = if x < y then M21 12 ls st H Q else M21 56 ls st H Q := w_icmpN (show decode kb21 9 = .ok (.if_icmp .ge 47, 3) from by decide +kernel) (i_ge x y) rfl
theorem m21_12 : M21 12 [.val (.ref r), l1, l2, l3, l4] st H Q = M21 13 [.val (.ref r), l1, l2, l3, l4] (.ref r :: st) H Q := w_x (show decode kb21 12 = .ok (.aload_n 0, 1) from by decide +kernel) rfl
theorem m21_13 : M21 13 [l0, l1, .val (.int v), l3, l4] st H Q = M21 14 [l0, l1, .val (.int v), l3, l4] (.int v :: st) H Q := w_x (show decode kb21 13 = .ok (.iload_n 2, 1) from by decide +kernel) rfl
theorem m21_14 : M21 14 [l0, .val (.int v), l2, l3, l4] st H Q = M21 15 [l0, .val (.int v), l2, l3, l4] (.int v :: st) H Q := w_x (show decode kb21 14 = .ok (.iload_n 1, 1) from by decide +kernel) rfl
theorem cr21_132 : vR tables_1 dn y21 132 = some (true, y23, prog_1_method_13_code, 8, (some .int), 2, 20) := pR_of (cR_of (by decide +kernel) rc_23 dn_23 dn_21 (sig := ⟨[.int, .int], some .int⟩) (by decide +kernel) (by decide +kernel) rfl rfl) (by decide +kernel) (by decide +kernel)
theorem m21_15 (a0 : Int32) (a1 : Int32) : M21 15 ls [.int a1, .int a0, .ref (b + 1)] (put (b + 1) pre s A post) Q = M23 0 [.val (.ref (b + 1)), .val (.int a0), .val (.int a1), .unset, .unset, .unset, .unset, .unset] [] (put (b + 1) pre s A post) (fun v H1 => M21 18 ls (v.toList ++ []) H1 Q) := w_virt (as := [.int a1, .int a0]) (rest := []) (a := (b + 1)) (show decode kb21 15 = .ok (.invokevirtual 132, 3) from by decide +kernel) cr21_132 put_o rfl rfl (Nat.le_of_ble_eq_true rfl) (by show 3 ≤ 8; omega) rfl
theorem m21_18u : M21 18 [l0, l1, l2, .unset, l4] ((.int v) :: st) H Q = M21 19 [l0, l1, l2, .val (.int v), l4] st H Q := w_st (i := 3) (p := isI) (show decode kb21 18 = .ok (.istore_n 3, 1) from by decide +kernel) rfl rfl rfl rfl rfl rfl
theorem m21_18i : M21 18 [l0, l1, l2, .val (.int z), l4] ((.int v) :: st) H Q = M21 19 [l0, l1, l2, .val (.int v), l4] st H Q := w_st (i := 3) (p := isI) (show decode kb21 18 = .ok (.istore_n 3, 1) from by decide +kernel) rfl rfl rfl rfl rfl rfl
theorem m21_18r : M21 18 [l0, l1, l2, .val (.ref q), l4] ((.int v) :: st) H Q = M21 19 [l0, l1, l2, .val (.int v), l4] st H Q := w_st (i := 3) (p := isI) (show decode kb21 18 = .ok (.istore_n 3, 1) from by decide +kernel) rfl rfl rfl rfl rfl rfl
theorem m21_18g (h : okS l3) : M21 18 [l0, l1, l2, l3, l4] ((.int v) :: st) H Q = M21 19 [l0, l1, l2, .val (.int v), l4] st H Q := by rcases h with rfl | ⟨z, rfl⟩ <;> first | exact m21_18u | exact m21_18i
theorem m21_19 : M21 19 [.val (.ref r), l1, l2, l3, l4] st H Q = M21 20 [.val (.ref r), l1, l2, l3, l4] (.ref r :: st) H Q := w_x (show decode kb21 19 = .ok (.aload_n 0, 1) from by decide +kernel) rfl
theorem m21_20 : M21 20 ls (.ref (b + 1) :: st) (put (b + 1) pre s A post) Q = M21 23 ls (.ref ((b + 1) + 13) :: st) (put (b + 1) pre s A post) Q := w_get (show decode kb21 20 = .ok (.getfield 46, 3) from by decide +kernel) gf_46 put_o rfl
theorem m21_23 : M21 23 [l0, l1, .val (.int v), l3, l4] st H Q = M21 24 [l0, l1, .val (.int v), l3, l4] (.int v :: st) H Q := w_x (show decode kb21 23 = .ok (.iload_n 2, 1) from by decide +kernel) rfl
theorem m21_24 : M21 24 [l0, l1, l2, .val (.int v), l4] st H Q = M21 25 [l0, l1, l2, .val (.int v), l4] (.int v :: st) H Q := w_x (show decode kb21 24 = .ok (.iload_n 3, 1) from by decide +kernel) rfl
theorem m21_25  : M21 25 ls (.int v :: .int j :: .ref ((b + 1) + 13) :: st) (put (b + 1) pre s A post) Q = (inB j (A 12) ∧ M21 26 ls st (put (b + 1) pre s (ou A 12 (setA (A 12) j v)) post) Q) := w_ist (show decode kb21 25 = .ok (.iastore, 1) from by decide +kernel) rfl put_a12 (by omega) rfl put_w12
theorem m21_26 : M21 26 [.val (.ref r), l1, l2, l3, l4] st H Q = M21 27 [.val (.ref r), l1, l2, l3, l4] (.ref r :: st) H Q := w_x (show decode kb21 26 = .ok (.aload_n 0, 1) from by decide +kernel) rfl
theorem m21_27 : M21 27 [l0, l1, .val (.int v), l3, l4] st H Q = M21 28 [l0, l1, .val (.int v), l3, l4] (.int v :: st) H Q := w_x (show decode kb21 27 = .ok (.iload_n 2, 1) from by decide +kernel) rfl
theorem m21_28 : M21 28 [l0, .val (.int v), l2, l3, l4] st H Q = M21 29 [l0, .val (.int v), l2, l3, l4] (.int v :: st) H Q := w_x (show decode kb21 28 = .ok (.iload_n 1, 1) from by decide +kernel) rfl
theorem m21_29 : M21 29 [l0, l1, l2, .val (.int v), l4] st H Q = M21 30 [l0, l1, l2, .val (.int v), l4] (.int v :: st) H Q := w_x (show decode kb21 29 = .ok (.iload_n 3, 1) from by decide +kernel) rfl
theorem cr21_135 : vR tables_1 dn y21 135 = some (true, y24, prog_1_method_14_code, 8, (some .int), 3, 0) := pR_of (cR_of (by decide +kernel) rc_24 dn_24 dn_21 (sig := ⟨[.int, .int, .int], some .int⟩) (by decide +kernel) (by decide +kernel) rfl rfl) (by decide +kernel) (by decide +kernel)
theorem m21_30 (a0 : Int32) (a1 : Int32) (a2 : Int32) : M21 30 ls [.int a2, .int a1, .int a0, .ref (b + 1)] (put (b + 1) pre s A post) Q = M24 0 [.val (.ref (b + 1)), .val (.int a0), .val (.int a1), .val (.int a2), .unset, .unset, .unset, .unset] [] (put (b + 1) pre s A post) (fun v H1 => M21 33 ls (v.toList ++ []) H1 Q) := w_virt (as := [.int a2, .int a1, .int a0]) (rest := []) (a := (b + 1)) (show decode kb21 30 = .ok (.invokevirtual 135, 3) from by decide +kernel) cr21_135 put_o rfl rfl (Nat.le_of_ble_eq_true rfl) (by show 4 ≤ 8; omega) rfl
theorem m21_33u : M21 33 [l0, l1, l2, l3, .unset] ((.int v) :: st) H Q = M21 35 [l0, l1, l2, l3, .val (.int v)] st H Q := w_st (i := 4) (p := isI) (show decode kb21 33 = .ok (.istore 4, 2) from by decide +kernel) rfl rfl rfl rfl rfl rfl
theorem m21_33i : M21 33 [l0, l1, l2, l3, .val (.int z)] ((.int v) :: st) H Q = M21 35 [l0, l1, l2, l3, .val (.int v)] st H Q := w_st (i := 4) (p := isI) (show decode kb21 33 = .ok (.istore 4, 2) from by decide +kernel) rfl rfl rfl rfl rfl rfl
theorem m21_33r : M21 33 [l0, l1, l2, l3, .val (.ref q)] ((.int v) :: st) H Q = M21 35 [l0, l1, l2, l3, .val (.int v)] st H Q := w_st (i := 4) (p := isI) (show decode kb21 33 = .ok (.istore 4, 2) from by decide +kernel) rfl rfl rfl rfl rfl rfl
theorem m21_33g (h : okS l4) : M21 33 [l0, l1, l2, l3, l4] ((.int v) :: st) H Q = M21 35 [l0, l1, l2, l3, .val (.int v)] st H Q := by rcases h with rfl | ⟨z, rfl⟩ <;> first | exact m21_33u | exact m21_33i
theorem m21_35 : M21 35 [l0, l1, l2, l3, .val (.int v)] st H Q = M21 37 [l0, l1, l2, l3, .val (.int v)] (.int v :: st) H Q := w_x (show decode kb21 35 = .ok (.iload 4, 2) from by decide +kernel) rfl
theorem m21_37 : M21 37 ls (.int x :: st) H Q = if x < 0 then M21 40 ls st H Q else M21 42 ls st H Q := w_ifN (show decode kb21 37 = .ok (.ifCond .ge 5, 3) from by decide +kernel) (z_ge x) rfl
theorem m21_40 : M21 40 [l0, l1, .val (.int v), l3, l4] st H Q = M21 41 [l0, l1, .val (.int v), l3, l4] (.int v :: st) H Q := w_x (show decode kb21 40 = .ok (.iload_n 2, 1) from by decide +kernel) rfl
theorem m21_41 : M21 41 ls (.int z :: st) H Q = Q (some (.int z)) H := w_iret (show decode kb21 41 = .ok (.ireturn, 1) from by decide +kernel) rfl
theorem m21_42 : M21 42 [.val (.ref r), l1, l2, l3, l4] st H Q = M21 43 [.val (.ref r), l1, l2, l3, l4] (.ref r :: st) H Q := w_x (show decode kb21 42 = .ok (.aload_n 0, 1) from by decide +kernel) rfl
theorem m21_43 : M21 43 ls (.ref (b + 1) :: st) (put (b + 1) pre s A post) Q = M21 46 ls (.ref ((b + 1) + 14) :: st) (put (b + 1) pre s A post) Q := w_get (show decode kb21 43 = .ok (.getfield 49, 3) from by decide +kernel) gf_49 put_o rfl
theorem m21_46 : M21 46 [l0, l1, .val (.int v), l3, l4] st H Q = M21 47 [l0, l1, .val (.int v), l3, l4] (.int v :: st) H Q := w_x (show decode kb21 46 = .ok (.iload_n 2, 1) from by decide +kernel) rfl
theorem m21_47 : M21 47 [l0, l1, l2, l3, .val (.int v)] st H Q = M21 49 [l0, l1, l2, l3, .val (.int v)] (.int v :: st) H Q := w_x (show decode kb21 47 = .ok (.iload 4, 2) from by decide +kernel) rfl
theorem m21_49  : M21 49 ls (.int v :: .int j :: .ref ((b + 1) + 14) :: st) (put (b + 1) pre s A post) Q = (inB j (A 13) ∧ M21 50 ls st (put (b + 1) pre s (ou A 13 (setA (A 13) j v)) post) Q) := w_ist (show decode kb21 49 = .ok (.iastore, 1) from by decide +kernel) rfl put_a13 (by omega) rfl put_w13
theorem m21_50 : M21 50 [l0, l1, .val (.int v), l3, l4] st H Q = M21 53 [l0, l1, .val (.int (v + 1)), l3, l4] st H Q := w_iinc (show decode kb21 50 = .ok (.iinc 2 1, 3) from by decide +kernel) rfl (by decide) rfl
theorem m21_53 : M21 53 ls st H Q = M21 7 ls st H Q := w_x (show decode kb21 53 = .ok (.goto (-46), 3) from by decide +kernel) rfl
theorem m21_56 : M21 56 ls st H Q = M21 57 ls (.int (-1) :: st) H Q := w_con (show decode kb21 56 = .ok (.iconst (-1), 1) from by decide +kernel) rfl (by decide)
theorem m21_57 : M21 57 ls (.int z :: st) H Q = Q (some (.int z)) H := w_iret (show decode kb21 57 = .ok (.ireturn, 1) from by decide +kernel) rfl
theorem m22_0 : M22 0 ls st H Q = M22 1 ls (.int 0 :: st) H Q := w_con (show decode kb22 0 = .ok (.iconst 0, 1) from by decide +kernel) rfl (by decide)
theorem m22_1u : M22 1 [l0, l1, .unset, l3, l4] ((.int v) :: st) H Q = M22 2 [l0, l1, .val (.int v), l3, l4] st H Q := w_st (i := 2) (p := isI) (show decode kb22 1 = .ok (.istore_n 2, 1) from by decide +kernel) rfl rfl rfl rfl rfl rfl
theorem m22_2 : M22 2 [l0, l1, .val (.int v), l3, l4] st H Q = M22 3 [l0, l1, .val (.int v), l3, l4] (.int v :: st) H Q := w_x (show decode kb22 2 = .ok (.iload_n 2, 1) from by decide +kernel) rfl
theorem m22_3 : M22 3 ls st H Q = M22 4 ls (.int 4 :: st) H Q := w_con (show decode kb22 3 = .ok (.iconst 4, 1) from by decide +kernel) rfl (by decide)
theorem m22_4 : M22 4 ls (.int y :: .int x :: st) H Q = if x < y then M22 7 ls st H Q else M22 70 ls st H Q := w_icmpN (show decode kb22 4 = .ok (.if_icmp .ge 66, 3) from by decide +kernel) (i_ge x y) rfl
theorem m22_7 : M22 7 ls st H Q = M22 8 ls (.int 0 :: st) H Q := w_con (show decode kb22 7 = .ok (.iconst 0, 1) from by decide +kernel) rfl (by decide)
theorem m22_8u : M22 8 [l0, l1, l2, .unset, l4] ((.int v) :: st) H Q = M22 9 [l0, l1, l2, .val (.int v), l4] st H Q := w_st (i := 3) (p := isI) (show decode kb22 8 = .ok (.istore_n 3, 1) from by decide +kernel) rfl rfl rfl rfl rfl rfl
theorem m22_8i : M22 8 [l0, l1, l2, .val (.int z), l4] ((.int v) :: st) H Q = M22 9 [l0, l1, l2, .val (.int v), l4] st H Q := w_st (i := 3) (p := isI) (show decode kb22 8 = .ok (.istore_n 3, 1) from by decide +kernel) rfl rfl rfl rfl rfl rfl
theorem m22_8r : M22 8 [l0, l1, l2, .val (.ref q), l4] ((.int v) :: st) H Q = M22 9 [l0, l1, l2, .val (.int v), l4] st H Q := w_st (i := 3) (p := isI) (show decode kb22 8 = .ok (.istore_n 3, 1) from by decide +kernel) rfl rfl rfl rfl rfl rfl
theorem m22_8g (h : okS l3) : M22 8 [l0, l1, l2, l3, l4] ((.int v) :: st) H Q = M22 9 [l0, l1, l2, .val (.int v), l4] st H Q := by rcases h with rfl | ⟨z, rfl⟩ <;> first | exact m22_8u | exact m22_8i
theorem m22_9 : M22 9 ls st H Q = M22 10 ls (.int 0 :: st) H Q := w_con (show decode kb22 9 = .ok (.iconst 0, 1) from by decide +kernel) rfl (by decide)
theorem m22_10u : M22 10 [l0, l1, l2, l3, .unset] ((.int v) :: st) H Q = M22 12 [l0, l1, l2, l3, .val (.int v)] st H Q := w_st (i := 4) (p := isI) (show decode kb22 10 = .ok (.istore 4, 2) from by decide +kernel) rfl rfl rfl rfl rfl rfl
theorem m22_10i : M22 10 [l0, l1, l2, l3, .val (.int z)] ((.int v) :: st) H Q = M22 12 [l0, l1, l2, l3, .val (.int v)] st H Q := w_st (i := 4) (p := isI) (show decode kb22 10 = .ok (.istore 4, 2) from by decide +kernel) rfl rfl rfl rfl rfl rfl
theorem m22_10r : M22 10 [l0, l1, l2, l3, .val (.ref q)] ((.int v) :: st) H Q = M22 12 [l0, l1, l2, l3, .val (.int v)] st H Q := w_st (i := 4) (p := isI) (show decode kb22 10 = .ok (.istore 4, 2) from by decide +kernel) rfl rfl rfl rfl rfl rfl
theorem m22_10g (h : okS l4) : M22 10 [l0, l1, l2, l3, l4] ((.int v) :: st) H Q = M22 12 [l0, l1, l2, l3, .val (.int v)] st H Q := by rcases h with rfl | ⟨z, rfl⟩ <;> first | exact m22_10u | exact m22_10i
theorem m22_12 : M22 12 [l0, l1, l2, l3, .val (.int v)] st H Q = M22 14 [l0, l1, l2, l3, .val (.int v)] (.int v :: st) H Q := w_x (show decode kb22 12 = .ok (.iload 4, 2) from by decide +kernel) rfl
theorem m22_14 : M22 14 [l0, .val (.int v), l2, l3, l4] st H Q = M22 15 [l0, .val (.int v), l2, l3, l4] (.int v :: st) H Q := w_x (show decode kb22 14 = .ok (.iload_n 1, 1) from by decide +kernel) rfl
theorem m22_15 : M22 15 ls (.int y :: .int x :: st) H Q = if x < y then M22 18 ls st H Q else M22 57 ls st H Q := w_icmpN (show decode kb22 15 = .ok (.if_icmp .ge 42, 3) from by decide +kernel) (i_ge x y) rfl
theorem m22_18 : M22 18 [.val (.ref r), l1, l2, l3, l4] st H Q = M22 19 [.val (.ref r), l1, l2, l3, l4] (.ref r :: st) H Q := w_x (show decode kb22 18 = .ok (.aload_n 0, 1) from by decide +kernel) rfl
theorem m22_19 : M22 19 ls (.ref (b + 1) :: st) (put (b + 1) pre s A post) Q = M22 22 ls (.ref ((b + 1) + 6) :: st) (put (b + 1) pre s A post) Q := w_get (show decode kb22 19 = .ok (.getfield 25, 3) from by decide +kernel) gf_25 put_o rfl
theorem m22_22 : M22 22 [l0, l1, l2, l3, .val (.int v)] st H Q = M22 24 [l0, l1, l2, l3, .val (.int v)] (.int v :: st) H Q := w_x (show decode kb22 22 = .ok (.iload 4, 2) from by decide +kernel) rfl
theorem m22_24 : M22 24 ls st H Q = M22 25 ls (.int 4 :: st) H Q := w_con (show decode kb22 24 = .ok (.iconst 4, 1) from by decide +kernel) rfl (by decide)
theorem m22_25 : M22 25 ls (.int y :: .int x :: st) H Q = M22 26 ls (.int (x * y) :: st) H Q := w_x (show decode kb22 25 = .ok (.imul, 1) from by decide +kernel) rfl
theorem m22_26 : M22 26 [l0, l1, .val (.int v), l3, l4] st H Q = M22 27 [l0, l1, .val (.int v), l3, l4] (.int v :: st) H Q := w_x (show decode kb22 26 = .ok (.iload_n 2, 1) from by decide +kernel) rfl
theorem m22_27 : M22 27 ls (.int y :: .int x :: st) H Q = M22 28 ls (.int (x + y) :: st) H Q := w_x (show decode kb22 27 = .ok (.iadd, 1) from by decide +kernel) rfl
theorem m22_28  : M22 28 ls (.int j :: .ref ((b + 1) + 6) :: st) (put (b + 1) pre s A post) Q = (inB j (A 5) ∧ M22 29 ls (.int (getA (A 5) j) :: st) (put (b + 1) pre s A post) Q) := w_ild (show decode kb22 28 = .ok (.iaload, 1) from by decide +kernel) rfl put_a5
theorem m22_29 : M22 29 ls (.int x :: st) H Q = if 0 < x then M22 32 ls st H Q else M22 51 ls st H Q := w_ifN (show decode kb22 29 = .ok (.ifCond .le 22, 3) from by decide +kernel) (z_le x) rfl
theorem m22_32 : M22 32 [.val (.ref r), l1, l2, l3, l4] st H Q = M22 33 [.val (.ref r), l1, l2, l3, l4] (.ref r :: st) H Q := w_x (show decode kb22 32 = .ok (.aload_n 0, 1) from by decide +kernel) rfl
theorem m22_33 : M22 33 ls (.ref (b + 1) :: st) (put (b + 1) pre s A post) Q = M22 36 ls (.ref ((b + 1) + 4) :: st) (put (b + 1) pre s A post) Q := w_get (show decode kb22 33 = .ok (.getfield 19, 3) from by decide +kernel) gf_19 put_o rfl
theorem m22_36 : M22 36 [l0, l1, l2, l3, .val (.int v)] st H Q = M22 38 [l0, l1, l2, l3, .val (.int v)] (.int v :: st) H Q := w_x (show decode kb22 36 = .ok (.iload 4, 2) from by decide +kernel) rfl
theorem m22_38  : M22 38 ls (.int j :: .ref ((b + 1) + 4) :: st) (put (b + 1) pre s A post) Q = (inB j (A 3) ∧ M22 39 ls (.int (getA (A 3) j) :: st) (put (b + 1) pre s A post) Q) := w_ild (show decode kb22 38 = .ok (.iaload, 1) from by decide +kernel) rfl put_a3
theorem m22_39 : M22 39 [l0, l1, l2, .val (.int v), l4] st H Q = M22 40 [l0, l1, l2, .val (.int v), l4] (.int v :: st) H Q := w_x (show decode kb22 39 = .ok (.iload_n 3, 1) from by decide +kernel) rfl
theorem m22_40 : M22 40 ls (.int y :: .int x :: st) H Q = if y < x then M22 43 ls st H Q else M22 51 ls st H Q := w_icmpN (show decode kb22 40 = .ok (.if_icmp .le 11, 3) from by decide +kernel) (i_le x y) rfl
theorem m22_43 : M22 43 [.val (.ref r), l1, l2, l3, l4] st H Q = M22 44 [.val (.ref r), l1, l2, l3, l4] (.ref r :: st) H Q := w_x (show decode kb22 43 = .ok (.aload_n 0, 1) from by decide +kernel) rfl
theorem m22_44 : M22 44 ls (.ref (b + 1) :: st) (put (b + 1) pre s A post) Q = M22 47 ls (.ref ((b + 1) + 4) :: st) (put (b + 1) pre s A post) Q := w_get (show decode kb22 44 = .ok (.getfield 19, 3) from by decide +kernel) gf_19 put_o rfl
theorem m22_47 : M22 47 [l0, l1, l2, l3, .val (.int v)] st H Q = M22 49 [l0, l1, l2, l3, .val (.int v)] (.int v :: st) H Q := w_x (show decode kb22 47 = .ok (.iload 4, 2) from by decide +kernel) rfl
theorem m22_49  : M22 49 ls (.int j :: .ref ((b + 1) + 4) :: st) (put (b + 1) pre s A post) Q = (inB j (A 3) ∧ M22 50 ls (.int (getA (A 3) j) :: st) (put (b + 1) pre s A post) Q) := w_ild (show decode kb22 49 = .ok (.iaload, 1) from by decide +kernel) rfl put_a3
theorem m22_50i : M22 50 [l0, l1, l2, .val (.int z), l4] ((.int v) :: st) H Q = M22 51 [l0, l1, l2, .val (.int v), l4] st H Q := w_st (i := 3) (p := isI) (show decode kb22 50 = .ok (.istore_n 3, 1) from by decide +kernel) rfl rfl rfl rfl rfl rfl
theorem m22_51 : M22 51 [l0, l1, l2, l3, .val (.int v)] st H Q = M22 54 [l0, l1, l2, l3, .val (.int (v + 1))] st H Q := w_iinc (show decode kb22 51 = .ok (.iinc 4 1, 3) from by decide +kernel) rfl (by decide) rfl
theorem m22_54 : M22 54 ls st H Q = M22 12 ls st H Q := w_x (show decode kb22 54 = .ok (.goto (-42), 3) from by decide +kernel) rfl
theorem m22_57 : M22 57 [.val (.ref r), l1, l2, l3, l4] st H Q = M22 58 [.val (.ref r), l1, l2, l3, l4] (.ref r :: st) H Q := w_x (show decode kb22 57 = .ok (.aload_n 0, 1) from by decide +kernel) rfl
theorem m22_58 : M22 58 ls (.ref (b + 1) :: st) (put (b + 1) pre s A post) Q = M22 61 ls (.ref ((b + 1) + 12) :: st) (put (b + 1) pre s A post) Q := w_get (show decode kb22 58 = .ok (.getfield 43, 3) from by decide +kernel) gf_43 put_o rfl
theorem m22_61 : M22 61 [l0, l1, .val (.int v), l3, l4] st H Q = M22 62 [l0, l1, .val (.int v), l3, l4] (.int v :: st) H Q := w_x (show decode kb22 61 = .ok (.iload_n 2, 1) from by decide +kernel) rfl
theorem m22_62 : M22 62 [l0, l1, l2, .val (.int v), l4] st H Q = M22 63 [l0, l1, l2, .val (.int v), l4] (.int v :: st) H Q := w_x (show decode kb22 62 = .ok (.iload_n 3, 1) from by decide +kernel) rfl
theorem m22_63  : M22 63 ls (.int v :: .int j :: .ref ((b + 1) + 12) :: st) (put (b + 1) pre s A post) Q = (inB j (A 11) ∧ M22 64 ls st (put (b + 1) pre s (ou A 11 (setA (A 11) j v)) post) Q) := w_ist (show decode kb22 63 = .ok (.iastore, 1) from by decide +kernel) rfl put_a11 (by omega) rfl put_w11
theorem m22_64 : M22 64 [l0, l1, .val (.int v), l3, l4] st H Q = M22 67 [l0, l1, .val (.int (v + 1)), l3, l4] st H Q := w_iinc (show decode kb22 64 = .ok (.iinc 2 1, 3) from by decide +kernel) rfl (by decide) rfl
theorem m22_67 : M22 67 ls st H Q = M22 2 ls st H Q := w_x (show decode kb22 67 = .ok (.goto (-65), 3) from by decide +kernel) rfl
theorem m22_70 : M22 70 ls [] H Q = Q none H := w_vret (show decode kb22 70 = .ok (.return_, 1) from by decide +kernel) rfl
theorem m23_0 : M23 0 ls st H Q = M23 1 ls (.int 0 :: st) H Q := w_con (show decode kb23 0 = .ok (.iconst 0, 1) from by decide +kernel) rfl (by decide)
theorem m23_1u : M23 1 [l0, l1, l2, .unset, l4, l5, l6, l7] ((.int v) :: st) H Q = M23 2 [l0, l1, l2, .val (.int v), l4, l5, l6, l7] st H Q := w_st (i := 3) (p := isI) (show decode kb23 1 = .ok (.istore_n 3, 1) from by decide +kernel) rfl rfl rfl rfl rfl rfl
theorem m23_2 : M23 2 [.val (.ref r), l1, l2, l3, l4, l5, l6, l7] st H Q = M23 3 [.val (.ref r), l1, l2, l3, l4, l5, l6, l7] (.ref r :: st) H Q := w_x (show decode kb23 2 = .ok (.aload_n 0, 1) from by decide +kernel) rfl
theorem m23_3 : M23 3 ls (.ref (b + 1) :: st) (put (b + 1) pre s A post) Q = M23 6 ls (.ref ((b + 1) + 4) :: st) (put (b + 1) pre s A post) Q := w_get (show decode kb23 3 = .ok (.getfield 19, 3) from by decide +kernel) gf_19 put_o rfl
theorem m23_6 : M23 6 [l0, .val (.int v), l2, l3, l4, l5, l6, l7] st H Q = M23 7 [l0, .val (.int v), l2, l3, l4, l5, l6, l7] (.int v :: st) H Q := w_x (show decode kb23 6 = .ok (.iload_n 1, 1) from by decide +kernel) rfl
theorem m23_7  : M23 7 ls (.int j :: .ref ((b + 1) + 4) :: st) (put (b + 1) pre s A post) Q = (inB j (A 3) ∧ M23 8 ls (.int (getA (A 3) j) :: st) (put (b + 1) pre s A post) Q) := w_ild (show decode kb23 7 = .ok (.iaload, 1) from by decide +kernel) rfl put_a3
theorem m23_8u : M23 8 [l0, l1, l2, l3, .unset, l5, l6, l7] ((.int v) :: st) H Q = M23 10 [l0, l1, l2, l3, .val (.int v), l5, l6, l7] st H Q := w_st (i := 4) (p := isI) (show decode kb23 8 = .ok (.istore 4, 2) from by decide +kernel) rfl rfl rfl rfl rfl rfl
theorem m23_10 : M23 10 ls st H Q = M23 11 ls (.int 0 :: st) H Q := w_con (show decode kb23 10 = .ok (.iconst 0, 1) from by decide +kernel) rfl (by decide)
theorem m23_11u : M23 11 [l0, l1, l2, l3, l4, .unset, l6, l7] ((.int v) :: st) H Q = M23 13 [l0, l1, l2, l3, l4, .val (.int v), l6, l7] st H Q := w_st (i := 5) (p := isI) (show decode kb23 11 = .ok (.istore 5, 2) from by decide +kernel) rfl rfl rfl rfl rfl rfl
theorem m23_13 : M23 13 [l0, l1, l2, l3, l4, .val (.int v), l6, l7] st H Q = M23 15 [l0, l1, l2, l3, l4, .val (.int v), l6, l7] (.int v :: st) H Q := w_x (show decode kb23 13 = .ok (.iload 5, 2) from by decide +kernel) rfl
theorem m23_15 : M23 15 [l0, l1, .val (.int v), l3, l4, l5, l6, l7] st H Q = M23 16 [l0, l1, .val (.int v), l3, l4, l5, l6, l7] (.int v :: st) H Q := w_x (show decode kb23 15 = .ok (.iload_n 2, 1) from by decide +kernel) rfl
theorem m23_16 : M23 16 ls (.int y :: .int x :: st) H Q = if x < y then M23 19 ls st H Q else M23 95 ls st H Q := w_icmpN (show decode kb23 16 = .ok (.if_icmp .ge 79, 3) from by decide +kernel) (i_ge x y) rfl
theorem m23_19 : M23 19 [.val (.ref r), l1, l2, l3, l4, l5, l6, l7] st H Q = M23 20 [.val (.ref r), l1, l2, l3, l4, l5, l6, l7] (.ref r :: st) H Q := w_x (show decode kb23 19 = .ok (.aload_n 0, 1) from by decide +kernel) rfl
theorem m23_20 : M23 20 ls (.ref (b + 1) :: st) (put (b + 1) pre s A post) Q = M23 23 ls (.ref ((b + 1) + 4) :: st) (put (b + 1) pre s A post) Q := w_get (show decode kb23 20 = .ok (.getfield 19, 3) from by decide +kernel) gf_19 put_o rfl
theorem m23_23 : M23 23 [l0, l1, l2, l3, l4, .val (.int v), l6, l7] st H Q = M23 25 [l0, l1, l2, l3, l4, .val (.int v), l6, l7] (.int v :: st) H Q := w_x (show decode kb23 23 = .ok (.iload 5, 2) from by decide +kernel) rfl
theorem m23_25  : M23 25 ls (.int j :: .ref ((b + 1) + 4) :: st) (put (b + 1) pre s A post) Q = (inB j (A 3) ∧ M23 26 ls (.int (getA (A 3) j) :: st) (put (b + 1) pre s A post) Q) := w_ild (show decode kb23 25 = .ok (.iaload, 1) from by decide +kernel) rfl put_a3
theorem m23_26 : M23 26 [l0, l1, l2, l3, .val (.int v), l5, l6, l7] st H Q = M23 28 [l0, l1, l2, l3, .val (.int v), l5, l6, l7] (.int v :: st) H Q := w_x (show decode kb23 26 = .ok (.iload 4, 2) from by decide +kernel) rfl
theorem m23_28 : M23 28 ls (.int y :: .int x :: st) H Q = if x < y then M23 34 ls st H Q else M23 31 ls st H Q := w_icmp (show decode kb23 28 = .ok (.if_icmp .lt 6, 3) from by decide +kernel) (i_lt x y) rfl
theorem m23_31 : M23 31 ls st H Q = M23 89 ls st H Q := w_x (show decode kb23 31 = .ok (.goto 58, 3) from by decide +kernel) rfl
theorem m23_34 : M23 34 ls st H Q = M23 35 ls (.int 0 :: st) H Q := w_con (show decode kb23 34 = .ok (.iconst 0, 1) from by decide +kernel) rfl (by decide)
theorem m23_35u : M23 35 [l0, l1, l2, l3, l4, l5, .unset, l7] ((.int v) :: st) H Q = M23 37 [l0, l1, l2, l3, l4, l5, .val (.int v), l7] st H Q := w_st (i := 6) (p := isI) (show decode kb23 35 = .ok (.istore 6, 2) from by decide +kernel) rfl rfl rfl rfl rfl rfl
theorem m23_35i : M23 35 [l0, l1, l2, l3, l4, l5, .val (.int z), l7] ((.int v) :: st) H Q = M23 37 [l0, l1, l2, l3, l4, l5, .val (.int v), l7] st H Q := w_st (i := 6) (p := isI) (show decode kb23 35 = .ok (.istore 6, 2) from by decide +kernel) rfl rfl rfl rfl rfl rfl
theorem m23_35r : M23 35 [l0, l1, l2, l3, l4, l5, .val (.ref q), l7] ((.int v) :: st) H Q = M23 37 [l0, l1, l2, l3, l4, l5, .val (.int v), l7] st H Q := w_st (i := 6) (p := isI) (show decode kb23 35 = .ok (.istore 6, 2) from by decide +kernel) rfl rfl rfl rfl rfl rfl
theorem m23_35g (h : okS l6) : M23 35 [l0, l1, l2, l3, l4, l5, l6, l7] ((.int v) :: st) H Q = M23 37 [l0, l1, l2, l3, l4, l5, .val (.int v), l7] st H Q := by rcases h with rfl | ⟨z, rfl⟩ <;> first | exact m23_35u | exact m23_35i
theorem m23_37 : M23 37 [l0, l1, l2, l3, l4, l5, .val (.int v), l7] st H Q = M23 39 [l0, l1, l2, l3, l4, l5, .val (.int v), l7] (.int v :: st) H Q := w_x (show decode kb23 37 = .ok (.iload 6, 2) from by decide +kernel) rfl
theorem m23_39 : M23 39 ls st H Q = M23 40 ls (.int 4 :: st) H Q := w_con (show decode kb23 39 = .ok (.iconst 4, 1) from by decide +kernel) rfl (by decide)
theorem m23_40 : M23 40 ls (.int y :: .int x :: st) H Q = if x < y then M23 43 ls st H Q else M23 89 ls st H Q := w_icmpN (show decode kb23 40 = .ok (.if_icmp .ge 49, 3) from by decide +kernel) (i_ge x y) rfl
theorem m23_43 : M23 43 [.val (.ref r), l1, l2, l3, l4, l5, l6, l7] st H Q = M23 44 [.val (.ref r), l1, l2, l3, l4, l5, l6, l7] (.ref r :: st) H Q := w_x (show decode kb23 43 = .ok (.aload_n 0, 1) from by decide +kernel) rfl
theorem m23_44 : M23 44 ls (.ref (b + 1) :: st) (put (b + 1) pre s A post) Q = M23 47 ls (.ref ((b + 1) + 6) :: st) (put (b + 1) pre s A post) Q := w_get (show decode kb23 44 = .ok (.getfield 25, 3) from by decide +kernel) gf_25 put_o rfl
theorem m23_47 : M23 47 [l0, l1, l2, l3, l4, .val (.int v), l6, l7] st H Q = M23 49 [l0, l1, l2, l3, l4, .val (.int v), l6, l7] (.int v :: st) H Q := w_x (show decode kb23 47 = .ok (.iload 5, 2) from by decide +kernel) rfl
theorem m23_49 : M23 49 ls st H Q = M23 50 ls (.int 4 :: st) H Q := w_con (show decode kb23 49 = .ok (.iconst 4, 1) from by decide +kernel) rfl (by decide)
theorem m23_50 : M23 50 ls (.int y :: .int x :: st) H Q = M23 51 ls (.int (x * y) :: st) H Q := w_x (show decode kb23 50 = .ok (.imul, 1) from by decide +kernel) rfl
theorem m23_51 : M23 51 [l0, l1, l2, l3, l4, l5, .val (.int v), l7] st H Q = M23 53 [l0, l1, l2, l3, l4, l5, .val (.int v), l7] (.int v :: st) H Q := w_x (show decode kb23 51 = .ok (.iload 6, 2) from by decide +kernel) rfl
theorem m23_53 : M23 53 ls (.int y :: .int x :: st) H Q = M23 54 ls (.int (x + y) :: st) H Q := w_x (show decode kb23 53 = .ok (.iadd, 1) from by decide +kernel) rfl
theorem m23_54  : M23 54 ls (.int j :: .ref ((b + 1) + 6) :: st) (put (b + 1) pre s A post) Q = (inB j (A 5) ∧ M23 55 ls (.int (getA (A 5) j) :: st) (put (b + 1) pre s A post) Q) := w_ild (show decode kb23 54 = .ok (.iaload, 1) from by decide +kernel) rfl put_a5
theorem m23_55u : M23 55 [l0, l1, l2, l3, l4, l5, l6, .unset] ((.int v) :: st) H Q = M23 57 [l0, l1, l2, l3, l4, l5, l6, .val (.int v)] st H Q := w_st (i := 7) (p := isI) (show decode kb23 55 = .ok (.istore 7, 2) from by decide +kernel) rfl rfl rfl rfl rfl rfl
theorem m23_55i : M23 55 [l0, l1, l2, l3, l4, l5, l6, .val (.int z)] ((.int v) :: st) H Q = M23 57 [l0, l1, l2, l3, l4, l5, l6, .val (.int v)] st H Q := w_st (i := 7) (p := isI) (show decode kb23 55 = .ok (.istore 7, 2) from by decide +kernel) rfl rfl rfl rfl rfl rfl
theorem m23_55r : M23 55 [l0, l1, l2, l3, l4, l5, l6, .val (.ref q)] ((.int v) :: st) H Q = M23 57 [l0, l1, l2, l3, l4, l5, l6, .val (.int v)] st H Q := w_st (i := 7) (p := isI) (show decode kb23 55 = .ok (.istore 7, 2) from by decide +kernel) rfl rfl rfl rfl rfl rfl
theorem m23_55g (h : okS l7) : M23 55 [l0, l1, l2, l3, l4, l5, l6, l7] ((.int v) :: st) H Q = M23 57 [l0, l1, l2, l3, l4, l5, l6, .val (.int v)] st H Q := by rcases h with rfl | ⟨z, rfl⟩ <;> first | exact m23_55u | exact m23_55i
theorem m23_57 : M23 57 [l0, l1, l2, l3, l4, l5, l6, .val (.int v)] st H Q = M23 59 [l0, l1, l2, l3, l4, l5, l6, .val (.int v)] (.int v :: st) H Q := w_x (show decode kb23 57 = .ok (.iload 7, 2) from by decide +kernel) rfl
theorem m23_59 : M23 59 ls (.int x :: st) H Q = if 0 < x then M23 62 ls st H Q else M23 83 ls st H Q := w_ifN (show decode kb23 59 = .ok (.ifCond .le 24, 3) from by decide +kernel) (z_le x) rfl
theorem m23_62 : M23 62 [.val (.ref r), l1, l2, l3, l4, l5, l6, l7] st H Q = M23 63 [.val (.ref r), l1, l2, l3, l4, l5, l6, l7] (.ref r :: st) H Q := w_x (show decode kb23 62 = .ok (.aload_n 0, 1) from by decide +kernel) rfl
theorem m23_63 : M23 63 ls (.ref (b + 1) :: st) (put (b + 1) pre s A post) Q = M23 66 ls (.ref ((b + 1) + 12) :: st) (put (b + 1) pre s A post) Q := w_get (show decode kb23 63 = .ok (.getfield 43, 3) from by decide +kernel) gf_43 put_o rfl
theorem m23_66 : M23 66 [l0, l1, l2, l3, l4, l5, .val (.int v), l7] st H Q = M23 68 [l0, l1, l2, l3, l4, l5, .val (.int v), l7] (.int v :: st) H Q := w_x (show decode kb23 66 = .ok (.iload 6, 2) from by decide +kernel) rfl
theorem m23_68  : M23 68 ls (.int j :: .ref ((b + 1) + 12) :: st) (put (b + 1) pre s A post) Q = (inB j (A 11) ∧ M23 69 ls (.int (getA (A 11) j) :: st) (put (b + 1) pre s A post) Q) := w_ild (show decode kb23 68 = .ok (.iaload, 1) from by decide +kernel) rfl put_a11
theorem m23_69 : M23 69 [l0, l1, l2, l3, .val (.int v), l5, l6, l7] st H Q = M23 71 [l0, l1, l2, l3, .val (.int v), l5, l6, l7] (.int v :: st) H Q := w_x (show decode kb23 69 = .ok (.iload 4, 2) from by decide +kernel) rfl
theorem m23_71 : M23 71 ls (.int y :: .int x :: st) H Q = if x < y then M23 83 ls st H Q else M23 74 ls st H Q := w_icmp (show decode kb23 71 = .ok (.if_icmp .lt 12, 3) from by decide +kernel) (i_lt x y) rfl
theorem m23_74 : M23 74 [l0, l1, l2, l3, l4, l5, l6, .val (.int v)] st H Q = M23 76 [l0, l1, l2, l3, l4, l5, l6, .val (.int v)] (.int v :: st) H Q := w_x (show decode kb23 74 = .ok (.iload 7, 2) from by decide +kernel) rfl
theorem m23_76 : M23 76 [l0, l1, l2, .val (.int v), l4, l5, l6, l7] st H Q = M23 77 [l0, l1, l2, .val (.int v), l4, l5, l6, l7] (.int v :: st) H Q := w_x (show decode kb23 76 = .ok (.iload_n 3, 1) from by decide +kernel) rfl
theorem m23_77 : M23 77 ls (.int y :: .int x :: st) H Q = if y < x then M23 80 ls st H Q else M23 83 ls st H Q := w_icmpN (show decode kb23 77 = .ok (.if_icmp .le 6, 3) from by decide +kernel) (i_le x y) rfl
theorem m23_80 : M23 80 [l0, l1, l2, l3, l4, l5, l6, .val (.int v)] st H Q = M23 82 [l0, l1, l2, l3, l4, l5, l6, .val (.int v)] (.int v :: st) H Q := w_x (show decode kb23 80 = .ok (.iload 7, 2) from by decide +kernel) rfl
theorem m23_82i : M23 82 [l0, l1, l2, .val (.int z), l4, l5, l6, l7] ((.int v) :: st) H Q = M23 83 [l0, l1, l2, .val (.int v), l4, l5, l6, l7] st H Q := w_st (i := 3) (p := isI) (show decode kb23 82 = .ok (.istore_n 3, 1) from by decide +kernel) rfl rfl rfl rfl rfl rfl
theorem m23_83 : M23 83 [l0, l1, l2, l3, l4, l5, .val (.int v), l7] st H Q = M23 86 [l0, l1, l2, l3, l4, l5, .val (.int (v + 1)), l7] st H Q := w_iinc (show decode kb23 83 = .ok (.iinc 6 1, 3) from by decide +kernel) rfl (by decide) rfl
theorem m23_86 : M23 86 ls st H Q = M23 37 ls st H Q := w_x (show decode kb23 86 = .ok (.goto (-49), 3) from by decide +kernel) rfl
theorem m23_89 : M23 89 [l0, l1, l2, l3, l4, .val (.int v), l6, l7] st H Q = M23 92 [l0, l1, l2, l3, l4, .val (.int (v + 1)), l6, l7] st H Q := w_iinc (show decode kb23 89 = .ok (.iinc 5 1, 3) from by decide +kernel) rfl (by decide) rfl
theorem m23_92 : M23 92 ls st H Q = M23 13 ls st H Q := w_x (show decode kb23 92 = .ok (.goto (-79), 3) from by decide +kernel) rfl
theorem m23_95 : M23 95 [l0, l1, l2, .val (.int v), l4, l5, l6, l7] st H Q = M23 96 [l0, l1, l2, .val (.int v), l4, l5, l6, l7] (.int v :: st) H Q := w_x (show decode kb23 95 = .ok (.iload_n 3, 1) from by decide +kernel) rfl
theorem m23_96 : M23 96 ls (.int z :: st) H Q = Q (some (.int z)) H := w_iret (show decode kb23 96 = .ok (.ireturn, 1) from by decide +kernel) rfl
theorem m24_0 : M24 0 [.val (.ref r), l1, l2, l3, l4, l5, l6, l7] st H Q = M24 1 [.val (.ref r), l1, l2, l3, l4, l5, l6, l7] (.ref r :: st) H Q := w_x (show decode kb24 0 = .ok (.aload_n 0, 1) from by decide +kernel) rfl
theorem m24_1 : M24 1 ls (.ref (b + 1) :: st) (put (b + 1) pre s A post) Q = M24 4 ls (.ref ((b + 1) + 3) :: st) (put (b + 1) pre s A post) Q := w_get (show decode kb24 1 = .ok (.getfield 16, 3) from by decide +kernel) gf_16 put_o rfl
theorem m24_4 : M24 4 [l0, .val (.int v), l2, l3, l4, l5, l6, l7] st H Q = M24 5 [l0, .val (.int v), l2, l3, l4, l5, l6, l7] (.int v :: st) H Q := w_x (show decode kb24 4 = .ok (.iload_n 1, 1) from by decide +kernel) rfl
theorem m24_5  : M24 5 ls (.int j :: .ref ((b + 1) + 3) :: st) (put (b + 1) pre s A post) Q = (inB j (A 2) ∧ M24 6 ls (.int (getA (A 2) j) :: st) (put (b + 1) pre s A post) Q) := w_ild (show decode kb24 5 = .ok (.iaload, 1) from by decide +kernel) rfl put_a2
theorem m24_6 : M24 6 [l0, l1, l2, .val (.int v), l4, l5, l6, l7] st H Q = M24 7 [l0, l1, l2, .val (.int v), l4, l5, l6, l7] (.int v :: st) H Q := w_x (show decode kb24 6 = .ok (.iload_n 3, 1) from by decide +kernel) rfl
theorem m24_7 : M24 7 ls (.int y :: .int x :: st) H Q = M24 8 ls (.int (x + y) :: st) H Q := w_x (show decode kb24 7 = .ok (.iadd, 1) from by decide +kernel) rfl
theorem m24_8u : M24 8 [l0, l1, l2, l3, .unset, l5, l6, l7] ((.int v) :: st) H Q = M24 10 [l0, l1, l2, l3, .val (.int v), l5, l6, l7] st H Q := w_st (i := 4) (p := isI) (show decode kb24 8 = .ok (.istore 4, 2) from by decide +kernel) rfl rfl rfl rfl rfl rfl
theorem m24_10 : M24 10 [l0, l1, l2, l3, .val (.int v), l5, l6, l7] st H Q = M24 12 [l0, l1, l2, l3, .val (.int v), l5, l6, l7] (.int v :: st) H Q := w_x (show decode kb24 10 = .ok (.iload 4, 2) from by decide +kernel) rfl
theorem m24_12u : M24 12 [l0, l1, l2, l3, l4, .unset, l6, l7] ((.int v) :: st) H Q = M24 14 [l0, l1, l2, l3, l4, .val (.int v), l6, l7] st H Q := w_st (i := 5) (p := isI) (show decode kb24 12 = .ok (.istore 5, 2) from by decide +kernel) rfl rfl rfl rfl rfl rfl
theorem m24_14 : M24 14 ls st H Q = M24 15 ls (.int 0 :: st) H Q := w_con (show decode kb24 14 = .ok (.iconst 0, 1) from by decide +kernel) rfl (by decide)
theorem m24_15u : M24 15 [l0, l1, l2, l3, l4, l5, .unset, l7] ((.int v) :: st) H Q = M24 17 [l0, l1, l2, l3, l4, l5, .val (.int v), l7] st H Q := w_st (i := 6) (p := isI) (show decode kb24 15 = .ok (.istore 6, 2) from by decide +kernel) rfl rfl rfl rfl rfl rfl
theorem m24_17 : M24 17 [l0, l1, l2, l3, l4, l5, .val (.int v), l7] st H Q = M24 19 [l0, l1, l2, l3, l4, l5, .val (.int v), l7] (.int v :: st) H Q := w_x (show decode kb24 17 = .ok (.iload 6, 2) from by decide +kernel) rfl
theorem m24_19 : M24 19 ls st H Q = M24 22 ls (.int 842 :: st) H Q := w_con (show decode kb24 19 = .ok (.sipush 842, 3) from by decide +kernel) rfl (by decide)
theorem m24_22 : M24 22 ls (.int y :: .int x :: st) H Q = if x < y then M24 25 ls st H Q else M24 71 ls st H Q := w_icmpN (show decode kb24 22 = .ok (.if_icmp .ge 49, 3) from by decide +kernel) (i_ge x y) rfl
theorem m24_25 : M24 25 [l0, l1, l2, l3, l4, .val (.int v), l6, l7] st H Q = M24 27 [l0, l1, l2, l3, l4, .val (.int v), l6, l7] (.int v :: st) H Q := w_x (show decode kb24 25 = .ok (.iload 5, 2) from by decide +kernel) rfl
theorem m24_27 : M24 27 [.val (.ref r), l1, l2, l3, l4, l5, l6, l7] st H Q = M24 28 [.val (.ref r), l1, l2, l3, l4, l5, l6, l7] (.ref r :: st) H Q := w_x (show decode kb24 27 = .ok (.aload_n 0, 1) from by decide +kernel) rfl
theorem m24_28 : M24 28 ls (.ref (b + 1) :: st) (put (b + 1) pre s A post) Q = M24 31 ls (.ref ((b + 1) + 2) :: st) (put (b + 1) pre s A post) Q := w_get (show decode kb24 28 = .ok (.getfield 13, 3) from by decide +kernel) gf_13 put_o rfl
theorem m24_31 : M24 31 [l0, .val (.int v), l2, l3, l4, l5, l6, l7] st H Q = M24 32 [l0, .val (.int v), l2, l3, l4, l5, l6, l7] (.int v :: st) H Q := w_x (show decode kb24 31 = .ok (.iload_n 1, 1) from by decide +kernel) rfl
theorem m24_32  : M24 32 ls (.int j :: .ref ((b + 1) + 2) :: st) (put (b + 1) pre s A post) Q = (inB j (A 1) ∧ M24 33 ls (.int (getA (A 1) j) :: st) (put (b + 1) pre s A post) Q) := w_ild (show decode kb24 32 = .ok (.iaload, 1) from by decide +kernel) rfl put_a1
theorem m24_33 : M24 33 ls (.int y :: .int x :: st) H Q = if y < x then M24 36 ls st H Q else M24 38 ls st H Q := w_icmpN (show decode kb24 33 = .ok (.if_icmp .le 5, 3) from by decide +kernel) (i_le x y) rfl
theorem m24_36 : M24 36 ls st H Q = M24 37 ls (.int (-1) :: st) H Q := w_con (show decode kb24 36 = .ok (.iconst (-1), 1) from by decide +kernel) rfl (by decide)
theorem m24_37 : M24 37 ls (.int z :: st) H Q = Q (some (.int z)) H := w_iret (show decode kb24 37 = .ok (.ireturn, 1) from by decide +kernel) rfl
theorem m24_38 : M24 38 [l0, l1, l2, l3, .val (.int v), l5, l6, l7] st H Q = M24 40 [l0, l1, l2, l3, .val (.int v), l5, l6, l7] (.int v :: st) H Q := w_x (show decode kb24 38 = .ok (.iload 4, 2) from by decide +kernel) rfl
theorem m24_40 : M24 40 [.val (.ref r), l1, l2, l3, l4, l5, l6, l7] st H Q = M24 41 [.val (.ref r), l1, l2, l3, l4, l5, l6, l7] (.ref r :: st) H Q := w_x (show decode kb24 40 = .ok (.aload_n 0, 1) from by decide +kernel) rfl
theorem m24_41 : M24 41 [l0, .val (.int v), l2, l3, l4, l5, l6, l7] st H Q = M24 42 [l0, .val (.int v), l2, l3, l4, l5, l6, l7] (.int v :: st) H Q := w_x (show decode kb24 41 = .ok (.iload_n 1, 1) from by decide +kernel) rfl
theorem m24_42 : M24 42 [l0, l1, .val (.int v), l3, l4, l5, l6, l7] st H Q = M24 43 [l0, l1, .val (.int v), l3, l4, l5, l6, l7] (.int v :: st) H Q := w_x (show decode kb24 42 = .ok (.iload_n 2, 1) from by decide +kernel) rfl
theorem m24_43 : M24 43 [l0, l1, l2, l3, l4, .val (.int v), l6, l7] st H Q = M24 45 [l0, l1, l2, l3, l4, .val (.int v), l6, l7] (.int v :: st) H Q := w_x (show decode kb24 43 = .ok (.iload 5, 2) from by decide +kernel) rfl
theorem cr24_139 : vR tables_1 dn y24 139 = some (true, y25, prog_1_method_15_code, 8, (some .int), 3, 1) := pR_of (cR_of (by decide +kernel) rc_25 dn_25 dn_24 (sig := ⟨[.int, .int, .int], some .int⟩) (by decide +kernel) (by decide +kernel) rfl rfl) (by decide +kernel) (by decide +kernel)
theorem m24_45 (a0 : Int32) (a1 : Int32) (a2 : Int32) (u0 : Int32) : M24 45 ls [.int a2, .int a1, .int a0, .ref (b + 1), .int u0] (put (b + 1) pre s A post) Q = M25 0 [.val (.ref (b + 1)), .val (.int a0), .val (.int a1), .val (.int a2), .unset, .unset, .unset, .unset] [] (put (b + 1) pre s A post) (fun v H1 => M24 48 ls (v.toList ++ [.int u0]) H1 Q) := w_virt (as := [.int a2, .int a1, .int a0]) (rest := [.int u0]) (a := (b + 1)) (show decode kb24 45 = .ok (.invokevirtual 139, 3) from by decide +kernel) cr24_139 put_o rfl rfl (Nat.le_of_ble_eq_true rfl) (by show 4 ≤ 8; omega) rfl
theorem m24_48 : M24 48 ls (.int y :: .int x :: st) H Q = M24 49 ls (.int (x + y) :: st) H Q := w_x (show decode kb24 48 = .ok (.iadd, 1) from by decide +kernel) rfl
theorem m24_49u : M24 49 [l0, l1, l2, l3, l4, l5, l6, .unset] ((.int v) :: st) H Q = M24 51 [l0, l1, l2, l3, l4, l5, l6, .val (.int v)] st H Q := w_st (i := 7) (p := isI) (show decode kb24 49 = .ok (.istore 7, 2) from by decide +kernel) rfl rfl rfl rfl rfl rfl
theorem m24_49i : M24 49 [l0, l1, l2, l3, l4, l5, l6, .val (.int z)] ((.int v) :: st) H Q = M24 51 [l0, l1, l2, l3, l4, l5, l6, .val (.int v)] st H Q := w_st (i := 7) (p := isI) (show decode kb24 49 = .ok (.istore 7, 2) from by decide +kernel) rfl rfl rfl rfl rfl rfl
theorem m24_49r : M24 49 [l0, l1, l2, l3, l4, l5, l6, .val (.ref q)] ((.int v) :: st) H Q = M24 51 [l0, l1, l2, l3, l4, l5, l6, .val (.int v)] st H Q := w_st (i := 7) (p := isI) (show decode kb24 49 = .ok (.istore 7, 2) from by decide +kernel) rfl rfl rfl rfl rfl rfl
theorem m24_49g (h : okS l7) : M24 49 [l0, l1, l2, l3, l4, l5, l6, l7] ((.int v) :: st) H Q = M24 51 [l0, l1, l2, l3, l4, l5, l6, .val (.int v)] st H Q := by rcases h with rfl | ⟨z, rfl⟩ <;> first | exact m24_49u | exact m24_49i
theorem m24_51 : M24 51 [l0, l1, l2, l3, l4, l5, l6, .val (.int v)] st H Q = M24 53 [l0, l1, l2, l3, l4, l5, l6, .val (.int v)] (.int v :: st) H Q := w_x (show decode kb24 51 = .ok (.iload 7, 2) from by decide +kernel) rfl
theorem m24_53 : M24 53 [l0, l1, l2, l3, l4, .val (.int v), l6, l7] st H Q = M24 55 [l0, l1, l2, l3, l4, .val (.int v), l6, l7] (.int v :: st) H Q := w_x (show decode kb24 53 = .ok (.iload 5, 2) from by decide +kernel) rfl
theorem m24_55 : M24 55 ls (.int y :: .int x :: st) H Q = if x = y then M24 58 ls st H Q else M24 61 ls st H Q := w_icmpN (show decode kb24 55 = .ok (.if_icmp .ne 6, 3) from by decide +kernel) (i_ne x y) rfl
theorem m24_58 : M24 58 [l0, l1, l2, l3, l4, .val (.int v), l6, l7] st H Q = M24 60 [l0, l1, l2, l3, l4, .val (.int v), l6, l7] (.int v :: st) H Q := w_x (show decode kb24 58 = .ok (.iload 5, 2) from by decide +kernel) rfl
theorem m24_60 : M24 60 ls (.int z :: st) H Q = Q (some (.int z)) H := w_iret (show decode kb24 60 = .ok (.ireturn, 1) from by decide +kernel) rfl
theorem m24_61 : M24 61 [l0, l1, l2, l3, l4, l5, l6, .val (.int v)] st H Q = M24 63 [l0, l1, l2, l3, l4, l5, l6, .val (.int v)] (.int v :: st) H Q := w_x (show decode kb24 61 = .ok (.iload 7, 2) from by decide +kernel) rfl
theorem m24_63i : M24 63 [l0, l1, l2, l3, l4, .val (.int z), l6, l7] ((.int v) :: st) H Q = M24 65 [l0, l1, l2, l3, l4, .val (.int v), l6, l7] st H Q := w_st (i := 5) (p := isI) (show decode kb24 63 = .ok (.istore 5, 2) from by decide +kernel) rfl rfl rfl rfl rfl rfl
theorem m24_65 : M24 65 [l0, l1, l2, l3, l4, l5, .val (.int v), l7] st H Q = M24 68 [l0, l1, l2, l3, l4, l5, .val (.int (v + 1)), l7] st H Q := w_iinc (show decode kb24 65 = .ok (.iinc 6 1, 3) from by decide +kernel) rfl (by decide) rfl
theorem m24_68 : M24 68 ls st H Q = M24 17 ls st H Q := w_x (show decode kb24 68 = .ok (.goto (-51), 3) from by decide +kernel) rfl
theorem m24_71 : M24 71 ls st H Q = M24 72 ls (.int (-1) :: st) H Q := w_con (show decode kb24 71 = .ok (.iconst (-1), 1) from by decide +kernel) rfl (by decide)
theorem m24_72 : M24 72 ls (.int z :: st) H Q = Q (some (.int z)) H := w_iret (show decode kb24 72 = .ok (.ireturn, 1) from by decide +kernel) rfl
theorem m25_0 : M25 0 ls st H Q = M25 1 ls (.int 0 :: st) H Q := w_con (show decode kb25 0 = .ok (.iconst 0, 1) from by decide +kernel) rfl (by decide)
theorem m25_1u : M25 1 [l0, l1, l2, l3, .unset, l5, l6, l7] ((.int v) :: st) H Q = M25 3 [l0, l1, l2, l3, .val (.int v), l5, l6, l7] st H Q := w_st (i := 4) (p := isI) (show decode kb25 1 = .ok (.istore 4, 2) from by decide +kernel) rfl rfl rfl rfl rfl rfl
theorem m25_3 : M25 3 [.val (.ref r), l1, l2, l3, l4, l5, l6, l7] st H Q = M25 4 [.val (.ref r), l1, l2, l3, l4, l5, l6, l7] (.ref r :: st) H Q := w_x (show decode kb25 3 = .ok (.aload_n 0, 1) from by decide +kernel) rfl
theorem m25_4 : M25 4 ls (.ref (b + 1) :: st) (put (b + 1) pre s A post) Q = M25 7 ls (.ref ((b + 1) + 4) :: st) (put (b + 1) pre s A post) Q := w_get (show decode kb25 4 = .ok (.getfield 19, 3) from by decide +kernel) gf_19 put_o rfl
theorem m25_7 : M25 7 [l0, .val (.int v), l2, l3, l4, l5, l6, l7] st H Q = M25 8 [l0, .val (.int v), l2, l3, l4, l5, l6, l7] (.int v :: st) H Q := w_x (show decode kb25 7 = .ok (.iload_n 1, 1) from by decide +kernel) rfl
theorem m25_8  : M25 8 ls (.int j :: .ref ((b + 1) + 4) :: st) (put (b + 1) pre s A post) Q = (inB j (A 3) ∧ M25 9 ls (.int (getA (A 3) j) :: st) (put (b + 1) pre s A post) Q) := w_ild (show decode kb25 8 = .ok (.iaload, 1) from by decide +kernel) rfl put_a3
theorem m25_9u : M25 9 [l0, l1, l2, l3, l4, .unset, l6, l7] ((.int v) :: st) H Q = M25 11 [l0, l1, l2, l3, l4, .val (.int v), l6, l7] st H Q := w_st (i := 5) (p := isI) (show decode kb25 9 = .ok (.istore 5, 2) from by decide +kernel) rfl rfl rfl rfl rfl rfl
theorem m25_11 : M25 11 ls st H Q = M25 12 ls (.int 0 :: st) H Q := w_con (show decode kb25 11 = .ok (.iconst 0, 1) from by decide +kernel) rfl (by decide)
theorem m25_12u : M25 12 [l0, l1, l2, l3, l4, l5, .unset, l7] ((.int v) :: st) H Q = M25 14 [l0, l1, l2, l3, l4, l5, .val (.int v), l7] st H Q := w_st (i := 6) (p := isI) (show decode kb25 12 = .ok (.istore 6, 2) from by decide +kernel) rfl rfl rfl rfl rfl rfl
theorem m25_14 : M25 14 [l0, l1, l2, l3, l4, l5, .val (.int v), l7] st H Q = M25 16 [l0, l1, l2, l3, l4, l5, .val (.int v), l7] (.int v :: st) H Q := w_x (show decode kb25 14 = .ok (.iload 6, 2) from by decide +kernel) rfl
theorem m25_16 : M25 16 [l0, l1, .val (.int v), l3, l4, l5, l6, l7] st H Q = M25 17 [l0, l1, .val (.int v), l3, l4, l5, l6, l7] (.int v :: st) H Q := w_x (show decode kb25 16 = .ok (.iload_n 2, 1) from by decide +kernel) rfl
theorem m25_17 : M25 17 ls (.int y :: .int x :: st) H Q = if x < y then M25 20 ls st H Q else M25 74 ls st H Q := w_icmpN (show decode kb25 17 = .ok (.if_icmp .ge 57, 3) from by decide +kernel) (i_ge x y) rfl
theorem m25_20 : M25 20 [.val (.ref r), l1, l2, l3, l4, l5, l6, l7] st H Q = M25 21 [.val (.ref r), l1, l2, l3, l4, l5, l6, l7] (.ref r :: st) H Q := w_x (show decode kb25 20 = .ok (.aload_n 0, 1) from by decide +kernel) rfl
theorem m25_21 : M25 21 ls (.ref (b + 1) :: st) (put (b + 1) pre s A post) Q = M25 24 ls (.ref ((b + 1) + 1) :: st) (put (b + 1) pre s A post) Q := w_get (show decode kb25 21 = .ok (.getfield 7, 3) from by decide +kernel) gf_7 put_o rfl
theorem m25_24 : M25 24 [l0, l1, l2, l3, l4, l5, .val (.int v), l7] st H Q = M25 26 [l0, l1, l2, l3, l4, l5, .val (.int v), l7] (.int v :: st) H Q := w_x (show decode kb25 24 = .ok (.iload 6, 2) from by decide +kernel) rfl
theorem m25_26  : M25 26 ls (.int j :: .ref ((b + 1) + 1) :: st) (put (b + 1) pre s A post) Q = (inB j (A 0) ∧ M25 27 ls (.int (getA (A 0) j) :: st) (put (b + 1) pre s A post) Q) := w_ild (show decode kb25 26 = .ok (.iaload, 1) from by decide +kernel) rfl put_a0
theorem m25_27u : M25 27 [l0, l1, l2, l3, l4, l5, l6, .unset] ((.int v) :: st) H Q = M25 29 [l0, l1, l2, l3, l4, l5, l6, .val (.int v)] st H Q := w_st (i := 7) (p := isI) (show decode kb25 27 = .ok (.istore 7, 2) from by decide +kernel) rfl rfl rfl rfl rfl rfl
theorem m25_27i : M25 27 [l0, l1, l2, l3, l4, l5, l6, .val (.int z)] ((.int v) :: st) H Q = M25 29 [l0, l1, l2, l3, l4, l5, l6, .val (.int v)] st H Q := w_st (i := 7) (p := isI) (show decode kb25 27 = .ok (.istore 7, 2) from by decide +kernel) rfl rfl rfl rfl rfl rfl
theorem m25_27r : M25 27 [l0, l1, l2, l3, l4, l5, l6, .val (.ref q)] ((.int v) :: st) H Q = M25 29 [l0, l1, l2, l3, l4, l5, l6, .val (.int v)] st H Q := w_st (i := 7) (p := isI) (show decode kb25 27 = .ok (.istore 7, 2) from by decide +kernel) rfl rfl rfl rfl rfl rfl
theorem m25_27g (h : okS l7) : M25 27 [l0, l1, l2, l3, l4, l5, l6, l7] ((.int v) :: st) H Q = M25 29 [l0, l1, l2, l3, l4, l5, l6, .val (.int v)] st H Q := by rcases h with rfl | ⟨z, rfl⟩ <;> first | exact m25_27u | exact m25_27i
theorem m25_29 : M25 29 [.val (.ref r), l1, l2, l3, l4, l5, l6, l7] st H Q = M25 30 [.val (.ref r), l1, l2, l3, l4, l5, l6, l7] (.ref r :: st) H Q := w_x (show decode kb25 29 = .ok (.aload_n 0, 1) from by decide +kernel) rfl
theorem m25_30 : M25 30 ls (.ref (b + 1) :: st) (put (b + 1) pre s A post) Q = M25 33 ls (.ref ((b + 1) + 4) :: st) (put (b + 1) pre s A post) Q := w_get (show decode kb25 30 = .ok (.getfield 19, 3) from by decide +kernel) gf_19 put_o rfl
theorem m25_33 : M25 33 [l0, l1, l2, l3, l4, l5, .val (.int v), l7] st H Q = M25 35 [l0, l1, l2, l3, l4, l5, .val (.int v), l7] (.int v :: st) H Q := w_x (show decode kb25 33 = .ok (.iload 6, 2) from by decide +kernel) rfl
theorem m25_35  : M25 35 ls (.int j :: .ref ((b + 1) + 4) :: st) (put (b + 1) pre s A post) Q = (inB j (A 3) ∧ M25 36 ls (.int (getA (A 3) j) :: st) (put (b + 1) pre s A post) Q) := w_ild (show decode kb25 35 = .ok (.iaload, 1) from by decide +kernel) rfl put_a3
theorem m25_36 : M25 36 [l0, l1, l2, l3, l4, .val (.int v), l6, l7] st H Q = M25 38 [l0, l1, l2, l3, l4, .val (.int v), l6, l7] (.int v :: st) H Q := w_x (show decode kb25 36 = .ok (.iload 5, 2) from by decide +kernel) rfl
theorem m25_38 : M25 38 ls (.int y :: .int x :: st) H Q = if y < x then M25 41 ls st H Q else M25 68 ls st H Q := w_icmpN (show decode kb25 38 = .ok (.if_icmp .le 30, 3) from by decide +kernel) (i_le x y) rfl
theorem m25_41 : M25 41 [l0, l1, l2, l3, l4, l5, l6, .val (.int v)] st H Q = M25 43 [l0, l1, l2, l3, l4, l5, l6, .val (.int v)] (.int v :: st) H Q := w_x (show decode kb25 41 = .ok (.iload 7, 2) from by decide +kernel) rfl
theorem m25_43 : M25 43 ls (.int x :: st) H Q = if 0 < x then M25 46 ls st H Q else M25 68 ls st H Q := w_ifN (show decode kb25 43 = .ok (.ifCond .le 25, 3) from by decide +kernel) (z_le x) rfl
theorem m25_46 : M25 46 [l0, l1, l2, l3, .val (.int v), l5, l6, l7] st H Q = M25 48 [l0, l1, l2, l3, .val (.int v), l5, l6, l7] (.int v :: st) H Q := w_x (show decode kb25 46 = .ok (.iload 4, 2) from by decide +kernel) rfl
theorem m25_48 : M25 48 [l0, l1, l2, .val (.int v), l4, l5, l6, l7] st H Q = M25 49 [l0, l1, l2, .val (.int v), l4, l5, l6, l7] (.int v :: st) H Q := w_x (show decode kb25 48 = .ok (.iload_n 3, 1) from by decide +kernel) rfl
theorem m25_49 : M25 49 [l0, l1, l2, l3, l4, l5, l6, .val (.int v)] st H Q = M25 51 [l0, l1, l2, l3, l4, l5, l6, .val (.int v)] (.int v :: st) H Q := w_x (show decode kb25 49 = .ok (.iload 7, 2) from by decide +kernel) rfl
theorem m25_51 : M25 51 ls (.int y :: .int x :: st) H Q = M25 52 ls (.int (x + y) :: st) H Q := w_x (show decode kb25 51 = .ok (.iadd, 1) from by decide +kernel) rfl
theorem m25_52 : M25 52 ls st H Q = M25 53 ls (.int 1 :: st) H Q := w_con (show decode kb25 52 = .ok (.iconst 1, 1) from by decide +kernel) rfl (by decide)
theorem m25_53 : M25 53 ls (.int y :: .int x :: st) H Q = M25 54 ls (.int (x - y) :: st) H Q := w_x (show decode kb25 53 = .ok (.isub, 1) from by decide +kernel) rfl
theorem m25_54 : M25 54 [l0, l1, l2, l3, l4, l5, l6, .val (.int v)] st H Q = M25 56 [l0, l1, l2, l3, l4, l5, l6, .val (.int v)] (.int v :: st) H Q := w_x (show decode kb25 54 = .ok (.iload 7, 2) from by decide +kernel) rfl
theorem m25_56 : M25 56 ls (.int y :: .int x :: st) H Q = (y ≠ 0 ∧ M25 57 ls (.int (x / y) :: st) H Q) := w_div (f := fun x y => x / y) (show decode kb25 56 = .ok (.idiv, 1) from by decide +kernel) (fun _ => rfl) rfl rfl
theorem m25_57 : M25 57 [.val (.ref r), l1, l2, l3, l4, l5, l6, l7] st H Q = M25 58 [.val (.ref r), l1, l2, l3, l4, l5, l6, l7] (.ref r :: st) H Q := w_x (show decode kb25 57 = .ok (.aload_n 0, 1) from by decide +kernel) rfl
theorem m25_58 : M25 58 ls (.ref (b + 1) :: st) (put (b + 1) pre s A post) Q = M25 61 ls (.ref ((b + 1) + 3) :: st) (put (b + 1) pre s A post) Q := w_get (show decode kb25 58 = .ok (.getfield 16, 3) from by decide +kernel) gf_16 put_o rfl
theorem m25_61 : M25 61 [l0, l1, l2, l3, l4, l5, .val (.int v), l7] st H Q = M25 63 [l0, l1, l2, l3, l4, l5, .val (.int v), l7] (.int v :: st) H Q := w_x (show decode kb25 61 = .ok (.iload 6, 2) from by decide +kernel) rfl
theorem m25_63  : M25 63 ls (.int j :: .ref ((b + 1) + 3) :: st) (put (b + 1) pre s A post) Q = (inB j (A 2) ∧ M25 64 ls (.int (getA (A 2) j) :: st) (put (b + 1) pre s A post) Q) := w_ild (show decode kb25 63 = .ok (.iaload, 1) from by decide +kernel) rfl put_a2
theorem m25_64 : M25 64 ls (.int y :: .int x :: st) H Q = M25 65 ls (.int (x * y) :: st) H Q := w_x (show decode kb25 64 = .ok (.imul, 1) from by decide +kernel) rfl
theorem m25_65 : M25 65 ls (.int y :: .int x :: st) H Q = M25 66 ls (.int (x + y) :: st) H Q := w_x (show decode kb25 65 = .ok (.iadd, 1) from by decide +kernel) rfl
theorem m25_66i : M25 66 [l0, l1, l2, l3, .val (.int z), l5, l6, l7] ((.int v) :: st) H Q = M25 68 [l0, l1, l2, l3, .val (.int v), l5, l6, l7] st H Q := w_st (i := 4) (p := isI) (show decode kb25 66 = .ok (.istore 4, 2) from by decide +kernel) rfl rfl rfl rfl rfl rfl
theorem m25_68 : M25 68 [l0, l1, l2, l3, l4, l5, .val (.int v), l7] st H Q = M25 71 [l0, l1, l2, l3, l4, l5, .val (.int (v + 1)), l7] st H Q := w_iinc (show decode kb25 68 = .ok (.iinc 6 1, 3) from by decide +kernel) rfl (by decide) rfl
theorem m25_71 : M25 71 ls st H Q = M25 14 ls st H Q := w_x (show decode kb25 71 = .ok (.goto (-57), 3) from by decide +kernel) rfl
theorem m25_74 : M25 74 [l0, l1, l2, l3, .val (.int v), l5, l6, l7] st H Q = M25 76 [l0, l1, l2, l3, .val (.int v), l5, l6, l7] (.int v :: st) H Q := w_x (show decode kb25 74 = .ok (.iload 4, 2) from by decide +kernel) rfl
theorem m25_76 : M25 76 ls (.int z :: st) H Q = Q (some (.int z)) H := w_iret (show decode kb25 76 = .ok (.ireturn, 1) from by decide +kernel) rfl
theorem m26_0 : M26 0 ls st H Q = M26 1 ls (.int 0 :: st) H Q := w_con (show decode kb26 0 = .ok (.iconst 0, 1) from by decide +kernel) rfl (by decide)
theorem m26_1u : M26 1 [l0, l1, .unset] ((.int v) :: st) H Q = M26 2 [l0, l1, .val (.int v)] st H Q := w_st (i := 2) (p := isI) (show decode kb26 1 = .ok (.istore_n 2, 1) from by decide +kernel) rfl rfl rfl rfl rfl rfl
theorem m26_2 : M26 2 [l0, l1, .val (.int v)] st H Q = M26 3 [l0, l1, .val (.int v)] (.int v :: st) H Q := w_x (show decode kb26 2 = .ok (.iload_n 2, 1) from by decide +kernel) rfl
theorem m26_3 : M26 3 [l0, .val (.int v), l2] st H Q = M26 4 [l0, .val (.int v), l2] (.int v :: st) H Q := w_x (show decode kb26 3 = .ok (.iload_n 1, 1) from by decide +kernel) rfl
theorem m26_4 : M26 4 ls (.int y :: .int x :: st) H Q = if x < y then M26 7 ls st H Q else M26 37 ls st H Q := w_icmpN (show decode kb26 4 = .ok (.if_icmp .ge 33, 3) from by decide +kernel) (i_ge x y) rfl
theorem m26_7 : M26 7 [.val (.ref r), l1, l2] st H Q = M26 8 [.val (.ref r), l1, l2] (.ref r :: st) H Q := w_x (show decode kb26 7 = .ok (.aload_n 0, 1) from by decide +kernel) rfl
theorem m26_8 : M26 8 ls (.ref (b + 1) :: st) (put (b + 1) pre s A post) Q = M26 11 ls (.ref ((b + 1) + 7) :: st) (put (b + 1) pre s A post) Q := w_get (show decode kb26 8 = .ok (.getfield 28, 3) from by decide +kernel) gf_28 put_o rfl
theorem m26_11 : M26 11 [l0, l1, .val (.int v)] st H Q = M26 12 [l0, l1, .val (.int v)] (.int v :: st) H Q := w_x (show decode kb26 11 = .ok (.iload_n 2, 1) from by decide +kernel) rfl
theorem m26_12 : M26 12 [.val (.ref r), l1, l2] st H Q = M26 13 [.val (.ref r), l1, l2] (.ref r :: st) H Q := w_x (show decode kb26 12 = .ok (.aload_n 0, 1) from by decide +kernel) rfl
theorem m26_13 : M26 13 ls (.ref (b + 1) :: st) (put (b + 1) pre s A post) Q = M26 16 ls (.ref ((b + 1) + 14) :: st) (put (b + 1) pre s A post) Q := w_get (show decode kb26 13 = .ok (.getfield 49, 3) from by decide +kernel) gf_49 put_o rfl
theorem m26_16 : M26 16 [l0, l1, .val (.int v)] st H Q = M26 17 [l0, l1, .val (.int v)] (.int v :: st) H Q := w_x (show decode kb26 16 = .ok (.iload_n 2, 1) from by decide +kernel) rfl
theorem m26_17  : M26 17 ls (.int j :: .ref ((b + 1) + 14) :: st) (put (b + 1) pre s A post) Q = (inB j (A 13) ∧ M26 18 ls (.int (getA (A 13) j) :: st) (put (b + 1) pre s A post) Q) := w_ild (show decode kb26 17 = .ok (.iaload, 1) from by decide +kernel) rfl put_a13
theorem m26_18  : M26 18 ls (.int v :: .int j :: .ref ((b + 1) + 7) :: st) (put (b + 1) pre s A post) Q = (inB j (A 6) ∧ M26 19 ls st (put (b + 1) pre s (ou A 6 (setA (A 6) j v)) post) Q) := w_ist (show decode kb26 18 = .ok (.iastore, 1) from by decide +kernel) rfl put_a6 (by omega) rfl put_w6
theorem m26_19 : M26 19 [.val (.ref r), l1, l2] st H Q = M26 20 [.val (.ref r), l1, l2] (.ref r :: st) H Q := w_x (show decode kb26 19 = .ok (.aload_n 0, 1) from by decide +kernel) rfl
theorem m26_20 : M26 20 ls (.ref (b + 1) :: st) (put (b + 1) pre s A post) Q = M26 23 ls (.ref ((b + 1) + 8) :: st) (put (b + 1) pre s A post) Q := w_get (show decode kb26 20 = .ok (.getfield 31, 3) from by decide +kernel) gf_31 put_o rfl
theorem m26_23 : M26 23 [l0, l1, .val (.int v)] st H Q = M26 24 [l0, l1, .val (.int v)] (.int v :: st) H Q := w_x (show decode kb26 23 = .ok (.iload_n 2, 1) from by decide +kernel) rfl
theorem m26_24 : M26 24 [.val (.ref r), l1, l2] st H Q = M26 25 [.val (.ref r), l1, l2] (.ref r :: st) H Q := w_x (show decode kb26 24 = .ok (.aload_n 0, 1) from by decide +kernel) rfl
theorem m26_25 : M26 25 ls (.ref (b + 1) :: st) (put (b + 1) pre s A post) Q = M26 28 ls (.ref ((b + 1) + 13) :: st) (put (b + 1) pre s A post) Q := w_get (show decode kb26 25 = .ok (.getfield 46, 3) from by decide +kernel) gf_46 put_o rfl
theorem m26_28 : M26 28 [l0, l1, .val (.int v)] st H Q = M26 29 [l0, l1, .val (.int v)] (.int v :: st) H Q := w_x (show decode kb26 28 = .ok (.iload_n 2, 1) from by decide +kernel) rfl
theorem m26_29  : M26 29 ls (.int j :: .ref ((b + 1) + 13) :: st) (put (b + 1) pre s A post) Q = (inB j (A 12) ∧ M26 30 ls (.int (getA (A 12) j) :: st) (put (b + 1) pre s A post) Q) := w_ild (show decode kb26 29 = .ok (.iaload, 1) from by decide +kernel) rfl put_a12
theorem m26_30  : M26 30 ls (.int v :: .int j :: .ref ((b + 1) + 8) :: st) (put (b + 1) pre s A post) Q = (inB j (A 7) ∧ M26 31 ls st (put (b + 1) pre s (ou A 7 (setA (A 7) j v)) post) Q) := w_ist (show decode kb26 30 = .ok (.iastore, 1) from by decide +kernel) rfl put_a7 (by omega) rfl put_w7
theorem m26_31 : M26 31 [l0, l1, .val (.int v)] st H Q = M26 34 [l0, l1, .val (.int (v + 1))] st H Q := w_iinc (show decode kb26 31 = .ok (.iinc 2 1, 3) from by decide +kernel) rfl (by decide) rfl
theorem m26_34 : M26 34 ls st H Q = M26 2 ls st H Q := w_x (show decode kb26 34 = .ok (.goto (-32), 3) from by decide +kernel) rfl
theorem m26_37 : M26 37 ls st H Q = M26 38 ls (.int 0 :: st) H Q := w_con (show decode kb26 37 = .ok (.iconst 0, 1) from by decide +kernel) rfl (by decide)
theorem m26_38i : M26 38 [l0, l1, .val (.int z)] ((.int v) :: st) H Q = M26 39 [l0, l1, .val (.int v)] st H Q := w_st (i := 2) (p := isI) (show decode kb26 38 = .ok (.istore_n 2, 1) from by decide +kernel) rfl rfl rfl rfl rfl rfl
theorem m26_39 : M26 39 [l0, l1, .val (.int v)] st H Q = M26 40 [l0, l1, .val (.int v)] (.int v :: st) H Q := w_x (show decode kb26 39 = .ok (.iload_n 2, 1) from by decide +kernel) rfl
theorem m26_40 : M26 40 ls st H Q = M26 41 ls (.int 4 :: st) H Q := w_con (show decode kb26 40 = .ok (.iconst 4, 1) from by decide +kernel) rfl (by decide)
theorem m26_41 : M26 41 ls (.int y :: .int x :: st) H Q = if x < y then M26 44 ls st H Q else M26 62 ls st H Q := w_icmpN (show decode kb26 41 = .ok (.if_icmp .ge 21, 3) from by decide +kernel) (i_ge x y) rfl
theorem m26_44 : M26 44 [.val (.ref r), l1, l2] st H Q = M26 45 [.val (.ref r), l1, l2] (.ref r :: st) H Q := w_x (show decode kb26 44 = .ok (.aload_n 0, 1) from by decide +kernel) rfl
theorem m26_45 : M26 45 ls (.ref (b + 1) :: st) (put (b + 1) pre s A post) Q = M26 48 ls (.ref ((b + 1) + 9) :: st) (put (b + 1) pre s A post) Q := w_get (show decode kb26 45 = .ok (.getfield 34, 3) from by decide +kernel) gf_34 put_o rfl
theorem m26_48 : M26 48 [l0, l1, .val (.int v)] st H Q = M26 49 [l0, l1, .val (.int v)] (.int v :: st) H Q := w_x (show decode kb26 48 = .ok (.iload_n 2, 1) from by decide +kernel) rfl
theorem m26_49 : M26 49 [.val (.ref r), l1, l2] st H Q = M26 50 [.val (.ref r), l1, l2] (.ref r :: st) H Q := w_x (show decode kb26 49 = .ok (.aload_n 0, 1) from by decide +kernel) rfl
theorem m26_50 : M26 50 ls (.ref (b + 1) :: st) (put (b + 1) pre s A post) Q = M26 53 ls (.ref ((b + 1) + 12) :: st) (put (b + 1) pre s A post) Q := w_get (show decode kb26 50 = .ok (.getfield 43, 3) from by decide +kernel) gf_43 put_o rfl
theorem m26_53 : M26 53 [l0, l1, .val (.int v)] st H Q = M26 54 [l0, l1, .val (.int v)] (.int v :: st) H Q := w_x (show decode kb26 53 = .ok (.iload_n 2, 1) from by decide +kernel) rfl
theorem m26_54  : M26 54 ls (.int j :: .ref ((b + 1) + 12) :: st) (put (b + 1) pre s A post) Q = (inB j (A 11) ∧ M26 55 ls (.int (getA (A 11) j) :: st) (put (b + 1) pre s A post) Q) := w_ild (show decode kb26 54 = .ok (.iaload, 1) from by decide +kernel) rfl put_a11
theorem m26_55  : M26 55 ls (.int v :: .int j :: .ref ((b + 1) + 9) :: st) (put (b + 1) pre s A post) Q = (inB j (A 8) ∧ M26 56 ls st (put (b + 1) pre s (ou A 8 (setA (A 8) j v)) post) Q) := w_ist (show decode kb26 55 = .ok (.iastore, 1) from by decide +kernel) rfl put_a8 (by omega) rfl put_w8
theorem m26_56 : M26 56 [l0, l1, .val (.int v)] st H Q = M26 59 [l0, l1, .val (.int (v + 1))] st H Q := w_iinc (show decode kb26 56 = .ok (.iinc 2 1, 3) from by decide +kernel) rfl (by decide) rfl
theorem m26_59 : M26 59 ls st H Q = M26 39 ls st H Q := w_x (show decode kb26 59 = .ok (.goto (-20), 3) from by decide +kernel) rfl
theorem m26_62 : M26 62 ls [] H Q = Q none H := w_vret (show decode kb26 62 = .ok (.return_, 1) from by decide +kernel) rfl
theorem m27_0 : M27 0 [.val (.ref r)] st H Q = M27 1 [.val (.ref r)] (.ref r :: st) H Q := w_x (show decode kb27 0 = .ok (.aload_n 0, 1) from by decide +kernel) rfl
theorem m27_1 : M27 1 ls (.ref (b + 1) :: st) (put (b + 1) pre s A post) Q = M27 4 ls (.int (s 9) :: st) (put (b + 1) pre s A post) Q := w_get (show decode kb27 1 = .ok (.getfield 145, 3) from by decide +kernel) gf_145 put_o rfl
theorem m27_4 : M27 4 ls (.int z :: st) H Q = Q (some (.int z)) H := w_iret (show decode kb27 4 = .ok (.ireturn, 1) from by decide +kernel) rfl
theorem m28_0 : M28 0 [.val (.ref r)] st H Q = M28 1 [.val (.ref r)] (.ref r :: st) H Q := w_x (show decode kb28 0 = .ok (.aload_n 0, 1) from by decide +kernel) rfl
theorem m28_1 : M28 1 ls (.ref (b + 1) :: st) (put (b + 1) pre s A post) Q = M28 4 ls (.int (s 10) :: st) (put (b + 1) pre s A post) Q := w_get (show decode kb28 1 = .ok (.getfield 148, 3) from by decide +kernel) gf_148 put_o rfl
theorem m28_4 : M28 4 ls (.int z :: st) H Q = Q (some (.int z)) H := w_iret (show decode kb28 4 = .ok (.ireturn, 1) from by decide +kernel) rfl
theorem m29_0 : M29 0 [.val (.ref r), l1] st H Q = M29 1 [.val (.ref r), l1] (.ref r :: st) H Q := w_x (show decode kb29 0 = .ok (.aload_n 0, 1) from by decide +kernel) rfl
theorem m29_1 : M29 1 [l0, .val (.int v)] st H Q = M29 2 [l0, .val (.int v)] (.int v :: st) H Q := w_x (show decode kb29 1 = .ok (.iload_n 1, 1) from by decide +kernel) rfl
theorem cr29_142 : vR tables_1 dn y29 142 = some (true, y11, prog_1_method_16_code, 2, (some .boolean), 1, 0) := pR_of (cR_of (by decide +kernel) rc_11 dn_11 dn_29 (sig := ⟨[.int], some .boolean⟩) (by decide +kernel) (by decide +kernel) rfl rfl) (by decide +kernel) (by decide +kernel)
theorem m29_2 (a0 : Int32) : M29 2 ls [.int a0, .ref (b + 1)] (put (b + 1) pre s A post) Q = M11 0 [.val (.ref (b + 1)), .val (.int a0)] [] (put (b + 1) pre s A post) (fun v H1 => M29 5 ls (v.toList ++ []) H1 Q) := w_virt (as := [.int a0]) (rest := []) (a := (b + 1)) (show decode kb29 2 = .ok (.invokevirtual 142, 3) from by decide +kernel) cr29_142 put_o rfl rfl (Nat.le_of_ble_eq_true rfl) (by show 2 ≤ 2; omega) rfl
theorem m29_5 : M29 5 ls (.int x :: st) H Q = if x = 0 then M29 8 ls st H Q else M29 10 ls st H Q := w_ifN (show decode kb29 5 = .ok (.ifCond .ne 5, 3) from by decide +kernel) (z_ne x) rfl
theorem m29_8 : M29 8 ls st H Q = M29 9 ls (.int (-1) :: st) H Q := w_con (show decode kb29 8 = .ok (.iconst (-1), 1) from by decide +kernel) rfl (by decide)
theorem m29_9 : M29 9 ls (.int z :: st) H Q = Q (some (.int z)) H := w_iret (show decode kb29 9 = .ok (.ireturn, 1) from by decide +kernel) rfl
theorem m29_10 : M29 10 [.val (.ref r), l1] st H Q = M29 11 [.val (.ref r), l1] (.ref r :: st) H Q := w_x (show decode kb29 10 = .ok (.aload_n 0, 1) from by decide +kernel) rfl
theorem m29_11 : M29 11 ls (.ref (b + 1) :: st) (put (b + 1) pre s A post) Q = M29 14 ls (.ref ((b + 1) + 19) :: st) (put (b + 1) pre s A post) Q := w_get (show decode kb29 11 = .ok (.getfield 65, 3) from by decide +kernel) gf_65 put_o rfl
theorem m29_14 : M29 14 [l0, .val (.int v)] st H Q = M29 15 [l0, .val (.int v)] (.int v :: st) H Q := w_x (show decode kb29 14 = .ok (.iload_n 1, 1) from by decide +kernel) rfl
theorem m29_15  : M29 15 ls (.int j :: .ref ((b + 1) + 19) :: st) (put (b + 1) pre s A post) Q = (inB j (A 18) ∧ M29 16 ls (.int (getA (A 18) j) :: st) (put (b + 1) pre s A post) Q) := w_ild (show decode kb29 15 = .ok (.iaload, 1) from by decide +kernel) rfl put_a18
theorem m29_16 : M29 16 ls (.int z :: st) H Q = Q (some (.int z)) H := w_iret (show decode kb29 16 = .ok (.ireturn, 1) from by decide +kernel) rfl
theorem m30_0 : M30 0 [.val (.ref r), l1] st H Q = M30 1 [.val (.ref r), l1] (.ref r :: st) H Q := w_x (show decode kb30 0 = .ok (.aload_n 0, 1) from by decide +kernel) rfl
theorem m30_1 : M30 1 [l0, .val (.int v)] st H Q = M30 2 [l0, .val (.int v)] (.int v :: st) H Q := w_x (show decode kb30 1 = .ok (.iload_n 1, 1) from by decide +kernel) rfl
theorem cr30_142 : vR tables_1 dn y30 142 = some (true, y11, prog_1_method_16_code, 2, (some .boolean), 1, 0) := pR_of (cR_of (by decide +kernel) rc_11 dn_11 dn_30 (sig := ⟨[.int], some .boolean⟩) (by decide +kernel) (by decide +kernel) rfl rfl) (by decide +kernel) (by decide +kernel)
theorem m30_2 (a0 : Int32) : M30 2 ls [.int a0, .ref (b + 1)] (put (b + 1) pre s A post) Q = M11 0 [.val (.ref (b + 1)), .val (.int a0)] [] (put (b + 1) pre s A post) (fun v H1 => M30 5 ls (v.toList ++ []) H1 Q) := w_virt (as := [.int a0]) (rest := []) (a := (b + 1)) (show decode kb30 2 = .ok (.invokevirtual 142, 3) from by decide +kernel) cr30_142 put_o rfl rfl (Nat.le_of_ble_eq_true rfl) (by show 2 ≤ 2; omega) rfl
theorem m30_5 : M30 5 ls (.int x :: st) H Q = if x = 0 then M30 8 ls st H Q else M30 10 ls st H Q := w_ifN (show decode kb30 5 = .ok (.ifCond .ne 5, 3) from by decide +kernel) (z_ne x) rfl
theorem m30_8 : M30 8 ls st H Q = M30 9 ls (.int (-1) :: st) H Q := w_con (show decode kb30 8 = .ok (.iconst (-1), 1) from by decide +kernel) rfl (by decide)
theorem m30_9 : M30 9 ls (.int z :: st) H Q = Q (some (.int z)) H := w_iret (show decode kb30 9 = .ok (.ireturn, 1) from by decide +kernel) rfl
theorem m30_10 : M30 10 [.val (.ref r), l1] st H Q = M30 11 [.val (.ref r), l1] (.ref r :: st) H Q := w_x (show decode kb30 10 = .ok (.aload_n 0, 1) from by decide +kernel) rfl
theorem m30_11 : M30 11 ls (.ref (b + 1) :: st) (put (b + 1) pre s A post) Q = M30 14 ls (.ref ((b + 1) + 20) :: st) (put (b + 1) pre s A post) Q := w_get (show decode kb30 11 = .ok (.getfield 68, 3) from by decide +kernel) gf_68 put_o rfl
theorem m30_14 : M30 14 [l0, .val (.int v)] st H Q = M30 15 [l0, .val (.int v)] (.int v :: st) H Q := w_x (show decode kb30 14 = .ok (.iload_n 1, 1) from by decide +kernel) rfl
theorem m30_15  : M30 15 ls (.int j :: .ref ((b + 1) + 20) :: st) (put (b + 1) pre s A post) Q = (inB j (A 19) ∧ M30 16 ls (.int (getA (A 19) j) :: st) (put (b + 1) pre s A post) Q) := w_ild (show decode kb30 15 = .ok (.iaload, 1) from by decide +kernel) rfl put_a19
theorem m30_16 : M30 16 ls (.int z :: st) H Q = Q (some (.int z)) H := w_iret (show decode kb30 16 = .ok (.ireturn, 1) from by decide +kernel) rfl
theorem m31_0 : M31 0 [.val (.ref r), l1] st H Q = M31 1 [.val (.ref r), l1] (.ref r :: st) H Q := w_x (show decode kb31 0 = .ok (.aload_n 0, 1) from by decide +kernel) rfl
theorem m31_1 : M31 1 [l0, .val (.int v)] st H Q = M31 2 [l0, .val (.int v)] (.int v :: st) H Q := w_x (show decode kb31 1 = .ok (.iload_n 1, 1) from by decide +kernel) rfl
theorem cr31_142 : vR tables_1 dn y31 142 = some (true, y11, prog_1_method_16_code, 2, (some .boolean), 1, 0) := pR_of (cR_of (by decide +kernel) rc_11 dn_11 dn_31 (sig := ⟨[.int], some .boolean⟩) (by decide +kernel) (by decide +kernel) rfl rfl) (by decide +kernel) (by decide +kernel)
theorem m31_2 (a0 : Int32) : M31 2 ls [.int a0, .ref (b + 1)] (put (b + 1) pre s A post) Q = M11 0 [.val (.ref (b + 1)), .val (.int a0)] [] (put (b + 1) pre s A post) (fun v H1 => M31 5 ls (v.toList ++ []) H1 Q) := w_virt (as := [.int a0]) (rest := []) (a := (b + 1)) (show decode kb31 2 = .ok (.invokevirtual 142, 3) from by decide +kernel) cr31_142 put_o rfl rfl (Nat.le_of_ble_eq_true rfl) (by show 2 ≤ 2; omega) rfl
theorem m31_5 : M31 5 ls (.int x :: st) H Q = if x = 0 then M31 17 ls st H Q else M31 8 ls st H Q := w_if (show decode kb31 5 = .ok (.ifCond .eq 12, 3) from by decide +kernel) (z_eq x) rfl
theorem m31_8 : M31 8 [.val (.ref r), l1] st H Q = M31 9 [.val (.ref r), l1] (.ref r :: st) H Q := w_x (show decode kb31 8 = .ok (.aload_n 0, 1) from by decide +kernel) rfl
theorem m31_9 : M31 9 ls (.ref (b + 1) :: st) (put (b + 1) pre s A post) Q = M31 12 ls (.ref ((b + 1) + 15) :: st) (put (b + 1) pre s A post) Q := w_get (show decode kb31 9 = .ok (.getfield 52, 3) from by decide +kernel) gf_52 put_o rfl
theorem m31_12 : M31 12 [l0, .val (.int v)] st H Q = M31 13 [l0, .val (.int v)] (.int v :: st) H Q := w_x (show decode kb31 12 = .ok (.iload_n 1, 1) from by decide +kernel) rfl
theorem m31_13  : M31 13 ls (.int j :: .ref ((b + 1) + 15) :: st) (put (b + 1) pre s A post) Q = (inB j (A 14) ∧ M31 14 ls (.int (getA (A 14) j) :: st) (put (b + 1) pre s A post) Q) := w_ild (show decode kb31 13 = .ok (.baload, 1) from by decide +kernel) rfl put_a14
theorem m31_14 : M31 14 ls (.int x :: st) H Q = if x = 0 then M31 17 ls st H Q else M31 19 ls st H Q := w_ifN (show decode kb31 14 = .ok (.ifCond .ne 5, 3) from by decide +kernel) (z_ne x) rfl
theorem m31_17 : M31 17 ls st H Q = M31 18 ls (.int (-1) :: st) H Q := w_con (show decode kb31 17 = .ok (.iconst (-1), 1) from by decide +kernel) rfl (by decide)
theorem m31_18 : M31 18 ls (.int z :: st) H Q = Q (some (.int z)) H := w_iret (show decode kb31 18 = .ok (.ireturn, 1) from by decide +kernel) rfl
theorem m31_19 : M31 19 [.val (.ref r), l1] st H Q = M31 20 [.val (.ref r), l1] (.ref r :: st) H Q := w_x (show decode kb31 19 = .ok (.aload_n 0, 1) from by decide +kernel) rfl
theorem m31_20 : M31 20 ls (.ref (b + 1) :: st) (put (b + 1) pre s A post) Q = M31 23 ls (.ref ((b + 1) + 17) :: st) (put (b + 1) pre s A post) Q := w_get (show decode kb31 20 = .ok (.getfield 59, 3) from by decide +kernel) gf_59 put_o rfl
theorem m31_23 : M31 23 [l0, .val (.int v)] st H Q = M31 24 [l0, .val (.int v)] (.int v :: st) H Q := w_x (show decode kb31 23 = .ok (.iload_n 1, 1) from by decide +kernel) rfl
theorem m31_24  : M31 24 ls (.int j :: .ref ((b + 1) + 17) :: st) (put (b + 1) pre s A post) Q = (inB j (A 16) ∧ M31 25 ls (.int (getA (A 16) j) :: st) (put (b + 1) pre s A post) Q) := w_ild (show decode kb31 24 = .ok (.iaload, 1) from by decide +kernel) rfl put_a16
theorem m31_25 : M31 25 ls (.int z :: st) H Q = Q (some (.int z)) H := w_iret (show decode kb31 25 = .ok (.ireturn, 1) from by decide +kernel) rfl
theorem m32_0 : M32 0 [l0, .val (.int v), l2] st H Q = M32 1 [l0, .val (.int v), l2] (.int v :: st) H Q := w_x (show decode kb32 0 = .ok (.iload_n 1, 1) from by decide +kernel) rfl
theorem m32_1 : M32 1 ls (.int x :: st) H Q = if x < 0 then M32 9 ls st H Q else M32 4 ls st H Q := w_if (show decode kb32 1 = .ok (.ifCond .lt 8, 3) from by decide +kernel) (z_lt x) rfl
theorem m32_4 : M32 4 [l0, .val (.int v), l2] st H Q = M32 5 [l0, .val (.int v), l2] (.int v :: st) H Q := w_x (show decode kb32 4 = .ok (.iload_n 1, 1) from by decide +kernel) rfl
theorem m32_5 : M32 5 ls st H Q = M32 6 ls (.int 4 :: st) H Q := w_con (show decode kb32 5 = .ok (.iconst 4, 1) from by decide +kernel) rfl (by decide)
theorem m32_6 : M32 6 ls (.int y :: .int x :: st) H Q = if x < y then M32 11 ls st H Q else M32 9 ls st H Q := w_icmp (show decode kb32 6 = .ok (.if_icmp .lt 5, 3) from by decide +kernel) (i_lt x y) rfl
theorem m32_9 : M32 9 ls st H Q = M32 10 ls (.int (-1) :: st) H Q := w_con (show decode kb32 9 = .ok (.iconst (-1), 1) from by decide +kernel) rfl (by decide)
theorem m32_10 : M32 10 ls (.int z :: st) H Q = Q (some (.int z)) H := w_iret (show decode kb32 10 = .ok (.ireturn, 1) from by decide +kernel) rfl
theorem m32_11 : M32 11 ls st H Q = M32 12 ls (.int 0 :: st) H Q := w_con (show decode kb32 11 = .ok (.iconst 0, 1) from by decide +kernel) rfl (by decide)
theorem m32_12u : M32 12 [l0, l1, .unset] ((.int v) :: st) H Q = M32 13 [l0, l1, .val (.int v)] st H Q := w_st (i := 2) (p := isI) (show decode kb32 12 = .ok (.istore_n 2, 1) from by decide +kernel) rfl rfl rfl rfl rfl rfl
theorem m32_13 : M32 13 [l0, l1, .val (.int v)] st H Q = M32 14 [l0, l1, .val (.int v)] (.int v :: st) H Q := w_x (show decode kb32 13 = .ok (.iload_n 2, 1) from by decide +kernel) rfl
theorem m32_14 : M32 14 [.val (.ref r), l1, l2] st H Q = M32 15 [.val (.ref r), l1, l2] (.ref r :: st) H Q := w_x (show decode kb32 14 = .ok (.aload_n 0, 1) from by decide +kernel) rfl
theorem m32_15 : M32 15 ls (.ref (b + 1) :: st) (put (b + 1) pre s A post) Q = M32 18 ls (.int (s 1) :: st) (put (b + 1) pre s A post) Q := w_get (show decode kb32 15 = .ok (.getfield 75, 3) from by decide +kernel) gf_75 put_o rfl
theorem m32_18 : M32 18 ls (.int y :: .int x :: st) H Q = if x < y then M32 21 ls st H Q else M32 48 ls st H Q := w_icmpN (show decode kb32 18 = .ok (.if_icmp .ge 30, 3) from by decide +kernel) (i_ge x y) rfl
theorem m32_21 : M32 21 [.val (.ref r), l1, l2] st H Q = M32 22 [.val (.ref r), l1, l2] (.ref r :: st) H Q := w_x (show decode kb32 21 = .ok (.aload_n 0, 1) from by decide +kernel) rfl
theorem m32_22 : M32 22 ls (.ref (b + 1) :: st) (put (b + 1) pre s A post) Q = M32 25 ls (.ref ((b + 1) + 15) :: st) (put (b + 1) pre s A post) Q := w_get (show decode kb32 22 = .ok (.getfield 52, 3) from by decide +kernel) gf_52 put_o rfl
theorem m32_25 : M32 25 [l0, l1, .val (.int v)] st H Q = M32 26 [l0, l1, .val (.int v)] (.int v :: st) H Q := w_x (show decode kb32 25 = .ok (.iload_n 2, 1) from by decide +kernel) rfl
theorem m32_26  : M32 26 ls (.int j :: .ref ((b + 1) + 15) :: st) (put (b + 1) pre s A post) Q = (inB j (A 14) ∧ M32 27 ls (.int (getA (A 14) j) :: st) (put (b + 1) pre s A post) Q) := w_ild (show decode kb32 26 = .ok (.baload, 1) from by decide +kernel) rfl put_a14
theorem m32_27 : M32 27 ls (.int x :: st) H Q = if x = 0 then M32 42 ls st H Q else M32 30 ls st H Q := w_if (show decode kb32 27 = .ok (.ifCond .eq 15, 3) from by decide +kernel) (z_eq x) rfl
theorem m32_30 : M32 30 [.val (.ref r), l1, l2] st H Q = M32 31 [.val (.ref r), l1, l2] (.ref r :: st) H Q := w_x (show decode kb32 30 = .ok (.aload_n 0, 1) from by decide +kernel) rfl
theorem m32_31 : M32 31 ls (.ref (b + 1) :: st) (put (b + 1) pre s A post) Q = M32 34 ls (.ref ((b + 1) + 18) :: st) (put (b + 1) pre s A post) Q := w_get (show decode kb32 31 = .ok (.getfield 62, 3) from by decide +kernel) gf_62 put_o rfl
theorem m32_34 : M32 34 [l0, l1, .val (.int v)] st H Q = M32 35 [l0, l1, .val (.int v)] (.int v :: st) H Q := w_x (show decode kb32 34 = .ok (.iload_n 2, 1) from by decide +kernel) rfl
theorem m32_35  : M32 35 ls (.int j :: .ref ((b + 1) + 18) :: st) (put (b + 1) pre s A post) Q = (inB j (A 17) ∧ M32 36 ls (.int (getA (A 17) j) :: st) (put (b + 1) pre s A post) Q) := w_ild (show decode kb32 35 = .ok (.iaload, 1) from by decide +kernel) rfl put_a17
theorem m32_36 : M32 36 [l0, .val (.int v), l2] st H Q = M32 37 [l0, .val (.int v), l2] (.int v :: st) H Q := w_x (show decode kb32 36 = .ok (.iload_n 1, 1) from by decide +kernel) rfl
theorem m32_37 : M32 37 ls (.int y :: .int x :: st) H Q = if x = y then M32 40 ls st H Q else M32 42 ls st H Q := w_icmpN (show decode kb32 37 = .ok (.if_icmp .ne 5, 3) from by decide +kernel) (i_ne x y) rfl
theorem m32_40 : M32 40 [l0, l1, .val (.int v)] st H Q = M32 41 [l0, l1, .val (.int v)] (.int v :: st) H Q := w_x (show decode kb32 40 = .ok (.iload_n 2, 1) from by decide +kernel) rfl
theorem m32_41 : M32 41 ls (.int z :: st) H Q = Q (some (.int z)) H := w_iret (show decode kb32 41 = .ok (.ireturn, 1) from by decide +kernel) rfl
theorem m32_42 : M32 42 [l0, l1, .val (.int v)] st H Q = M32 45 [l0, l1, .val (.int (v + 1))] st H Q := w_iinc (show decode kb32 42 = .ok (.iinc 2 1, 3) from by decide +kernel) rfl (by decide) rfl
theorem m32_45 : M32 45 ls st H Q = M32 13 ls st H Q := w_x (show decode kb32 45 = .ok (.goto (-32), 3) from by decide +kernel) rfl
theorem m32_48 : M32 48 ls st H Q = M32 49 ls (.int (-1) :: st) H Q := w_con (show decode kb32 48 = .ok (.iconst (-1), 1) from by decide +kernel) rfl (by decide)
theorem m32_49 : M32 49 ls (.int z :: st) H Q = Q (some (.int z)) H := w_iret (show decode kb32 49 = .ok (.ireturn, 1) from by decide +kernel) rfl
theorem m33_0 : M33 0 [.val (.ref r), l1, l2] st H Q = M33 1 [.val (.ref r), l1, l2] (.ref r :: st) H Q := w_x (show decode kb33 0 = .ok (.aload_n 0, 1) from by decide +kernel) rfl
theorem m33_1 : M33 1 ls (.ref (b + 1) :: st) (put (b + 1) pre s A post) Q = M33 4 ls (.ref ((b + 1) + 18) :: st) (put (b + 1) pre s A post) Q := w_get (show decode kb33 1 = .ok (.getfield 62, 3) from by decide +kernel) gf_62 put_o rfl
theorem m33_4 : M33 4 [l0, .val (.int v), l2] st H Q = M33 5 [l0, .val (.int v), l2] (.int v :: st) H Q := w_x (show decode kb33 4 = .ok (.iload_n 1, 1) from by decide +kernel) rfl
theorem m33_5  : M33 5 ls (.int j :: .ref ((b + 1) + 18) :: st) (put (b + 1) pre s A post) Q = (inB j (A 17) ∧ M33 6 ls (.int (getA (A 17) j) :: st) (put (b + 1) pre s A post) Q) := w_ild (show decode kb33 5 = .ok (.iaload, 1) from by decide +kernel) rfl put_a17
theorem m33_6u : M33 6 [l0, l1, .unset] ((.int v) :: st) H Q = M33 7 [l0, l1, .val (.int v)] st H Q := w_st (i := 2) (p := isI) (show decode kb33 6 = .ok (.istore_n 2, 1) from by decide +kernel) rfl rfl rfl rfl rfl rfl
theorem m33_7 : M33 7 [l0, l1, .val (.int v)] st H Q = M33 8 [l0, l1, .val (.int v)] (.int v :: st) H Q := w_x (show decode kb33 7 = .ok (.iload_n 2, 1) from by decide +kernel) rfl
theorem m33_8 : M33 8 ls (.int x :: st) H Q = if x < 0 then M33 23 ls st H Q else M33 11 ls st H Q := w_if (show decode kb33 8 = .ok (.ifCond .lt 15, 3) from by decide +kernel) (z_lt x) rfl
theorem m33_11 : M33 11 [l0, l1, .val (.int v)] st H Q = M33 12 [l0, l1, .val (.int v)] (.int v :: st) H Q := w_x (show decode kb33 11 = .ok (.iload_n 2, 1) from by decide +kernel) rfl
theorem m33_12 : M33 12 ls st H Q = M33 13 ls (.int 4 :: st) H Q := w_con (show decode kb33 12 = .ok (.iconst 4, 1) from by decide +kernel) rfl (by decide)
theorem m33_13 : M33 13 ls (.int y :: .int x :: st) H Q = if x < y then M33 16 ls st H Q else M33 23 ls st H Q := w_icmpN (show decode kb33 13 = .ok (.if_icmp .ge 10, 3) from by decide +kernel) (i_ge x y) rfl
theorem m33_16 : M33 16 [.val (.ref r), l1, l2] st H Q = M33 17 [.val (.ref r), l1, l2] (.ref r :: st) H Q := w_x (show decode kb33 16 = .ok (.aload_n 0, 1) from by decide +kernel) rfl
theorem m33_17 : M33 17 ls (.ref (b + 1) :: st) (put (b + 1) pre s A post) Q = M33 20 ls (.ref ((b + 1) + 9) :: st) (put (b + 1) pre s A post) Q := w_get (show decode kb33 17 = .ok (.getfield 34, 3) from by decide +kernel) gf_34 put_o rfl
theorem m33_20 : M33 20 [l0, l1, .val (.int v)] st H Q = M33 21 [l0, l1, .val (.int v)] (.int v :: st) H Q := w_x (show decode kb33 20 = .ok (.iload_n 2, 1) from by decide +kernel) rfl
theorem m33_21  : M33 21 ls (.int j :: .ref ((b + 1) + 9) :: st) (put (b + 1) pre s A post) Q = (inB j (A 8) ∧ M33 22 ls (.int (getA (A 8) j) :: st) (put (b + 1) pre s A post) Q) := w_ild (show decode kb33 21 = .ok (.iaload, 1) from by decide +kernel) rfl put_a8
theorem m33_22 : M33 22 ls (.int z :: st) H Q = Q (some (.int z)) H := w_iret (show decode kb33 22 = .ok (.ireturn, 1) from by decide +kernel) rfl
theorem m33_23 : M33 23 [.val (.ref r), l1, l2] st H Q = M33 24 [.val (.ref r), l1, l2] (.ref r :: st) H Q := w_x (show decode kb33 23 = .ok (.aload_n 0, 1) from by decide +kernel) rfl
theorem m33_24 : M33 24 ls (.ref (b + 1) :: st) (put (b + 1) pre s A post) Q = M33 27 ls (.ref ((b + 1) + 4) :: st) (put (b + 1) pre s A post) Q := w_get (show decode kb33 24 = .ok (.getfield 19, 3) from by decide +kernel) gf_19 put_o rfl
theorem m33_27 : M33 27 [l0, .val (.int v), l2] st H Q = M33 28 [l0, .val (.int v), l2] (.int v :: st) H Q := w_x (show decode kb33 27 = .ok (.iload_n 1, 1) from by decide +kernel) rfl
theorem m33_28  : M33 28 ls (.int j :: .ref ((b + 1) + 4) :: st) (put (b + 1) pre s A post) Q = (inB j (A 3) ∧ M33 29 ls (.int (getA (A 3) j) :: st) (put (b + 1) pre s A post) Q) := w_ild (show decode kb33 28 = .ok (.iaload, 1) from by decide +kernel) rfl put_a3
theorem m33_29 : M33 29 ls (.int z :: st) H Q = Q (some (.int z)) H := w_iret (show decode kb33 29 = .ok (.ireturn, 1) from by decide +kernel) rfl
theorem m34_0 : M34 0 [.val (.ref r), l1, l2] st H Q = M34 1 [.val (.ref r), l1, l2] (.ref r :: st) H Q := w_x (show decode kb34 0 = .ok (.aload_n 0, 1) from by decide +kernel) rfl
theorem m34_1 : M34 1 [l0, .val (.int v), l2] st H Q = M34 2 [l0, .val (.int v), l2] (.int v :: st) H Q := w_x (show decode kb34 1 = .ok (.iload_n 1, 1) from by decide +kernel) rfl
theorem cr34_170 : vR tables_1 dn y34 170 = some (true, y35, prog_1_method_29_code, 3, none, 1, 0) := pR_of (cR_of (by decide +kernel) rc_35 dn_35 dn_34 (sig := ⟨[.int], none⟩) (by decide +kernel) (by decide +kernel) rfl rfl) (by decide +kernel) (by decide +kernel)
theorem m34_2 (a0 : Int32) : M34 2 ls [.int a0, .ref (b + 1)] (put (b + 1) pre s A post) Q = M35 0 [.val (.ref (b + 1)), .val (.int a0), .unset] [] (put (b + 1) pre s A post) (fun v H1 => M34 5 ls (v.toList ++ []) H1 Q) := w_virt (as := [.int a0]) (rest := []) (a := (b + 1)) (show decode kb34 2 = .ok (.invokevirtual 170, 3) from by decide +kernel) cr34_170 put_o rfl rfl (Nat.le_of_ble_eq_true rfl) (by show 2 ≤ 3; omega) rfl
theorem m34_5 : M34 5 [.val (.ref r), l1, l2] st H Q = M34 6 [.val (.ref r), l1, l2] (.ref r :: st) H Q := w_x (show decode kb34 5 = .ok (.aload_n 0, 1) from by decide +kernel) rfl
theorem m34_6 : M34 6 ls (.ref (b + 1) :: st) (put (b + 1) pre s A post) Q = M34 9 ls (.ref ((b + 1) + 17) :: st) (put (b + 1) pre s A post) Q := w_get (show decode kb34 6 = .ok (.getfield 59, 3) from by decide +kernel) gf_59 put_o rfl
theorem m34_9 : M34 9 [l0, .val (.int v), l2] st H Q = M34 10 [l0, .val (.int v), l2] (.int v :: st) H Q := w_x (show decode kb34 9 = .ok (.iload_n 1, 1) from by decide +kernel) rfl
theorem m34_10 : M34 10 [.val (.ref r), l1, l2] st H Q = M34 11 [.val (.ref r), l1, l2] (.ref r :: st) H Q := w_x (show decode kb34 10 = .ok (.aload_n 0, 1) from by decide +kernel) rfl
theorem m34_11 : M34 11 ls (.ref (b + 1) :: st) (put (b + 1) pre s A post) Q = M34 14 ls (.ref ((b + 1) + 17) :: st) (put (b + 1) pre s A post) Q := w_get (show decode kb34 11 = .ok (.getfield 59, 3) from by decide +kernel) gf_59 put_o rfl
theorem m34_14 : M34 14 [l0, .val (.int v), l2] st H Q = M34 15 [l0, .val (.int v), l2] (.int v :: st) H Q := w_x (show decode kb34 14 = .ok (.iload_n 1, 1) from by decide +kernel) rfl
theorem m34_15  : M34 15 ls (.int j :: .ref ((b + 1) + 17) :: st) (put (b + 1) pre s A post) Q = (inB j (A 16) ∧ M34 16 ls (.int (getA (A 16) j) :: st) (put (b + 1) pre s A post) Q) := w_ild (show decode kb34 15 = .ok (.iaload, 1) from by decide +kernel) rfl put_a16
theorem m34_16 : M34 16 ls st H Q = M34 17 ls (.int 1 :: st) H Q := w_con (show decode kb34 16 = .ok (.iconst 1, 1) from by decide +kernel) rfl (by decide)
theorem m34_17 : M34 17 ls (.int y :: .int x :: st) H Q = M34 18 ls (.int (x + y) :: st) H Q := w_x (show decode kb34 17 = .ok (.iadd, 1) from by decide +kernel) rfl
theorem m34_18  : M34 18 ls (.int v :: .int j :: .ref ((b + 1) + 17) :: st) (put (b + 1) pre s A post) Q = (inB j (A 16) ∧ M34 19 ls st (put (b + 1) pre s (ou A 16 (setA (A 16) j v)) post) Q) := w_ist (show decode kb34 18 = .ok (.iastore, 1) from by decide +kernel) rfl put_a16 (by omega) rfl put_w16
theorem m34_19 : M34 19 [.val (.ref r), l1, l2] st H Q = M34 20 [.val (.ref r), l1, l2] (.ref r :: st) H Q := w_x (show decode kb34 19 = .ok (.aload_n 0, 1) from by decide +kernel) rfl
theorem m34_20 : M34 20 ls (.ref (b + 1) :: st) (put (b + 1) pre s A post) Q = M34 23 ls (.ref ((b + 1) + 18) :: st) (put (b + 1) pre s A post) Q := w_get (show decode kb34 20 = .ok (.getfield 62, 3) from by decide +kernel) gf_62 put_o rfl
theorem m34_23 : M34 23 [l0, .val (.int v), l2] st H Q = M34 24 [l0, .val (.int v), l2] (.int v :: st) H Q := w_x (show decode kb34 23 = .ok (.iload_n 1, 1) from by decide +kernel) rfl
theorem m34_24  : M34 24 ls (.int j :: .ref ((b + 1) + 18) :: st) (put (b + 1) pre s A post) Q = (inB j (A 17) ∧ M34 25 ls (.int (getA (A 17) j) :: st) (put (b + 1) pre s A post) Q) := w_ild (show decode kb34 24 = .ok (.iaload, 1) from by decide +kernel) rfl put_a17
theorem m34_25u : M34 25 [l0, l1, .unset] ((.int v) :: st) H Q = M34 26 [l0, l1, .val (.int v)] st H Q := w_st (i := 2) (p := isI) (show decode kb34 25 = .ok (.istore_n 2, 1) from by decide +kernel) rfl rfl rfl rfl rfl rfl
theorem m34_26 : M34 26 [l0, l1, .val (.int v)] st H Q = M34 27 [l0, l1, .val (.int v)] (.int v :: st) H Q := w_x (show decode kb34 26 = .ok (.iload_n 2, 1) from by decide +kernel) rfl
theorem m34_27 : M34 27 ls (.int x :: st) H Q = if x < 0 then M34 72 ls st H Q else M34 30 ls st H Q := w_if (show decode kb34 27 = .ok (.ifCond .lt 45, 3) from by decide +kernel) (z_lt x) rfl
theorem m34_30 : M34 30 [l0, l1, .val (.int v)] st H Q = M34 31 [l0, l1, .val (.int v)] (.int v :: st) H Q := w_x (show decode kb34 30 = .ok (.iload_n 2, 1) from by decide +kernel) rfl
theorem m34_31 : M34 31 ls st H Q = M34 32 ls (.int 4 :: st) H Q := w_con (show decode kb34 31 = .ok (.iconst 4, 1) from by decide +kernel) rfl (by decide)
theorem m34_32 : M34 32 ls (.int y :: .int x :: st) H Q = if x < y then M34 35 ls st H Q else M34 72 ls st H Q := w_icmpN (show decode kb34 32 = .ok (.if_icmp .ge 40, 3) from by decide +kernel) (i_ge x y) rfl
theorem m34_35 : M34 35 [.val (.ref r), l1, l2] st H Q = M34 36 [.val (.ref r), l1, l2] (.ref r :: st) H Q := w_x (show decode kb34 35 = .ok (.aload_n 0, 1) from by decide +kernel) rfl
theorem m34_36 : M34 36 ls (.ref (b + 1) :: st) (put (b + 1) pre s A post) Q = M34 39 ls (.ref ((b + 1) + 17) :: st) (put (b + 1) pre s A post) Q := w_get (show decode kb34 36 = .ok (.getfield 59, 3) from by decide +kernel) gf_59 put_o rfl
theorem m34_39 : M34 39 [l0, .val (.int v), l2] st H Q = M34 40 [l0, .val (.int v), l2] (.int v :: st) H Q := w_x (show decode kb34 39 = .ok (.iload_n 1, 1) from by decide +kernel) rfl
theorem m34_40  : M34 40 ls (.int j :: .ref ((b + 1) + 17) :: st) (put (b + 1) pre s A post) Q = (inB j (A 16) ∧ M34 41 ls (.int (getA (A 16) j) :: st) (put (b + 1) pre s A post) Q) := w_ild (show decode kb34 40 = .ok (.iaload, 1) from by decide +kernel) rfl put_a16
theorem m34_41 : M34 41 [.val (.ref r), l1, l2] st H Q = M34 42 [.val (.ref r), l1, l2] (.ref r :: st) H Q := w_x (show decode kb34 41 = .ok (.aload_n 0, 1) from by decide +kernel) rfl
theorem m34_42 : M34 42 ls (.ref (b + 1) :: st) (put (b + 1) pre s A post) Q = M34 45 ls (.ref ((b + 1) + 5) :: st) (put (b + 1) pre s A post) Q := w_get (show decode kb34 42 = .ok (.getfield 22, 3) from by decide +kernel) gf_22 put_o rfl
theorem m34_45 : M34 45 [l0, .val (.int v), l2] st H Q = M34 46 [l0, .val (.int v), l2] (.int v :: st) H Q := w_x (show decode kb34 45 = .ok (.iload_n 1, 1) from by decide +kernel) rfl
theorem m34_46 : M34 46 ls st H Q = M34 47 ls (.int 4 :: st) H Q := w_con (show decode kb34 46 = .ok (.iconst 4, 1) from by decide +kernel) rfl (by decide)
theorem m34_47 : M34 47 ls (.int y :: .int x :: st) H Q = M34 48 ls (.int (x * y) :: st) H Q := w_x (show decode kb34 47 = .ok (.imul, 1) from by decide +kernel) rfl
theorem m34_48 : M34 48 [l0, l1, .val (.int v)] st H Q = M34 49 [l0, l1, .val (.int v)] (.int v :: st) H Q := w_x (show decode kb34 48 = .ok (.iload_n 2, 1) from by decide +kernel) rfl
theorem m34_49 : M34 49 ls (.int y :: .int x :: st) H Q = M34 50 ls (.int (x + y) :: st) H Q := w_x (show decode kb34 49 = .ok (.iadd, 1) from by decide +kernel) rfl
theorem m34_50  : M34 50 ls (.int j :: .ref ((b + 1) + 5) :: st) (put (b + 1) pre s A post) Q = (inB j (A 4) ∧ M34 51 ls (.int (getA (A 4) j) :: st) (put (b + 1) pre s A post) Q) := w_ild (show decode kb34 50 = .ok (.iaload, 1) from by decide +kernel) rfl put_a4
theorem m34_51 : M34 51 [.val (.ref r), l1, l2] st H Q = M34 52 [.val (.ref r), l1, l2] (.ref r :: st) H Q := w_x (show decode kb34 51 = .ok (.aload_n 0, 1) from by decide +kernel) rfl
theorem m34_52 : M34 52 ls (.ref (b + 1) :: st) (put (b + 1) pre s A post) Q = M34 55 ls (.ref ((b + 1) + 6) :: st) (put (b + 1) pre s A post) Q := w_get (show decode kb34 52 = .ok (.getfield 25, 3) from by decide +kernel) gf_25 put_o rfl
theorem m34_55 : M34 55 [l0, .val (.int v), l2] st H Q = M34 56 [l0, .val (.int v), l2] (.int v :: st) H Q := w_x (show decode kb34 55 = .ok (.iload_n 1, 1) from by decide +kernel) rfl
theorem m34_56 : M34 56 ls st H Q = M34 57 ls (.int 4 :: st) H Q := w_con (show decode kb34 56 = .ok (.iconst 4, 1) from by decide +kernel) rfl (by decide)
theorem m34_57 : M34 57 ls (.int y :: .int x :: st) H Q = M34 58 ls (.int (x * y) :: st) H Q := w_x (show decode kb34 57 = .ok (.imul, 1) from by decide +kernel) rfl
theorem m34_58 : M34 58 [l0, l1, .val (.int v)] st H Q = M34 59 [l0, l1, .val (.int v)] (.int v :: st) H Q := w_x (show decode kb34 58 = .ok (.iload_n 2, 1) from by decide +kernel) rfl
theorem m34_59 : M34 59 ls (.int y :: .int x :: st) H Q = M34 60 ls (.int (x + y) :: st) H Q := w_x (show decode kb34 59 = .ok (.iadd, 1) from by decide +kernel) rfl
theorem m34_60  : M34 60 ls (.int j :: .ref ((b + 1) + 6) :: st) (put (b + 1) pre s A post) Q = (inB j (A 5) ∧ M34 61 ls (.int (getA (A 5) j) :: st) (put (b + 1) pre s A post) Q) := w_ild (show decode kb34 60 = .ok (.iaload, 1) from by decide +kernel) rfl put_a5
theorem m34_61 : M34 61 ls (.int y :: .int x :: st) H Q = M34 62 ls (.int (x + y) :: st) H Q := w_x (show decode kb34 61 = .ok (.iadd, 1) from by decide +kernel) rfl
theorem m34_62 : M34 62 ls (.int y :: .int x :: st) H Q = if x = y then M34 65 ls st H Q else M34 72 ls st H Q := w_icmpN (show decode kb34 62 = .ok (.if_icmp .ne 10, 3) from by decide +kernel) (i_ne x y) rfl
theorem m34_65 : M34 65 [.val (.ref r), l1, l2] st H Q = M34 66 [.val (.ref r), l1, l2] (.ref r :: st) H Q := w_x (show decode kb34 65 = .ok (.aload_n 0, 1) from by decide +kernel) rfl
theorem m34_66 : M34 66 ls (.ref (b + 1) :: st) (put (b + 1) pre s A post) Q = M34 69 ls (.ref ((b + 1) + 18) :: st) (put (b + 1) pre s A post) Q := w_get (show decode kb34 66 = .ok (.getfield 62, 3) from by decide +kernel) gf_62 put_o rfl
theorem m34_69 : M34 69 [l0, .val (.int v), l2] st H Q = M34 70 [l0, .val (.int v), l2] (.int v :: st) H Q := w_x (show decode kb34 69 = .ok (.iload_n 1, 1) from by decide +kernel) rfl
theorem m34_70 : M34 70 ls st H Q = M34 71 ls (.int (-1) :: st) H Q := w_con (show decode kb34 70 = .ok (.iconst (-1), 1) from by decide +kernel) rfl (by decide)
theorem m34_71  : M34 71 ls (.int v :: .int j :: .ref ((b + 1) + 18) :: st) (put (b + 1) pre s A post) Q = (inB j (A 17) ∧ M34 72 ls st (put (b + 1) pre s (ou A 17 (setA (A 17) j v)) post) Q) := w_ist (show decode kb34 71 = .ok (.iastore, 1) from by decide +kernel) rfl put_a17 (by omega) rfl put_w17
theorem m34_72 : M34 72 [.val (.ref r), l1, l2] st H Q = M34 73 [.val (.ref r), l1, l2] (.ref r :: st) H Q := w_x (show decode kb34 72 = .ok (.aload_n 0, 1) from by decide +kernel) rfl
theorem m34_73 : M34 73 ls (.ref (b + 1) :: st) (put (b + 1) pre s A post) Q = M34 76 ls (.ref ((b + 1) + 17) :: st) (put (b + 1) pre s A post) Q := w_get (show decode kb34 73 = .ok (.getfield 59, 3) from by decide +kernel) gf_59 put_o rfl
theorem m34_76 : M34 76 [l0, .val (.int v), l2] st H Q = M34 77 [l0, .val (.int v), l2] (.int v :: st) H Q := w_x (show decode kb34 76 = .ok (.iload_n 1, 1) from by decide +kernel) rfl
theorem m34_77  : M34 77 ls (.int j :: .ref ((b + 1) + 17) :: st) (put (b + 1) pre s A post) Q = (inB j (A 16) ∧ M34 78 ls (.int (getA (A 16) j) :: st) (put (b + 1) pre s A post) Q) := w_ild (show decode kb34 77 = .ok (.iaload, 1) from by decide +kernel) rfl put_a16
theorem m34_78 : M34 78 [.val (.ref r), l1, l2] st H Q = M34 79 [.val (.ref r), l1, l2] (.ref r :: st) H Q := w_x (show decode kb34 78 = .ok (.aload_n 0, 1) from by decide +kernel) rfl
theorem m34_79 : M34 79 ls (.ref (b + 1) :: st) (put (b + 1) pre s A post) Q = M34 82 ls (.ref ((b + 1) + 3) :: st) (put (b + 1) pre s A post) Q := w_get (show decode kb34 79 = .ok (.getfield 16, 3) from by decide +kernel) gf_16 put_o rfl
theorem m34_82 : M34 82 [l0, .val (.int v), l2] st H Q = M34 83 [l0, .val (.int v), l2] (.int v :: st) H Q := w_x (show decode kb34 82 = .ok (.iload_n 1, 1) from by decide +kernel) rfl
theorem m34_83  : M34 83 ls (.int j :: .ref ((b + 1) + 3) :: st) (put (b + 1) pre s A post) Q = (inB j (A 2) ∧ M34 84 ls (.int (getA (A 2) j) :: st) (put (b + 1) pre s A post) Q) := w_ild (show decode kb34 83 = .ok (.iaload, 1) from by decide +kernel) rfl put_a2
theorem m34_84 : M34 84 ls (.int y :: .int x :: st) H Q = if x = y then M34 87 ls st H Q else M34 92 ls st H Q := w_icmpN (show decode kb34 84 = .ok (.if_icmp .ne 8, 3) from by decide +kernel) (i_ne x y) rfl
theorem m34_87 : M34 87 [.val (.ref r), l1, l2] st H Q = M34 88 [.val (.ref r), l1, l2] (.ref r :: st) H Q := w_x (show decode kb34 87 = .ok (.aload_n 0, 1) from by decide +kernel) rfl
theorem m34_88 : M34 88 [l0, .val (.int v), l2] st H Q = M34 89 [l0, .val (.int v), l2] (.int v :: st) H Q := w_x (show decode kb34 88 = .ok (.iload_n 1, 1) from by decide +kernel) rfl
theorem cr34_173 : vR tables_1 dn y34 173 = some (true, y36, prog_1_method_31_code, 3, none, 1, 0) := pR_of (cR_of (by decide +kernel) rc_36 dn_36 dn_34 (sig := ⟨[.int], none⟩) (by decide +kernel) (by decide +kernel) rfl rfl) (by decide +kernel) (by decide +kernel)
theorem m34_89 (a0 : Int32) : M34 89 ls [.int a0, .ref (b + 1)] (put (b + 1) pre s A post) Q = M36 0 [.val (.ref (b + 1)), .val (.int a0), .unset] [] (put (b + 1) pre s A post) (fun v H1 => M34 92 ls (v.toList ++ []) H1 Q) := w_virt (as := [.int a0]) (rest := []) (a := (b + 1)) (show decode kb34 89 = .ok (.invokevirtual 173, 3) from by decide +kernel) cr34_173 put_o rfl rfl (Nat.le_of_ble_eq_true rfl) (by show 2 ≤ 3; omega) rfl
theorem m34_92 : M34 92 ls [] H Q = Q none H := w_vret (show decode kb34 92 = .ok (.return_, 1) from by decide +kernel) rfl
theorem m35_0 : M35 0 [.val (.ref r), l1, l2] st H Q = M35 1 [.val (.ref r), l1, l2] (.ref r :: st) H Q := w_x (show decode kb35 0 = .ok (.aload_n 0, 1) from by decide +kernel) rfl
theorem m35_1 : M35 1 ls (.ref (b + 1) :: st) (put (b + 1) pre s A post) Q = M35 4 ls (.ref ((b + 1) + 18) :: st) (put (b + 1) pre s A post) Q := w_get (show decode kb35 1 = .ok (.getfield 62, 3) from by decide +kernel) gf_62 put_o rfl
theorem m35_4 : M35 4 [l0, .val (.int v), l2] st H Q = M35 5 [l0, .val (.int v), l2] (.int v :: st) H Q := w_x (show decode kb35 4 = .ok (.iload_n 1, 1) from by decide +kernel) rfl
theorem m35_5  : M35 5 ls (.int j :: .ref ((b + 1) + 18) :: st) (put (b + 1) pre s A post) Q = (inB j (A 17) ∧ M35 6 ls (.int (getA (A 17) j) :: st) (put (b + 1) pre s A post) Q) := w_ild (show decode kb35 5 = .ok (.iaload, 1) from by decide +kernel) rfl put_a17
theorem m35_6 : M35 6 ls (.int x :: st) H Q = if x < 0 then M35 10 ls st H Q else M35 9 ls st H Q := w_if (show decode kb35 6 = .ok (.ifCond .lt 4, 3) from by decide +kernel) (z_lt x) rfl
theorem m35_9 : M35 9 ls [] H Q = Q none H := w_vret (show decode kb35 9 = .ok (.return_, 1) from by decide +kernel) rfl
theorem m35_10 : M35 10 ls st H Q = M35 11 ls (.int 0 :: st) H Q := w_con (show decode kb35 10 = .ok (.iconst 0, 1) from by decide +kernel) rfl (by decide)
theorem m35_11u : M35 11 [l0, l1, .unset] ((.int v) :: st) H Q = M35 12 [l0, l1, .val (.int v)] st H Q := w_st (i := 2) (p := isI) (show decode kb35 11 = .ok (.istore_n 2, 1) from by decide +kernel) rfl rfl rfl rfl rfl rfl
theorem m35_12 : M35 12 [l0, l1, .val (.int v)] st H Q = M35 13 [l0, l1, .val (.int v)] (.int v :: st) H Q := w_x (show decode kb35 12 = .ok (.iload_n 2, 1) from by decide +kernel) rfl
theorem m35_13 : M35 13 ls st H Q = M35 14 ls (.int 4 :: st) H Q := w_con (show decode kb35 13 = .ok (.iconst 4, 1) from by decide +kernel) rfl (by decide)
theorem m35_14 : M35 14 ls (.int y :: .int x :: st) H Q = if x < y then M35 17 ls st H Q else M35 63 ls st H Q := w_icmpN (show decode kb35 14 = .ok (.if_icmp .ge 49, 3) from by decide +kernel) (i_ge x y) rfl
theorem m35_17 : M35 17 [.val (.ref r), l1, l2] st H Q = M35 18 [.val (.ref r), l1, l2] (.ref r :: st) H Q := w_x (show decode kb35 17 = .ok (.aload_n 0, 1) from by decide +kernel) rfl
theorem m35_18 : M35 18 ls (.ref (b + 1) :: st) (put (b + 1) pre s A post) Q = M35 21 ls (.ref ((b + 1) + 6) :: st) (put (b + 1) pre s A post) Q := w_get (show decode kb35 18 = .ok (.getfield 25, 3) from by decide +kernel) gf_25 put_o rfl
theorem m35_21 : M35 21 [l0, .val (.int v), l2] st H Q = M35 22 [l0, .val (.int v), l2] (.int v :: st) H Q := w_x (show decode kb35 21 = .ok (.iload_n 1, 1) from by decide +kernel) rfl
theorem m35_22 : M35 22 ls st H Q = M35 23 ls (.int 4 :: st) H Q := w_con (show decode kb35 22 = .ok (.iconst 4, 1) from by decide +kernel) rfl (by decide)
theorem m35_23 : M35 23 ls (.int y :: .int x :: st) H Q = M35 24 ls (.int (x * y) :: st) H Q := w_x (show decode kb35 23 = .ok (.imul, 1) from by decide +kernel) rfl
theorem m35_24 : M35 24 [l0, l1, .val (.int v)] st H Q = M35 25 [l0, l1, .val (.int v)] (.int v :: st) H Q := w_x (show decode kb35 24 = .ok (.iload_n 2, 1) from by decide +kernel) rfl
theorem m35_25 : M35 25 ls (.int y :: .int x :: st) H Q = M35 26 ls (.int (x + y) :: st) H Q := w_x (show decode kb35 25 = .ok (.iadd, 1) from by decide +kernel) rfl
theorem m35_26  : M35 26 ls (.int j :: .ref ((b + 1) + 6) :: st) (put (b + 1) pre s A post) Q = (inB j (A 5) ∧ M35 27 ls (.int (getA (A 5) j) :: st) (put (b + 1) pre s A post) Q) := w_ild (show decode kb35 26 = .ok (.iaload, 1) from by decide +kernel) rfl put_a5
theorem m35_27 : M35 27 ls (.int x :: st) H Q = if 0 < x then M35 30 ls st H Q else M35 57 ls st H Q := w_ifN (show decode kb35 27 = .ok (.ifCond .le 30, 3) from by decide +kernel) (z_le x) rfl
theorem m35_30 : M35 30 [.val (.ref r), l1, l2] st H Q = M35 31 [.val (.ref r), l1, l2] (.ref r :: st) H Q := w_x (show decode kb35 30 = .ok (.aload_n 0, 1) from by decide +kernel) rfl
theorem m35_31 : M35 31 ls (.ref (b + 1) :: st) (put (b + 1) pre s A post) Q = M35 34 ls (.ref ((b + 1) + 5) :: st) (put (b + 1) pre s A post) Q := w_get (show decode kb35 31 = .ok (.getfield 22, 3) from by decide +kernel) gf_22 put_o rfl
theorem m35_34 : M35 34 [l0, .val (.int v), l2] st H Q = M35 35 [l0, .val (.int v), l2] (.int v :: st) H Q := w_x (show decode kb35 34 = .ok (.iload_n 1, 1) from by decide +kernel) rfl
theorem m35_35 : M35 35 ls st H Q = M35 36 ls (.int 4 :: st) H Q := w_con (show decode kb35 35 = .ok (.iconst 4, 1) from by decide +kernel) rfl (by decide)
theorem m35_36 : M35 36 ls (.int y :: .int x :: st) H Q = M35 37 ls (.int (x * y) :: st) H Q := w_x (show decode kb35 36 = .ok (.imul, 1) from by decide +kernel) rfl
theorem m35_37 : M35 37 [l0, l1, .val (.int v)] st H Q = M35 38 [l0, l1, .val (.int v)] (.int v :: st) H Q := w_x (show decode kb35 37 = .ok (.iload_n 2, 1) from by decide +kernel) rfl
theorem m35_38 : M35 38 ls (.int y :: .int x :: st) H Q = M35 39 ls (.int (x + y) :: st) H Q := w_x (show decode kb35 38 = .ok (.iadd, 1) from by decide +kernel) rfl
theorem m35_39  : M35 39 ls (.int j :: .ref ((b + 1) + 5) :: st) (put (b + 1) pre s A post) Q = (inB j (A 4) ∧ M35 40 ls (.int (getA (A 4) j) :: st) (put (b + 1) pre s A post) Q) := w_ild (show decode kb35 39 = .ok (.iaload, 1) from by decide +kernel) rfl put_a4
theorem m35_40 : M35 40 [.val (.ref r), l1, l2] st H Q = M35 41 [.val (.ref r), l1, l2] (.ref r :: st) H Q := w_x (show decode kb35 40 = .ok (.aload_n 0, 1) from by decide +kernel) rfl
theorem m35_41 : M35 41 ls (.ref (b + 1) :: st) (put (b + 1) pre s A post) Q = M35 44 ls (.ref ((b + 1) + 17) :: st) (put (b + 1) pre s A post) Q := w_get (show decode kb35 41 = .ok (.getfield 59, 3) from by decide +kernel) gf_59 put_o rfl
theorem m35_44 : M35 44 [l0, .val (.int v), l2] st H Q = M35 45 [l0, .val (.int v), l2] (.int v :: st) H Q := w_x (show decode kb35 44 = .ok (.iload_n 1, 1) from by decide +kernel) rfl
theorem m35_45  : M35 45 ls (.int j :: .ref ((b + 1) + 17) :: st) (put (b + 1) pre s A post) Q = (inB j (A 16) ∧ M35 46 ls (.int (getA (A 16) j) :: st) (put (b + 1) pre s A post) Q) := w_ild (show decode kb35 45 = .ok (.iaload, 1) from by decide +kernel) rfl put_a16
theorem m35_46 : M35 46 ls (.int y :: .int x :: st) H Q = if x = y then M35 49 ls st H Q else M35 57 ls st H Q := w_icmpN (show decode kb35 46 = .ok (.if_icmp .ne 11, 3) from by decide +kernel) (i_ne x y) rfl
theorem m35_49 : M35 49 [.val (.ref r), l1, l2] st H Q = M35 50 [.val (.ref r), l1, l2] (.ref r :: st) H Q := w_x (show decode kb35 49 = .ok (.aload_n 0, 1) from by decide +kernel) rfl
theorem m35_50 : M35 50 ls (.ref (b + 1) :: st) (put (b + 1) pre s A post) Q = M35 53 ls (.ref ((b + 1) + 18) :: st) (put (b + 1) pre s A post) Q := w_get (show decode kb35 50 = .ok (.getfield 62, 3) from by decide +kernel) gf_62 put_o rfl
theorem m35_53 : M35 53 [l0, .val (.int v), l2] st H Q = M35 54 [l0, .val (.int v), l2] (.int v :: st) H Q := w_x (show decode kb35 53 = .ok (.iload_n 1, 1) from by decide +kernel) rfl
theorem m35_54 : M35 54 [l0, l1, .val (.int v)] st H Q = M35 55 [l0, l1, .val (.int v)] (.int v :: st) H Q := w_x (show decode kb35 54 = .ok (.iload_n 2, 1) from by decide +kernel) rfl
theorem m35_55  : M35 55 ls (.int v :: .int j :: .ref ((b + 1) + 18) :: st) (put (b + 1) pre s A post) Q = (inB j (A 17) ∧ M35 56 ls st (put (b + 1) pre s (ou A 17 (setA (A 17) j v)) post) Q) := w_ist (show decode kb35 55 = .ok (.iastore, 1) from by decide +kernel) rfl put_a17 (by omega) rfl put_w17
theorem m35_56 : M35 56 ls [] H Q = Q none H := w_vret (show decode kb35 56 = .ok (.return_, 1) from by decide +kernel) rfl
theorem m35_57 : M35 57 [l0, l1, .val (.int v)] st H Q = M35 60 [l0, l1, .val (.int (v + 1))] st H Q := w_iinc (show decode kb35 57 = .ok (.iinc 2 1, 3) from by decide +kernel) rfl (by decide) rfl
theorem m35_60 : M35 60 ls st H Q = M35 12 ls st H Q := w_x (show decode kb35 60 = .ok (.goto (-48), 3) from by decide +kernel) rfl
theorem m35_63 : M35 63 ls [] H Q = Q none H := w_vret (show decode kb35 63 = .ok (.return_, 1) from by decide +kernel) rfl
theorem m36_0 : M36 0 [.val (.ref r), l1, l2] st H Q = M36 1 [.val (.ref r), l1, l2] (.ref r :: st) H Q := w_x (show decode kb36 0 = .ok (.aload_n 0, 1) from by decide +kernel) rfl
theorem m36_1 : M36 1 ls (.ref (b + 1) :: st) (put (b + 1) pre s A post) Q = M36 4 ls (.int (s 9) :: st) (put (b + 1) pre s A post) Q := w_get (show decode kb36 1 = .ok (.getfield 145, 3) from by decide +kernel) gf_145 put_o rfl
theorem m36_4 : M36 4 ls st H Q = M36 5 ls (.int 1 :: st) H Q := w_con (show decode kb36 4 = .ok (.iconst 1, 1) from by decide +kernel) rfl (by decide)
theorem m36_5 : M36 5 ls (.int y :: .int x :: st) H Q = M36 6 ls (.int (x + y) :: st) H Q := w_x (show decode kb36 5 = .ok (.iadd, 1) from by decide +kernel) rfl
theorem m36_6 : M36 6 [.val (.ref r), l1, l2] st H Q = M36 7 [.val (.ref r), l1, l2] (.ref r :: st) H Q := w_x (show decode kb36 6 = .ok (.aload_n 0, 1) from by decide +kernel) rfl
theorem m36_7 : M36 7 ls (.ref (b + 1) :: st) (put (b + 1) pre s A post) Q = M36 10 ls (.ref ((b + 1) + 16) :: st) (put (b + 1) pre s A post) Q := w_get (show decode kb36 7 = .ok (.getfield 56, 3) from by decide +kernel) gf_56 put_o rfl
theorem m36_10 : M36 10 [l0, .val (.int v), l2] st H Q = M36 11 [l0, .val (.int v), l2] (.int v :: st) H Q := w_x (show decode kb36 10 = .ok (.iload_n 1, 1) from by decide +kernel) rfl
theorem m36_11  : M36 11 ls (.int j :: .ref ((b + 1) + 16) :: st) (put (b + 1) pre s A post) Q = (inB j (A 15) ∧ M36 12 ls (.int (getA (A 15) j) :: st) (put (b + 1) pre s A post) Q) := w_ild (show decode kb36 11 = .ok (.iaload, 1) from by decide +kernel) rfl put_a15
theorem m36_12 : M36 12 ls (.int y :: .int x :: st) H Q = M36 13 ls (.int (x - y) :: st) H Q := w_x (show decode kb36 12 = .ok (.isub, 1) from by decide +kernel) rfl
theorem m36_13u : M36 13 [l0, l1, .unset] ((.int v) :: st) H Q = M36 14 [l0, l1, .val (.int v)] st H Q := w_st (i := 2) (p := isI) (show decode kb36 13 = .ok (.istore_n 2, 1) from by decide +kernel) rfl rfl rfl rfl rfl rfl
theorem m36_14 : M36 14 [.val (.ref r), l1, l2] st H Q = M36 15 [.val (.ref r), l1, l2] (.ref r :: st) H Q := w_x (show decode kb36 14 = .ok (.aload_n 0, 1) from by decide +kernel) rfl
theorem m36_15 : M36 15 ls (.ref (b + 1) :: st) (put (b + 1) pre s A post) Q = M36 18 ls (.ref ((b + 1) + 19) :: st) (put (b + 1) pre s A post) Q := w_get (show decode kb36 15 = .ok (.getfield 65, 3) from by decide +kernel) gf_65 put_o rfl
theorem m36_18 : M36 18 [l0, .val (.int v), l2] st H Q = M36 19 [l0, .val (.int v), l2] (.int v :: st) H Q := w_x (show decode kb36 18 = .ok (.iload_n 1, 1) from by decide +kernel) rfl
theorem m36_19 : M36 19 [.val (.ref r), l1, l2] st H Q = M36 20 [.val (.ref r), l1, l2] (.ref r :: st) H Q := w_x (show decode kb36 19 = .ok (.aload_n 0, 1) from by decide +kernel) rfl
theorem m36_20 : M36 20 ls (.ref (b + 1) :: st) (put (b + 1) pre s A post) Q = M36 23 ls (.ref ((b + 1) + 19) :: st) (put (b + 1) pre s A post) Q := w_get (show decode kb36 20 = .ok (.getfield 65, 3) from by decide +kernel) gf_65 put_o rfl
theorem m36_23 : M36 23 [l0, .val (.int v), l2] st H Q = M36 24 [l0, .val (.int v), l2] (.int v :: st) H Q := w_x (show decode kb36 23 = .ok (.iload_n 1, 1) from by decide +kernel) rfl
theorem m36_24  : M36 24 ls (.int j :: .ref ((b + 1) + 19) :: st) (put (b + 1) pre s A post) Q = (inB j (A 18) ∧ M36 25 ls (.int (getA (A 18) j) :: st) (put (b + 1) pre s A post) Q) := w_ild (show decode kb36 24 = .ok (.iaload, 1) from by decide +kernel) rfl put_a18
theorem m36_25 : M36 25 ls st H Q = M36 26 ls (.int 1 :: st) H Q := w_con (show decode kb36 25 = .ok (.iconst 1, 1) from by decide +kernel) rfl (by decide)
theorem m36_26 : M36 26 ls (.int y :: .int x :: st) H Q = M36 27 ls (.int (x + y) :: st) H Q := w_x (show decode kb36 26 = .ok (.iadd, 1) from by decide +kernel) rfl
theorem m36_27  : M36 27 ls (.int v :: .int j :: .ref ((b + 1) + 19) :: st) (put (b + 1) pre s A post) Q = (inB j (A 18) ∧ M36 28 ls st (put (b + 1) pre s (ou A 18 (setA (A 18) j v)) post) Q) := w_ist (show decode kb36 27 = .ok (.iastore, 1) from by decide +kernel) rfl put_a18 (by omega) rfl put_w18
theorem m36_28 : M36 28 [l0, l1, .val (.int v)] st H Q = M36 29 [l0, l1, .val (.int v)] (.int v :: st) H Q := w_x (show decode kb36 28 = .ok (.iload_n 2, 1) from by decide +kernel) rfl
theorem m36_29 : M36 29 [.val (.ref r), l1, l2] st H Q = M36 30 [.val (.ref r), l1, l2] (.ref r :: st) H Q := w_x (show decode kb36 29 = .ok (.aload_n 0, 1) from by decide +kernel) rfl
theorem m36_30 : M36 30 ls (.ref (b + 1) :: st) (put (b + 1) pre s A post) Q = M36 33 ls (.ref ((b + 1) + 20) :: st) (put (b + 1) pre s A post) Q := w_get (show decode kb36 30 = .ok (.getfield 68, 3) from by decide +kernel) gf_68 put_o rfl
theorem m36_33 : M36 33 [l0, .val (.int v), l2] st H Q = M36 34 [l0, .val (.int v), l2] (.int v :: st) H Q := w_x (show decode kb36 33 = .ok (.iload_n 1, 1) from by decide +kernel) rfl
theorem m36_34  : M36 34 ls (.int j :: .ref ((b + 1) + 20) :: st) (put (b + 1) pre s A post) Q = (inB j (A 19) ∧ M36 35 ls (.int (getA (A 19) j) :: st) (put (b + 1) pre s A post) Q) := w_ild (show decode kb36 34 = .ok (.iaload, 1) from by decide +kernel) rfl put_a19
theorem m36_35 : M36 35 ls (.int y :: .int x :: st) H Q = if y < x then M36 38 ls st H Q else M36 45 ls st H Q := w_icmpN (show decode kb36 35 = .ok (.if_icmp .le 10, 3) from by decide +kernel) (i_le x y) rfl
theorem m36_38 : M36 38 [.val (.ref r), l1, l2] st H Q = M36 39 [.val (.ref r), l1, l2] (.ref r :: st) H Q := w_x (show decode kb36 38 = .ok (.aload_n 0, 1) from by decide +kernel) rfl
theorem m36_39 : M36 39 ls (.ref (b + 1) :: st) (put (b + 1) pre s A post) Q = M36 42 ls (.ref ((b + 1) + 20) :: st) (put (b + 1) pre s A post) Q := w_get (show decode kb36 39 = .ok (.getfield 68, 3) from by decide +kernel) gf_68 put_o rfl
theorem m36_42 : M36 42 [l0, .val (.int v), l2] st H Q = M36 43 [l0, .val (.int v), l2] (.int v :: st) H Q := w_x (show decode kb36 42 = .ok (.iload_n 1, 1) from by decide +kernel) rfl
theorem m36_43 : M36 43 [l0, l1, .val (.int v)] st H Q = M36 44 [l0, l1, .val (.int v)] (.int v :: st) H Q := w_x (show decode kb36 43 = .ok (.iload_n 2, 1) from by decide +kernel) rfl
theorem m36_44  : M36 44 ls (.int v :: .int j :: .ref ((b + 1) + 20) :: st) (put (b + 1) pre s A post) Q = (inB j (A 19) ∧ M36 45 ls st (put (b + 1) pre s (ou A 19 (setA (A 19) j v)) post) Q) := w_ist (show decode kb36 44 = .ok (.iastore, 1) from by decide +kernel) rfl put_a19 (by omega) rfl put_w19
theorem m36_45 : M36 45 [.val (.ref r), l1, l2] st H Q = M36 46 [.val (.ref r), l1, l2] (.ref r :: st) H Q := w_x (show decode kb36 45 = .ok (.aload_n 0, 1) from by decide +kernel) rfl
theorem m36_46 : M36 46 ls (.ref (b + 1) :: st) (put (b + 1) pre s A post) Q = M36 49 ls (.ref ((b + 1) + 15) :: st) (put (b + 1) pre s A post) Q := w_get (show decode kb36 46 = .ok (.getfield 52, 3) from by decide +kernel) gf_52 put_o rfl
theorem m36_49 : M36 49 [l0, .val (.int v), l2] st H Q = M36 50 [l0, .val (.int v), l2] (.int v :: st) H Q := w_x (show decode kb36 49 = .ok (.iload_n 1, 1) from by decide +kernel) rfl
theorem m36_50 : M36 50 ls st H Q = M36 51 ls (.int 0 :: st) H Q := w_con (show decode kb36 50 = .ok (.iconst 0, 1) from by decide +kernel) rfl (by decide)
theorem m36_51  : M36 51 ls (.int v :: .int j :: .ref ((b + 1) + 15) :: st) (put (b + 1) pre s A post) Q = (inB j (A 14) ∧ M36 52 ls st (put (b + 1) pre s (ou A 14 (setA (A 14) j (nar .boolean v))) post) Q) := w_ist (show decode kb36 51 = .ok (.bastore, 1) from by decide +kernel) rfl put_a14 (by omega) rfl put_w14
theorem m36_52 : M36 52 [.val (.ref r), l1, l2] st H Q = M36 53 [.val (.ref r), l1, l2] (.ref r :: st) H Q := w_x (show decode kb36 52 = .ok (.aload_n 0, 1) from by decide +kernel) rfl
theorem m36_53 : M36 53 ls (.ref (b + 1) :: st) (put (b + 1) pre s A post) Q = M36 56 ls (.ref ((b + 1) + 18) :: st) (put (b + 1) pre s A post) Q := w_get (show decode kb36 53 = .ok (.getfield 62, 3) from by decide +kernel) gf_62 put_o rfl
theorem m36_56 : M36 56 [l0, .val (.int v), l2] st H Q = M36 57 [l0, .val (.int v), l2] (.int v :: st) H Q := w_x (show decode kb36 56 = .ok (.iload_n 1, 1) from by decide +kernel) rfl
theorem m36_57 : M36 57 ls st H Q = M36 58 ls (.int (-1) :: st) H Q := w_con (show decode kb36 57 = .ok (.iconst (-1), 1) from by decide +kernel) rfl (by decide)
theorem m36_58  : M36 58 ls (.int v :: .int j :: .ref ((b + 1) + 18) :: st) (put (b + 1) pre s A post) Q = (inB j (A 17) ∧ M36 59 ls st (put (b + 1) pre s (ou A 17 (setA (A 17) j v)) post) Q) := w_ist (show decode kb36 58 = .ok (.iastore, 1) from by decide +kernel) rfl put_a17 (by omega) rfl put_w17
theorem m36_59 : M36 59 ls [] H Q = Q none H := w_vret (show decode kb36 59 = .ok (.return_, 1) from by decide +kernel) rfl
theorem m37_0 : M37 0 ls st H Q = M37 1 ls (.int 0 :: st) H Q := w_con (show decode kb37 0 = .ok (.iconst 0, 1) from by decide +kernel) rfl (by decide)
theorem m37_1u : M37 1 [l0, l1, l2, .unset, l4, l5] ((.int v) :: st) H Q = M37 2 [l0, l1, l2, .val (.int v), l4, l5] st H Q := w_st (i := 3) (p := isI) (show decode kb37 1 = .ok (.istore_n 3, 1) from by decide +kernel) rfl rfl rfl rfl rfl rfl
theorem m37_2 : M37 2 [l0, l1, l2, .val (.int v), l4, l5] st H Q = M37 3 [l0, l1, l2, .val (.int v), l4, l5] (.int v :: st) H Q := w_x (show decode kb37 2 = .ok (.iload_n 3, 1) from by decide +kernel) rfl
theorem m37_3 : M37 3 ls st H Q = M37 4 ls (.int 4 :: st) H Q := w_con (show decode kb37 3 = .ok (.iconst 4, 1) from by decide +kernel) rfl (by decide)
theorem m37_4 : M37 4 ls (.int y :: .int x :: st) H Q = if x < y then M37 7 ls st H Q else M37 56 ls st H Q := w_icmpN (show decode kb37 4 = .ok (.if_icmp .ge 52, 3) from by decide +kernel) (i_ge x y) rfl
theorem m37_7 : M37 7 [.val (.ref r), l1, l2, l3, l4, l5] st H Q = M37 8 [.val (.ref r), l1, l2, l3, l4, l5] (.ref r :: st) H Q := w_x (show decode kb37 7 = .ok (.aload_n 0, 1) from by decide +kernel) rfl
theorem m37_8 : M37 8 ls (.ref (b + 1) :: st) (put (b + 1) pre s A post) Q = M37 11 ls (.ref ((b + 1) + 11) :: st) (put (b + 1) pre s A post) Q := w_get (show decode kb37 8 = .ok (.getfield 40, 3) from by decide +kernel) gf_40 put_o rfl
theorem m37_11 : M37 11 [l0, l1, l2, .val (.int v), l4, l5] st H Q = M37 12 [l0, l1, l2, .val (.int v), l4, l5] (.int v :: st) H Q := w_x (show decode kb37 11 = .ok (.iload_n 3, 1) from by decide +kernel) rfl
theorem m37_12  : M37 12 ls (.int j :: .ref ((b + 1) + 11) :: st) (put (b + 1) pre s A post) Q = (inB j (A 10) ∧ M37 13 ls (.int (getA (A 10) j) :: st) (put (b + 1) pre s A post) Q) := w_ild (show decode kb37 12 = .ok (.iaload, 1) from by decide +kernel) rfl put_a10
theorem m37_13u : M37 13 [l0, l1, l2, l3, .unset, l5] ((.int v) :: st) H Q = M37 15 [l0, l1, l2, l3, .val (.int v), l5] st H Q := w_st (i := 4) (p := isI) (show decode kb37 13 = .ok (.istore 4, 2) from by decide +kernel) rfl rfl rfl rfl rfl rfl
theorem m37_13i : M37 13 [l0, l1, l2, l3, .val (.int z), l5] ((.int v) :: st) H Q = M37 15 [l0, l1, l2, l3, .val (.int v), l5] st H Q := w_st (i := 4) (p := isI) (show decode kb37 13 = .ok (.istore 4, 2) from by decide +kernel) rfl rfl rfl rfl rfl rfl
theorem m37_13r : M37 13 [l0, l1, l2, l3, .val (.ref q), l5] ((.int v) :: st) H Q = M37 15 [l0, l1, l2, l3, .val (.int v), l5] st H Q := w_st (i := 4) (p := isI) (show decode kb37 13 = .ok (.istore 4, 2) from by decide +kernel) rfl rfl rfl rfl rfl rfl
theorem m37_13g (h : okS l4) : M37 13 [l0, l1, l2, l3, l4, l5] ((.int v) :: st) H Q = M37 15 [l0, l1, l2, l3, .val (.int v), l5] st H Q := by rcases h with rfl | ⟨z, rfl⟩ <;> first | exact m37_13u | exact m37_13i
theorem m37_15 : M37 15 [l0, l1, l2, l3, .val (.int v), l5] st H Q = M37 17 [l0, l1, l2, l3, .val (.int v), l5] (.int v :: st) H Q := w_x (show decode kb37 15 = .ok (.iload 4, 2) from by decide +kernel) rfl
theorem m37_17 : M37 17 ls (.int x :: st) H Q = if 0 < x then M37 23 ls st H Q else M37 20 ls st H Q := w_if (show decode kb37 17 = .ok (.ifCond .gt 6, 3) from by decide +kernel) (z_gt x) rfl
theorem m37_20 : M37 20 ls st H Q = M37 50 ls st H Q := w_x (show decode kb37 20 = .ok (.goto 30, 3) from by decide +kernel) rfl
theorem m37_23 : M37 23 [.val (.ref r), l1, l2, l3, l4, l5] st H Q = M37 24 [.val (.ref r), l1, l2, l3, l4, l5] (.ref r :: st) H Q := w_x (show decode kb37 23 = .ok (.aload_n 0, 1) from by decide +kernel) rfl
theorem m37_24 : M37 24 ls (.ref (b + 1) :: st) (put (b + 1) pre s A post) Q = M37 27 ls (.ref ((b + 1) + 10) :: st) (put (b + 1) pre s A post) Q := w_get (show decode kb37 24 = .ok (.getfield 37, 3) from by decide +kernel) gf_37 put_o rfl
theorem m37_27 : M37 27 [l0, l1, l2, .val (.int v), l4, l5] st H Q = M37 28 [l0, l1, l2, .val (.int v), l4, l5] (.int v :: st) H Q := w_x (show decode kb37 27 = .ok (.iload_n 3, 1) from by decide +kernel) rfl
theorem m37_28  : M37 28 ls (.int j :: .ref ((b + 1) + 10) :: st) (put (b + 1) pre s A post) Q = (inB j (A 9) ∧ M37 29 ls (.int (getA (A 9) j) :: st) (put (b + 1) pre s A post) Q) := w_ild (show decode kb37 28 = .ok (.iaload, 1) from by decide +kernel) rfl put_a9
theorem m37_29u : M37 29 [l0, l1, l2, l3, l4, .unset] ((.int v) :: st) H Q = M37 31 [l0, l1, l2, l3, l4, .val (.int v)] st H Q := w_st (i := 5) (p := isI) (show decode kb37 29 = .ok (.istore 5, 2) from by decide +kernel) rfl rfl rfl rfl rfl rfl
theorem m37_29i : M37 29 [l0, l1, l2, l3, l4, .val (.int z)] ((.int v) :: st) H Q = M37 31 [l0, l1, l2, l3, l4, .val (.int v)] st H Q := w_st (i := 5) (p := isI) (show decode kb37 29 = .ok (.istore 5, 2) from by decide +kernel) rfl rfl rfl rfl rfl rfl
theorem m37_29r : M37 29 [l0, l1, l2, l3, l4, .val (.ref q)] ((.int v) :: st) H Q = M37 31 [l0, l1, l2, l3, l4, .val (.int v)] st H Q := w_st (i := 5) (p := isI) (show decode kb37 29 = .ok (.istore 5, 2) from by decide +kernel) rfl rfl rfl rfl rfl rfl
theorem m37_29g (h : okS l5) : M37 29 [l0, l1, l2, l3, l4, l5] ((.int v) :: st) H Q = M37 31 [l0, l1, l2, l3, l4, .val (.int v)] st H Q := by rcases h with rfl | ⟨z, rfl⟩ <;> first | exact m37_29u | exact m37_29i
theorem m37_31 : M37 31 [l0, .val (.int v), l2, l3, l4, l5] st H Q = M37 32 [l0, .val (.int v), l2, l3, l4, l5] (.int v :: st) H Q := w_x (show decode kb37 31 = .ok (.iload_n 1, 1) from by decide +kernel) rfl
theorem m37_32 : M37 32 [l0, l1, l2, l3, l4, .val (.int v)] st H Q = M37 34 [l0, l1, l2, l3, l4, .val (.int v)] (.int v :: st) H Q := w_x (show decode kb37 32 = .ok (.iload 5, 2) from by decide +kernel) rfl
theorem m37_34 : M37 34 [l0, l1, l2, l3, .val (.int v), l5] st H Q = M37 36 [l0, l1, l2, l3, .val (.int v), l5] (.int v :: st) H Q := w_x (show decode kb37 34 = .ok (.iload 4, 2) from by decide +kernel) rfl
theorem m37_36 : M37 36 ls (.int y :: .int x :: st) H Q = M37 37 ls (.int (x + y) :: st) H Q := w_x (show decode kb37 36 = .ok (.iadd, 1) from by decide +kernel) rfl
theorem m37_37 : M37 37 ls (.int y :: .int x :: st) H Q = if x < y then M37 40 ls st H Q else M37 50 ls st H Q := w_icmpN (show decode kb37 37 = .ok (.if_icmp .ge 13, 3) from by decide +kernel) (i_ge x y) rfl
theorem m37_40 : M37 40 [l0, l1, l2, l3, l4, .val (.int v)] st H Q = M37 42 [l0, l1, l2, l3, l4, .val (.int v)] (.int v :: st) H Q := w_x (show decode kb37 40 = .ok (.iload 5, 2) from by decide +kernel) rfl
theorem m37_42 : M37 42 [l0, .val (.int v), l2, l3, l4, l5] st H Q = M37 43 [l0, .val (.int v), l2, l3, l4, l5] (.int v :: st) H Q := w_x (show decode kb37 42 = .ok (.iload_n 1, 1) from by decide +kernel) rfl
theorem m37_43 : M37 43 [l0, l1, .val (.int v), l3, l4, l5] st H Q = M37 44 [l0, l1, .val (.int v), l3, l4, l5] (.int v :: st) H Q := w_x (show decode kb37 43 = .ok (.iload_n 2, 1) from by decide +kernel) rfl
theorem m37_44 : M37 44 ls (.int y :: .int x :: st) H Q = M37 45 ls (.int (x + y) :: st) H Q := w_x (show decode kb37 44 = .ok (.iadd, 1) from by decide +kernel) rfl
theorem m37_45 : M37 45 ls (.int y :: .int x :: st) H Q = if x < y then M37 48 ls st H Q else M37 50 ls st H Q := w_icmpN (show decode kb37 45 = .ok (.if_icmp .ge 5, 3) from by decide +kernel) (i_ge x y) rfl
theorem m37_48 : M37 48 ls st H Q = M37 49 ls (.int 1 :: st) H Q := w_con (show decode kb37 48 = .ok (.iconst 1, 1) from by decide +kernel) rfl (by decide)
theorem m37_49 : M37 49 ls (.int z :: st) H Q = Q (some (.int (nar .boolean z))) H := w_iretN (show decode kb37 49 = .ok (.ireturn, 1) from by decide +kernel) rfl (by simp)
theorem m37_50 : M37 50 [l0, l1, l2, .val (.int v), l4, l5] st H Q = M37 53 [l0, l1, l2, .val (.int (v + 1)), l4, l5] st H Q := w_iinc (show decode kb37 50 = .ok (.iinc 3 1, 3) from by decide +kernel) rfl (by decide) rfl
theorem m37_53 : M37 53 ls st H Q = M37 2 ls st H Q := w_x (show decode kb37 53 = .ok (.goto (-51), 3) from by decide +kernel) rfl
theorem m37_56 : M37 56 ls st H Q = M37 57 ls (.int 0 :: st) H Q := w_con (show decode kb37 56 = .ok (.iconst 0, 1) from by decide +kernel) rfl (by decide)
theorem m37_57 : M37 57 ls (.int z :: st) H Q = Q (some (.int (nar .boolean z))) H := w_iretN (show decode kb37 57 = .ok (.ireturn, 1) from by decide +kernel) rfl (by simp)
theorem m38_0 : M38 0 [.val (.ref r), l1, l2] st H Q = M38 1 [.val (.ref r), l1, l2] (.ref r :: st) H Q := w_x (show decode kb38 0 = .ok (.aload_n 0, 1) from by decide +kernel) rfl
theorem cr38_37 : vR tables_1 dn y38 37 = some (false, y7, prog_1_method_17_code, 1, (some .int), 0, 15) := vR_of (cR_of (by decide +kernel) rc_7 dn_7 dn_38 (sig := ⟨[], some .int⟩) (by decide +kernel) (by decide +kernel) rfl rfl) (by decide +kernel) (by decide +kernel) (by decide +kernel)
theorem m38_1 : M38 1 ls [.ref (b + 1)] (put (b + 1) pre s A post) Q = M7 0 [.val (.ref (b + 1))] [] (put (b + 1) pre s A post) (fun v H1 => M38 4 ls (v.toList ++ []) H1 Q) := w_virt (as := []) (rest := []) (a := (b + 1)) (show decode kb38 1 = .ok (.invokevirtual 37, 3) from by decide +kernel) cr38_37 put_o rfl rfl (Nat.le_of_ble_eq_true rfl) (by show 1 ≤ 1; omega) rfl
theorem m38_4 : M38 4 [l0, .val (.ref r), l2] st H Q = M38 5 [l0, .val (.ref r), l2] (.ref r :: st) H Q := w_x (show decode kb38 4 = .ok (.aload_n 1, 1) from by decide +kernel) rfl
theorem m38_5 (u0 : Int32) : M38 5 ls [.ref (b + 1), .int u0] (put (b + 1) pre s A post) Q = M7 0 [.val (.ref (b + 1))] [] (put (b + 1) pre s A post) (fun v H1 => M38 8 ls (v.toList ++ [.int u0]) H1 Q) := w_virt (as := []) (rest := [.int u0]) (a := (b + 1)) (show decode kb38 5 = .ok (.invokevirtual 37, 3) from by decide +kernel) cr38_37 put_o rfl rfl (Nat.le_of_ble_eq_true rfl) (by show 1 ≤ 1; omega) rfl
theorem m38_8 : M38 8 ls (.int y :: .int x :: st) H Q = if x = y then M38 11 ls st H Q else M38 22 ls st H Q := w_icmpN (show decode kb38 8 = .ok (.if_icmp .ne 14, 3) from by decide +kernel) (i_ne x y) rfl
theorem m38_11 : M38 11 [.val (.ref r), l1, l2] st H Q = M38 12 [.val (.ref r), l1, l2] (.ref r :: st) H Q := w_x (show decode kb38 11 = .ok (.aload_n 0, 1) from by decide +kernel) rfl
theorem cr38_40 : vR tables_1 dn y38 40 = some (false, y8, prog_1_method_21_code, 1, (some .int), 0, 15) := vR_of (cR_of (by decide +kernel) rc_8 dn_8 dn_38 (sig := ⟨[], some .int⟩) (by decide +kernel) (by decide +kernel) rfl rfl) (by decide +kernel) (by decide +kernel) (by decide +kernel)
theorem m38_12 : M38 12 ls [.ref (b + 1)] (put (b + 1) pre s A post) Q = M8 0 [.val (.ref (b + 1))] [] (put (b + 1) pre s A post) (fun v H1 => M38 15 ls (v.toList ++ []) H1 Q) := w_virt (as := []) (rest := []) (a := (b + 1)) (show decode kb38 12 = .ok (.invokevirtual 40, 3) from by decide +kernel) cr38_40 put_o rfl rfl (Nat.le_of_ble_eq_true rfl) (by show 1 ≤ 1; omega) rfl
theorem m38_15 : M38 15 [l0, .val (.ref r), l2] st H Q = M38 16 [l0, .val (.ref r), l2] (.ref r :: st) H Q := w_x (show decode kb38 15 = .ok (.aload_n 1, 1) from by decide +kernel) rfl
theorem m38_16 (u0 : Int32) : M38 16 ls [.ref (b + 1), .int u0] (put (b + 1) pre s A post) Q = M8 0 [.val (.ref (b + 1))] [] (put (b + 1) pre s A post) (fun v H1 => M38 19 ls (v.toList ++ [.int u0]) H1 Q) := w_virt (as := []) (rest := [.int u0]) (a := (b + 1)) (show decode kb38 16 = .ok (.invokevirtual 40, 3) from by decide +kernel) cr38_40 put_o rfl rfl (Nat.le_of_ble_eq_true rfl) (by show 1 ≤ 1; omega) rfl
theorem m38_19 : M38 19 ls (.int y :: .int x :: st) H Q = if x = y then M38 24 ls st H Q else M38 22 ls st H Q := w_icmp (show decode kb38 19 = .ok (.if_icmp .eq 5, 3) from by decide +kernel) (i_eq x y) rfl
theorem m38_22 : M38 22 ls st H Q = M38 23 ls (.int 0 :: st) H Q := w_con (show decode kb38 22 = .ok (.iconst 0, 1) from by decide +kernel) rfl (by decide)
theorem m38_23 : M38 23 ls (.int z :: st) H Q = Q (some (.int (nar .boolean z))) H := w_iretN (show decode kb38 23 = .ok (.ireturn, 1) from by decide +kernel) rfl (by simp)
theorem m38_24 : M38 24 [.val (.ref r), l1, l2] st H Q = M38 25 [.val (.ref r), l1, l2] (.ref r :: st) H Q := w_x (show decode kb38 24 = .ok (.aload_n 0, 1) from by decide +kernel) rfl
theorem cr38_43 : vR tables_1 dn y38 43 = some (false, y9, prog_1_method_22_code, 1, (some .int), 0, 15) := vR_of (cR_of (by decide +kernel) rc_9 dn_9 dn_38 (sig := ⟨[], some .int⟩) (by decide +kernel) (by decide +kernel) rfl rfl) (by decide +kernel) (by decide +kernel) (by decide +kernel)
theorem m38_25 : M38 25 ls [.ref (b + 1)] (put (b + 1) pre s A post) Q = M9 0 [.val (.ref (b + 1))] [] (put (b + 1) pre s A post) (fun v H1 => M38 28 ls (v.toList ++ []) H1 Q) := w_virt (as := []) (rest := []) (a := (b + 1)) (show decode kb38 25 = .ok (.invokevirtual 43, 3) from by decide +kernel) cr38_43 put_o rfl rfl (Nat.le_of_ble_eq_true rfl) (by show 1 ≤ 1; omega) rfl
theorem m38_28 : M38 28 [l0, .val (.ref r), l2] st H Q = M38 29 [l0, .val (.ref r), l2] (.ref r :: st) H Q := w_x (show decode kb38 28 = .ok (.aload_n 1, 1) from by decide +kernel) rfl
theorem m38_29 (u0 : Int32) : M38 29 ls [.ref (b + 1), .int u0] (put (b + 1) pre s A post) Q = M9 0 [.val (.ref (b + 1))] [] (put (b + 1) pre s A post) (fun v H1 => M38 32 ls (v.toList ++ [.int u0]) H1 Q) := w_virt (as := []) (rest := [.int u0]) (a := (b + 1)) (show decode kb38 29 = .ok (.invokevirtual 43, 3) from by decide +kernel) cr38_43 put_o rfl rfl (Nat.le_of_ble_eq_true rfl) (by show 1 ≤ 1; omega) rfl
theorem m38_32 : M38 32 ls (.int y :: .int x :: st) H Q = if x = y then M38 37 ls st H Q else M38 35 ls st H Q := w_icmp (show decode kb38 32 = .ok (.if_icmp .eq 5, 3) from by decide +kernel) (i_eq x y) rfl
theorem m38_35 : M38 35 ls st H Q = M38 36 ls (.int 0 :: st) H Q := w_con (show decode kb38 35 = .ok (.iconst 0, 1) from by decide +kernel) rfl (by decide)
theorem m38_36 : M38 36 ls (.int z :: st) H Q = Q (some (.int (nar .boolean z))) H := w_iretN (show decode kb38 36 = .ok (.ireturn, 1) from by decide +kernel) rfl (by simp)
theorem m38_37 : M38 37 ls st H Q = M38 38 ls (.int 0 :: st) H Q := w_con (show decode kb38 37 = .ok (.iconst 0, 1) from by decide +kernel) rfl (by decide)
theorem m38_38u : M38 38 [l0, l1, .unset] ((.int v) :: st) H Q = M38 39 [l0, l1, .val (.int v)] st H Q := w_st (i := 2) (p := isI) (show decode kb38 38 = .ok (.istore_n 2, 1) from by decide +kernel) rfl rfl rfl rfl rfl rfl
theorem m38_39 : M38 39 [l0, l1, .val (.int v)] st H Q = M38 40 [l0, l1, .val (.int v)] (.int v :: st) H Q := w_x (show decode kb38 39 = .ok (.iload_n 2, 1) from by decide +kernel) rfl
theorem m38_40 : M38 40 ls st H Q = M38 42 ls (.int 9 :: st) H Q := w_con (show decode kb38 40 = .ok (.bipush 9, 2) from by decide +kernel) rfl (by decide)
theorem m38_42 : M38 42 ls (.int y :: .int x :: st) H Q = if x < y then M38 45 ls st H Q else M38 79 ls st H Q := w_icmpN (show decode kb38 42 = .ok (.if_icmp .ge 37, 3) from by decide +kernel) (i_ge x y) rfl
theorem m38_45 : M38 45 [.val (.ref r), l1, l2] st H Q = M38 46 [.val (.ref r), l1, l2] (.ref r :: st) H Q := w_x (show decode kb38 45 = .ok (.aload_n 0, 1) from by decide +kernel) rfl
theorem m38_46 : M38 46 [l0, l1, .val (.int v)] st H Q = M38 47 [l0, l1, .val (.int v)] (.int v :: st) H Q := w_x (show decode kb38 46 = .ok (.iload_n 2, 1) from by decide +kernel) rfl
theorem cr38_46 : vR tables_1 dn y38 46 = some (false, y10, prog_1_method_18_code, 2, (some .int), 1, 1) := vR_of (cR_of (by decide +kernel) rc_10 dn_10 dn_38 (sig := ⟨[.int], some .int⟩) (by decide +kernel) (by decide +kernel) rfl rfl) (by decide +kernel) (by decide +kernel) (by decide +kernel)
theorem m38_47 (a0 : Int32) : M38 47 ls [.int a0, .ref (b + 1)] (put (b + 1) pre s A post) Q = M10 0 [.val (.ref (b + 1)), .val (.int a0)] [] (put (b + 1) pre s A post) (fun v H1 => M38 50 ls (v.toList ++ []) H1 Q) := w_virt (as := [.int a0]) (rest := []) (a := (b + 1)) (show decode kb38 47 = .ok (.invokevirtual 46, 3) from by decide +kernel) cr38_46 put_o rfl rfl (Nat.le_of_ble_eq_true rfl) (by show 2 ≤ 2; omega) rfl
theorem m38_50 : M38 50 [l0, .val (.ref r), l2] st H Q = M38 51 [l0, .val (.ref r), l2] (.ref r :: st) H Q := w_x (show decode kb38 50 = .ok (.aload_n 1, 1) from by decide +kernel) rfl
theorem m38_51 : M38 51 [l0, l1, .val (.int v)] st H Q = M38 52 [l0, l1, .val (.int v)] (.int v :: st) H Q := w_x (show decode kb38 51 = .ok (.iload_n 2, 1) from by decide +kernel) rfl
theorem m38_52 (a0 : Int32) (u0 : Int32) : M38 52 ls [.int a0, .ref (b + 1), .int u0] (put (b + 1) pre s A post) Q = M10 0 [.val (.ref (b + 1)), .val (.int a0)] [] (put (b + 1) pre s A post) (fun v H1 => M38 55 ls (v.toList ++ [.int u0]) H1 Q) := w_virt (as := [.int a0]) (rest := [.int u0]) (a := (b + 1)) (show decode kb38 52 = .ok (.invokevirtual 46, 3) from by decide +kernel) cr38_46 put_o rfl rfl (Nat.le_of_ble_eq_true rfl) (by show 2 ≤ 2; omega) rfl
theorem m38_55 : M38 55 ls (.int y :: .int x :: st) H Q = if x = y then M38 58 ls st H Q else M38 71 ls st H Q := w_icmpN (show decode kb38 55 = .ok (.if_icmp .ne 16, 3) from by decide +kernel) (i_ne x y) rfl
theorem m38_58 : M38 58 [.val (.ref r), l1, l2] st H Q = M38 59 [.val (.ref r), l1, l2] (.ref r :: st) H Q := w_x (show decode kb38 58 = .ok (.aload_n 0, 1) from by decide +kernel) rfl
theorem m38_59 : M38 59 [l0, l1, .val (.int v)] st H Q = M38 60 [l0, l1, .val (.int v)] (.int v :: st) H Q := w_x (show decode kb38 59 = .ok (.iload_n 2, 1) from by decide +kernel) rfl
theorem cr38_49 : vR tables_1 dn y38 49 = some (false, y12, prog_1_method_19_code, 2, (some .int), 1, 1) := vR_of (cR_of (by decide +kernel) rc_12 dn_12 dn_38 (sig := ⟨[.int], some .int⟩) (by decide +kernel) (by decide +kernel) rfl rfl) (by decide +kernel) (by decide +kernel) (by decide +kernel)
theorem m38_60 (a0 : Int32) : M38 60 ls [.int a0, .ref (b + 1)] (put (b + 1) pre s A post) Q = M12 0 [.val (.ref (b + 1)), .val (.int a0)] [] (put (b + 1) pre s A post) (fun v H1 => M38 63 ls (v.toList ++ []) H1 Q) := w_virt (as := [.int a0]) (rest := []) (a := (b + 1)) (show decode kb38 60 = .ok (.invokevirtual 49, 3) from by decide +kernel) cr38_49 put_o rfl rfl (Nat.le_of_ble_eq_true rfl) (by show 2 ≤ 2; omega) rfl
theorem m38_63 : M38 63 [l0, .val (.ref r), l2] st H Q = M38 64 [l0, .val (.ref r), l2] (.ref r :: st) H Q := w_x (show decode kb38 63 = .ok (.aload_n 1, 1) from by decide +kernel) rfl
theorem m38_64 : M38 64 [l0, l1, .val (.int v)] st H Q = M38 65 [l0, l1, .val (.int v)] (.int v :: st) H Q := w_x (show decode kb38 64 = .ok (.iload_n 2, 1) from by decide +kernel) rfl
theorem m38_65 (a0 : Int32) (u0 : Int32) : M38 65 ls [.int a0, .ref (b + 1), .int u0] (put (b + 1) pre s A post) Q = M12 0 [.val (.ref (b + 1)), .val (.int a0)] [] (put (b + 1) pre s A post) (fun v H1 => M38 68 ls (v.toList ++ [.int u0]) H1 Q) := w_virt (as := [.int a0]) (rest := [.int u0]) (a := (b + 1)) (show decode kb38 65 = .ok (.invokevirtual 49, 3) from by decide +kernel) cr38_49 put_o rfl rfl (Nat.le_of_ble_eq_true rfl) (by show 2 ≤ 2; omega) rfl
theorem m38_68 : M38 68 ls (.int y :: .int x :: st) H Q = if x = y then M38 73 ls st H Q else M38 71 ls st H Q := w_icmp (show decode kb38 68 = .ok (.if_icmp .eq 5, 3) from by decide +kernel) (i_eq x y) rfl
theorem m38_71 : M38 71 ls st H Q = M38 72 ls (.int 0 :: st) H Q := w_con (show decode kb38 71 = .ok (.iconst 0, 1) from by decide +kernel) rfl (by decide)
theorem m38_72 : M38 72 ls (.int z :: st) H Q = Q (some (.int (nar .boolean z))) H := w_iretN (show decode kb38 72 = .ok (.ireturn, 1) from by decide +kernel) rfl (by simp)
theorem m38_73 : M38 73 [l0, l1, .val (.int v)] st H Q = M38 76 [l0, l1, .val (.int (v + 1))] st H Q := w_iinc (show decode kb38 73 = .ok (.iinc 2 1, 3) from by decide +kernel) rfl (by decide) rfl
theorem m38_76 : M38 76 ls st H Q = M38 39 ls st H Q := w_x (show decode kb38 76 = .ok (.goto (-37), 3) from by decide +kernel) rfl
theorem m38_79 : M38 79 ls st H Q = M38 80 ls (.int 0 :: st) H Q := w_con (show decode kb38 79 = .ok (.iconst 0, 1) from by decide +kernel) rfl (by decide)
theorem m38_80i : M38 80 [l0, l1, .val (.int z)] ((.int v) :: st) H Q = M38 81 [l0, l1, .val (.int v)] st H Q := w_st (i := 2) (p := isI) (show decode kb38 80 = .ok (.istore_n 2, 1) from by decide +kernel) rfl rfl rfl rfl rfl rfl
theorem m38_81 : M38 81 [l0, l1, .val (.int v)] st H Q = M38 82 [l0, l1, .val (.int v)] (.int v :: st) H Q := w_x (show decode kb38 81 = .ok (.iload_n 2, 1) from by decide +kernel) rfl
theorem m38_82 : M38 82 ls st H Q = M38 83 ls (.int 4 :: st) H Q := w_con (show decode kb38 82 = .ok (.iconst 4, 1) from by decide +kernel) rfl (by decide)
theorem m38_83 : M38 83 ls (.int y :: .int x :: st) H Q = if x < y then M38 86 ls st H Q else M38 107 ls st H Q := w_icmpN (show decode kb38 83 = .ok (.if_icmp .ge 24, 3) from by decide +kernel) (i_ge x y) rfl
theorem m38_86 : M38 86 [.val (.ref r), l1, l2] st H Q = M38 87 [.val (.ref r), l1, l2] (.ref r :: st) H Q := w_x (show decode kb38 86 = .ok (.aload_n 0, 1) from by decide +kernel) rfl
theorem m38_87 : M38 87 [l0, l1, .val (.int v)] st H Q = M38 88 [l0, l1, .val (.int v)] (.int v :: st) H Q := w_x (show decode kb38 87 = .ok (.iload_n 2, 1) from by decide +kernel) rfl
theorem cr38_52 : vR tables_1 dn y38 52 = some (false, y13, prog_1_method_20_code, 2, (some .int), 1, 14) := vR_of (cR_of (by decide +kernel) rc_13 dn_13 dn_38 (sig := ⟨[.int], some .int⟩) (by decide +kernel) (by decide +kernel) rfl rfl) (by decide +kernel) (by decide +kernel) (by decide +kernel)
theorem m38_88 (a0 : Int32) : M38 88 ls [.int a0, .ref (b + 1)] (put (b + 1) pre s A post) Q = M13 0 [.val (.ref (b + 1)), .val (.int a0)] [] (put (b + 1) pre s A post) (fun v H1 => M38 91 ls (v.toList ++ []) H1 Q) := w_virt (as := [.int a0]) (rest := []) (a := (b + 1)) (show decode kb38 88 = .ok (.invokevirtual 52, 3) from by decide +kernel) cr38_52 put_o rfl rfl (Nat.le_of_ble_eq_true rfl) (by show 2 ≤ 2; omega) rfl
theorem m38_91 : M38 91 [l0, .val (.ref r), l2] st H Q = M38 92 [l0, .val (.ref r), l2] (.ref r :: st) H Q := w_x (show decode kb38 91 = .ok (.aload_n 1, 1) from by decide +kernel) rfl
theorem m38_92 : M38 92 [l0, l1, .val (.int v)] st H Q = M38 93 [l0, l1, .val (.int v)] (.int v :: st) H Q := w_x (show decode kb38 92 = .ok (.iload_n 2, 1) from by decide +kernel) rfl
theorem m38_93 (a0 : Int32) (u0 : Int32) : M38 93 ls [.int a0, .ref (b + 1), .int u0] (put (b + 1) pre s A post) Q = M13 0 [.val (.ref (b + 1)), .val (.int a0)] [] (put (b + 1) pre s A post) (fun v H1 => M38 96 ls (v.toList ++ [.int u0]) H1 Q) := w_virt (as := [.int a0]) (rest := [.int u0]) (a := (b + 1)) (show decode kb38 93 = .ok (.invokevirtual 52, 3) from by decide +kernel) cr38_52 put_o rfl rfl (Nat.le_of_ble_eq_true rfl) (by show 2 ≤ 2; omega) rfl
theorem m38_96 : M38 96 ls (.int y :: .int x :: st) H Q = if x = y then M38 101 ls st H Q else M38 99 ls st H Q := w_icmp (show decode kb38 96 = .ok (.if_icmp .eq 5, 3) from by decide +kernel) (i_eq x y) rfl
theorem m38_99 : M38 99 ls st H Q = M38 100 ls (.int 0 :: st) H Q := w_con (show decode kb38 99 = .ok (.iconst 0, 1) from by decide +kernel) rfl (by decide)
theorem m38_100 : M38 100 ls (.int z :: st) H Q = Q (some (.int (nar .boolean z))) H := w_iretN (show decode kb38 100 = .ok (.ireturn, 1) from by decide +kernel) rfl (by simp)
theorem m38_101 : M38 101 [l0, l1, .val (.int v)] st H Q = M38 104 [l0, l1, .val (.int (v + 1))] st H Q := w_iinc (show decode kb38 101 = .ok (.iinc 2 1, 3) from by decide +kernel) rfl (by decide) rfl
theorem m38_104 : M38 104 ls st H Q = M38 81 ls st H Q := w_x (show decode kb38 104 = .ok (.goto (-23), 3) from by decide +kernel) rfl
theorem m38_107 : M38 107 ls st H Q = M38 108 ls (.int 1 :: st) H Q := w_con (show decode kb38 107 = .ok (.iconst 1, 1) from by decide +kernel) rfl (by decide)
theorem m38_108 : M38 108 ls (.int z :: st) H Q = Q (some (.int (nar .boolean z))) H := w_iretN (show decode kb38 108 = .ok (.ireturn, 1) from by decide +kernel) rfl (by simp)
theorem m39_0 : M39 0 [.val (.ref r), l1, l2] st H Q = M39 1 [.val (.ref r), l1, l2] (.ref r :: st) H Q := w_x (show decode kb39 0 = .ok (.aload_n 0, 1) from by decide +kernel) rfl
theorem cr39_55 : vR tables_1 dn y39 55 = some (false, y27, prog_1_method_33_code, 1, (some .int), 0, 15) := vR_of (cR_of (by decide +kernel) rc_27 dn_27 dn_39 (sig := ⟨[], some .int⟩) (by decide +kernel) (by decide +kernel) rfl rfl) (by decide +kernel) (by decide +kernel) (by decide +kernel)
theorem m39_1 : M39 1 ls [.ref (b + 1)] (put (b + 1) pre s A post) Q = M27 0 [.val (.ref (b + 1))] [] (put (b + 1) pre s A post) (fun v H1 => M39 4 ls (v.toList ++ []) H1 Q) := w_virt (as := []) (rest := []) (a := (b + 1)) (show decode kb39 1 = .ok (.invokevirtual 55, 3) from by decide +kernel) cr39_55 put_o rfl rfl (Nat.le_of_ble_eq_true rfl) (by show 1 ≤ 1; omega) rfl
theorem m39_4 : M39 4 [l0, .val (.ref r), l2] st H Q = M39 5 [l0, .val (.ref r), l2] (.ref r :: st) H Q := w_x (show decode kb39 4 = .ok (.aload_n 1, 1) from by decide +kernel) rfl
theorem m39_5 (u0 : Int32) : M39 5 ls [.ref (b + 1), .int u0] (put (b + 1) pre s A post) Q = M27 0 [.val (.ref (b + 1))] [] (put (b + 1) pre s A post) (fun v H1 => M39 8 ls (v.toList ++ [.int u0]) H1 Q) := w_virt (as := []) (rest := [.int u0]) (a := (b + 1)) (show decode kb39 5 = .ok (.invokevirtual 55, 3) from by decide +kernel) cr39_55 put_o rfl rfl (Nat.le_of_ble_eq_true rfl) (by show 1 ≤ 1; omega) rfl
theorem m39_8 : M39 8 ls (.int y :: .int x :: st) H Q = if x = y then M39 11 ls st H Q else M39 22 ls st H Q := w_icmpN (show decode kb39 8 = .ok (.if_icmp .ne 14, 3) from by decide +kernel) (i_ne x y) rfl
theorem m39_11 : M39 11 [.val (.ref r), l1, l2] st H Q = M39 12 [.val (.ref r), l1, l2] (.ref r :: st) H Q := w_x (show decode kb39 11 = .ok (.aload_n 0, 1) from by decide +kernel) rfl
theorem cr39_58 : vR tables_1 dn y39 58 = some (false, y28, prog_1_method_36_code, 1, (some .int), 0, 15) := vR_of (cR_of (by decide +kernel) rc_28 dn_28 dn_39 (sig := ⟨[], some .int⟩) (by decide +kernel) (by decide +kernel) rfl rfl) (by decide +kernel) (by decide +kernel) (by decide +kernel)
theorem m39_12 : M39 12 ls [.ref (b + 1)] (put (b + 1) pre s A post) Q = M28 0 [.val (.ref (b + 1))] [] (put (b + 1) pre s A post) (fun v H1 => M39 15 ls (v.toList ++ []) H1 Q) := w_virt (as := []) (rest := []) (a := (b + 1)) (show decode kb39 12 = .ok (.invokevirtual 58, 3) from by decide +kernel) cr39_58 put_o rfl rfl (Nat.le_of_ble_eq_true rfl) (by show 1 ≤ 1; omega) rfl
theorem m39_15 : M39 15 [l0, .val (.ref r), l2] st H Q = M39 16 [l0, .val (.ref r), l2] (.ref r :: st) H Q := w_x (show decode kb39 15 = .ok (.aload_n 1, 1) from by decide +kernel) rfl
theorem m39_16 (u0 : Int32) : M39 16 ls [.ref (b + 1), .int u0] (put (b + 1) pre s A post) Q = M28 0 [.val (.ref (b + 1))] [] (put (b + 1) pre s A post) (fun v H1 => M39 19 ls (v.toList ++ [.int u0]) H1 Q) := w_virt (as := []) (rest := [.int u0]) (a := (b + 1)) (show decode kb39 16 = .ok (.invokevirtual 58, 3) from by decide +kernel) cr39_58 put_o rfl rfl (Nat.le_of_ble_eq_true rfl) (by show 1 ≤ 1; omega) rfl
theorem m39_19 : M39 19 ls (.int y :: .int x :: st) H Q = if x = y then M39 24 ls st H Q else M39 22 ls st H Q := w_icmp (show decode kb39 19 = .ok (.if_icmp .eq 5, 3) from by decide +kernel) (i_eq x y) rfl
theorem m39_22 : M39 22 ls st H Q = M39 23 ls (.int 0 :: st) H Q := w_con (show decode kb39 22 = .ok (.iconst 0, 1) from by decide +kernel) rfl (by decide)
theorem m39_23 : M39 23 ls (.int z :: st) H Q = Q (some (.int (nar .boolean z))) H := w_iretN (show decode kb39 23 = .ok (.ireturn, 1) from by decide +kernel) rfl (by simp)
theorem m39_24 : M39 24 ls st H Q = M39 25 ls (.int 0 :: st) H Q := w_con (show decode kb39 24 = .ok (.iconst 0, 1) from by decide +kernel) rfl (by decide)
theorem m39_25u : M39 25 [l0, l1, .unset] ((.int v) :: st) H Q = M39 26 [l0, l1, .val (.int v)] st H Q := w_st (i := 2) (p := isI) (show decode kb39 25 = .ok (.istore_n 2, 1) from by decide +kernel) rfl rfl rfl rfl rfl rfl
theorem m39_26 : M39 26 [l0, l1, .val (.int v)] st H Q = M39 27 [l0, l1, .val (.int v)] (.int v :: st) H Q := w_x (show decode kb39 26 = .ok (.iload_n 2, 1) from by decide +kernel) rfl
theorem m39_27 : M39 27 ls st H Q = M39 29 ls (.int 9 :: st) H Q := w_con (show decode kb39 27 = .ok (.bipush 9, 2) from by decide +kernel) rfl (by decide)
theorem m39_29 : M39 29 ls (.int y :: .int x :: st) H Q = if x < y then M39 32 ls st H Q else M39 81 ls st H Q := w_icmpN (show decode kb39 29 = .ok (.if_icmp .ge 52, 3) from by decide +kernel) (i_ge x y) rfl
theorem m39_32 : M39 32 [.val (.ref r), l1, l2] st H Q = M39 33 [.val (.ref r), l1, l2] (.ref r :: st) H Q := w_x (show decode kb39 32 = .ok (.aload_n 0, 1) from by decide +kernel) rfl
theorem m39_33 : M39 33 [l0, l1, .val (.int v)] st H Q = M39 34 [l0, l1, .val (.int v)] (.int v :: st) H Q := w_x (show decode kb39 33 = .ok (.iload_n 2, 1) from by decide +kernel) rfl
theorem cr39_61 : vR tables_1 dn y39 61 = some (false, y29, prog_1_method_35_code, 2, (some .int), 1, 1) := vR_of (cR_of (by decide +kernel) rc_29 dn_29 dn_39 (sig := ⟨[.int], some .int⟩) (by decide +kernel) (by decide +kernel) rfl rfl) (by decide +kernel) (by decide +kernel) (by decide +kernel)
theorem m39_34 (a0 : Int32) : M39 34 ls [.int a0, .ref (b + 1)] (put (b + 1) pre s A post) Q = M29 0 [.val (.ref (b + 1)), .val (.int a0)] [] (put (b + 1) pre s A post) (fun v H1 => M39 37 ls (v.toList ++ []) H1 Q) := w_virt (as := [.int a0]) (rest := []) (a := (b + 1)) (show decode kb39 34 = .ok (.invokevirtual 61, 3) from by decide +kernel) cr39_61 put_o rfl rfl (Nat.le_of_ble_eq_true rfl) (by show 2 ≤ 2; omega) rfl
theorem m39_37 : M39 37 [l0, .val (.ref r), l2] st H Q = M39 38 [l0, .val (.ref r), l2] (.ref r :: st) H Q := w_x (show decode kb39 37 = .ok (.aload_n 1, 1) from by decide +kernel) rfl
theorem m39_38 : M39 38 [l0, l1, .val (.int v)] st H Q = M39 39 [l0, l1, .val (.int v)] (.int v :: st) H Q := w_x (show decode kb39 38 = .ok (.iload_n 2, 1) from by decide +kernel) rfl
theorem m39_39 (a0 : Int32) (u0 : Int32) : M39 39 ls [.int a0, .ref (b + 1), .int u0] (put (b + 1) pre s A post) Q = M29 0 [.val (.ref (b + 1)), .val (.int a0)] [] (put (b + 1) pre s A post) (fun v H1 => M39 42 ls (v.toList ++ [.int u0]) H1 Q) := w_virt (as := [.int a0]) (rest := [.int u0]) (a := (b + 1)) (show decode kb39 39 = .ok (.invokevirtual 61, 3) from by decide +kernel) cr39_61 put_o rfl rfl (Nat.le_of_ble_eq_true rfl) (by show 2 ≤ 2; omega) rfl
theorem m39_42 : M39 42 ls (.int y :: .int x :: st) H Q = if x = y then M39 45 ls st H Q else M39 58 ls st H Q := w_icmpN (show decode kb39 42 = .ok (.if_icmp .ne 16, 3) from by decide +kernel) (i_ne x y) rfl
theorem m39_45 : M39 45 [.val (.ref r), l1, l2] st H Q = M39 46 [.val (.ref r), l1, l2] (.ref r :: st) H Q := w_x (show decode kb39 45 = .ok (.aload_n 0, 1) from by decide +kernel) rfl
theorem m39_46 : M39 46 [l0, l1, .val (.int v)] st H Q = M39 47 [l0, l1, .val (.int v)] (.int v :: st) H Q := w_x (show decode kb39 46 = .ok (.iload_n 2, 1) from by decide +kernel) rfl
theorem cr39_64 : vR tables_1 dn y39 64 = some (false, y30, prog_1_method_34_code, 2, (some .int), 1, 1) := vR_of (cR_of (by decide +kernel) rc_30 dn_30 dn_39 (sig := ⟨[.int], some .int⟩) (by decide +kernel) (by decide +kernel) rfl rfl) (by decide +kernel) (by decide +kernel) (by decide +kernel)
theorem m39_47 (a0 : Int32) : M39 47 ls [.int a0, .ref (b + 1)] (put (b + 1) pre s A post) Q = M30 0 [.val (.ref (b + 1)), .val (.int a0)] [] (put (b + 1) pre s A post) (fun v H1 => M39 50 ls (v.toList ++ []) H1 Q) := w_virt (as := [.int a0]) (rest := []) (a := (b + 1)) (show decode kb39 47 = .ok (.invokevirtual 64, 3) from by decide +kernel) cr39_64 put_o rfl rfl (Nat.le_of_ble_eq_true rfl) (by show 2 ≤ 2; omega) rfl
theorem m39_50 : M39 50 [l0, .val (.ref r), l2] st H Q = M39 51 [l0, .val (.ref r), l2] (.ref r :: st) H Q := w_x (show decode kb39 50 = .ok (.aload_n 1, 1) from by decide +kernel) rfl
theorem m39_51 : M39 51 [l0, l1, .val (.int v)] st H Q = M39 52 [l0, l1, .val (.int v)] (.int v :: st) H Q := w_x (show decode kb39 51 = .ok (.iload_n 2, 1) from by decide +kernel) rfl
theorem m39_52 (a0 : Int32) (u0 : Int32) : M39 52 ls [.int a0, .ref (b + 1), .int u0] (put (b + 1) pre s A post) Q = M30 0 [.val (.ref (b + 1)), .val (.int a0)] [] (put (b + 1) pre s A post) (fun v H1 => M39 55 ls (v.toList ++ [.int u0]) H1 Q) := w_virt (as := [.int a0]) (rest := [.int u0]) (a := (b + 1)) (show decode kb39 52 = .ok (.invokevirtual 64, 3) from by decide +kernel) cr39_64 put_o rfl rfl (Nat.le_of_ble_eq_true rfl) (by show 2 ≤ 2; omega) rfl
theorem m39_55 : M39 55 ls (.int y :: .int x :: st) H Q = if x = y then M39 60 ls st H Q else M39 58 ls st H Q := w_icmp (show decode kb39 55 = .ok (.if_icmp .eq 5, 3) from by decide +kernel) (i_eq x y) rfl
theorem m39_58 : M39 58 ls st H Q = M39 59 ls (.int 0 :: st) H Q := w_con (show decode kb39 58 = .ok (.iconst 0, 1) from by decide +kernel) rfl (by decide)
theorem m39_59 : M39 59 ls (.int z :: st) H Q = Q (some (.int (nar .boolean z))) H := w_iretN (show decode kb39 59 = .ok (.ireturn, 1) from by decide +kernel) rfl (by simp)
theorem m39_60 : M39 60 [.val (.ref r), l1, l2] st H Q = M39 61 [.val (.ref r), l1, l2] (.ref r :: st) H Q := w_x (show decode kb39 60 = .ok (.aload_n 0, 1) from by decide +kernel) rfl
theorem m39_61 : M39 61 [l0, l1, .val (.int v)] st H Q = M39 62 [l0, l1, .val (.int v)] (.int v :: st) H Q := w_x (show decode kb39 61 = .ok (.iload_n 2, 1) from by decide +kernel) rfl
theorem cr39_67 : vR tables_1 dn y39 67 = some (false, y31, prog_1_method_37_code, 2, (some .int), 1, 1) := vR_of (cR_of (by decide +kernel) rc_31 dn_31 dn_39 (sig := ⟨[.int], some .int⟩) (by decide +kernel) (by decide +kernel) rfl rfl) (by decide +kernel) (by decide +kernel) (by decide +kernel)
theorem m39_62 (a0 : Int32) : M39 62 ls [.int a0, .ref (b + 1)] (put (b + 1) pre s A post) Q = M31 0 [.val (.ref (b + 1)), .val (.int a0)] [] (put (b + 1) pre s A post) (fun v H1 => M39 65 ls (v.toList ++ []) H1 Q) := w_virt (as := [.int a0]) (rest := []) (a := (b + 1)) (show decode kb39 62 = .ok (.invokevirtual 67, 3) from by decide +kernel) cr39_67 put_o rfl rfl (Nat.le_of_ble_eq_true rfl) (by show 2 ≤ 2; omega) rfl
theorem m39_65 : M39 65 [l0, .val (.ref r), l2] st H Q = M39 66 [l0, .val (.ref r), l2] (.ref r :: st) H Q := w_x (show decode kb39 65 = .ok (.aload_n 1, 1) from by decide +kernel) rfl
theorem m39_66 : M39 66 [l0, l1, .val (.int v)] st H Q = M39 67 [l0, l1, .val (.int v)] (.int v :: st) H Q := w_x (show decode kb39 66 = .ok (.iload_n 2, 1) from by decide +kernel) rfl
theorem m39_67 (a0 : Int32) (u0 : Int32) : M39 67 ls [.int a0, .ref (b + 1), .int u0] (put (b + 1) pre s A post) Q = M31 0 [.val (.ref (b + 1)), .val (.int a0)] [] (put (b + 1) pre s A post) (fun v H1 => M39 70 ls (v.toList ++ [.int u0]) H1 Q) := w_virt (as := [.int a0]) (rest := [.int u0]) (a := (b + 1)) (show decode kb39 67 = .ok (.invokevirtual 67, 3) from by decide +kernel) cr39_67 put_o rfl rfl (Nat.le_of_ble_eq_true rfl) (by show 2 ≤ 2; omega) rfl
theorem m39_70 : M39 70 ls (.int y :: .int x :: st) H Q = if x = y then M39 75 ls st H Q else M39 73 ls st H Q := w_icmp (show decode kb39 70 = .ok (.if_icmp .eq 5, 3) from by decide +kernel) (i_eq x y) rfl
theorem m39_73 : M39 73 ls st H Q = M39 74 ls (.int 0 :: st) H Q := w_con (show decode kb39 73 = .ok (.iconst 0, 1) from by decide +kernel) rfl (by decide)
theorem m39_74 : M39 74 ls (.int z :: st) H Q = Q (some (.int (nar .boolean z))) H := w_iretN (show decode kb39 74 = .ok (.ireturn, 1) from by decide +kernel) rfl (by simp)
theorem m39_75 : M39 75 [l0, l1, .val (.int v)] st H Q = M39 78 [l0, l1, .val (.int (v + 1))] st H Q := w_iinc (show decode kb39 75 = .ok (.iinc 2 1, 3) from by decide +kernel) rfl (by decide) rfl
theorem m39_78 : M39 78 ls st H Q = M39 26 ls st H Q := w_x (show decode kb39 78 = .ok (.goto (-52), 3) from by decide +kernel) rfl
theorem m39_81 : M39 81 ls st H Q = M39 82 ls (.int 0 :: st) H Q := w_con (show decode kb39 81 = .ok (.iconst 0, 1) from by decide +kernel) rfl (by decide)
theorem m39_82i : M39 82 [l0, l1, .val (.int z)] ((.int v) :: st) H Q = M39 83 [l0, l1, .val (.int v)] st H Q := w_st (i := 2) (p := isI) (show decode kb39 82 = .ok (.istore_n 2, 1) from by decide +kernel) rfl rfl rfl rfl rfl rfl
theorem m39_83 : M39 83 [l0, l1, .val (.int v)] st H Q = M39 84 [l0, l1, .val (.int v)] (.int v :: st) H Q := w_x (show decode kb39 83 = .ok (.iload_n 2, 1) from by decide +kernel) rfl
theorem m39_84 : M39 84 ls st H Q = M39 85 ls (.int 4 :: st) H Q := w_con (show decode kb39 84 = .ok (.iconst 4, 1) from by decide +kernel) rfl (by decide)
theorem m39_85 : M39 85 ls (.int y :: .int x :: st) H Q = if x < y then M39 88 ls st H Q else M39 109 ls st H Q := w_icmpN (show decode kb39 85 = .ok (.if_icmp .ge 24, 3) from by decide +kernel) (i_ge x y) rfl
theorem m39_88 : M39 88 [.val (.ref r), l1, l2] st H Q = M39 89 [.val (.ref r), l1, l2] (.ref r :: st) H Q := w_x (show decode kb39 88 = .ok (.aload_n 0, 1) from by decide +kernel) rfl
theorem m39_89 : M39 89 [l0, l1, .val (.int v)] st H Q = M39 90 [l0, l1, .val (.int v)] (.int v :: st) H Q := w_x (show decode kb39 89 = .ok (.iload_n 2, 1) from by decide +kernel) rfl
theorem cr39_70 : vR tables_1 dn y39 70 = some (false, y32, prog_1_method_38_code, 3, (some .int), 1, 13) := vR_of (cR_of (by decide +kernel) rc_32 dn_32 dn_39 (sig := ⟨[.int], some .int⟩) (by decide +kernel) (by decide +kernel) rfl rfl) (by decide +kernel) (by decide +kernel) (by decide +kernel)
theorem m39_90 (a0 : Int32) : M39 90 ls [.int a0, .ref (b + 1)] (put (b + 1) pre s A post) Q = M32 0 [.val (.ref (b + 1)), .val (.int a0), .unset] [] (put (b + 1) pre s A post) (fun v H1 => M39 93 ls (v.toList ++ []) H1 Q) := w_virt (as := [.int a0]) (rest := []) (a := (b + 1)) (show decode kb39 90 = .ok (.invokevirtual 70, 3) from by decide +kernel) cr39_70 put_o rfl rfl (Nat.le_of_ble_eq_true rfl) (by show 2 ≤ 3; omega) rfl
theorem m39_93 : M39 93 [l0, .val (.ref r), l2] st H Q = M39 94 [l0, .val (.ref r), l2] (.ref r :: st) H Q := w_x (show decode kb39 93 = .ok (.aload_n 1, 1) from by decide +kernel) rfl
theorem m39_94 : M39 94 [l0, l1, .val (.int v)] st H Q = M39 95 [l0, l1, .val (.int v)] (.int v :: st) H Q := w_x (show decode kb39 94 = .ok (.iload_n 2, 1) from by decide +kernel) rfl
theorem m39_95 (a0 : Int32) (u0 : Int32) : M39 95 ls [.int a0, .ref (b + 1), .int u0] (put (b + 1) pre s A post) Q = M32 0 [.val (.ref (b + 1)), .val (.int a0), .unset] [] (put (b + 1) pre s A post) (fun v H1 => M39 98 ls (v.toList ++ [.int u0]) H1 Q) := w_virt (as := [.int a0]) (rest := [.int u0]) (a := (b + 1)) (show decode kb39 95 = .ok (.invokevirtual 70, 3) from by decide +kernel) cr39_70 put_o rfl rfl (Nat.le_of_ble_eq_true rfl) (by show 2 ≤ 3; omega) rfl
theorem m39_98 : M39 98 ls (.int y :: .int x :: st) H Q = if x = y then M39 103 ls st H Q else M39 101 ls st H Q := w_icmp (show decode kb39 98 = .ok (.if_icmp .eq 5, 3) from by decide +kernel) (i_eq x y) rfl
theorem m39_101 : M39 101 ls st H Q = M39 102 ls (.int 0 :: st) H Q := w_con (show decode kb39 101 = .ok (.iconst 0, 1) from by decide +kernel) rfl (by decide)
theorem m39_102 : M39 102 ls (.int z :: st) H Q = Q (some (.int (nar .boolean z))) H := w_iretN (show decode kb39 102 = .ok (.ireturn, 1) from by decide +kernel) rfl (by simp)
theorem m39_103 : M39 103 [l0, l1, .val (.int v)] st H Q = M39 106 [l0, l1, .val (.int (v + 1))] st H Q := w_iinc (show decode kb39 103 = .ok (.iinc 2 1, 3) from by decide +kernel) rfl (by decide) rfl
theorem m39_106 : M39 106 ls st H Q = M39 83 ls st H Q := w_x (show decode kb39 106 = .ok (.goto (-23), 3) from by decide +kernel) rfl
theorem m39_109 : M39 109 ls st H Q = M39 110 ls (.int 1 :: st) H Q := w_con (show decode kb39 109 = .ok (.iconst 1, 1) from by decide +kernel) rfl (by decide)
theorem m39_110 : M39 110 ls (.int z :: st) H Q = Q (some (.int (nar .boolean z))) H := w_iretN (show decode kb39 110 = .ok (.ireturn, 1) from by decide +kernel) rfl (by simp)
theorem m40_0 : M40 0 ls st H Q = M40 3 ls (.ref H.length :: st) (H ++ [(.object "ResponseTimeGate", D0)]) Q := (w_new (C := "ResponseTimeGate") at_0 (by rw [hNew, show rCls tables_1 y40.cls 7 = some "ResponseTimeGate" from by decide +kernel]; dsimp only; rw [if_pos (by decide +kernel)])).trans (by rw [lay0]; rfl)
theorem m40_3 : M40 3 ls ((.ref r) :: st) H Q = M40 4 ls ((.ref r) :: (.ref r) :: st) H Q := w_x at_3 rfl
theorem m40_4 : M40 4 ls st H Q = M40 5 ls (.int 4 :: st) H Q := w_con at_4 rfl (by decide)
theorem cr40_9 : nR tables_1 dn y40 9 = some (y0, prog_1_method_1_code, 4, none, 1, 42) := nR_of (cR_of (by decide +kernel) rc_0 dn_0 dn_40 (sig := ⟨[.int], none⟩) (by decide +kernel) (by decide +kernel) rfl rfl) rfl (by decide +kernel) rfl
theorem cr40_9_o : oR tables_1 dn y40 9 = none := by decide +kernel
theorem m40_5 (a0 : Int32) (u0 : Nat) : M40 5 ls [.int a0, .ref r, .ref u0] H Q = M0 0 [.val (.ref r), .val (.int a0), .unset, .unset] [] H (fun v H1 => M40 8 ls (v.toList ++ [.ref u0]) H1 Q) := w_spec (as := [.int a0]) (rest := [.ref u0]) (a := r) at_5 cr40_9_o cr40_9 rfl (Nat.le_of_ble_eq_true rfl) (by show 2 ≤ 4; omega) rfl
theorem m40_8u : M40 8 [l0, .unset, l2, l3, l4, l5, l6, l7] ((.ref r) :: st) H Q = M40 9 [l0, .val (.ref r), l2, l3, l4, l5, l6, l7] st H Q := w_st (i := 1) (p := Value.isRef) at_8 rfl rfl rfl rfl rfl rfl
theorem m40_9 : M40 9 ls st H Q = M40 12 ls (.ref H.length :: st) (H ++ [(.object "ResponseTimeGate", D0)]) Q := (w_new (C := "ResponseTimeGate") at_9 (by rw [hNew, show rCls tables_1 y40.cls 7 = some "ResponseTimeGate" from by decide +kernel]; dsimp only; rw [if_pos (by decide +kernel)])).trans (by rw [lay0]; rfl)
theorem m40_12 : M40 12 ls ((.ref r) :: st) H Q = M40 13 ls ((.ref r) :: (.ref r) :: st) H Q := w_x at_12 rfl
theorem m40_13 : M40 13 ls st H Q = M40 14 ls (.int 4 :: st) H Q := w_con at_13 rfl (by decide)
theorem m40_14 (a0 : Int32) (u0 : Nat) : M40 14 ls [.int a0, .ref r, .ref u0] H Q = M0 0 [.val (.ref r), .val (.int a0), .unset, .unset] [] H (fun v H1 => M40 17 ls (v.toList ++ [.ref u0]) H1 Q) := w_spec (as := [.int a0]) (rest := [.ref u0]) (a := r) at_14 cr40_9_o cr40_9 rfl (Nat.le_of_ble_eq_true rfl) (by show 2 ≤ 4; omega) rfl
theorem m40_17u : M40 17 [l0, l1, .unset, l3, l4, l5, l6, l7] ((.ref r) :: st) H Q = M40 18 [l0, l1, .val (.ref r), l3, l4, l5, l6, l7] st H Q := w_st (i := 2) (p := Value.isRef) at_17 rfl rfl rfl rfl rfl rfl
theorem m40_18 : M40 18 ls st H Q = M40 19 ls (.int 0 :: st) H Q := w_con at_18 rfl (by decide)
theorem m40_19u : M40 19 [l0, l1, l2, .unset, l4, l5, l6, l7] ((.int v) :: st) H Q = M40 20 [l0, l1, l2, .val (.int v), l4, l5, l6, l7] st H Q := w_st (i := 3) (p := isI) at_19 rfl rfl rfl rfl rfl rfl
theorem m40_20 : M40 20 [l0, l1, l2, .val (.int v), l4, l5, l6, l7] st H Q = M40 21 [l0, l1, l2, .val (.int v), l4, l5, l6, l7] (.int v :: st) H Q := w_x at_20 rfl
theorem m40_21 : M40 21 ls st H Q = M40 22 ls (.int 5 :: st) H Q := w_con at_21 rfl (by decide)
theorem m40_22 : M40 22 ls (.int y :: .int x :: st) H Q = M40 23 ls (.int (x + y) :: st) H Q := w_x at_22 rfl
theorem m40_23 : M40 23 [.val (.ref r), l1, l2, l3, l4, l5, l6, l7] st H Q = M40 24 [.val (.ref r), l1, l2, l3, l4, l5, l6, l7] (.ref r :: st) H Q := w_x at_23 rfl
theorem m40_24 : M40 24 ls (.ref 0 :: st) ((.array .int, sc.map Value.int) :: R) Q = M40 25 ls (.int sc.length.toInt32 :: st) ((.array .int, sc.map Value.int) :: R) Q := by exact (w_len at_24 rfl).trans (by rw [List.length_map]; rfl)
theorem m40_24p : M40 24 ls (.ref 0 :: st) (put (b + 1) ((.array .int, sc.map Value.int) :: pre) s A post) Q = M40 25 ls (.int sc.length.toInt32 :: st) (put (b + 1) ((.array .int, sc.map Value.int) :: pre) s A post) Q := by exact (w_len at_24 rfl).trans (by rw [List.length_map]; rfl)
theorem m40_25 : M40 25 ls (.int y :: .int x :: st) H Q = if y < x then M40 236 ls st H Q else M40 28 ls st H Q := w_icmp at_25 (i_gt x y) rfl
theorem m40_28 : M40 28 [.val (.ref r), l1, l2, l3, l4, l5, l6, l7] st H Q = M40 29 [.val (.ref r), l1, l2, l3, l4, l5, l6, l7] (.ref r :: st) H Q := w_x at_28 rfl
theorem m40_29 : M40 29 [l0, l1, l2, .val (.int v), l4, l5, l6, l7] st H Q = M40 30 [l0, l1, l2, .val (.int v), l4, l5, l6, l7] (.int v :: st) H Q := w_x at_29 rfl
theorem m40_30 : M40 30 ls (.int j :: .ref 0 :: st) ((.array .int, sc.map Value.int) :: R) Q = (inB j sc ∧ M40 31 ls (.int (getA sc j) :: st) ((.array .int, sc.map Value.int) :: R) Q) := w_ild at_30 rfl rfl
theorem m40_30p : M40 30 ls (.int j :: .ref 0 :: st) (put (b + 1) ((.array .int, sc.map Value.int) :: pre) s A post) Q = (inB j sc ∧ M40 31 ls (.int (getA sc j) :: st) (put (b + 1) ((.array .int, sc.map Value.int) :: pre) s A post) Q) := w_ild at_30 rfl rfl
theorem m40_31 : M40 31 ls st H Q = M40 32 ls (.int 3 :: st) H Q := w_con at_31 rfl (by decide)
theorem m40_32 : M40 32 ls (.int y :: .int x :: st) H Q = M40 33 ls (.int (x &&& y) :: st) H Q := w_x at_32 rfl
theorem m40_33u : M40 33 [l0, l1, l2, l3, .unset, l5, l6, l7] ((.int v) :: st) H Q = M40 35 [l0, l1, l2, l3, .val (.int v), l5, l6, l7] st H Q := w_st (i := 4) (p := isI) at_33 rfl rfl rfl rfl rfl rfl
theorem m40_33i : M40 33 [l0, l1, l2, l3, .val (.int z), l5, l6, l7] ((.int v) :: st) H Q = M40 35 [l0, l1, l2, l3, .val (.int v), l5, l6, l7] st H Q := w_st (i := 4) (p := isI) at_33 rfl rfl rfl rfl rfl rfl
theorem m40_33r : M40 33 [l0, l1, l2, l3, .val (.ref q), l5, l6, l7] ((.int v) :: st) H Q = M40 35 [l0, l1, l2, l3, .val (.int v), l5, l6, l7] st H Q := w_st (i := 4) (p := isI) at_33 rfl rfl rfl rfl rfl rfl
theorem m40_33g (h : okS l4) : M40 33 [l0, l1, l2, l3, l4, l5, l6, l7] ((.int v) :: st) H Q = M40 35 [l0, l1, l2, l3, .val (.int v), l5, l6, l7] st H Q := by rcases h with rfl | ⟨z, rfl⟩ <;> first | exact m40_33u | exact m40_33i
theorem m40_35 : M40 35 ls st H Q = M40 36 ls (.int 0 :: st) H Q := w_con at_35 rfl (by decide)
theorem m40_36u : M40 36 [l0, l1, l2, l3, l4, .unset, l6, l7] ((.int v) :: st) H Q = M40 38 [l0, l1, l2, l3, l4, .val (.int v), l6, l7] st H Q := w_st (i := 5) (p := isI) at_36 rfl rfl rfl rfl rfl rfl
theorem m40_36i : M40 36 [l0, l1, l2, l3, l4, .val (.int z), l6, l7] ((.int v) :: st) H Q = M40 38 [l0, l1, l2, l3, l4, .val (.int v), l6, l7] st H Q := w_st (i := 5) (p := isI) at_36 rfl rfl rfl rfl rfl rfl
theorem m40_36r : M40 36 [l0, l1, l2, l3, l4, .val (.ref q), l6, l7] ((.int v) :: st) H Q = M40 38 [l0, l1, l2, l3, l4, .val (.int v), l6, l7] st H Q := w_st (i := 5) (p := isI) at_36 rfl rfl rfl rfl rfl rfl
theorem m40_36g (h : okS l5) : M40 36 [l0, l1, l2, l3, l4, l5, l6, l7] ((.int v) :: st) H Q = M40 38 [l0, l1, l2, l3, l4, .val (.int v), l6, l7] st H Q := by rcases h with rfl | ⟨z, rfl⟩ <;> first | exact m40_36u | exact m40_36i
theorem m40_38 : M40 38 ls st H Q = M40 39 ls (.int 0 :: st) H Q := w_con at_38 rfl (by decide)
theorem m40_39u : M40 39 [l0, l1, l2, l3, l4, l5, .unset, l7] ((.int v) :: st) H Q = M40 41 [l0, l1, l2, l3, l4, l5, .val (.int v), l7] st H Q := w_st (i := 6) (p := isI) at_39 rfl rfl rfl rfl rfl rfl
theorem m40_39i : M40 39 [l0, l1, l2, l3, l4, l5, .val (.int z), l7] ((.int v) :: st) H Q = M40 41 [l0, l1, l2, l3, l4, l5, .val (.int v), l7] st H Q := w_st (i := 6) (p := isI) at_39 rfl rfl rfl rfl rfl rfl
theorem m40_39r : M40 39 [l0, l1, l2, l3, l4, l5, .val (.ref q), l7] ((.int v) :: st) H Q = M40 41 [l0, l1, l2, l3, l4, l5, .val (.int v), l7] st H Q := w_st (i := 6) (p := isI) at_39 rfl rfl rfl rfl rfl rfl
theorem m40_39g (h : okS l6) : M40 39 [l0, l1, l2, l3, l4, l5, l6, l7] ((.int v) :: st) H Q = M40 41 [l0, l1, l2, l3, l4, l5, .val (.int v), l7] st H Q := by rcases h with rfl | ⟨z, rfl⟩ <;> first | exact m40_39u | exact m40_39i
theorem m40_41 : M40 41 ls st H Q = M40 42 ls (.int 0 :: st) H Q := w_con at_41 rfl (by decide)
theorem m40_42u : M40 42 [l0, l1, l2, l3, l4, l5, l6, .unset] ((.int v) :: st) H Q = M40 44 [l0, l1, l2, l3, l4, l5, l6, .val (.int v)] st H Q := w_st (i := 7) (p := isI) at_42 rfl rfl rfl rfl rfl rfl
theorem m40_42i : M40 42 [l0, l1, l2, l3, l4, l5, l6, .val (.int z)] ((.int v) :: st) H Q = M40 44 [l0, l1, l2, l3, l4, l5, l6, .val (.int v)] st H Q := w_st (i := 7) (p := isI) at_42 rfl rfl rfl rfl rfl rfl
theorem m40_42r : M40 42 [l0, l1, l2, l3, l4, l5, l6, .val (.ref q)] ((.int v) :: st) H Q = M40 44 [l0, l1, l2, l3, l4, l5, l6, .val (.int v)] st H Q := w_st (i := 7) (p := isI) at_42 rfl rfl rfl rfl rfl rfl
theorem m40_42g (h : okS l7) : M40 42 [l0, l1, l2, l3, l4, l5, l6, l7] ((.int v) :: st) H Q = M40 44 [l0, l1, l2, l3, l4, l5, l6, .val (.int v)] st H Q := by rcases h with rfl | ⟨z, rfl⟩ <;> first | exact m40_42u | exact m40_42i
theorem m40_44 : M40 44 [l0, l1, l2, l3, .val (.int v), l5, l6, l7] st H Q = M40 46 [l0, l1, l2, l3, .val (.int v), l5, l6, l7] (.int v :: st) H Q := w_x at_44 rfl
theorem m40_46 : M40 46 ls (.int x :: st) H Q = if x = 0 then M40 49 ls st H Q else M40 104 ls st H Q := w_ifN at_46 (z_ne x) rfl
theorem m40_49 : M40 49 [l0, .val (.ref r), l2, l3, l4, l5, l6, l7] st H Q = M40 50 [l0, .val (.ref r), l2, l3, l4, l5, l6, l7] (.ref r :: st) H Q := w_x at_49 rfl
theorem m40_50 : M40 50 [.val (.ref r), l1, l2, l3, l4, l5, l6, l7] st H Q = M40 51 [.val (.ref r), l1, l2, l3, l4, l5, l6, l7] (.ref r :: st) H Q := w_x at_50 rfl
theorem m40_51 : M40 51 [l0, l1, l2, .val (.int v), l4, l5, l6, l7] st H Q = M40 52 [l0, l1, l2, .val (.int v), l4, l5, l6, l7] (.int v :: st) H Q := w_x at_51 rfl
theorem m40_52 : M40 52 ls st H Q = M40 53 ls (.int 1 :: st) H Q := w_con at_52 rfl (by decide)
theorem m40_53 : M40 53 ls (.int y :: .int x :: st) H Q = M40 54 ls (.int (x + y) :: st) H Q := w_x at_53 rfl
theorem m40_54 : M40 54 ls (.int j :: .ref 0 :: st) ((.array .int, sc.map Value.int) :: R) Q = (inB j sc ∧ M40 55 ls (.int (getA sc j) :: st) ((.array .int, sc.map Value.int) :: R) Q) := w_ild at_54 rfl rfl
theorem m40_54p : M40 54 ls (.int j :: .ref 0 :: st) (put (b + 1) ((.array .int, sc.map Value.int) :: pre) s A post) Q = (inB j sc ∧ M40 55 ls (.int (getA sc j) :: st) (put (b + 1) ((.array .int, sc.map Value.int) :: pre) s A post) Q) := w_ild at_54 rfl rfl
theorem m40_55 : M40 55 [.val (.ref r), l1, l2, l3, l4, l5, l6, l7] st H Q = M40 56 [.val (.ref r), l1, l2, l3, l4, l5, l6, l7] (.ref r :: st) H Q := w_x at_55 rfl
theorem m40_56 : M40 56 [l0, l1, l2, .val (.int v), l4, l5, l6, l7] st H Q = M40 57 [l0, l1, l2, .val (.int v), l4, l5, l6, l7] (.int v :: st) H Q := w_x at_56 rfl
theorem m40_57 : M40 57 ls st H Q = M40 58 ls (.int 2 :: st) H Q := w_con at_57 rfl (by decide)
theorem m40_58 : M40 58 ls (.int y :: .int x :: st) H Q = M40 59 ls (.int (x + y) :: st) H Q := w_x at_58 rfl
theorem m40_59 : M40 59 ls (.int j :: .ref 0 :: st) ((.array .int, sc.map Value.int) :: R) Q = (inB j sc ∧ M40 60 ls (.int (getA sc j) :: st) ((.array .int, sc.map Value.int) :: R) Q) := w_ild at_59 rfl rfl
theorem m40_59p : M40 59 ls (.int j :: .ref 0 :: st) (put (b + 1) ((.array .int, sc.map Value.int) :: pre) s A post) Q = (inB j sc ∧ M40 60 ls (.int (getA sc j) :: st) (put (b + 1) ((.array .int, sc.map Value.int) :: pre) s A post) Q) := w_ild at_59 rfl rfl
theorem m40_60 : M40 60 [.val (.ref r), l1, l2, l3, l4, l5, l6, l7] st H Q = M40 61 [.val (.ref r), l1, l2, l3, l4, l5, l6, l7] (.ref r :: st) H Q := w_x at_60 rfl
theorem m40_61 : M40 61 [l0, l1, l2, .val (.int v), l4, l5, l6, l7] st H Q = M40 62 [l0, l1, l2, .val (.int v), l4, l5, l6, l7] (.int v :: st) H Q := w_x at_61 rfl
theorem m40_62 : M40 62 ls st H Q = M40 63 ls (.int 3 :: st) H Q := w_con at_62 rfl (by decide)
theorem m40_63 : M40 63 ls (.int y :: .int x :: st) H Q = M40 64 ls (.int (x + y) :: st) H Q := w_x at_63 rfl
theorem m40_64 : M40 64 ls (.int j :: .ref 0 :: st) ((.array .int, sc.map Value.int) :: R) Q = (inB j sc ∧ M40 65 ls (.int (getA sc j) :: st) ((.array .int, sc.map Value.int) :: R) Q) := w_ild at_64 rfl rfl
theorem m40_64p : M40 64 ls (.int j :: .ref 0 :: st) (put (b + 1) ((.array .int, sc.map Value.int) :: pre) s A post) Q = (inB j sc ∧ M40 65 ls (.int (getA sc j) :: st) (put (b + 1) ((.array .int, sc.map Value.int) :: pre) s A post) Q) := w_ild at_64 rfl rfl
theorem m40_65 : M40 65 [.val (.ref r), l1, l2, l3, l4, l5, l6, l7] st H Q = M40 66 [.val (.ref r), l1, l2, l3, l4, l5, l6, l7] (.ref r :: st) H Q := w_x at_65 rfl
theorem m40_66 : M40 66 [l0, l1, l2, .val (.int v), l4, l5, l6, l7] st H Q = M40 67 [l0, l1, l2, .val (.int v), l4, l5, l6, l7] (.int v :: st) H Q := w_x at_66 rfl
theorem m40_67 : M40 67 ls st H Q = M40 68 ls (.int 4 :: st) H Q := w_con at_67 rfl (by decide)
theorem m40_68 : M40 68 ls (.int y :: .int x :: st) H Q = M40 69 ls (.int (x + y) :: st) H Q := w_x at_68 rfl
theorem m40_69 : M40 69 ls (.int j :: .ref 0 :: st) ((.array .int, sc.map Value.int) :: R) Q = (inB j sc ∧ M40 70 ls (.int (getA sc j) :: st) ((.array .int, sc.map Value.int) :: R) Q) := w_ild at_69 rfl rfl
theorem m40_69p : M40 69 ls (.int j :: .ref 0 :: st) (put (b + 1) ((.array .int, sc.map Value.int) :: pre) s A post) Q = (inB j sc ∧ M40 70 ls (.int (getA sc j) :: st) (put (b + 1) ((.array .int, sc.map Value.int) :: pre) s A post) Q) := w_ild at_69 rfl rfl
theorem cr40_12 : vR tables_1 dn y40 12 = some (false, y14, prog_1_method_2_code, 6, (some .int), 4, 39) := vR_of (cR_of (by decide +kernel) rc_14 dn_14 dn_40 (sig := ⟨[.int, .int, .int, .int], some .int⟩) (by decide +kernel) (by decide +kernel) rfl rfl) (by decide +kernel) (by decide +kernel) (by decide +kernel)
theorem m40_70 (a0 : Int32) (a1 : Int32) (a2 : Int32) (a3 : Int32) : M40 70 ls [.int a3, .int a2, .int a1, .int a0, .ref (b + 1)] (put (b + 1) pre s A post) Q = M14 0 [.val (.ref (b + 1)), .val (.int a0), .val (.int a1), .val (.int a2), .val (.int a3), .unset] [] (put (b + 1) pre s A post) (fun v H1 => M40 73 ls (v.toList ++ []) H1 Q) := w_virt (as := [.int a3, .int a2, .int a1, .int a0]) (rest := []) (a := (b + 1)) at_70 cr40_12 put_o rfl rfl (Nat.le_of_ble_eq_true rfl) (by show 5 ≤ 6; omega) rfl
theorem m40_73i : M40 73 [l0, l1, l2, l3, l4, .val (.int z), l6, l7] ((.int v) :: st) H Q = M40 75 [l0, l1, l2, l3, l4, .val (.int v), l6, l7] st H Q := w_st (i := 5) (p := isI) at_73 rfl rfl rfl rfl rfl rfl
theorem m40_75 : M40 75 [l0, l1, .val (.ref r), l3, l4, l5, l6, l7] st H Q = M40 76 [l0, l1, .val (.ref r), l3, l4, l5, l6, l7] (.ref r :: st) H Q := w_x at_75 rfl
theorem m40_76 : M40 76 [.val (.ref r), l1, l2, l3, l4, l5, l6, l7] st H Q = M40 77 [.val (.ref r), l1, l2, l3, l4, l5, l6, l7] (.ref r :: st) H Q := w_x at_76 rfl
theorem m40_77 : M40 77 [l0, l1, l2, .val (.int v), l4, l5, l6, l7] st H Q = M40 78 [l0, l1, l2, .val (.int v), l4, l5, l6, l7] (.int v :: st) H Q := w_x at_77 rfl
theorem m40_78 : M40 78 ls st H Q = M40 79 ls (.int 1 :: st) H Q := w_con at_78 rfl (by decide)
theorem m40_79 : M40 79 ls (.int y :: .int x :: st) H Q = M40 80 ls (.int (x + y) :: st) H Q := w_x at_79 rfl
theorem m40_80 : M40 80 ls (.int j :: .ref 0 :: st) ((.array .int, sc.map Value.int) :: R) Q = (inB j sc ∧ M40 81 ls (.int (getA sc j) :: st) ((.array .int, sc.map Value.int) :: R) Q) := w_ild at_80 rfl rfl
theorem m40_80p : M40 80 ls (.int j :: .ref 0 :: st) (put (b + 1) ((.array .int, sc.map Value.int) :: pre) s A post) Q = (inB j sc ∧ M40 81 ls (.int (getA sc j) :: st) (put (b + 1) ((.array .int, sc.map Value.int) :: pre) s A post) Q) := w_ild at_80 rfl rfl
theorem m40_81 : M40 81 [.val (.ref r), l1, l2, l3, l4, l5, l6, l7] st H Q = M40 82 [.val (.ref r), l1, l2, l3, l4, l5, l6, l7] (.ref r :: st) H Q := w_x at_81 rfl
theorem m40_82 : M40 82 [l0, l1, l2, .val (.int v), l4, l5, l6, l7] st H Q = M40 83 [l0, l1, l2, .val (.int v), l4, l5, l6, l7] (.int v :: st) H Q := w_x at_82 rfl
theorem m40_83 : M40 83 ls st H Q = M40 84 ls (.int 2 :: st) H Q := w_con at_83 rfl (by decide)
theorem m40_84 : M40 84 ls (.int y :: .int x :: st) H Q = M40 85 ls (.int (x + y) :: st) H Q := w_x at_84 rfl
theorem m40_85 : M40 85 ls (.int j :: .ref 0 :: st) ((.array .int, sc.map Value.int) :: R) Q = (inB j sc ∧ M40 86 ls (.int (getA sc j) :: st) ((.array .int, sc.map Value.int) :: R) Q) := w_ild at_85 rfl rfl
theorem m40_85p : M40 85 ls (.int j :: .ref 0 :: st) (put (b + 1) ((.array .int, sc.map Value.int) :: pre) s A post) Q = (inB j sc ∧ M40 86 ls (.int (getA sc j) :: st) (put (b + 1) ((.array .int, sc.map Value.int) :: pre) s A post) Q) := w_ild at_85 rfl rfl
theorem m40_86 : M40 86 [.val (.ref r), l1, l2, l3, l4, l5, l6, l7] st H Q = M40 87 [.val (.ref r), l1, l2, l3, l4, l5, l6, l7] (.ref r :: st) H Q := w_x at_86 rfl
theorem m40_87 : M40 87 [l0, l1, l2, .val (.int v), l4, l5, l6, l7] st H Q = M40 88 [l0, l1, l2, .val (.int v), l4, l5, l6, l7] (.int v :: st) H Q := w_x at_87 rfl
theorem m40_88 : M40 88 ls st H Q = M40 89 ls (.int 3 :: st) H Q := w_con at_88 rfl (by decide)
theorem m40_89 : M40 89 ls (.int y :: .int x :: st) H Q = M40 90 ls (.int (x + y) :: st) H Q := w_x at_89 rfl
theorem m40_90 : M40 90 ls (.int j :: .ref 0 :: st) ((.array .int, sc.map Value.int) :: R) Q = (inB j sc ∧ M40 91 ls (.int (getA sc j) :: st) ((.array .int, sc.map Value.int) :: R) Q) := w_ild at_90 rfl rfl
theorem m40_90p : M40 90 ls (.int j :: .ref 0 :: st) (put (b + 1) ((.array .int, sc.map Value.int) :: pre) s A post) Q = (inB j sc ∧ M40 91 ls (.int (getA sc j) :: st) (put (b + 1) ((.array .int, sc.map Value.int) :: pre) s A post) Q) := w_ild at_90 rfl rfl
theorem m40_91 : M40 91 [.val (.ref r), l1, l2, l3, l4, l5, l6, l7] st H Q = M40 92 [.val (.ref r), l1, l2, l3, l4, l5, l6, l7] (.ref r :: st) H Q := w_x at_91 rfl
theorem m40_92 : M40 92 [l0, l1, l2, .val (.int v), l4, l5, l6, l7] st H Q = M40 93 [l0, l1, l2, .val (.int v), l4, l5, l6, l7] (.int v :: st) H Q := w_x at_92 rfl
theorem m40_93 : M40 93 ls st H Q = M40 94 ls (.int 4 :: st) H Q := w_con at_93 rfl (by decide)
theorem m40_94 : M40 94 ls (.int y :: .int x :: st) H Q = M40 95 ls (.int (x + y) :: st) H Q := w_x at_94 rfl
theorem m40_95 : M40 95 ls (.int j :: .ref 0 :: st) ((.array .int, sc.map Value.int) :: R) Q = (inB j sc ∧ M40 96 ls (.int (getA sc j) :: st) ((.array .int, sc.map Value.int) :: R) Q) := w_ild at_95 rfl rfl
theorem m40_95p : M40 95 ls (.int j :: .ref 0 :: st) (put (b + 1) ((.array .int, sc.map Value.int) :: pre) s A post) Q = (inB j sc ∧ M40 96 ls (.int (getA sc j) :: st) (put (b + 1) ((.array .int, sc.map Value.int) :: pre) s A post) Q) := w_ild at_95 rfl rfl
theorem m40_96 (a0 : Int32) (a1 : Int32) (a2 : Int32) (a3 : Int32) : M40 96 ls [.int a3, .int a2, .int a1, .int a0, .ref (b + 1)] (put (b + 1) pre s A post) Q = M14 0 [.val (.ref (b + 1)), .val (.int a0), .val (.int a1), .val (.int a2), .val (.int a3), .unset] [] (put (b + 1) pre s A post) (fun v H1 => M40 99 ls (v.toList ++ []) H1 Q) := w_virt (as := [.int a3, .int a2, .int a1, .int a0]) (rest := []) (a := (b + 1)) at_96 cr40_12 put_o rfl rfl (Nat.le_of_ble_eq_true rfl) (by show 5 ≤ 6; omega) rfl
theorem m40_99i : M40 99 [l0, l1, l2, l3, l4, l5, .val (.int z), l7] ((.int v) :: st) H Q = M40 101 [l0, l1, l2, l3, l4, l5, .val (.int v), l7] st H Q := w_st (i := 6) (p := isI) at_99 rfl rfl rfl rfl rfl rfl
theorem m40_101 : M40 101 ls st H Q = M40 198 ls st H Q := w_x at_101 rfl
theorem m40_104 : M40 104 [l0, l1, l2, l3, .val (.int v), l5, l6, l7] st H Q = M40 106 [l0, l1, l2, l3, .val (.int v), l5, l6, l7] (.int v :: st) H Q := w_x at_104 rfl
theorem m40_106 : M40 106 ls st H Q = M40 107 ls (.int 1 :: st) H Q := w_con at_106 rfl (by decide)
theorem m40_107 : M40 107 ls (.int y :: .int x :: st) H Q = if x = y then M40 110 ls st H Q else M40 155 ls st H Q := w_icmpN at_107 (i_ne x y) rfl
theorem m40_110 : M40 110 [l0, .val (.ref r), l2, l3, l4, l5, l6, l7] st H Q = M40 111 [l0, .val (.ref r), l2, l3, l4, l5, l6, l7] (.ref r :: st) H Q := w_x at_110 rfl
theorem m40_111 : M40 111 [.val (.ref r), l1, l2, l3, l4, l5, l6, l7] st H Q = M40 112 [.val (.ref r), l1, l2, l3, l4, l5, l6, l7] (.ref r :: st) H Q := w_x at_111 rfl
theorem m40_112 : M40 112 [l0, l1, l2, .val (.int v), l4, l5, l6, l7] st H Q = M40 113 [l0, l1, l2, .val (.int v), l4, l5, l6, l7] (.int v :: st) H Q := w_x at_112 rfl
theorem m40_113 : M40 113 ls st H Q = M40 114 ls (.int 1 :: st) H Q := w_con at_113 rfl (by decide)
theorem m40_114 : M40 114 ls (.int y :: .int x :: st) H Q = M40 115 ls (.int (x + y) :: st) H Q := w_x at_114 rfl
theorem m40_115 : M40 115 ls (.int j :: .ref 0 :: st) ((.array .int, sc.map Value.int) :: R) Q = (inB j sc ∧ M40 116 ls (.int (getA sc j) :: st) ((.array .int, sc.map Value.int) :: R) Q) := w_ild at_115 rfl rfl
theorem m40_115p : M40 115 ls (.int j :: .ref 0 :: st) (put (b + 1) ((.array .int, sc.map Value.int) :: pre) s A post) Q = (inB j sc ∧ M40 116 ls (.int (getA sc j) :: st) (put (b + 1) ((.array .int, sc.map Value.int) :: pre) s A post) Q) := w_ild at_115 rfl rfl
theorem m40_116 : M40 116 [.val (.ref r), l1, l2, l3, l4, l5, l6, l7] st H Q = M40 117 [.val (.ref r), l1, l2, l3, l4, l5, l6, l7] (.ref r :: st) H Q := w_x at_116 rfl
theorem m40_117 : M40 117 [l0, l1, l2, .val (.int v), l4, l5, l6, l7] st H Q = M40 118 [l0, l1, l2, .val (.int v), l4, l5, l6, l7] (.int v :: st) H Q := w_x at_117 rfl
theorem m40_118 : M40 118 ls st H Q = M40 119 ls (.int 2 :: st) H Q := w_con at_118 rfl (by decide)
theorem m40_119 : M40 119 ls (.int y :: .int x :: st) H Q = M40 120 ls (.int (x + y) :: st) H Q := w_x at_119 rfl
theorem m40_120 : M40 120 ls (.int j :: .ref 0 :: st) ((.array .int, sc.map Value.int) :: R) Q = (inB j sc ∧ M40 121 ls (.int (getA sc j) :: st) ((.array .int, sc.map Value.int) :: R) Q) := w_ild at_120 rfl rfl
theorem m40_120p : M40 120 ls (.int j :: .ref 0 :: st) (put (b + 1) ((.array .int, sc.map Value.int) :: pre) s A post) Q = (inB j sc ∧ M40 121 ls (.int (getA sc j) :: st) (put (b + 1) ((.array .int, sc.map Value.int) :: pre) s A post) Q) := w_ild at_120 rfl rfl
theorem m40_121 : M40 121 [.val (.ref r), l1, l2, l3, l4, l5, l6, l7] st H Q = M40 122 [.val (.ref r), l1, l2, l3, l4, l5, l6, l7] (.ref r :: st) H Q := w_x at_121 rfl
theorem m40_122 : M40 122 [l0, l1, l2, .val (.int v), l4, l5, l6, l7] st H Q = M40 123 [l0, l1, l2, .val (.int v), l4, l5, l6, l7] (.int v :: st) H Q := w_x at_122 rfl
theorem m40_123 : M40 123 ls st H Q = M40 124 ls (.int 3 :: st) H Q := w_con at_123 rfl (by decide)
theorem m40_124 : M40 124 ls (.int y :: .int x :: st) H Q = M40 125 ls (.int (x + y) :: st) H Q := w_x at_124 rfl
theorem m40_125 : M40 125 ls (.int j :: .ref 0 :: st) ((.array .int, sc.map Value.int) :: R) Q = (inB j sc ∧ M40 126 ls (.int (getA sc j) :: st) ((.array .int, sc.map Value.int) :: R) Q) := w_ild at_125 rfl rfl
theorem m40_125p : M40 125 ls (.int j :: .ref 0 :: st) (put (b + 1) ((.array .int, sc.map Value.int) :: pre) s A post) Q = (inB j sc ∧ M40 126 ls (.int (getA sc j) :: st) (put (b + 1) ((.array .int, sc.map Value.int) :: pre) s A post) Q) := w_ild at_125 rfl rfl
theorem cr40_16 : vR tables_1 dn y40 16 = some (false, y16, prog_1_method_4_code, 4, (some .int), 3, 38) := vR_of (cR_of (by decide +kernel) rc_16 dn_16 dn_40 (sig := ⟨[.int, .int, .int], some .int⟩) (by decide +kernel) (by decide +kernel) rfl rfl) (by decide +kernel) (by decide +kernel) (by decide +kernel)
theorem m40_126 (a0 : Int32) (a1 : Int32) (a2 : Int32) : M40 126 ls [.int a2, .int a1, .int a0, .ref (b + 1)] (put (b + 1) pre s A post) Q = M16 0 [.val (.ref (b + 1)), .val (.int a0), .val (.int a1), .val (.int a2)] [] (put (b + 1) pre s A post) (fun v H1 => M40 129 ls (v.toList ++ []) H1 Q) := w_virt (as := [.int a2, .int a1, .int a0]) (rest := []) (a := (b + 1)) at_126 cr40_16 put_o rfl rfl (Nat.le_of_ble_eq_true rfl) (by show 4 ≤ 4; omega) rfl
theorem m40_129i : M40 129 [l0, l1, l2, l3, l4, .val (.int z), l6, l7] ((.int v) :: st) H Q = M40 131 [l0, l1, l2, l3, l4, .val (.int v), l6, l7] st H Q := w_st (i := 5) (p := isI) at_129 rfl rfl rfl rfl rfl rfl
theorem m40_131 : M40 131 [l0, l1, .val (.ref r), l3, l4, l5, l6, l7] st H Q = M40 132 [l0, l1, .val (.ref r), l3, l4, l5, l6, l7] (.ref r :: st) H Q := w_x at_131 rfl
theorem m40_132 : M40 132 [.val (.ref r), l1, l2, l3, l4, l5, l6, l7] st H Q = M40 133 [.val (.ref r), l1, l2, l3, l4, l5, l6, l7] (.ref r :: st) H Q := w_x at_132 rfl
theorem m40_133 : M40 133 [l0, l1, l2, .val (.int v), l4, l5, l6, l7] st H Q = M40 134 [l0, l1, l2, .val (.int v), l4, l5, l6, l7] (.int v :: st) H Q := w_x at_133 rfl
theorem m40_134 : M40 134 ls st H Q = M40 135 ls (.int 1 :: st) H Q := w_con at_134 rfl (by decide)
theorem m40_135 : M40 135 ls (.int y :: .int x :: st) H Q = M40 136 ls (.int (x + y) :: st) H Q := w_x at_135 rfl
theorem m40_136 : M40 136 ls (.int j :: .ref 0 :: st) ((.array .int, sc.map Value.int) :: R) Q = (inB j sc ∧ M40 137 ls (.int (getA sc j) :: st) ((.array .int, sc.map Value.int) :: R) Q) := w_ild at_136 rfl rfl
theorem m40_136p : M40 136 ls (.int j :: .ref 0 :: st) (put (b + 1) ((.array .int, sc.map Value.int) :: pre) s A post) Q = (inB j sc ∧ M40 137 ls (.int (getA sc j) :: st) (put (b + 1) ((.array .int, sc.map Value.int) :: pre) s A post) Q) := w_ild at_136 rfl rfl
theorem m40_137 : M40 137 [.val (.ref r), l1, l2, l3, l4, l5, l6, l7] st H Q = M40 138 [.val (.ref r), l1, l2, l3, l4, l5, l6, l7] (.ref r :: st) H Q := w_x at_137 rfl
theorem m40_138 : M40 138 [l0, l1, l2, .val (.int v), l4, l5, l6, l7] st H Q = M40 139 [l0, l1, l2, .val (.int v), l4, l5, l6, l7] (.int v :: st) H Q := w_x at_138 rfl
theorem m40_139 : M40 139 ls st H Q = M40 140 ls (.int 2 :: st) H Q := w_con at_139 rfl (by decide)
theorem m40_140 : M40 140 ls (.int y :: .int x :: st) H Q = M40 141 ls (.int (x + y) :: st) H Q := w_x at_140 rfl
theorem m40_141 : M40 141 ls (.int j :: .ref 0 :: st) ((.array .int, sc.map Value.int) :: R) Q = (inB j sc ∧ M40 142 ls (.int (getA sc j) :: st) ((.array .int, sc.map Value.int) :: R) Q) := w_ild at_141 rfl rfl
theorem m40_141p : M40 141 ls (.int j :: .ref 0 :: st) (put (b + 1) ((.array .int, sc.map Value.int) :: pre) s A post) Q = (inB j sc ∧ M40 142 ls (.int (getA sc j) :: st) (put (b + 1) ((.array .int, sc.map Value.int) :: pre) s A post) Q) := w_ild at_141 rfl rfl
theorem m40_142 : M40 142 [.val (.ref r), l1, l2, l3, l4, l5, l6, l7] st H Q = M40 143 [.val (.ref r), l1, l2, l3, l4, l5, l6, l7] (.ref r :: st) H Q := w_x at_142 rfl
theorem m40_143 : M40 143 [l0, l1, l2, .val (.int v), l4, l5, l6, l7] st H Q = M40 144 [l0, l1, l2, .val (.int v), l4, l5, l6, l7] (.int v :: st) H Q := w_x at_143 rfl
theorem m40_144 : M40 144 ls st H Q = M40 145 ls (.int 3 :: st) H Q := w_con at_144 rfl (by decide)
theorem m40_145 : M40 145 ls (.int y :: .int x :: st) H Q = M40 146 ls (.int (x + y) :: st) H Q := w_x at_145 rfl
theorem m40_146 : M40 146 ls (.int j :: .ref 0 :: st) ((.array .int, sc.map Value.int) :: R) Q = (inB j sc ∧ M40 147 ls (.int (getA sc j) :: st) ((.array .int, sc.map Value.int) :: R) Q) := w_ild at_146 rfl rfl
theorem m40_146p : M40 146 ls (.int j :: .ref 0 :: st) (put (b + 1) ((.array .int, sc.map Value.int) :: pre) s A post) Q = (inB j sc ∧ M40 147 ls (.int (getA sc j) :: st) (put (b + 1) ((.array .int, sc.map Value.int) :: pre) s A post) Q) := w_ild at_146 rfl rfl
theorem m40_147 (a0 : Int32) (a1 : Int32) (a2 : Int32) : M40 147 ls [.int a2, .int a1, .int a0, .ref (b + 1)] (put (b + 1) pre s A post) Q = M16 0 [.val (.ref (b + 1)), .val (.int a0), .val (.int a1), .val (.int a2)] [] (put (b + 1) pre s A post) (fun v H1 => M40 150 ls (v.toList ++ []) H1 Q) := w_virt (as := [.int a2, .int a1, .int a0]) (rest := []) (a := (b + 1)) at_147 cr40_16 put_o rfl rfl (Nat.le_of_ble_eq_true rfl) (by show 4 ≤ 4; omega) rfl
theorem m40_150i : M40 150 [l0, l1, l2, l3, l4, l5, .val (.int z), l7] ((.int v) :: st) H Q = M40 152 [l0, l1, l2, l3, l4, l5, .val (.int v), l7] st H Q := w_st (i := 6) (p := isI) at_150 rfl rfl rfl rfl rfl rfl
theorem m40_152 : M40 152 ls st H Q = M40 198 ls st H Q := w_x at_152 rfl
theorem m40_155 : M40 155 [l0, l1, l2, l3, .val (.int v), l5, l6, l7] st H Q = M40 157 [l0, l1, l2, l3, .val (.int v), l5, l6, l7] (.int v :: st) H Q := w_x at_155 rfl
theorem m40_157 : M40 157 ls st H Q = M40 158 ls (.int 2 :: st) H Q := w_con at_157 rfl (by decide)
theorem m40_158 : M40 158 ls (.int y :: .int x :: st) H Q = if x = y then M40 161 ls st H Q else M40 188 ls st H Q := w_icmpN at_158 (i_ne x y) rfl
theorem m40_161 : M40 161 [l0, .val (.ref r), l2, l3, l4, l5, l6, l7] st H Q = M40 162 [l0, .val (.ref r), l2, l3, l4, l5, l6, l7] (.ref r :: st) H Q := w_x at_161 rfl
theorem cr40_20 : vR tables_1 dn y40 20 = some (false, y15, prog_1_method_6_code, 4, (some .int), 0, 0) := vR_of (cR_of (by decide +kernel) rc_15 dn_15 dn_40 (sig := ⟨[], some .int⟩) (by decide +kernel) (by decide +kernel) rfl rfl) (by decide +kernel) (by decide +kernel) (by decide +kernel)
theorem m40_162 : M40 162 ls [.ref (b + 1)] (put (b + 1) pre s A post) Q = M15 0 [.val (.ref (b + 1)), .unset, .unset, .unset] [] (put (b + 1) pre s A post) (fun v H1 => M40 165 ls (v.toList ++ []) H1 Q) := w_virt (as := []) (rest := []) (a := (b + 1)) at_162 cr40_20 put_o rfl rfl (Nat.le_of_ble_eq_true rfl) (by show 1 ≤ 4; omega) rfl
theorem m40_165i : M40 165 [l0, l1, l2, l3, l4, .val (.int z), l6, l7] ((.int v) :: st) H Q = M40 167 [l0, l1, l2, l3, l4, .val (.int v), l6, l7] st H Q := w_st (i := 5) (p := isI) at_165 rfl rfl rfl rfl rfl rfl
theorem m40_167 : M40 167 [l0, l1, .val (.ref r), l3, l4, l5, l6, l7] st H Q = M40 168 [l0, l1, .val (.ref r), l3, l4, l5, l6, l7] (.ref r :: st) H Q := w_x at_167 rfl
theorem m40_168 : M40 168 ls [.ref (b + 1)] (put (b + 1) pre s A post) Q = M15 0 [.val (.ref (b + 1)), .unset, .unset, .unset] [] (put (b + 1) pre s A post) (fun v H1 => M40 171 ls (v.toList ++ []) H1 Q) := w_virt (as := []) (rest := []) (a := (b + 1)) at_168 cr40_20 put_o rfl rfl (Nat.le_of_ble_eq_true rfl) (by show 1 ≤ 4; omega) rfl
theorem m40_171i : M40 171 [l0, l1, l2, l3, l4, l5, .val (.int z), l7] ((.int v) :: st) H Q = M40 173 [l0, l1, l2, l3, l4, l5, .val (.int v), l7] st H Q := w_st (i := 6) (p := isI) at_171 rfl rfl rfl rfl rfl rfl
theorem m40_173 : M40 173 [l0, l1, l2, l3, l4, .val (.int v), l6, l7] st H Q = M40 175 [l0, l1, l2, l3, l4, .val (.int v), l6, l7] (.int v :: st) H Q := w_x at_173 rfl
theorem m40_175 : M40 175 ls (.int x :: st) H Q = if x < 0 then M40 182 ls st H Q else M40 178 ls st H Q := w_if at_175 (z_lt x) rfl
theorem m40_178 : M40 178 ls st H Q = M40 179 ls (.int 1 :: st) H Q := w_con at_178 rfl (by decide)
theorem m40_179 : M40 179 ls st H Q = M40 183 ls st H Q := w_x at_179 rfl
theorem m40_182 : M40 182 ls st H Q = M40 183 ls (.int 0 :: st) H Q := w_con at_182 rfl (by decide)
theorem m40_183i : M40 183 [l0, l1, l2, l3, l4, l5, l6, .val (.int z)] ((.int v) :: st) H Q = M40 185 [l0, l1, l2, l3, l4, l5, l6, .val (.int v)] st H Q := w_st (i := 7) (p := isI) at_183 rfl rfl rfl rfl rfl rfl
theorem m40_185 : M40 185 ls st H Q = M40 198 ls st H Q := w_x at_185 rfl
theorem m40_188 : M40 188 [l0, .val (.ref r), l2, l3, l4, l5, l6, l7] st H Q = M40 189 [l0, .val (.ref r), l2, l3, l4, l5, l6, l7] (.ref r :: st) H Q := w_x at_188 rfl
theorem m40_189 : M40 189 [.val (.ref r), l1, l2, l3, l4, l5, l6, l7] st H Q = M40 190 [.val (.ref r), l1, l2, l3, l4, l5, l6, l7] (.ref r :: st) H Q := w_x at_189 rfl
theorem m40_190 : M40 190 [l0, l1, l2, .val (.int v), l4, l5, l6, l7] st H Q = M40 191 [l0, l1, l2, .val (.int v), l4, l5, l6, l7] (.int v :: st) H Q := w_x at_190 rfl
theorem m40_191 : M40 191 ls st H Q = M40 192 ls (.int 1 :: st) H Q := w_con at_191 rfl (by decide)
theorem m40_192 : M40 192 ls (.int y :: .int x :: st) H Q = M40 193 ls (.int (x + y) :: st) H Q := w_x at_192 rfl
theorem m40_193 : M40 193 ls (.int j :: .ref 0 :: st) ((.array .int, sc.map Value.int) :: R) Q = (inB j sc ∧ M40 194 ls (.int (getA sc j) :: st) ((.array .int, sc.map Value.int) :: R) Q) := w_ild at_193 rfl rfl
theorem m40_193p : M40 193 ls (.int j :: .ref 0 :: st) (put (b + 1) ((.array .int, sc.map Value.int) :: pre) s A post) Q = (inB j sc ∧ M40 194 ls (.int (getA sc j) :: st) (put (b + 1) ((.array .int, sc.map Value.int) :: pre) s A post) Q) := w_ild at_193 rfl rfl
theorem cr40_24 : vR tables_1 dn y40 24 = some (false, y2, prog_1_method_24_code, 4, (some .int), 1, 10) := vR_of (cR_of (by decide +kernel) rc_2 dn_2 dn_40 (sig := ⟨[.int], some .int⟩) (by decide +kernel) (by decide +kernel) rfl rfl) (by decide +kernel) (by decide +kernel) (by decide +kernel)
theorem m40_194 (a0 : Int32) : M40 194 ls [.int a0, .ref (b + 1)] (put (b + 1) pre s A post) Q = M2 0 [.val (.ref (b + 1)), .val (.int a0), .unset, .unset] [] (put (b + 1) pre s A post) (fun v H1 => M40 197 ls (v.toList ++ []) H1 Q) := w_virt (as := [.int a0]) (rest := []) (a := (b + 1)) at_194 cr40_24 put_o rfl rfl (Nat.le_of_ble_eq_true rfl) (by show 2 ≤ 4; omega) rfl
theorem m40_197 : M40 197 ls ((.int v) :: st) H Q = M40 198 ls st H Q := w_x at_197 rfl
theorem m40_198 : M40 198 [l0, l1, l2, l3, l4, .val (.int v), l6, l7] st H Q = M40 200 [l0, l1, l2, l3, l4, .val (.int v), l6, l7] (.int v :: st) H Q := w_x at_198 rfl
theorem m40_200 : M40 200 [l0, l1, l2, l3, l4, l5, .val (.int v), l7] st H Q = M40 202 [l0, l1, l2, l3, l4, l5, .val (.int v), l7] (.int v :: st) H Q := w_x at_200 rfl
theorem m40_202 : M40 202 ls (.int y :: .int x :: st) H Q = if x = y then M40 205 ls st H Q else M40 213 ls st H Q := w_icmpN at_202 (i_ne x y) rfl
theorem m40_205 : M40 205 [l0, .val (.ref r), l2, l3, l4, l5, l6, l7] st H Q = M40 206 [l0, .val (.ref r), l2, l3, l4, l5, l6, l7] (.ref r :: st) H Q := w_x at_205 rfl
theorem m40_206 : M40 206 [l0, l1, .val (.ref r), l3, l4, l5, l6, l7] st H Q = M40 207 [l0, l1, .val (.ref r), l3, l4, l5, l6, l7] (.ref r :: st) H Q := w_x at_206 rfl
theorem cr40_28 : sR tables_1 dn y40 28 = some (y38, method_3_code, 3, (some .boolean), 2, 29) := sR_of (cR_of (by decide +kernel) rc_38 dn_38 dn_40 (sig := ⟨[.object "ResponseTimeGate", .object "ResponseTimeGate"], some .boolean⟩) (by decide +kernel) (by decide +kernel) rfl rfl) (by decide +kernel)
theorem m40_207 (a0 : Nat) (a1 : Nat) : M40 207 ls [.ref a1, .ref a0] H Q = M38 0 [.val (.ref a0), .val (.ref a1), .unset] [] H (fun v H1 => M40 210 ls (v.toList ++ []) H1 Q) := w_stat (as := [.ref a1, .ref a0]) (rest := []) at_207 cr40_28 rfl (Nat.le_of_ble_eq_true rfl) (by show 2 ≤ 3; omega) rfl
theorem m40_210 : M40 210 ls (.int x :: st) H Q = if x = 0 then M40 213 ls st H Q else M40 215 ls st H Q := w_ifN at_210 (z_ne x) rfl
theorem m40_213 : M40 213 ls st H Q = M40 214 ls (.int 0 :: st) H Q := w_con at_213 rfl (by decide)
theorem m40_214 : M40 214 ls (.int z :: st) H Q = Q (some (.int (nar .boolean z))) H := w_iretN at_214 rfl (by simp)
theorem m40_215 : M40 215 [l0, l1, l2, l3, l4, l5, l6, .val (.int v)] st H Q = M40 217 [l0, l1, l2, l3, l4, l5, l6, .val (.int v)] (.int v :: st) H Q := w_x at_215 rfl
theorem m40_217 : M40 217 ls (.int x :: st) H Q = if x = 0 then M40 230 ls st H Q else M40 220 ls st H Q := w_if at_217 (z_eq x) rfl
theorem m40_220 : M40 220 [l0, .val (.ref r), l2, l3, l4, l5, l6, l7] st H Q = M40 221 [l0, .val (.ref r), l2, l3, l4, l5, l6, l7] (.ref r :: st) H Q := w_x at_220 rfl
theorem m40_221 : M40 221 [l0, l1, .val (.ref r), l3, l4, l5, l6, l7] st H Q = M40 222 [l0, l1, .val (.ref r), l3, l4, l5, l6, l7] (.ref r :: st) H Q := w_x at_221 rfl
theorem cr40_34 : sR tables_1 dn y40 34 = some (y39, method_4_code, 3, (some .boolean), 2, 29) := sR_of (cR_of (by decide +kernel) rc_39 dn_39 dn_40 (sig := ⟨[.object "ResponseTimeGate", .object "ResponseTimeGate"], some .boolean⟩) (by decide +kernel) (by decide +kernel) rfl rfl) (by decide +kernel)
theorem m40_222 (a0 : Nat) (a1 : Nat) : M40 222 ls [.ref a1, .ref a0] H Q = M39 0 [.val (.ref a0), .val (.ref a1), .unset] [] H (fun v H1 => M40 225 ls (v.toList ++ []) H1 Q) := w_stat (as := [.ref a1, .ref a0]) (rest := []) at_222 cr40_34 rfl (Nat.le_of_ble_eq_true rfl) (by show 2 ≤ 3; omega) rfl
theorem m40_225 : M40 225 ls (.int x :: st) H Q = if x = 0 then M40 228 ls st H Q else M40 230 ls st H Q := w_ifN at_225 (z_ne x) rfl
theorem m40_228 : M40 228 ls st H Q = M40 229 ls (.int 0 :: st) H Q := w_con at_228 rfl (by decide)
theorem m40_229 : M40 229 ls (.int z :: st) H Q = Q (some (.int (nar .boolean z))) H := w_iretN at_229 rfl (by simp)
theorem m40_230 : M40 230 [l0, l1, l2, .val (.int v), l4, l5, l6, l7] st H Q = M40 233 [l0, l1, l2, .val (.int (v + 5)), l4, l5, l6, l7] st H Q := w_iinc at_230 rfl (by decide) rfl
theorem m40_233 : M40 233 ls st H Q = M40 20 ls st H Q := w_x at_233 rfl
theorem m40_236 : M40 236 ls st H Q = M40 237 ls (.int 1 :: st) H Q := w_con at_236 rfl (by decide)
theorem m40_237 : M40 237 ls (.int z :: st) H Q = Q (some (.int (nar .boolean z))) H := w_iretN at_237 rfl (by simp)
theorem pf0_7 : pfR tables_1 y0.cls y0.name 7 = some ("ResponseTimeGate", 0, .array .int) := by decide +kernel
theorem m0_4a (hH : H.length = b) (hk : 1 ≤ b) {vs : List Value} {r : AHeap} (hj : 0 < vs.length) : M0 4 (.val (.ref b) :: [l1, l2, l3]) [] (H ++ (.object "ResponseTimeGate", vs) :: r) Q = M0 12 (.val (.ref b) :: [l1, l2, l3]) [] (H ++ (.object "ResponseTimeGate", vs.set 0 (.ref (b + (r.length + 1)))) :: (r ++ [(.array .int, List.replicate 9 (.int 0))])) Q := w_iarr (n := 9) rfl hH hk (show decode kb0 4 = .ok (.aload_n 0, 1) from by decide +kernel) rfl (show decode kb0 5 = .ok (.bipush 9, 2) from by decide +kernel) (fun _ => rfl) (by decide) (show decode kb0 7 = .ok (.newarray .int, 2) from by decide +kernel) rfl (by decide +kernel) (by decide) (by decide) rfl (show decode kb0 9 = .ok (.putfield 7, 3) from by decide +kernel) pf0_7 hj
theorem pf0_13 : pfR tables_1 y0.cls y0.name 13 = some ("ResponseTimeGate", 1, .array .int) := by decide +kernel
theorem m0_12a (hH : H.length = b) (hk : 1 ≤ b) {vs : List Value} {r : AHeap} (hj : 1 < vs.length) : M0 12 (.val (.ref b) :: [l1, l2, l3]) [] (H ++ (.object "ResponseTimeGate", vs) :: r) Q = M0 20 (.val (.ref b) :: [l1, l2, l3]) [] (H ++ (.object "ResponseTimeGate", vs.set 1 (.ref (b + (r.length + 1)))) :: (r ++ [(.array .int, List.replicate 9 (.int 0))])) Q := w_iarr (n := 9) rfl hH hk (show decode kb0 12 = .ok (.aload_n 0, 1) from by decide +kernel) rfl (show decode kb0 13 = .ok (.bipush 9, 2) from by decide +kernel) (fun _ => rfl) (by decide) (show decode kb0 15 = .ok (.newarray .int, 2) from by decide +kernel) rfl (by decide +kernel) (by decide) (by decide) rfl (show decode kb0 17 = .ok (.putfield 13, 3) from by decide +kernel) pf0_13 hj
theorem pf0_16 : pfR tables_1 y0.cls y0.name 16 = some ("ResponseTimeGate", 2, .array .int) := by decide +kernel
theorem m0_20a (hH : H.length = b) (hk : 1 ≤ b) {vs : List Value} {r : AHeap} (hj : 2 < vs.length) : M0 20 (.val (.ref b) :: [l1, l2, l3]) [] (H ++ (.object "ResponseTimeGate", vs) :: r) Q = M0 28 (.val (.ref b) :: [l1, l2, l3]) [] (H ++ (.object "ResponseTimeGate", vs.set 2 (.ref (b + (r.length + 1)))) :: (r ++ [(.array .int, List.replicate 9 (.int 0))])) Q := w_iarr (n := 9) rfl hH hk (show decode kb0 20 = .ok (.aload_n 0, 1) from by decide +kernel) rfl (show decode kb0 21 = .ok (.bipush 9, 2) from by decide +kernel) (fun _ => rfl) (by decide) (show decode kb0 23 = .ok (.newarray .int, 2) from by decide +kernel) rfl (by decide +kernel) (by decide) (by decide) rfl (show decode kb0 25 = .ok (.putfield 16, 3) from by decide +kernel) pf0_16 hj
theorem pf0_19 : pfR tables_1 y0.cls y0.name 19 = some ("ResponseTimeGate", 3, .array .int) := by decide +kernel
theorem m0_28a (hH : H.length = b) (hk : 1 ≤ b) {vs : List Value} {r : AHeap} (hj : 3 < vs.length) : M0 28 (.val (.ref b) :: [l1, l2, l3]) [] (H ++ (.object "ResponseTimeGate", vs) :: r) Q = M0 36 (.val (.ref b) :: [l1, l2, l3]) [] (H ++ (.object "ResponseTimeGate", vs.set 3 (.ref (b + (r.length + 1)))) :: (r ++ [(.array .int, List.replicate 9 (.int 0))])) Q := w_iarr (n := 9) rfl hH hk (show decode kb0 28 = .ok (.aload_n 0, 1) from by decide +kernel) rfl (show decode kb0 29 = .ok (.bipush 9, 2) from by decide +kernel) (fun _ => rfl) (by decide) (show decode kb0 31 = .ok (.newarray .int, 2) from by decide +kernel) rfl (by decide +kernel) (by decide) (by decide) rfl (show decode kb0 33 = .ok (.putfield 19, 3) from by decide +kernel) pf0_19 hj
theorem pf0_22 : pfR tables_1 y0.cls y0.name 22 = some ("ResponseTimeGate", 4, .array .int) := by decide +kernel
theorem m0_36a (hH : H.length = b) (hk : 1 ≤ b) {vs : List Value} {r : AHeap} (hj : 4 < vs.length) : M0 36 (.val (.ref b) :: [l1, l2, l3]) [] (H ++ (.object "ResponseTimeGate", vs) :: r) Q = M0 44 (.val (.ref b) :: [l1, l2, l3]) [] (H ++ (.object "ResponseTimeGate", vs.set 4 (.ref (b + (r.length + 1)))) :: (r ++ [(.array .int, List.replicate 36 (.int 0))])) Q := w_iarr (n := 36) rfl hH hk (show decode kb0 36 = .ok (.aload_n 0, 1) from by decide +kernel) rfl (show decode kb0 37 = .ok (.bipush 36, 2) from by decide +kernel) (fun _ => rfl) (by decide) (show decode kb0 39 = .ok (.newarray .int, 2) from by decide +kernel) rfl (by decide +kernel) (by decide) (by decide) rfl (show decode kb0 41 = .ok (.putfield 22, 3) from by decide +kernel) pf0_22 hj
theorem pf0_25 : pfR tables_1 y0.cls y0.name 25 = some ("ResponseTimeGate", 5, .array .int) := by decide +kernel
theorem m0_44a (hH : H.length = b) (hk : 1 ≤ b) {vs : List Value} {r : AHeap} (hj : 5 < vs.length) : M0 44 (.val (.ref b) :: [l1, l2, l3]) [] (H ++ (.object "ResponseTimeGate", vs) :: r) Q = M0 52 (.val (.ref b) :: [l1, l2, l3]) [] (H ++ (.object "ResponseTimeGate", vs.set 5 (.ref (b + (r.length + 1)))) :: (r ++ [(.array .int, List.replicate 36 (.int 0))])) Q := w_iarr (n := 36) rfl hH hk (show decode kb0 44 = .ok (.aload_n 0, 1) from by decide +kernel) rfl (show decode kb0 45 = .ok (.bipush 36, 2) from by decide +kernel) (fun _ => rfl) (by decide) (show decode kb0 47 = .ok (.newarray .int, 2) from by decide +kernel) rfl (by decide +kernel) (by decide) (by decide) rfl (show decode kb0 49 = .ok (.putfield 25, 3) from by decide +kernel) pf0_25 hj
theorem pf0_28 : pfR tables_1 y0.cls y0.name 28 = some ("ResponseTimeGate", 6, .array .int) := by decide +kernel
theorem m0_52a (hH : H.length = b) (hk : 1 ≤ b) {vs : List Value} {r : AHeap} (hj : 6 < vs.length) : M0 52 (.val (.ref b) :: [l1, l2, l3]) [] (H ++ (.object "ResponseTimeGate", vs) :: r) Q = M0 60 (.val (.ref b) :: [l1, l2, l3]) [] (H ++ (.object "ResponseTimeGate", vs.set 6 (.ref (b + (r.length + 1)))) :: (r ++ [(.array .int, List.replicate 9 (.int 0))])) Q := w_iarr (n := 9) rfl hH hk (show decode kb0 52 = .ok (.aload_n 0, 1) from by decide +kernel) rfl (show decode kb0 53 = .ok (.bipush 9, 2) from by decide +kernel) (fun _ => rfl) (by decide) (show decode kb0 55 = .ok (.newarray .int, 2) from by decide +kernel) rfl (by decide +kernel) (by decide) (by decide) rfl (show decode kb0 57 = .ok (.putfield 28, 3) from by decide +kernel) pf0_28 hj
theorem pf0_31 : pfR tables_1 y0.cls y0.name 31 = some ("ResponseTimeGate", 7, .array .int) := by decide +kernel
theorem m0_60a (hH : H.length = b) (hk : 1 ≤ b) {vs : List Value} {r : AHeap} (hj : 7 < vs.length) : M0 60 (.val (.ref b) :: [l1, l2, l3]) [] (H ++ (.object "ResponseTimeGate", vs) :: r) Q = M0 68 (.val (.ref b) :: [l1, l2, l3]) [] (H ++ (.object "ResponseTimeGate", vs.set 7 (.ref (b + (r.length + 1)))) :: (r ++ [(.array .int, List.replicate 9 (.int 0))])) Q := w_iarr (n := 9) rfl hH hk (show decode kb0 60 = .ok (.aload_n 0, 1) from by decide +kernel) rfl (show decode kb0 61 = .ok (.bipush 9, 2) from by decide +kernel) (fun _ => rfl) (by decide) (show decode kb0 63 = .ok (.newarray .int, 2) from by decide +kernel) rfl (by decide +kernel) (by decide) (by decide) rfl (show decode kb0 65 = .ok (.putfield 31, 3) from by decide +kernel) pf0_31 hj
theorem pf0_34 : pfR tables_1 y0.cls y0.name 34 = some ("ResponseTimeGate", 8, .array .int) := by decide +kernel
theorem m0_68a (hH : H.length = b) (hk : 1 ≤ b) {vs : List Value} {r : AHeap} (hj : 8 < vs.length) : M0 68 (.val (.ref b) :: [l1, l2, l3]) [] (H ++ (.object "ResponseTimeGate", vs) :: r) Q = M0 75 (.val (.ref b) :: [l1, l2, l3]) [] (H ++ (.object "ResponseTimeGate", vs.set 8 (.ref (b + (r.length + 1)))) :: (r ++ [(.array .int, List.replicate 4 (.int 0))])) Q := w_iarr (n := 4) rfl hH hk (show decode kb0 68 = .ok (.aload_n 0, 1) from by decide +kernel) rfl (show decode kb0 69 = .ok (.iconst 4, 1) from by decide +kernel) (fun _ => rfl) (by decide) (show decode kb0 70 = .ok (.newarray .int, 2) from by decide +kernel) rfl (by decide +kernel) (by decide) (by decide) rfl (show decode kb0 72 = .ok (.putfield 34, 3) from by decide +kernel) pf0_34 hj
theorem pf0_37 : pfR tables_1 y0.cls y0.name 37 = some ("ResponseTimeGate", 9, .array .int) := by decide +kernel
theorem m0_75a (hH : H.length = b) (hk : 1 ≤ b) {vs : List Value} {r : AHeap} (hj : 9 < vs.length) : M0 75 (.val (.ref b) :: [l1, l2, l3]) [] (H ++ (.object "ResponseTimeGate", vs) :: r) Q = M0 82 (.val (.ref b) :: [l1, l2, l3]) [] (H ++ (.object "ResponseTimeGate", vs.set 9 (.ref (b + (r.length + 1)))) :: (r ++ [(.array .int, List.replicate 4 (.int 0))])) Q := w_iarr (n := 4) rfl hH hk (show decode kb0 75 = .ok (.aload_n 0, 1) from by decide +kernel) rfl (show decode kb0 76 = .ok (.iconst 4, 1) from by decide +kernel) (fun _ => rfl) (by decide) (show decode kb0 77 = .ok (.newarray .int, 2) from by decide +kernel) rfl (by decide +kernel) (by decide) (by decide) rfl (show decode kb0 79 = .ok (.putfield 37, 3) from by decide +kernel) pf0_37 hj
theorem pf0_40 : pfR tables_1 y0.cls y0.name 40 = some ("ResponseTimeGate", 10, .array .int) := by decide +kernel
theorem m0_82a (hH : H.length = b) (hk : 1 ≤ b) {vs : List Value} {r : AHeap} (hj : 10 < vs.length) : M0 82 (.val (.ref b) :: [l1, l2, l3]) [] (H ++ (.object "ResponseTimeGate", vs) :: r) Q = M0 89 (.val (.ref b) :: [l1, l2, l3]) [] (H ++ (.object "ResponseTimeGate", vs.set 10 (.ref (b + (r.length + 1)))) :: (r ++ [(.array .int, List.replicate 4 (.int 0))])) Q := w_iarr (n := 4) rfl hH hk (show decode kb0 82 = .ok (.aload_n 0, 1) from by decide +kernel) rfl (show decode kb0 83 = .ok (.iconst 4, 1) from by decide +kernel) (fun _ => rfl) (by decide) (show decode kb0 84 = .ok (.newarray .int, 2) from by decide +kernel) rfl (by decide +kernel) (by decide) (by decide) rfl (show decode kb0 86 = .ok (.putfield 40, 3) from by decide +kernel) pf0_40 hj
theorem pf0_43 : pfR tables_1 y0.cls y0.name 43 = some ("ResponseTimeGate", 11, .array .int) := by decide +kernel
theorem m0_89a (hH : H.length = b) (hk : 1 ≤ b) {vs : List Value} {r : AHeap} (hj : 11 < vs.length) : M0 89 (.val (.ref b) :: [l1, l2, l3]) [] (H ++ (.object "ResponseTimeGate", vs) :: r) Q = M0 96 (.val (.ref b) :: [l1, l2, l3]) [] (H ++ (.object "ResponseTimeGate", vs.set 11 (.ref (b + (r.length + 1)))) :: (r ++ [(.array .int, List.replicate 4 (.int 0))])) Q := w_iarr (n := 4) rfl hH hk (show decode kb0 89 = .ok (.aload_n 0, 1) from by decide +kernel) rfl (show decode kb0 90 = .ok (.iconst 4, 1) from by decide +kernel) (fun _ => rfl) (by decide) (show decode kb0 91 = .ok (.newarray .int, 2) from by decide +kernel) rfl (by decide +kernel) (by decide) (by decide) rfl (show decode kb0 93 = .ok (.putfield 43, 3) from by decide +kernel) pf0_43 hj
theorem pf0_46 : pfR tables_1 y0.cls y0.name 46 = some ("ResponseTimeGate", 12, .array .int) := by decide +kernel
theorem m0_96a (hH : H.length = b) (hk : 1 ≤ b) {vs : List Value} {r : AHeap} (hj : 12 < vs.length) : M0 96 (.val (.ref b) :: [l1, l2, l3]) [] (H ++ (.object "ResponseTimeGate", vs) :: r) Q = M0 104 (.val (.ref b) :: [l1, l2, l3]) [] (H ++ (.object "ResponseTimeGate", vs.set 12 (.ref (b + (r.length + 1)))) :: (r ++ [(.array .int, List.replicate 9 (.int 0))])) Q := w_iarr (n := 9) rfl hH hk (show decode kb0 96 = .ok (.aload_n 0, 1) from by decide +kernel) rfl (show decode kb0 97 = .ok (.bipush 9, 2) from by decide +kernel) (fun _ => rfl) (by decide) (show decode kb0 99 = .ok (.newarray .int, 2) from by decide +kernel) rfl (by decide +kernel) (by decide) (by decide) rfl (show decode kb0 101 = .ok (.putfield 46, 3) from by decide +kernel) pf0_46 hj
theorem pf0_49 : pfR tables_1 y0.cls y0.name 49 = some ("ResponseTimeGate", 13, .array .int) := by decide +kernel
theorem m0_104a (hH : H.length = b) (hk : 1 ≤ b) {vs : List Value} {r : AHeap} (hj : 13 < vs.length) : M0 104 (.val (.ref b) :: [l1, l2, l3]) [] (H ++ (.object "ResponseTimeGate", vs) :: r) Q = M0 112 (.val (.ref b) :: [l1, l2, l3]) [] (H ++ (.object "ResponseTimeGate", vs.set 13 (.ref (b + (r.length + 1)))) :: (r ++ [(.array .int, List.replicate 9 (.int 0))])) Q := w_iarr (n := 9) rfl hH hk (show decode kb0 104 = .ok (.aload_n 0, 1) from by decide +kernel) rfl (show decode kb0 105 = .ok (.bipush 9, 2) from by decide +kernel) (fun _ => rfl) (by decide) (show decode kb0 107 = .ok (.newarray .int, 2) from by decide +kernel) rfl (by decide +kernel) (by decide) (by decide) rfl (show decode kb0 109 = .ok (.putfield 49, 3) from by decide +kernel) pf0_49 hj
theorem pf0_52 : pfR tables_1 y0.cls y0.name 52 = some ("ResponseTimeGate", 14, .array .boolean) := by decide +kernel
theorem m0_112a (hH : H.length = b) (hk : 1 ≤ b) {vs : List Value} {r : AHeap} (hj : 14 < vs.length) : M0 112 (.val (.ref b) :: [l1, l2, l3]) [] (H ++ (.object "ResponseTimeGate", vs) :: r) Q = M0 120 (.val (.ref b) :: [l1, l2, l3]) [] (H ++ (.object "ResponseTimeGate", vs.set 14 (.ref (b + (r.length + 1)))) :: (r ++ [(.array .boolean, List.replicate 9 (.int 0))])) Q := w_iarr (n := 9) rfl hH hk (show decode kb0 112 = .ok (.aload_n 0, 1) from by decide +kernel) rfl (show decode kb0 113 = .ok (.bipush 9, 2) from by decide +kernel) (fun _ => rfl) (by decide) (show decode kb0 115 = .ok (.newarray .boolean, 2) from by decide +kernel) rfl (by decide +kernel) (by decide) (by decide) rfl (show decode kb0 117 = .ok (.putfield 52, 3) from by decide +kernel) pf0_52 hj
theorem pf0_56 : pfR tables_1 y0.cls y0.name 56 = some ("ResponseTimeGate", 15, .array .int) := by decide +kernel
theorem m0_120a (hH : H.length = b) (hk : 1 ≤ b) {vs : List Value} {r : AHeap} (hj : 15 < vs.length) : M0 120 (.val (.ref b) :: [l1, l2, l3]) [] (H ++ (.object "ResponseTimeGate", vs) :: r) Q = M0 128 (.val (.ref b) :: [l1, l2, l3]) [] (H ++ (.object "ResponseTimeGate", vs.set 15 (.ref (b + (r.length + 1)))) :: (r ++ [(.array .int, List.replicate 9 (.int 0))])) Q := w_iarr (n := 9) rfl hH hk (show decode kb0 120 = .ok (.aload_n 0, 1) from by decide +kernel) rfl (show decode kb0 121 = .ok (.bipush 9, 2) from by decide +kernel) (fun _ => rfl) (by decide) (show decode kb0 123 = .ok (.newarray .int, 2) from by decide +kernel) rfl (by decide +kernel) (by decide) (by decide) rfl (show decode kb0 125 = .ok (.putfield 56, 3) from by decide +kernel) pf0_56 hj
theorem pf0_59 : pfR tables_1 y0.cls y0.name 59 = some ("ResponseTimeGate", 16, .array .int) := by decide +kernel
theorem m0_128a (hH : H.length = b) (hk : 1 ≤ b) {vs : List Value} {r : AHeap} (hj : 16 < vs.length) : M0 128 (.val (.ref b) :: [l1, l2, l3]) [] (H ++ (.object "ResponseTimeGate", vs) :: r) Q = M0 136 (.val (.ref b) :: [l1, l2, l3]) [] (H ++ (.object "ResponseTimeGate", vs.set 16 (.ref (b + (r.length + 1)))) :: (r ++ [(.array .int, List.replicate 9 (.int 0))])) Q := w_iarr (n := 9) rfl hH hk (show decode kb0 128 = .ok (.aload_n 0, 1) from by decide +kernel) rfl (show decode kb0 129 = .ok (.bipush 9, 2) from by decide +kernel) (fun _ => rfl) (by decide) (show decode kb0 131 = .ok (.newarray .int, 2) from by decide +kernel) rfl (by decide +kernel) (by decide) (by decide) rfl (show decode kb0 133 = .ok (.putfield 59, 3) from by decide +kernel) pf0_59 hj
theorem pf0_62 : pfR tables_1 y0.cls y0.name 62 = some ("ResponseTimeGate", 17, .array .int) := by decide +kernel
theorem m0_136a (hH : H.length = b) (hk : 1 ≤ b) {vs : List Value} {r : AHeap} (hj : 17 < vs.length) : M0 136 (.val (.ref b) :: [l1, l2, l3]) [] (H ++ (.object "ResponseTimeGate", vs) :: r) Q = M0 144 (.val (.ref b) :: [l1, l2, l3]) [] (H ++ (.object "ResponseTimeGate", vs.set 17 (.ref (b + (r.length + 1)))) :: (r ++ [(.array .int, List.replicate 9 (.int 0))])) Q := w_iarr (n := 9) rfl hH hk (show decode kb0 136 = .ok (.aload_n 0, 1) from by decide +kernel) rfl (show decode kb0 137 = .ok (.bipush 9, 2) from by decide +kernel) (fun _ => rfl) (by decide) (show decode kb0 139 = .ok (.newarray .int, 2) from by decide +kernel) rfl (by decide +kernel) (by decide) (by decide) rfl (show decode kb0 141 = .ok (.putfield 62, 3) from by decide +kernel) pf0_62 hj
theorem pf0_65 : pfR tables_1 y0.cls y0.name 65 = some ("ResponseTimeGate", 18, .array .int) := by decide +kernel
theorem m0_144a (hH : H.length = b) (hk : 1 ≤ b) {vs : List Value} {r : AHeap} (hj : 18 < vs.length) : M0 144 (.val (.ref b) :: [l1, l2, l3]) [] (H ++ (.object "ResponseTimeGate", vs) :: r) Q = M0 152 (.val (.ref b) :: [l1, l2, l3]) [] (H ++ (.object "ResponseTimeGate", vs.set 18 (.ref (b + (r.length + 1)))) :: (r ++ [(.array .int, List.replicate 9 (.int 0))])) Q := w_iarr (n := 9) rfl hH hk (show decode kb0 144 = .ok (.aload_n 0, 1) from by decide +kernel) rfl (show decode kb0 145 = .ok (.bipush 9, 2) from by decide +kernel) (fun _ => rfl) (by decide) (show decode kb0 147 = .ok (.newarray .int, 2) from by decide +kernel) rfl (by decide +kernel) (by decide) (by decide) rfl (show decode kb0 149 = .ok (.putfield 65, 3) from by decide +kernel) pf0_65 hj
theorem pf0_68 : pfR tables_1 y0.cls y0.name 68 = some ("ResponseTimeGate", 19, .array .int) := by decide +kernel
theorem m0_152a (hH : H.length = b) (hk : 1 ≤ b) {vs : List Value} {r : AHeap} (hj : 19 < vs.length) : M0 152 (.val (.ref b) :: [l1, l2, l3]) [] (H ++ (.object "ResponseTimeGate", vs) :: r) Q = M0 160 (.val (.ref b) :: [l1, l2, l3]) [] (H ++ (.object "ResponseTimeGate", vs.set 19 (.ref (b + (r.length + 1)))) :: (r ++ [(.array .int, List.replicate 9 (.int 0))])) Q := w_iarr (n := 9) rfl hH hk (show decode kb0 152 = .ok (.aload_n 0, 1) from by decide +kernel) rfl (show decode kb0 153 = .ok (.bipush 9, 2) from by decide +kernel) (fun _ => rfl) (by decide) (show decode kb0 155 = .ok (.newarray .int, 2) from by decide +kernel) rfl (by decide +kernel) (by decide) (by decide) rfl (show decode kb0 157 = .ok (.putfield 68, 3) from by decide +kernel) pf0_68 hj
def A0 : Nat → List Int32
  | 0 => List.replicate 9 0
  | 1 => List.replicate 9 0
  | 2 => List.replicate 9 0
  | 3 => List.replicate 9 0
  | 4 => List.replicate 36 0
  | 5 => List.replicate 36 0
  | 6 => List.replicate 9 0
  | 7 => List.replicate 9 0
  | 8 => List.replicate 4 0
  | 9 => List.replicate 4 0
  | 10 => List.replicate 4 0
  | 11 => List.replicate 4 0
  | 12 => List.replicate 9 0
  | 13 => List.replicate 9 0
  | 14 => List.replicate 9 0
  | 15 => List.replicate 9 0
  | 16 => List.replicate 9 0
  | 17 => List.replicate 9 0
  | 18 => List.replicate 9 0
  | 19 => List.replicate 9 0
  | _ => []
theorem A0l_0 : (A0 0).length = 9 := List.length_replicate
theorem A0g_0 (j : Int32) : getA (A0 0) j = 0 := getA_rep _ _
theorem A0l_1 : (A0 1).length = 9 := List.length_replicate
theorem A0g_1 (j : Int32) : getA (A0 1) j = 0 := getA_rep _ _
theorem A0l_2 : (A0 2).length = 9 := List.length_replicate
theorem A0g_2 (j : Int32) : getA (A0 2) j = 0 := getA_rep _ _
theorem A0l_3 : (A0 3).length = 9 := List.length_replicate
theorem A0g_3 (j : Int32) : getA (A0 3) j = 0 := getA_rep _ _
theorem A0l_4 : (A0 4).length = 36 := List.length_replicate
theorem A0g_4 (j : Int32) : getA (A0 4) j = 0 := getA_rep _ _
theorem A0l_5 : (A0 5).length = 36 := List.length_replicate
theorem A0g_5 (j : Int32) : getA (A0 5) j = 0 := getA_rep _ _
theorem A0l_6 : (A0 6).length = 9 := List.length_replicate
theorem A0g_6 (j : Int32) : getA (A0 6) j = 0 := getA_rep _ _
theorem A0l_7 : (A0 7).length = 9 := List.length_replicate
theorem A0g_7 (j : Int32) : getA (A0 7) j = 0 := getA_rep _ _
theorem A0l_8 : (A0 8).length = 4 := List.length_replicate
theorem A0g_8 (j : Int32) : getA (A0 8) j = 0 := getA_rep _ _
theorem A0l_9 : (A0 9).length = 4 := List.length_replicate
theorem A0g_9 (j : Int32) : getA (A0 9) j = 0 := getA_rep _ _
theorem A0l_10 : (A0 10).length = 4 := List.length_replicate
theorem A0g_10 (j : Int32) : getA (A0 10) j = 0 := getA_rep _ _
theorem A0l_11 : (A0 11).length = 4 := List.length_replicate
theorem A0g_11 (j : Int32) : getA (A0 11) j = 0 := getA_rep _ _
theorem A0l_12 : (A0 12).length = 9 := List.length_replicate
theorem A0g_12 (j : Int32) : getA (A0 12) j = 0 := getA_rep _ _
theorem A0l_13 : (A0 13).length = 9 := List.length_replicate
theorem A0g_13 (j : Int32) : getA (A0 13) j = 0 := getA_rep _ _
theorem A0l_14 : (A0 14).length = 9 := List.length_replicate
theorem A0g_14 (j : Int32) : getA (A0 14) j = 0 := getA_rep _ _
theorem A0l_15 : (A0 15).length = 9 := List.length_replicate
theorem A0g_15 (j : Int32) : getA (A0 15) j = 0 := getA_rep _ _
theorem A0l_16 : (A0 16).length = 9 := List.length_replicate
theorem A0g_16 (j : Int32) : getA (A0 16) j = 0 := getA_rep _ _
theorem A0l_17 : (A0 17).length = 9 := List.length_replicate
theorem A0g_17 (j : Int32) : getA (A0 17) j = 0 := getA_rep _ _
theorem A0l_18 : (A0 18).length = 9 := List.length_replicate
theorem A0g_18 (j : Int32) : getA (A0 18) j = 0 := getA_rep _ _
theorem A0l_19 : (A0 19).length = 9 := List.length_replicate
theorem A0g_19 (j : Int32) : getA (A0 19) j = 0 := getA_rep _ _
theorem own_ctor0 (hb : pre.length = b) (hk : 1 ≤ b) : M0 0 (.val (.ref b) :: [l1, l2, l3]) [] (pre ++ [(.object "ResponseTimeGate", D0)]) Q = M0 160 (.val (.ref b) :: [l1, l2, l3]) [] (put b pre (fun _ => 0) A0 []) Q := by
  rw [m0_0, m0_1, m0_4a hb hk (by (repeat rw [List.length_set]); exact Nat.le_of_ble_eq_true rfl), m0_12a hb hk (by (repeat rw [List.length_set]); exact Nat.le_of_ble_eq_true rfl), m0_20a hb hk (by (repeat rw [List.length_set]); exact Nat.le_of_ble_eq_true rfl), m0_28a hb hk (by (repeat rw [List.length_set]); exact Nat.le_of_ble_eq_true rfl), m0_36a hb hk (by (repeat rw [List.length_set]); exact Nat.le_of_ble_eq_true rfl), m0_44a hb hk (by (repeat rw [List.length_set]); exact Nat.le_of_ble_eq_true rfl), m0_52a hb hk (by (repeat rw [List.length_set]); exact Nat.le_of_ble_eq_true rfl), m0_60a hb hk (by (repeat rw [List.length_set]); exact Nat.le_of_ble_eq_true rfl), m0_68a hb hk (by (repeat rw [List.length_set]); exact Nat.le_of_ble_eq_true rfl), m0_75a hb hk (by (repeat rw [List.length_set]); exact Nat.le_of_ble_eq_true rfl), m0_82a hb hk (by (repeat rw [List.length_set]); exact Nat.le_of_ble_eq_true rfl), m0_89a hb hk (by (repeat rw [List.length_set]); exact Nat.le_of_ble_eq_true rfl), m0_96a hb hk (by (repeat rw [List.length_set]); exact Nat.le_of_ble_eq_true rfl), m0_104a hb hk (by (repeat rw [List.length_set]); exact Nat.le_of_ble_eq_true rfl), m0_112a hb hk (by (repeat rw [List.length_set]); exact Nat.le_of_ble_eq_true rfl), m0_120a hb hk (by (repeat rw [List.length_set]); exact Nat.le_of_ble_eq_true rfl), m0_128a hb hk (by (repeat rw [List.length_set]); exact Nat.le_of_ble_eq_true rfl), m0_136a hb hk (by (repeat rw [List.length_set]); exact Nat.le_of_ble_eq_true rfl), m0_144a hb hk (by (repeat rw [List.length_set]); exact Nat.le_of_ble_eq_true rfl), m0_152a hb hk (by (repeat rw [List.length_set]); exact Nat.le_of_ble_eq_true rfl)]
  simp only [put, pad_eq hb, objv, D0, A0, List.map_replicate, List.set_cons_succ, List.set_cons_zero, List.nil_append, List.cons_append, List.length_cons, List.length_nil, List.append_nil]
end Rules
/- methods: 0=ResponseTimeGate.<init>(I)V; 1=ResponseTimeGate.resetSim()V; 2=ResponseTimeGate.run(I)I; 3=ResponseTimeGate.tick()V; 4=ResponseTimeGate.releaseJobs()V; 5=ResponseTimeGate.pickRunning()I; 6=ResponseTimeGate.checkMisses()V; 7=ResponseTimeGate.taskCount()I; 8=ResponseTimeGate.hyperperiod()I; 9=ResponseTimeGate.failedTask()I; 10=ResponseTimeGate.bound(I)I; 11=ResponseTimeGate.admitted(I)Z; 12=ResponseTimeGate.blocking(I)I; 13=ResponseTimeGate.ceiling(I)I; 14=ResponseTimeGate.beginTask(IIII)I; 15=ResponseTimeGate.commitTask()I; 16=ResponseTimeGate.addSection(III)I; 17=ResponseTimeGate.priorityTaken(I)Z; 18=ResponseTimeGate.lcmWith(II)I; 19=ResponseTimeGate.gcd(II)I; 20=ResponseTimeGate.placeStaged(I)V; 21=ResponseTimeGate.analyze(I)I; 22=ResponseTimeGate.computeCeilings(I)V; 23=ResponseTimeGate.blockingOf(II)I; 24=ResponseTimeGate.responseOf(III)I; 25=ResponseTimeGate.interference(III)I; 26=ResponseTimeGate.adoptResults(I)V; 27=ResponseTimeGate.time()I; 28=ResponseTimeGate.misses()I; 29=ResponseTimeGate.jobsDone(I)I; 30=ResponseTimeGate.maxResponse(I)I; 31=ResponseTimeGate.progress(I)I; 32=ResponseTimeGate.holder(I)I; 33=ResponseTimeGate.activePriority(I)I; 34=ResponseTimeGate.executeUnit(I)V; 35=ResponseTimeGate.takeResourceIfStart(I)V; 36=ResponseTimeGate.completeJob(I)V; 37=ResponseTimeGate.overlapsStaged(II)Z; 38=ResponseTimeGateL5.sameAnalysis(LResponseTimeGate;LResponseTimeGate;)Z; 39=ResponseTimeGateL5.sameSim(LResponseTimeGate;LResponseTimeGate;)Z; 40=ResponseTimeGateL5.law([I)Z -/
def LN (A : Nat → List Int32) : Prop := ∀ i, (A i).length = (A0 i).length
theorem LN_ou {A : Nat → List Int32} {j : Nat} {l : List Int32} (h : LN A) (hl : l.length = (A0 j).length) : LN (ou A j l) := len_ou h hl
theorem in_lt {A : Nat → List Int32} {k : Nat} {j n : Int32} (h : LN A) (hk : ((A0 k).length : Int) = n.toInt) (h0 : ¬ j < 0) (h1 : j < n) : inB j (A k) := inB_lt (by rw [h k]; exact hk) h0 h1
theorem z0 : ((A0 0).length : Int) = (9 : Int32).toInt := by rw [A0l_0]; rfl
theorem z1 : ((A0 1).length : Int) = (9 : Int32).toInt := by rw [A0l_1]; rfl
theorem z2 : ((A0 2).length : Int) = (9 : Int32).toInt := by rw [A0l_2]; rfl
theorem z3 : ((A0 3).length : Int) = (9 : Int32).toInt := by rw [A0l_3]; rfl
theorem z4 : ((A0 4).length : Int) = (36 : Int32).toInt := by rw [A0l_4]; rfl
theorem z5 : ((A0 5).length : Int) = (36 : Int32).toInt := by rw [A0l_5]; rfl
theorem z6 : ((A0 6).length : Int) = (9 : Int32).toInt := by rw [A0l_6]; rfl
theorem z7 : ((A0 7).length : Int) = (9 : Int32).toInt := by rw [A0l_7]; rfl
theorem z8 : ((A0 8).length : Int) = (4 : Int32).toInt := by rw [A0l_8]; rfl
theorem z9 : ((A0 9).length : Int) = (4 : Int32).toInt := by rw [A0l_9]; rfl
theorem z10 : ((A0 10).length : Int) = (4 : Int32).toInt := by rw [A0l_10]; rfl
theorem z11 : ((A0 11).length : Int) = (4 : Int32).toInt := by rw [A0l_11]; rfl
theorem z12 : ((A0 12).length : Int) = (9 : Int32).toInt := by rw [A0l_12]; rfl
theorem z13 : ((A0 13).length : Int) = (9 : Int32).toInt := by rw [A0l_13]; rfl
theorem z14 : ((A0 14).length : Int) = (9 : Int32).toInt := by rw [A0l_14]; rfl
theorem z15 : ((A0 15).length : Int) = (9 : Int32).toInt := by rw [A0l_15]; rfl
theorem z16 : ((A0 16).length : Int) = (9 : Int32).toInt := by rw [A0l_16]; rfl
theorem z17 : ((A0 17).length : Int) = (9 : Int32).toInt := by rw [A0l_17]; rfl
theorem z18 : ((A0 18).length : Int) = (9 : Int32).toInt := by rw [A0l_18]; rfl
theorem z19 : ((A0 19).length : Int) = (9 : Int32).toInt := by rw [A0l_19]; rfl
def mx (u s : Nat → Int32) : Nat → Int32 := fun i => if i = 9 ∨ i = 10 then u i else s i
def mxA (U A : Nat → List Int32) : Nat → List Int32 := fun j => if 14 ≤ j ∧ j < 20 then U j else A j
theorem mx_a (u s : Nat → Int32) (i : Nat) : mx u s i = if i = 9 ∨ i = 10 then u i else s i := rfl
theorem mxA_a (U A : Nat → List Int32) (j : Nat) : mxA U A j = if 14 ≤ j ∧ j < 20 then U j else A j := rfl
theorem ou_mx {u s : Nat → Int32} {j : Nat} {v : Int32} (h : ¬ (j = 9 ∨ j = 10)) : ou (mx u s) j v = mx u (ou s j v) := by
  funext i
  simp only [ou_a, mx_a]
  by_cases e : i = j
  · subst e; simp [h]
  · simp [e]
theorem ou_mxA {U A : Nat → List Int32} {j : Nat} {l : List Int32} (h : ¬ (14 ≤ j ∧ j < 20)) : ou (mxA U A) j l = mxA U (ou A j l) := by
  funext i
  simp only [ou_a, mxA_a]
  by_cases e : i = j
  · subst e; simp [h]
  · simp [e]
theorem i_4 : (4 : Int32).toInt = 4 := rfl
theorem i_5 : (5 : Int32).toInt = 5 := rfl
theorem i_8 : (8 : Int32).toInt = 8 := rfl
theorem i_9 : (9 : Int32).toInt = 9 := rfl
theorem i_36 : (36 : Int32).toInt = 36 := rfl
theorem i_64 : (64 : Int32).toInt = 64 := rfl
theorem i_842 : (842 : Int32).toInt = 842 := rfl
theorem i_840 : (840 : Int32).toInt = 840 := rfl
theorem i_61 : (61 : Int32).toInt = 61 := rfl
theorem lt9 {j m : Int32} (h : j < m) (hm : m.toInt ≤ 9) : j < 9 := by
  rw [lt_i] at *
  rw [i_9]
  omega
theorem idx4 {j r : Int32} (j0 : ¬ j < 0) (j1 : j < 9) (r0 : ¬ r < 0) (r1 : r < 4) : ¬ j * 4 + r < 0 ∧ j * 4 + r < 36 := by
  rw [nn_i] at *
  rw [lt_i, i_9] at j1
  rw [lt_i, i_4] at r1
  have e1 : (j * 4).toInt = j.toInt * 4 := by
    have := mul_i (a := j) (b := 4) (by rw [i_4]; omega) (by rw [i_4]; omega)
    rw [this, i_4]
  have e2 : (j * 4 + r).toInt = j.toInt * 4 + r.toInt := by
    have := add_i (a := j * 4) (b := r) (by rw [e1]; omega) (by rw [e1]; omega)
    rw [this, e1]
  rw [lt_i, e2, i_36]
  omega
theorem ne0_of {g : Int32} (h : ¬ g < 1) : ¬ g = 0 := fun e => by subst e; exact absurd h (by decide)
theorem ne0_pos {g : Int32} (h : 0 < g) : ¬ g = 0 := fun e => by subst e; exact absurd h (by decide)
abbrev GS (s : Nat → Int32) (A : Nat → List Int32) : Prop := LN A ∧ 0 ≤ (s 1).toInt ∧ (s 1).toInt ≤ 8
section Gate
variable {s : Nat → Int32} {A : Nat → List Int32}
set_option maxRecDepth 1000000 in
set_option maxHeartbeats 20000000 in
theorem g17a {a c : Int32} : ∀ (n : Nat) (k x y : Int32) (k6 : Slot), okS k6 → ¬ k < 0 → k.toInt + n = 64 → ∃ v : Int32, ∀ (b : Nat) (pre post : AHeap) (Q : Option Value → AHeap → Prop) (u : Nat → Int32) (U : Nat → List Int32), Q (some (.int v)) (put (b + 1) pre (mx u s) (mxA U A) post) → M19 8 [.val (.ref (b + 1)), .val (.int a), .val (.int c), .val (.int x), .val (.int y), .val (.int k), k6] [] (put (b + 1) pre (mx u s) (mxA U A) post) Q := by
  intro n
  induction n with
  | zero =>
    intro k x y k6 o6 h0 e
    have hge : ¬ k < 64 := by rw [lt_i, i_64]; omega
    refine ⟨x, fun b pre post Q u U hq => ?_⟩
    rw [m19_8]
    simp [hge, m19_0, m19_1u, m19_2, m19_3u, m19_5, m19_6u, m19_10, m19_12, m19_15, m19_17, m19_20, m19_23, m19_24, m19_26, m19_27u, m19_27i, m19_27r, m19_27g, m19_29, m19_31i, m19_32, m19_34i, m19_36, m19_39, m19_42, m19_43, nb0, nb1, ou_a, Option.toList_some, Option.toList_none, List.nil_append, List.cons_append, mx_a, mxA_a, ou_mx, ou_mxA]
    exact hq
  | succ n ih =>
    intro k x y k6 o6 h0 e
    have hlt : k < 64 := by rw [lt_i, i_64]; omega
    by_cases y0 : y = 0
    · refine ⟨x, fun b pre post Q u U hq => ?_⟩
      rw [m19_8]
      simp [hlt, y0, m19_0, m19_1u, m19_2, m19_3u, m19_5, m19_6u, m19_10, m19_12, m19_15, m19_17, m19_20, m19_23, m19_24, m19_26, m19_27u, m19_27i, m19_27r, m19_27g, m19_29, m19_31i, m19_32, m19_34i, m19_36, m19_39, m19_42, m19_43, nb0, nb1, ou_a, Option.toList_some, Option.toList_none, List.nil_append, List.cons_append, mx_a, mxA_a, ou_mx, ou_mxA]
      exact hq
    · obtain ⟨v, hv⟩ := ih (k + 1) y (x % y) (.val (.int (x % y))) (okS_i _) (succ_nn h0 (by omega)) (by rw [add1_i (by omega)]; omega)
      refine ⟨v, fun b pre post Q u U hq => ?_⟩
      rw [m19_8]
      simp [hlt, y0, o6, m19_0, m19_1u, m19_2, m19_3u, m19_5, m19_6u, m19_10, m19_12, m19_15, m19_17, m19_20, m19_23, m19_24, m19_26, m19_27u, m19_27i, m19_27r, m19_27g, m19_29, m19_31i, m19_32, m19_34i, m19_36, m19_39, m19_42, m19_43, nb0, nb1, ou_a, Option.toList_some, Option.toList_none, List.nil_append, List.cons_append, mx_a, mxA_a, ou_mx, ou_mxA]
      exact hv b pre post Q u U hq
theorem g17 (a c : Int32) : ∃ v : Int32, ∀ (b : Nat) (pre post : AHeap) (Q : Option Value → AHeap → Prop) (u : Nat → Int32) (U : Nat → List Int32), Q (some (.int v)) (put (b + 1) pre (mx u s) (mxA U A) post) → M19 0 [.val (.ref (b + 1)), .val (.int a), .val (.int c), .unset, .unset, .unset, .unset] [] (put (b + 1) pre (mx u s) (mxA U A) post) Q := by
  obtain ⟨v, hv⟩ := g17a (s := s) (A := A) (a := a) (c := c) 64 0 a c .unset okS_u (by decide) rfl
  refine ⟨v, fun b pre post Q u U hq => ?_⟩
  simp [m19_0, m19_1u, m19_2, m19_3u, m19_5, m19_6u, m19_10, m19_12, m19_15, m19_17, m19_20, m19_23, m19_24, m19_26, m19_27u, m19_27i, m19_27r, m19_27g, m19_29, m19_31i, m19_32, m19_34i, m19_36, m19_39, m19_42, m19_43, nb0, nb1, ou_a, Option.toList_some, Option.toList_none, List.nil_append, List.cons_append, mx_a, mxA_a, ou_mx, ou_mxA]
  exact hv b pre post Q u U hq
theorem g16 (a c : Int32) : ∃ v : Int32, ∀ (b : Nat) (pre post : AHeap) (Q : Option Value → AHeap → Prop) (u : Nat → Int32) (U : Nat → List Int32), Q (some (.int v)) (put (b + 1) pre (mx u s) (mxA U A) post) → M18 0 [.val (.ref (b + 1)), .val (.int a), .val (.int c), .unset] [] (put (b + 1) pre (mx u s) (mxA U A) post) Q := by
  by_cases b1 : a < 1
  · exact ⟨841, fun b pre post Q u U hq => by simp [b1, m18_0, m18_1, m18_2, m18_5, m18_6, m18_7, m18_10, m18_13, m18_14, m18_15, m18_16, m18_17, m18_20u, m18_21, m18_22, m18_23, m18_26, m18_29, m18_30, m18_31, m18_32, m18_33, m18_34, m18_35, nb0, nb1, ou_a, Option.toList_some, Option.toList_none, List.nil_append, List.cons_append, mx_a, mxA_a, ou_mx, ou_mxA]; exact hq⟩
  by_cases b2 : c < 1
  · exact ⟨841, fun b pre post Q u U hq => by simp [b1, b2, m18_0, m18_1, m18_2, m18_5, m18_6, m18_7, m18_10, m18_13, m18_14, m18_15, m18_16, m18_17, m18_20u, m18_21, m18_22, m18_23, m18_26, m18_29, m18_30, m18_31, m18_32, m18_33, m18_34, m18_35, nb0, nb1, ou_a, Option.toList_some, Option.toList_none, List.nil_append, List.cons_append, mx_a, mxA_a, ou_mx, ou_mxA]; exact hq⟩
  obtain ⟨g, hg⟩ := g17 (s := s) (A := A) a c
  by_cases b3 : g < 1
  · refine ⟨841, fun b pre post Q u U hq => ?_⟩
    simp [b1, b2, m18_0, m18_1, m18_2, m18_5, m18_6, m18_7, m18_10, m18_13, m18_14, m18_15, m18_16, m18_17, m18_20u, m18_21, m18_22, m18_23, m18_26, m18_29, m18_30, m18_31, m18_32, m18_33, m18_34, m18_35, nb0, nb1, ou_a, Option.toList_some, Option.toList_none, List.nil_append, List.cons_append, mx_a, mxA_a, ou_mx, ou_mxA]
    refine hg b pre post _ u U ?_
    simp [b3, m18_0, m18_1, m18_2, m18_5, m18_6, m18_7, m18_10, m18_13, m18_14, m18_15, m18_16, m18_17, m18_20u, m18_21, m18_22, m18_23, m18_26, m18_29, m18_30, m18_31, m18_32, m18_33, m18_34, m18_35, nb0, nb1, ou_a, Option.toList_some, Option.toList_none, List.nil_append, List.cons_append, mx_a, mxA_a, ou_mx, ou_mxA]
    exact hq
  · have b4 := ne0_of b3
    refine ⟨a / g * c, fun b pre post Q u U hq => ?_⟩
    simp [b1, b2, m18_0, m18_1, m18_2, m18_5, m18_6, m18_7, m18_10, m18_13, m18_14, m18_15, m18_16, m18_17, m18_20u, m18_21, m18_22, m18_23, m18_26, m18_29, m18_30, m18_31, m18_32, m18_33, m18_34, m18_35, nb0, nb1, ou_a, Option.toList_some, Option.toList_none, List.nil_append, List.cons_append, mx_a, mxA_a, ou_mx, ou_mxA]
    refine hg b pre post _ u U ?_
    simp [b3, b4, m18_0, m18_1, m18_2, m18_5, m18_6, m18_7, m18_10, m18_13, m18_14, m18_15, m18_16, m18_17, m18_20u, m18_21, m18_22, m18_23, m18_26, m18_29, m18_30, m18_31, m18_32, m18_33, m18_34, m18_35, nb0, nb1, ou_a, Option.toList_some, Option.toList_none, List.nil_append, List.cons_append, mx_a, mxA_a, ou_mx, ou_mxA]
    exact hq
set_option maxRecDepth 1000000 in
set_option maxHeartbeats 20000000 in
theorem g14a (h : LN A) (c1 : (s 1).toInt ≤ 8) {p : Int32} : ∀ (n : Nat) (i : Int32), ¬ i < 0 → i.toInt + n = (s 1).toInt → ∃ v : Int32, ∀ (b : Nat) (pre post : AHeap) (Q : Option Value → AHeap → Prop) (u : Nat → Int32) (U : Nat → List Int32), Q (some (.int v)) (put (b + 1) pre (mx u s) (mxA U A) post) → M17 2 [.val (.ref (b + 1)), .val (.int p), .val (.int i)] [] (put (b + 1) pre (mx u s) (mxA U A) post) Q := by
  intro n
  induction n with
  | zero =>
    intro i h0 e
    have hge : ¬ i < s 1 := by rw [lt_i]; omega
    refine ⟨0, fun b pre post Q u U hq => ?_⟩
    rw [m17_2]
    simp [hge, m17_0, m17_1u, m17_3, m17_4, m17_7, m17_10, m17_11, m17_14, m17_15, m17_16, m17_17, m17_20, m17_21, m17_22, m17_25, m17_28, m17_29, nb0, nb1, ou_a, Option.toList_some, Option.toList_none, List.nil_append, List.cons_append, mx_a, mxA_a, ou_mx, ou_mxA]
    exact hq
  | succ n ih =>
    intro i h0 e
    have hlt : i < s 1 := by rw [lt_i]; omega
    have k3 := in_lt h z3 h0 (lt9 hlt (by omega))
    by_cases b1 : getA (A 3) i = p
    · refine ⟨1, fun b pre post Q u U hq => ?_⟩
      rw [m17_2]
      simp [hlt, k3, b1, m17_0, m17_1u, m17_3, m17_4, m17_7, m17_10, m17_11, m17_14, m17_15, m17_16, m17_17, m17_20, m17_21, m17_22, m17_25, m17_28, m17_29, nb0, nb1, ou_a, Option.toList_some, Option.toList_none, List.nil_append, List.cons_append, mx_a, mxA_a, ou_mx, ou_mxA]
      exact hq
    · obtain ⟨v, hv⟩ := ih (i + 1) (succ_nn h0 (by omega)) (by rw [add1_i (by omega)]; omega)
      refine ⟨v, fun b pre post Q u U hq => ?_⟩
      rw [m17_2]
      simp [hlt, k3, b1, m17_0, m17_1u, m17_3, m17_4, m17_7, m17_10, m17_11, m17_14, m17_15, m17_16, m17_17, m17_20, m17_21, m17_22, m17_25, m17_28, m17_29, nb0, nb1, ou_a, Option.toList_some, Option.toList_none, List.nil_append, List.cons_append, mx_a, mxA_a, ou_mx, ou_mxA]
      exact hv b pre post Q u U hq
theorem g14 (h : GS s A) (p : Int32) : ∃ v : Int32, ∀ (b : Nat) (pre post : AHeap) (Q : Option Value → AHeap → Prop) (u : Nat → Int32) (U : Nat → List Int32), Q (some (.int v)) (put (b + 1) pre (mx u s) (mxA U A) post) → M17 0 [.val (.ref (b + 1)), .val (.int p), .unset] [] (put (b + 1) pre (mx u s) (mxA U A) post) Q := by
  have e := Int.toNat_of_nonneg h.2.1
  obtain ⟨v, hv⟩ := g14a (p := p) h.1 h.2.2 (s 1).toInt.toNat 0 (by decide) (by rw [i_0]; omega)
  refine ⟨v, fun b pre post Q u U hq => ?_⟩
  simp [m17_0, m17_1u, m17_3, m17_4, m17_7, m17_10, m17_11, m17_14, m17_15, m17_16, m17_17, m17_20, m17_21, m17_22, m17_25, m17_28, m17_29, nb0, nb1, ou_a, Option.toList_some, Option.toList_none, List.nil_append, List.cons_append, mx_a, mxA_a, ou_mx, ou_mxA]
  exact hv b pre post Q u U hq
set_option maxRecDepth 1000000 in
set_option maxHeartbeats 20000000 in
theorem g15a (h : LN A) {st ln : Int32} : ∀ (n : Nat) (r : Int32) (k4 k5 : Slot), okS k4 → okS k5 → ¬ r < 0 → r.toInt + n = 4 → ∃ v : Int32, ∀ (b : Nat) (pre post : AHeap) (Q : Option Value → AHeap → Prop) (u : Nat → Int32) (U : Nat → List Int32), Q (some (.int v)) (put (b + 1) pre (mx u s) (mxA U A) post) → M37 2 [.val (.ref (b + 1)), .val (.int st), .val (.int ln), .val (.int r), k4, k5] [] (put (b + 1) pre (mx u s) (mxA U A) post) Q := by
  intro n
  induction n with
  | zero =>
    intro r k4 k5 o4 o5 h0 e
    have hge : ¬ r < 4 := by rw [lt_i, i_4]; omega
    refine ⟨0, fun b pre post Q u U hq => ?_⟩
    rw [m37_2]
    simp [hge, m37_0, m37_1u, m37_3, m37_4, m37_7, m37_8, m37_11, m37_12, m37_13u, m37_13i, m37_13r, m37_13g, m37_15, m37_17, m37_20, m37_23, m37_24, m37_27, m37_28, m37_29u, m37_29i, m37_29r, m37_29g, m37_31, m37_32, m37_34, m37_36, m37_37, m37_40, m37_42, m37_43, m37_44, m37_45, m37_48, m37_49, m37_50, m37_53, m37_56, m37_57, nb0, nb1, ou_a, Option.toList_some, Option.toList_none, List.nil_append, List.cons_append, mx_a, mxA_a, ou_mx, ou_mxA]
    exact hq
  | succ n ih =>
    intro r k4 k5 o4 o5 h0 e
    have hlt : r < 4 := by rw [lt_i, i_4]; omega
    have q9 := in_lt h z9 h0 hlt
    have q10 := in_lt h z10 h0 hlt
    have n1 := succ_nn h0 (by omega)
    have e1 : (r + 1).toInt + n = 4 := by rw [add1_i (by omega)]; omega
    by_cases b1 : 0 < getA (A 10) r
    · by_cases b2 : st < getA (A 9) r + getA (A 10) r
      · by_cases b3 : getA (A 9) r < st + ln
        · refine ⟨1, fun b pre post Q u U hq => ?_⟩
          rw [m37_2]
          simp [hlt, q9, q10, b1, b2, b3, o4, o5, m37_0, m37_1u, m37_3, m37_4, m37_7, m37_8, m37_11, m37_12, m37_13u, m37_13i, m37_13r, m37_13g, m37_15, m37_17, m37_20, m37_23, m37_24, m37_27, m37_28, m37_29u, m37_29i, m37_29r, m37_29g, m37_31, m37_32, m37_34, m37_36, m37_37, m37_40, m37_42, m37_43, m37_44, m37_45, m37_48, m37_49, m37_50, m37_53, m37_56, m37_57, nb0, nb1, ou_a, Option.toList_some, Option.toList_none, List.nil_append, List.cons_append, mx_a, mxA_a, ou_mx, ou_mxA]
          exact hq
        · obtain ⟨v, hv⟩ := ih (r + 1) (.val (.int (getA (A 10) r))) (.val (.int (getA (A 9) r))) (okS_i _) (okS_i _) n1 e1
          refine ⟨v, fun b pre post Q u U hq => ?_⟩
          rw [m37_2]
          simp [hlt, q9, q10, b1, b2, b3, o4, o5, m37_0, m37_1u, m37_3, m37_4, m37_7, m37_8, m37_11, m37_12, m37_13u, m37_13i, m37_13r, m37_13g, m37_15, m37_17, m37_20, m37_23, m37_24, m37_27, m37_28, m37_29u, m37_29i, m37_29r, m37_29g, m37_31, m37_32, m37_34, m37_36, m37_37, m37_40, m37_42, m37_43, m37_44, m37_45, m37_48, m37_49, m37_50, m37_53, m37_56, m37_57, nb0, nb1, ou_a, Option.toList_some, Option.toList_none, List.nil_append, List.cons_append, mx_a, mxA_a, ou_mx, ou_mxA]
          exact hv b pre post Q u U hq
      · obtain ⟨v, hv⟩ := ih (r + 1) (.val (.int (getA (A 10) r))) (.val (.int (getA (A 9) r))) (okS_i _) (okS_i _) n1 e1
        refine ⟨v, fun b pre post Q u U hq => ?_⟩
        rw [m37_2]
        simp [hlt, q9, q10, b1, b2, o4, o5, m37_0, m37_1u, m37_3, m37_4, m37_7, m37_8, m37_11, m37_12, m37_13u, m37_13i, m37_13r, m37_13g, m37_15, m37_17, m37_20, m37_23, m37_24, m37_27, m37_28, m37_29u, m37_29i, m37_29r, m37_29g, m37_31, m37_32, m37_34, m37_36, m37_37, m37_40, m37_42, m37_43, m37_44, m37_45, m37_48, m37_49, m37_50, m37_53, m37_56, m37_57, nb0, nb1, ou_a, Option.toList_some, Option.toList_none, List.nil_append, List.cons_append, mx_a, mxA_a, ou_mx, ou_mxA]
        exact hv b pre post Q u U hq
    · obtain ⟨v, hv⟩ := ih (r + 1) (.val (.int (getA (A 10) r))) k5 (okS_i _) o5 n1 e1
      refine ⟨v, fun b pre post Q u U hq => ?_⟩
      rw [m37_2]
      simp [hlt, q10, b1, o4, m37_0, m37_1u, m37_3, m37_4, m37_7, m37_8, m37_11, m37_12, m37_13u, m37_13i, m37_13r, m37_13g, m37_15, m37_17, m37_20, m37_23, m37_24, m37_27, m37_28, m37_29u, m37_29i, m37_29r, m37_29g, m37_31, m37_32, m37_34, m37_36, m37_37, m37_40, m37_42, m37_43, m37_44, m37_45, m37_48, m37_49, m37_50, m37_53, m37_56, m37_57, nb0, nb1, ou_a, Option.toList_some, Option.toList_none, List.nil_append, List.cons_append, mx_a, mxA_a, ou_mx, ou_mxA]
      exact hv b pre post Q u U hq
theorem g15 (h : LN A) (st ln : Int32) : ∃ v : Int32, ∀ (b : Nat) (pre post : AHeap) (Q : Option Value → AHeap → Prop) (u : Nat → Int32) (U : Nat → List Int32), Q (some (.int v)) (put (b + 1) pre (mx u s) (mxA U A) post) → M37 0 [.val (.ref (b + 1)), .val (.int st), .val (.int ln), .unset, .unset, .unset] [] (put (b + 1) pre (mx u s) (mxA U A) post) Q := by
  obtain ⟨v, hv⟩ := g15a (s := s) (st := st) (ln := ln) h 4 0 .unset .unset okS_u okS_u (by decide) rfl
  refine ⟨v, fun b pre post Q u U hq => ?_⟩
  simp [m37_0, m37_1u, m37_3, m37_4, m37_7, m37_8, m37_11, m37_12, m37_13u, m37_13i, m37_13r, m37_13g, m37_15, m37_17, m37_20, m37_23, m37_24, m37_27, m37_28, m37_29u, m37_29i, m37_29r, m37_29g, m37_31, m37_32, m37_34, m37_36, m37_37, m37_40, m37_42, m37_43, m37_44, m37_45, m37_48, m37_49, m37_50, m37_53, m37_56, m37_57, nb0, nb1, ou_a, Option.toList_some, Option.toList_none, List.nil_append, List.cons_append, mx_a, mxA_a, ou_mx, ou_mxA]
  exact hv b pre post Q u U hq
set_option maxRecDepth 1000000 in
set_option maxHeartbeats 20000000 in
theorem g13 (h : GS s A) (p d w q : Int32) : ∃ (v : Int32) (s' : Nat → Int32) (A' : Nat → List Int32), GS s' A' ∧ ∀ (b : Nat) (pre post : AHeap) (Q : Option Value → AHeap → Prop) (u : Nat → Int32) (U : Nat → List Int32), Q (some (.int v)) (put (b + 1) pre (mx u s') (mxA U A') post) → M14 0 [.val (.ref (b + 1)), .val (.int p), .val (.int d), .val (.int w), .val (.int q), .unset] [] (put (b + 1) pre (mx u s) (mxA U A) post) Q := by
  by_cases d0 : s 1 < s 0
  · by_cases d1 : p < 1
    · exact ⟨-2, s, A, h, fun b pre post Q u U hq => by simp [d0, d1, m14_0, m14_1, m14_4, m14_5, m14_8, m14_11, m14_12, m14_13, m14_14, m14_15, m14_18, m14_19, m14_22, m14_25, m14_27, m14_28, m14_29, m14_30, m14_33, m14_34, m14_35, m14_38, m14_40, m14_41, m14_42, m14_43, m14_46, m14_47, m14_48, m14_51, m14_53, m14_54, m14_56, m14_57, m14_60, m14_62, m14_64, m14_67, m14_69, m14_70, m14_71, m14_73, m14_76, m14_79, m14_81, m14_82, m14_83, m14_84, m14_87, m14_88, m14_89, m14_92, m14_93, m14_94, m14_97, m14_98, m14_99, m14_102, m14_103, m14_105, m14_108, m14_109u, m14_111, m14_113, m14_114, m14_117, m14_118, m14_121, m14_123, m14_124, m14_125, m14_126, m14_129, m14_131, m14_132, m14_133, m14_136, m14_139, m14_140, nb0, nb1, ou_a, Option.toList_some, Option.toList_none, List.nil_append, List.cons_append, mx_a, mxA_a, ou_mx, ou_mxA]; exact hq⟩
    by_cases d2 : 840 < p
    · exact ⟨-2, s, A, h, fun b pre post Q u U hq => by simp [d0, d1, d2, m14_0, m14_1, m14_4, m14_5, m14_8, m14_11, m14_12, m14_13, m14_14, m14_15, m14_18, m14_19, m14_22, m14_25, m14_27, m14_28, m14_29, m14_30, m14_33, m14_34, m14_35, m14_38, m14_40, m14_41, m14_42, m14_43, m14_46, m14_47, m14_48, m14_51, m14_53, m14_54, m14_56, m14_57, m14_60, m14_62, m14_64, m14_67, m14_69, m14_70, m14_71, m14_73, m14_76, m14_79, m14_81, m14_82, m14_83, m14_84, m14_87, m14_88, m14_89, m14_92, m14_93, m14_94, m14_97, m14_98, m14_99, m14_102, m14_103, m14_105, m14_108, m14_109u, m14_111, m14_113, m14_114, m14_117, m14_118, m14_121, m14_123, m14_124, m14_125, m14_126, m14_129, m14_131, m14_132, m14_133, m14_136, m14_139, m14_140, nb0, nb1, ou_a, Option.toList_some, Option.toList_none, List.nil_append, List.cons_append, mx_a, mxA_a, ou_mx, ou_mxA]; exact hq⟩
    by_cases d3 : d < 1
    · exact ⟨-2, s, A, h, fun b pre post Q u U hq => by simp [d0, d1, d2, d3, m14_0, m14_1, m14_4, m14_5, m14_8, m14_11, m14_12, m14_13, m14_14, m14_15, m14_18, m14_19, m14_22, m14_25, m14_27, m14_28, m14_29, m14_30, m14_33, m14_34, m14_35, m14_38, m14_40, m14_41, m14_42, m14_43, m14_46, m14_47, m14_48, m14_51, m14_53, m14_54, m14_56, m14_57, m14_60, m14_62, m14_64, m14_67, m14_69, m14_70, m14_71, m14_73, m14_76, m14_79, m14_81, m14_82, m14_83, m14_84, m14_87, m14_88, m14_89, m14_92, m14_93, m14_94, m14_97, m14_98, m14_99, m14_102, m14_103, m14_105, m14_108, m14_109u, m14_111, m14_113, m14_114, m14_117, m14_118, m14_121, m14_123, m14_124, m14_125, m14_126, m14_129, m14_131, m14_132, m14_133, m14_136, m14_139, m14_140, nb0, nb1, ou_a, Option.toList_some, Option.toList_none, List.nil_append, List.cons_append, mx_a, mxA_a, ou_mx, ou_mxA]; exact hq⟩
    by_cases d4 : p < d
    · exact ⟨-2, s, A, h, fun b pre post Q u U hq => by simp [d0, d1, d2, d3, d4, m14_0, m14_1, m14_4, m14_5, m14_8, m14_11, m14_12, m14_13, m14_14, m14_15, m14_18, m14_19, m14_22, m14_25, m14_27, m14_28, m14_29, m14_30, m14_33, m14_34, m14_35, m14_38, m14_40, m14_41, m14_42, m14_43, m14_46, m14_47, m14_48, m14_51, m14_53, m14_54, m14_56, m14_57, m14_60, m14_62, m14_64, m14_67, m14_69, m14_70, m14_71, m14_73, m14_76, m14_79, m14_81, m14_82, m14_83, m14_84, m14_87, m14_88, m14_89, m14_92, m14_93, m14_94, m14_97, m14_98, m14_99, m14_102, m14_103, m14_105, m14_108, m14_109u, m14_111, m14_113, m14_114, m14_117, m14_118, m14_121, m14_123, m14_124, m14_125, m14_126, m14_129, m14_131, m14_132, m14_133, m14_136, m14_139, m14_140, nb0, nb1, ou_a, Option.toList_some, Option.toList_none, List.nil_append, List.cons_append, mx_a, mxA_a, ou_mx, ou_mxA]; exact hq⟩
    by_cases d5 : w < 1
    · exact ⟨-2, s, A, h, fun b pre post Q u U hq => by simp [d0, d1, d2, d3, d4, d5, m14_0, m14_1, m14_4, m14_5, m14_8, m14_11, m14_12, m14_13, m14_14, m14_15, m14_18, m14_19, m14_22, m14_25, m14_27, m14_28, m14_29, m14_30, m14_33, m14_34, m14_35, m14_38, m14_40, m14_41, m14_42, m14_43, m14_46, m14_47, m14_48, m14_51, m14_53, m14_54, m14_56, m14_57, m14_60, m14_62, m14_64, m14_67, m14_69, m14_70, m14_71, m14_73, m14_76, m14_79, m14_81, m14_82, m14_83, m14_84, m14_87, m14_88, m14_89, m14_92, m14_93, m14_94, m14_97, m14_98, m14_99, m14_102, m14_103, m14_105, m14_108, m14_109u, m14_111, m14_113, m14_114, m14_117, m14_118, m14_121, m14_123, m14_124, m14_125, m14_126, m14_129, m14_131, m14_132, m14_133, m14_136, m14_139, m14_140, nb0, nb1, ou_a, Option.toList_some, Option.toList_none, List.nil_append, List.cons_append, mx_a, mxA_a, ou_mx, ou_mxA]; exact hq⟩
    by_cases d6 : d < w
    · exact ⟨-2, s, A, h, fun b pre post Q u U hq => by simp [d0, d1, d2, d3, d4, d5, d6, m14_0, m14_1, m14_4, m14_5, m14_8, m14_11, m14_12, m14_13, m14_14, m14_15, m14_18, m14_19, m14_22, m14_25, m14_27, m14_28, m14_29, m14_30, m14_33, m14_34, m14_35, m14_38, m14_40, m14_41, m14_42, m14_43, m14_46, m14_47, m14_48, m14_51, m14_53, m14_54, m14_56, m14_57, m14_60, m14_62, m14_64, m14_67, m14_69, m14_70, m14_71, m14_73, m14_76, m14_79, m14_81, m14_82, m14_83, m14_84, m14_87, m14_88, m14_89, m14_92, m14_93, m14_94, m14_97, m14_98, m14_99, m14_102, m14_103, m14_105, m14_108, m14_109u, m14_111, m14_113, m14_114, m14_117, m14_118, m14_121, m14_123, m14_124, m14_125, m14_126, m14_129, m14_131, m14_132, m14_133, m14_136, m14_139, m14_140, nb0, nb1, ou_a, Option.toList_some, Option.toList_none, List.nil_append, List.cons_append, mx_a, mxA_a, ou_mx, ou_mxA]; exact hq⟩
    by_cases d7 : q < 1
    · exact ⟨-3, s, A, h, fun b pre post Q u U hq => by simp [d0, d1, d2, d3, d4, d5, d6, d7, m14_0, m14_1, m14_4, m14_5, m14_8, m14_11, m14_12, m14_13, m14_14, m14_15, m14_18, m14_19, m14_22, m14_25, m14_27, m14_28, m14_29, m14_30, m14_33, m14_34, m14_35, m14_38, m14_40, m14_41, m14_42, m14_43, m14_46, m14_47, m14_48, m14_51, m14_53, m14_54, m14_56, m14_57, m14_60, m14_62, m14_64, m14_67, m14_69, m14_70, m14_71, m14_73, m14_76, m14_79, m14_81, m14_82, m14_83, m14_84, m14_87, m14_88, m14_89, m14_92, m14_93, m14_94, m14_97, m14_98, m14_99, m14_102, m14_103, m14_105, m14_108, m14_109u, m14_111, m14_113, m14_114, m14_117, m14_118, m14_121, m14_123, m14_124, m14_125, m14_126, m14_129, m14_131, m14_132, m14_133, m14_136, m14_139, m14_140, nb0, nb1, ou_a, Option.toList_some, Option.toList_none, List.nil_append, List.cons_append, mx_a, mxA_a, ou_mx, ou_mxA]; exact hq⟩
    by_cases d8 : 63 < q
    · exact ⟨-3, s, A, h, fun b pre post Q u U hq => by simp [d0, d1, d2, d3, d4, d5, d6, d7, d8, m14_0, m14_1, m14_4, m14_5, m14_8, m14_11, m14_12, m14_13, m14_14, m14_15, m14_18, m14_19, m14_22, m14_25, m14_27, m14_28, m14_29, m14_30, m14_33, m14_34, m14_35, m14_38, m14_40, m14_41, m14_42, m14_43, m14_46, m14_47, m14_48, m14_51, m14_53, m14_54, m14_56, m14_57, m14_60, m14_62, m14_64, m14_67, m14_69, m14_70, m14_71, m14_73, m14_76, m14_79, m14_81, m14_82, m14_83, m14_84, m14_87, m14_88, m14_89, m14_92, m14_93, m14_94, m14_97, m14_98, m14_99, m14_102, m14_103, m14_105, m14_108, m14_109u, m14_111, m14_113, m14_114, m14_117, m14_118, m14_121, m14_123, m14_124, m14_125, m14_126, m14_129, m14_131, m14_132, m14_133, m14_136, m14_139, m14_140, nb0, nb1, ou_a, Option.toList_some, Option.toList_none, List.nil_append, List.cons_append, mx_a, mxA_a, ou_mx, ou_mxA]; exact hq⟩
    obtain ⟨v, hv⟩ := g14 h q
    by_cases v0 : v = 0
    · have y9 : (A 9).length = 4 := (h.1 9).trans A0l_9
      have y10 : (A 10).length = 4 := (h.1 10).trans A0l_10
      refine ⟨0, ?_⟩
      apply Exists.intro
      apply Exists.intro
      refine ⟨?_, fun b pre post Q u U hq => ?_⟩
      rotate_left 1
      · simp [d0, d1, d2, d3, d4, d5, d6, d7, d8, m14_0, m14_1, m14_4, m14_5, m14_8, m14_11, m14_12, m14_13, m14_14, m14_15, m14_18, m14_19, m14_22, m14_25, m14_27, m14_28, m14_29, m14_30, m14_33, m14_34, m14_35, m14_38, m14_40, m14_41, m14_42, m14_43, m14_46, m14_47, m14_48, m14_51, m14_53, m14_54, m14_56, m14_57, m14_60, m14_62, m14_64, m14_67, m14_69, m14_70, m14_71, m14_73, m14_76, m14_79, m14_81, m14_82, m14_83, m14_84, m14_87, m14_88, m14_89, m14_92, m14_93, m14_94, m14_97, m14_98, m14_99, m14_102, m14_103, m14_105, m14_108, m14_109u, m14_111, m14_113, m14_114, m14_117, m14_118, m14_121, m14_123, m14_124, m14_125, m14_126, m14_129, m14_131, m14_132, m14_133, m14_136, m14_139, m14_140, nb0, nb1, ou_a, Option.toList_some, Option.toList_none, List.nil_append, List.cons_append, mx_a, mxA_a, ou_mx, ou_mxA]
        refine hv b pre post _ u U ?_
        simp [v0, inB_iff, setA_len, y9, y10, m14_0, m14_1, m14_4, m14_5, m14_8, m14_11, m14_12, m14_13, m14_14, m14_15, m14_18, m14_19, m14_22, m14_25, m14_27, m14_28, m14_29, m14_30, m14_33, m14_34, m14_35, m14_38, m14_40, m14_41, m14_42, m14_43, m14_46, m14_47, m14_48, m14_51, m14_53, m14_54, m14_56, m14_57, m14_60, m14_62, m14_64, m14_67, m14_69, m14_70, m14_71, m14_73, m14_76, m14_79, m14_81, m14_82, m14_83, m14_84, m14_87, m14_88, m14_89, m14_92, m14_93, m14_94, m14_97, m14_98, m14_99, m14_102, m14_103, m14_105, m14_108, m14_109u, m14_111, m14_113, m14_114, m14_117, m14_118, m14_121, m14_123, m14_124, m14_125, m14_126, m14_129, m14_131, m14_132, m14_133, m14_136, m14_139, m14_140, nb0, nb1, ou_a, Option.toList_some, Option.toList_none, List.nil_append, List.cons_append, mx_a, mxA_a, ou_mx, ou_mxA]
        exact hq
      · refine ⟨?_, h.2.1, h.2.2⟩
        have h := h.1
        exact (by (repeat refine LN_ou ?_ (by simp only [setA_len]; exact h _)); exact h)
    · refine ⟨-3, s, A, h, fun b pre post Q u U hq => ?_⟩
      simp [d0, d1, d2, d3, d4, d5, d6, d7, d8, m14_0, m14_1, m14_4, m14_5, m14_8, m14_11, m14_12, m14_13, m14_14, m14_15, m14_18, m14_19, m14_22, m14_25, m14_27, m14_28, m14_29, m14_30, m14_33, m14_34, m14_35, m14_38, m14_40, m14_41, m14_42, m14_43, m14_46, m14_47, m14_48, m14_51, m14_53, m14_54, m14_56, m14_57, m14_60, m14_62, m14_64, m14_67, m14_69, m14_70, m14_71, m14_73, m14_76, m14_79, m14_81, m14_82, m14_83, m14_84, m14_87, m14_88, m14_89, m14_92, m14_93, m14_94, m14_97, m14_98, m14_99, m14_102, m14_103, m14_105, m14_108, m14_109u, m14_111, m14_113, m14_114, m14_117, m14_118, m14_121, m14_123, m14_124, m14_125, m14_126, m14_129, m14_131, m14_132, m14_133, m14_136, m14_139, m14_140, nb0, nb1, ou_a, Option.toList_some, Option.toList_none, List.nil_append, List.cons_append, mx_a, mxA_a, ou_mx, ou_mxA]
      refine hv b pre post _ u U ?_
      simp [v0, m14_0, m14_1, m14_4, m14_5, m14_8, m14_11, m14_12, m14_13, m14_14, m14_15, m14_18, m14_19, m14_22, m14_25, m14_27, m14_28, m14_29, m14_30, m14_33, m14_34, m14_35, m14_38, m14_40, m14_41, m14_42, m14_43, m14_46, m14_47, m14_48, m14_51, m14_53, m14_54, m14_56, m14_57, m14_60, m14_62, m14_64, m14_67, m14_69, m14_70, m14_71, m14_73, m14_76, m14_79, m14_81, m14_82, m14_83, m14_84, m14_87, m14_88, m14_89, m14_92, m14_93, m14_94, m14_97, m14_98, m14_99, m14_102, m14_103, m14_105, m14_108, m14_109u, m14_111, m14_113, m14_114, m14_117, m14_118, m14_121, m14_123, m14_124, m14_125, m14_126, m14_129, m14_131, m14_132, m14_133, m14_136, m14_139, m14_140, nb0, nb1, ou_a, Option.toList_some, Option.toList_none, List.nil_append, List.cons_append, mx_a, mxA_a, ou_mx, ou_mxA]
      exact hq
  · exact ⟨-1, s, A, h, fun b pre post Q u U hq => by simp [d0, m14_0, m14_1, m14_4, m14_5, m14_8, m14_11, m14_12, m14_13, m14_14, m14_15, m14_18, m14_19, m14_22, m14_25, m14_27, m14_28, m14_29, m14_30, m14_33, m14_34, m14_35, m14_38, m14_40, m14_41, m14_42, m14_43, m14_46, m14_47, m14_48, m14_51, m14_53, m14_54, m14_56, m14_57, m14_60, m14_62, m14_64, m14_67, m14_69, m14_70, m14_71, m14_73, m14_76, m14_79, m14_81, m14_82, m14_83, m14_84, m14_87, m14_88, m14_89, m14_92, m14_93, m14_94, m14_97, m14_98, m14_99, m14_102, m14_103, m14_105, m14_108, m14_109u, m14_111, m14_113, m14_114, m14_117, m14_118, m14_121, m14_123, m14_124, m14_125, m14_126, m14_129, m14_131, m14_132, m14_133, m14_136, m14_139, m14_140, nb0, nb1, ou_a, Option.toList_some, Option.toList_none, List.nil_append, List.cons_append, mx_a, mxA_a, ou_mx, ou_mxA]; exact hq⟩
set_option maxRecDepth 1000000 in
set_option maxHeartbeats 20000000 in
theorem g12 (h : GS s A) (r st ln : Int32) : ∃ (v : Int32) (s' : Nat → Int32) (A' : Nat → List Int32), GS s' A' ∧ ∀ (b : Nat) (pre post : AHeap) (Q : Option Value → AHeap → Prop) (u : Nat → Int32) (U : Nat → List Int32), Q (some (.int v)) (put (b + 1) pre (mx u s') (mxA U A') post) → M16 0 [.val (.ref (b + 1)), .val (.int r), .val (.int st), .val (.int ln)] [] (put (b + 1) pre (mx u s) (mxA U A) post) Q := by
  by_cases f0 : s 4 = 0
  · exact ⟨-4, s, A, h, fun b pre post Q u U hq => by simp [f0, m16_0, m16_1, m16_4, m16_7, m16_9, m16_10, m16_11, m16_14, m16_15, m16_16, m16_19, m16_21, m16_22, m16_23, m16_26, m16_27, m16_28, m16_31, m16_33, m16_34, m16_35, m16_36, m16_39, m16_42, m16_43, m16_44, m16_47, m16_48, m16_49, m16_52, m16_54, m16_55, m16_56, m16_59, m16_60, m16_61, m16_64, m16_66, m16_67, m16_68, m16_69, m16_70, m16_73, m16_76, m16_78, m16_79, m16_80, m16_83, m16_84, m16_85, m16_86, m16_87, m16_90, m16_91, m16_92, m16_93, m16_94, nb0, nb1, ou_a, Option.toList_some, Option.toList_none, List.nil_append, List.cons_append, mx_a, mxA_a, ou_mx, ou_mxA]; exact hq⟩
  by_cases f1 : r < 0
  · exact ⟨-2, s, A, h, fun b pre post Q u U hq => by simp [f0, f1, m16_0, m16_1, m16_4, m16_7, m16_9, m16_10, m16_11, m16_14, m16_15, m16_16, m16_19, m16_21, m16_22, m16_23, m16_26, m16_27, m16_28, m16_31, m16_33, m16_34, m16_35, m16_36, m16_39, m16_42, m16_43, m16_44, m16_47, m16_48, m16_49, m16_52, m16_54, m16_55, m16_56, m16_59, m16_60, m16_61, m16_64, m16_66, m16_67, m16_68, m16_69, m16_70, m16_73, m16_76, m16_78, m16_79, m16_80, m16_83, m16_84, m16_85, m16_86, m16_87, m16_90, m16_91, m16_92, m16_93, m16_94, nb0, nb1, ou_a, Option.toList_some, Option.toList_none, List.nil_append, List.cons_append, mx_a, mxA_a, ou_mx, ou_mxA]; exact hq⟩
  by_cases f2 : r < 4
  · by_cases f3 : st < 0
    · exact ⟨-2, s, A, h, fun b pre post Q u U hq => by simp [f0, f1, f2, f3, m16_0, m16_1, m16_4, m16_7, m16_9, m16_10, m16_11, m16_14, m16_15, m16_16, m16_19, m16_21, m16_22, m16_23, m16_26, m16_27, m16_28, m16_31, m16_33, m16_34, m16_35, m16_36, m16_39, m16_42, m16_43, m16_44, m16_47, m16_48, m16_49, m16_52, m16_54, m16_55, m16_56, m16_59, m16_60, m16_61, m16_64, m16_66, m16_67, m16_68, m16_69, m16_70, m16_73, m16_76, m16_78, m16_79, m16_80, m16_83, m16_84, m16_85, m16_86, m16_87, m16_90, m16_91, m16_92, m16_93, m16_94, nb0, nb1, ou_a, Option.toList_some, Option.toList_none, List.nil_append, List.cons_append, mx_a, mxA_a, ou_mx, ou_mxA]; exact hq⟩
    by_cases f4 : ln < 1
    · exact ⟨-2, s, A, h, fun b pre post Q u U hq => by simp [f0, f1, f2, f3, f4, m16_0, m16_1, m16_4, m16_7, m16_9, m16_10, m16_11, m16_14, m16_15, m16_16, m16_19, m16_21, m16_22, m16_23, m16_26, m16_27, m16_28, m16_31, m16_33, m16_34, m16_35, m16_36, m16_39, m16_42, m16_43, m16_44, m16_47, m16_48, m16_49, m16_52, m16_54, m16_55, m16_56, m16_59, m16_60, m16_61, m16_64, m16_66, m16_67, m16_68, m16_69, m16_70, m16_73, m16_76, m16_78, m16_79, m16_80, m16_83, m16_84, m16_85, m16_86, m16_87, m16_90, m16_91, m16_92, m16_93, m16_94, nb0, nb1, ou_a, Option.toList_some, Option.toList_none, List.nil_append, List.cons_append, mx_a, mxA_a, ou_mx, ou_mxA]; exact hq⟩
    by_cases f5 : s 7 < st
    · exact ⟨-2, s, A, h, fun b pre post Q u U hq => by simp [f0, f1, f2, f3, f4, f5, m16_0, m16_1, m16_4, m16_7, m16_9, m16_10, m16_11, m16_14, m16_15, m16_16, m16_19, m16_21, m16_22, m16_23, m16_26, m16_27, m16_28, m16_31, m16_33, m16_34, m16_35, m16_36, m16_39, m16_42, m16_43, m16_44, m16_47, m16_48, m16_49, m16_52, m16_54, m16_55, m16_56, m16_59, m16_60, m16_61, m16_64, m16_66, m16_67, m16_68, m16_69, m16_70, m16_73, m16_76, m16_78, m16_79, m16_80, m16_83, m16_84, m16_85, m16_86, m16_87, m16_90, m16_91, m16_92, m16_93, m16_94, nb0, nb1, ou_a, Option.toList_some, Option.toList_none, List.nil_append, List.cons_append, mx_a, mxA_a, ou_mx, ou_mxA]; exact hq⟩
    by_cases f6 : s 7 - st < ln
    · exact ⟨-2, s, A, h, fun b pre post Q u U hq => by simp [f0, f1, f2, f3, f4, f5, f6, m16_0, m16_1, m16_4, m16_7, m16_9, m16_10, m16_11, m16_14, m16_15, m16_16, m16_19, m16_21, m16_22, m16_23, m16_26, m16_27, m16_28, m16_31, m16_33, m16_34, m16_35, m16_36, m16_39, m16_42, m16_43, m16_44, m16_47, m16_48, m16_49, m16_52, m16_54, m16_55, m16_56, m16_59, m16_60, m16_61, m16_64, m16_66, m16_67, m16_68, m16_69, m16_70, m16_73, m16_76, m16_78, m16_79, m16_80, m16_83, m16_84, m16_85, m16_86, m16_87, m16_90, m16_91, m16_92, m16_93, m16_94, nb0, nb1, ou_a, Option.toList_some, Option.toList_none, List.nil_append, List.cons_append, mx_a, mxA_a, ou_mx, ou_mxA]; exact hq⟩
    have q9 := in_lt h.1 z9 f1 f2
    have q10 := in_lt h.1 z10 f1 f2
    by_cases f7 : 0 < getA (A 10) r
    · exact ⟨-5, s, A, h, fun b pre post Q u U hq => by simp [f0, f1, f2, f3, f4, f5, f6, f7, q10, m16_0, m16_1, m16_4, m16_7, m16_9, m16_10, m16_11, m16_14, m16_15, m16_16, m16_19, m16_21, m16_22, m16_23, m16_26, m16_27, m16_28, m16_31, m16_33, m16_34, m16_35, m16_36, m16_39, m16_42, m16_43, m16_44, m16_47, m16_48, m16_49, m16_52, m16_54, m16_55, m16_56, m16_59, m16_60, m16_61, m16_64, m16_66, m16_67, m16_68, m16_69, m16_70, m16_73, m16_76, m16_78, m16_79, m16_80, m16_83, m16_84, m16_85, m16_86, m16_87, m16_90, m16_91, m16_92, m16_93, m16_94, nb0, nb1, ou_a, Option.toList_some, Option.toList_none, List.nil_append, List.cons_append, mx_a, mxA_a, ou_mx, ou_mxA]; exact hq⟩
    obtain ⟨v, hv⟩ := g15 (s := s) h.1 st ln
    by_cases v0 : v = 0
    · refine ⟨0, ?_⟩
      apply Exists.intro
      apply Exists.intro
      refine ⟨?_, fun b pre post Q u U hq => ?_⟩
      rotate_left 1
      · simp [f0, f1, f2, f3, f4, f5, f6, f7, q10, m16_0, m16_1, m16_4, m16_7, m16_9, m16_10, m16_11, m16_14, m16_15, m16_16, m16_19, m16_21, m16_22, m16_23, m16_26, m16_27, m16_28, m16_31, m16_33, m16_34, m16_35, m16_36, m16_39, m16_42, m16_43, m16_44, m16_47, m16_48, m16_49, m16_52, m16_54, m16_55, m16_56, m16_59, m16_60, m16_61, m16_64, m16_66, m16_67, m16_68, m16_69, m16_70, m16_73, m16_76, m16_78, m16_79, m16_80, m16_83, m16_84, m16_85, m16_86, m16_87, m16_90, m16_91, m16_92, m16_93, m16_94, nb0, nb1, ou_a, Option.toList_some, Option.toList_none, List.nil_append, List.cons_append, mx_a, mxA_a, ou_mx, ou_mxA]
        refine hv b pre post _ u U ?_
        simp [v0, q9, q10, m16_0, m16_1, m16_4, m16_7, m16_9, m16_10, m16_11, m16_14, m16_15, m16_16, m16_19, m16_21, m16_22, m16_23, m16_26, m16_27, m16_28, m16_31, m16_33, m16_34, m16_35, m16_36, m16_39, m16_42, m16_43, m16_44, m16_47, m16_48, m16_49, m16_52, m16_54, m16_55, m16_56, m16_59, m16_60, m16_61, m16_64, m16_66, m16_67, m16_68, m16_69, m16_70, m16_73, m16_76, m16_78, m16_79, m16_80, m16_83, m16_84, m16_85, m16_86, m16_87, m16_90, m16_91, m16_92, m16_93, m16_94, nb0, nb1, ou_a, Option.toList_some, Option.toList_none, List.nil_append, List.cons_append, mx_a, mxA_a, ou_mx, ou_mxA]
        exact hq
      · refine ⟨?_, h.2.1, h.2.2⟩
        have h := h.1
        exact (by (repeat refine LN_ou ?_ (by simp only [setA_len]; exact h _)); exact h)
    · refine ⟨-5, s, A, h, fun b pre post Q u U hq => ?_⟩
      simp [f0, f1, f2, f3, f4, f5, f6, f7, q10, m16_0, m16_1, m16_4, m16_7, m16_9, m16_10, m16_11, m16_14, m16_15, m16_16, m16_19, m16_21, m16_22, m16_23, m16_26, m16_27, m16_28, m16_31, m16_33, m16_34, m16_35, m16_36, m16_39, m16_42, m16_43, m16_44, m16_47, m16_48, m16_49, m16_52, m16_54, m16_55, m16_56, m16_59, m16_60, m16_61, m16_64, m16_66, m16_67, m16_68, m16_69, m16_70, m16_73, m16_76, m16_78, m16_79, m16_80, m16_83, m16_84, m16_85, m16_86, m16_87, m16_90, m16_91, m16_92, m16_93, m16_94, nb0, nb1, ou_a, Option.toList_some, Option.toList_none, List.nil_append, List.cons_append, mx_a, mxA_a, ou_mx, ou_mxA]
      refine hv b pre post _ u U ?_
      simp [v0, m16_0, m16_1, m16_4, m16_7, m16_9, m16_10, m16_11, m16_14, m16_15, m16_16, m16_19, m16_21, m16_22, m16_23, m16_26, m16_27, m16_28, m16_31, m16_33, m16_34, m16_35, m16_36, m16_39, m16_42, m16_43, m16_44, m16_47, m16_48, m16_49, m16_52, m16_54, m16_55, m16_56, m16_59, m16_60, m16_61, m16_64, m16_66, m16_67, m16_68, m16_69, m16_70, m16_73, m16_76, m16_78, m16_79, m16_80, m16_83, m16_84, m16_85, m16_86, m16_87, m16_90, m16_91, m16_92, m16_93, m16_94, nb0, nb1, ou_a, Option.toList_some, Option.toList_none, List.nil_append, List.cons_append, mx_a, mxA_a, ou_mx, ou_mxA]
      exact hq
  · exact ⟨-2, s, A, h, fun b pre post Q u U hq => by simp [f0, f1, f2, m16_0, m16_1, m16_4, m16_7, m16_9, m16_10, m16_11, m16_14, m16_15, m16_16, m16_19, m16_21, m16_22, m16_23, m16_26, m16_27, m16_28, m16_31, m16_33, m16_34, m16_35, m16_36, m16_39, m16_42, m16_43, m16_44, m16_47, m16_48, m16_49, m16_52, m16_54, m16_55, m16_56, m16_59, m16_60, m16_61, m16_64, m16_66, m16_67, m16_68, m16_69, m16_70, m16_73, m16_76, m16_78, m16_79, m16_80, m16_83, m16_84, m16_85, m16_86, m16_87, m16_90, m16_91, m16_92, m16_93, m16_94, nb0, nb1, ou_a, Option.toList_some, Option.toList_none, List.nil_append, List.cons_append, mx_a, mxA_a, ou_mx, ou_mxA]; exact hq⟩
set_option maxRecDepth 1000000 in
set_option maxHeartbeats 20000000 in
theorem g18 (h : GS s A) (n : Int32) (n0 : ¬ n < 0) (n1 : n < 9) : ∃ (s' : Nat → Int32) (A' : Nat → List Int32), GS s' A' ∧ ∀ (b : Nat) (pre post : AHeap) (Q : Option Value → AHeap → Prop) (u : Nat → Int32) (U : Nat → List Int32), Q none (put (b + 1) pre (mx u s') (mxA U A') post) → M20 0 [.val (.ref (b + 1)), .val (.int n), .unset] [] (put (b + 1) pre (mx u s) (mxA U A) post) Q := by
  have a0 := in_lt h.1 z0 n0 n1
  have a1 := in_lt h.1 z1 n0 n1
  have a2 := in_lt h.1 z2 n0 n1
  have a3 := in_lt h.1 z3 n0 n1
  have x0 := idx4 n0 n1 (r := 0) (by decide) (by decide)
  have x1 := idx4 n0 n1 (r := 1) (by decide) (by decide)
  have x2 := idx4 n0 n1 (r := 2) (by decide) (by decide)
  have x3 := idx4 n0 n1 (r := 3) (by decide) (by decide)
  rw [Int32.add_zero] at x0
  have s0 := in_lt h.1 z4 x0.1 x0.2
  have s1 := in_lt h.1 z4 x1.1 x1.2
  have s2 := in_lt h.1 z4 x2.1 x2.2
  have s3 := in_lt h.1 z4 x3.1 x3.2
  have u0 := in_lt h.1 z5 x0.1 x0.2
  have u1 := in_lt h.1 z5 x1.1 x1.2
  have u2 := in_lt h.1 z5 x2.1 x2.2
  have u3 := in_lt h.1 z5 x3.1 x3.2
  have p0 : inB 0 (A 9) := in_lt h.1 z9 (by decide) (by decide)
  have p1 : inB 1 (A 9) := in_lt h.1 z9 (by decide) (by decide)
  have p2 : inB 2 (A 9) := in_lt h.1 z9 (by decide) (by decide)
  have p3 : inB 3 (A 9) := in_lt h.1 z9 (by decide) (by decide)
  have r0 : inB 0 (A 10) := in_lt h.1 z10 (by decide) (by decide)
  have r1 : inB 1 (A 10) := in_lt h.1 z10 (by decide) (by decide)
  have r2 : inB 2 (A 10) := in_lt h.1 z10 (by decide) (by decide)
  have r3 : inB 3 (A 10) := in_lt h.1 z10 (by decide) (by decide)
  apply Exists.intro
  apply Exists.intro
  refine ⟨?_, fun b pre post Q u U hq => ?_⟩
  rotate_left 1
  · simp [inB_set, a0, a1, a2, a3, s0, s1, s2, s3, u0, u1, u2, u3, p0, p1, p2, p3, r0, r1, r2, r3, m20_0, m20_1, m20_4, m20_5, m20_6, m20_9, m20_10, m20_11, m20_14, m20_15, m20_16, m20_19, m20_20, m20_21, m20_24, m20_25, m20_26, m20_29, m20_30, m20_31, m20_34, m20_35, m20_36, m20_39, m20_40, m20_41u, m20_42, m20_43, m20_44, m20_47, m20_48, m20_51, m20_52, m20_53, m20_54, m20_55, m20_56, m20_57, m20_60, m20_61, m20_62, m20_63, m20_64, m20_67, m20_68, m20_69, m20_70, m20_71, m20_72, m20_73, m20_76, m20_77, m20_78, m20_79, m20_82, m20_85, nb0, nb1, ou_a, Option.toList_some, Option.toList_none, List.nil_append, List.cons_append, mx_a, mxA_a, ou_mx, ou_mxA]
    exact hq
  · refine ⟨?_, h.2.1, h.2.2⟩
    have h := h.1
    exact (by (repeat refine LN_ou ?_ (by simp only [setA_len]; exact h _)); exact h)
set_option maxRecDepth 1000000 in
set_option maxHeartbeats 20000000 in
theorem g20a (h : LN A) {m r : Int32} (m1 : m.toInt ≤ 9) (r0 : ¬ r < 0) (r1 : r < 4) : ∀ (n : Nat) (j c : Int32), ¬ j < 0 → j.toInt + n = m.toInt → ∃ c' : Int32, ∀ (b : Nat) (pre post : AHeap) (Q : Option Value → AHeap → Prop) (u : Nat → Int32) (U : Nat → List Int32), M22 57 [.val (.ref (b + 1)), .val (.int m), .val (.int r), .val (.int c'), .val (.int m)] [] (put (b + 1) pre (mx u s) (mxA U A) post) Q → M22 12 [.val (.ref (b + 1)), .val (.int m), .val (.int r), .val (.int c), .val (.int j)] [] (put (b + 1) pre (mx u s) (mxA U A) post) Q := by
  intro n
  induction n with
  | zero =>
    intro j c h0 e
    have hj : j = m := Int32.toInt_inj.mp (by omega)
    subst hj
    refine ⟨c, fun b pre post Q u U hq => ?_⟩
    rw [m22_12]
    simp [lt_irr, m22_0, m22_1u, m22_3, m22_4, m22_7, m22_8u, m22_8i, m22_8r, m22_8g, m22_9, m22_10u, m22_10i, m22_10r, m22_10g, m22_14, m22_15, m22_18, m22_19, m22_22, m22_24, m22_25, m22_26, m22_27, m22_28, m22_29, m22_32, m22_33, m22_36, m22_38, m22_39, m22_40, m22_43, m22_44, m22_47, m22_49, m22_50i, m22_51, m22_54, m22_58, m22_61, m22_62, m22_63, m22_64, m22_67, m22_70, nb0, nb1, ou_a, Option.toList_some, Option.toList_none, List.nil_append, List.cons_append, mx_a, mxA_a, ou_mx, ou_mxA]
    exact hq
  | succ n ih =>
    intro j c h0 e
    have hlt : j < m := by rw [lt_i]; omega
    have j9 := lt9 hlt m1
    have x := idx4 h0 j9 r0 r1
    have k5 := in_lt h z5 x.1 x.2
    have k3 := in_lt h z3 h0 j9
    have n1 := succ_nn h0 (by omega)
    have e1 : (j + 1).toInt + n = m.toInt := by rw [add1_i (by omega)]; omega
    by_cases b1 : 0 < getA (A 5) (j * 4 + r)
    · by_cases b2 : c < getA (A 3) j
      · obtain ⟨v, hv⟩ := ih (j + 1) (getA (A 3) j) n1 e1
        refine ⟨v, fun b pre post Q u U hq => ?_⟩
        rw [m22_12]
        simp [hlt, k3, k5, b1, b2, m22_0, m22_1u, m22_3, m22_4, m22_7, m22_8u, m22_8i, m22_8r, m22_8g, m22_9, m22_10u, m22_10i, m22_10r, m22_10g, m22_14, m22_15, m22_18, m22_19, m22_22, m22_24, m22_25, m22_26, m22_27, m22_28, m22_29, m22_32, m22_33, m22_36, m22_38, m22_39, m22_40, m22_43, m22_44, m22_47, m22_49, m22_50i, m22_51, m22_54, m22_58, m22_61, m22_62, m22_63, m22_64, m22_67, m22_70, nb0, nb1, ou_a, Option.toList_some, Option.toList_none, List.nil_append, List.cons_append, mx_a, mxA_a, ou_mx, ou_mxA]
        exact hv b pre post Q u U hq
      · obtain ⟨v, hv⟩ := ih (j + 1) c n1 e1
        refine ⟨v, fun b pre post Q u U hq => ?_⟩
        rw [m22_12]
        simp [hlt, k3, k5, b1, b2, m22_0, m22_1u, m22_3, m22_4, m22_7, m22_8u, m22_8i, m22_8r, m22_8g, m22_9, m22_10u, m22_10i, m22_10r, m22_10g, m22_14, m22_15, m22_18, m22_19, m22_22, m22_24, m22_25, m22_26, m22_27, m22_28, m22_29, m22_32, m22_33, m22_36, m22_38, m22_39, m22_40, m22_43, m22_44, m22_47, m22_49, m22_50i, m22_51, m22_54, m22_58, m22_61, m22_62, m22_63, m22_64, m22_67, m22_70, nb0, nb1, ou_a, Option.toList_some, Option.toList_none, List.nil_append, List.cons_append, mx_a, mxA_a, ou_mx, ou_mxA]
        exact hv b pre post Q u U hq
    · obtain ⟨v, hv⟩ := ih (j + 1) c n1 e1
      refine ⟨v, fun b pre post Q u U hq => ?_⟩
      rw [m22_12]
      simp [hlt, k5, b1, m22_0, m22_1u, m22_3, m22_4, m22_7, m22_8u, m22_8i, m22_8r, m22_8g, m22_9, m22_10u, m22_10i, m22_10r, m22_10g, m22_14, m22_15, m22_18, m22_19, m22_22, m22_24, m22_25, m22_26, m22_27, m22_28, m22_29, m22_32, m22_33, m22_36, m22_38, m22_39, m22_40, m22_43, m22_44, m22_47, m22_49, m22_50i, m22_51, m22_54, m22_58, m22_61, m22_62, m22_63, m22_64, m22_67, m22_70, nb0, nb1, ou_a, Option.toList_some, Option.toList_none, List.nil_append, List.cons_append, mx_a, mxA_a, ou_mx, ou_mxA]
      exact hv b pre post Q u U hq
set_option maxRecDepth 1000000 in
set_option maxHeartbeats 20000000 in
theorem g20b {m : Int32} (m0 : 0 ≤ m.toInt) (m1 : m.toInt ≤ 9) : ∀ (n : Nat) (r : Int32) (k3 k4 : Slot) (A : Nat → List Int32), GS s A → okS k3 → okS k4 → ¬ r < 0 → r.toInt + n = 4 → ∃ (s' : Nat → Int32) (A' : Nat → List Int32), GS s' A' ∧ ∀ (b : Nat) (pre post : AHeap) (Q : Option Value → AHeap → Prop) (u : Nat → Int32) (U : Nat → List Int32), Q none (put (b + 1) pre (mx u s') (mxA U A') post) → M22 2 [.val (.ref (b + 1)), .val (.int m), .val (.int r), k3, k4] [] (put (b + 1) pre (mx u s) (mxA U A) post) Q := by
  intro n
  have em := Int.toNat_of_nonneg m0
  induction n with
  | zero =>
    intro r k3 k4 A h o3 o4 h0 e
    have hge : ¬ r < 4 := by rw [lt_i, i_4]; omega
    refine ⟨s, A, h, fun b pre post Q u U hq => ?_⟩
    rw [m22_2]
    simp [hge, m22_0, m22_1u, m22_3, m22_4, m22_7, m22_8u, m22_8i, m22_8r, m22_8g, m22_9, m22_10u, m22_10i, m22_10r, m22_10g, m22_14, m22_15, m22_18, m22_19, m22_22, m22_24, m22_25, m22_26, m22_27, m22_28, m22_29, m22_32, m22_33, m22_36, m22_38, m22_39, m22_40, m22_43, m22_44, m22_47, m22_49, m22_50i, m22_51, m22_54, m22_57, m22_58, m22_61, m22_62, m22_63, m22_64, m22_67, m22_70, nb0, nb1, ou_a, Option.toList_some, Option.toList_none, List.nil_append, List.cons_append, mx_a, mxA_a, ou_mx, ou_mxA]
    exact hq
  | succ n ih =>
    intro r k3 k4 A h o3 o4 h0 e
    have hlt : r < 4 := by rw [lt_i, i_4]; omega
    obtain ⟨c, hc⟩ := g20a (s := s) (m := m) (r := r) h.1 m1 h0 hlt m.toInt.toNat 0 0 (by decide) (by rw [i_0]; omega)
    have q11 := in_lt h.1 z11 h0 hlt
    obtain ⟨s', A', g', hv⟩ := ih (r + 1) (.val (.int c)) (.val (.int m)) (ou A 11 (setA (A 11) r c)) ⟨LN_ou h.1 (by simp only [setA_len]; exact h.1 _), h.2.1, h.2.2⟩ (okS_i _) (okS_i _) (succ_nn h0 (by omega)) (by rw [add1_i (by omega)]; omega)
    refine ⟨s', A', g', fun b pre post Q u U hq => ?_⟩
    rw [m22_2]
    simp [hlt, o3, o4, m22_0, m22_1u, m22_3, m22_4, m22_7, m22_8u, m22_8i, m22_8r, m22_8g, m22_9, m22_10u, m22_10i, m22_10r, m22_10g, m22_14, m22_15, m22_18, m22_19, m22_22, m22_24, m22_25, m22_26, m22_27, m22_28, m22_29, m22_32, m22_33, m22_36, m22_38, m22_39, m22_40, m22_43, m22_44, m22_47, m22_49, m22_50i, m22_51, m22_54, m22_57, m22_58, m22_61, m22_62, m22_63, m22_64, m22_67, m22_70, nb0, nb1, ou_a, Option.toList_some, Option.toList_none, List.nil_append, List.cons_append, mx_a, mxA_a, ou_mx, ou_mxA]
    refine hc b pre post Q u U ?_
    simp [q11, m22_0, m22_1u, m22_3, m22_4, m22_7, m22_8u, m22_8i, m22_8r, m22_8g, m22_9, m22_10u, m22_10i, m22_10r, m22_10g, m22_14, m22_15, m22_18, m22_19, m22_22, m22_24, m22_25, m22_26, m22_27, m22_28, m22_29, m22_32, m22_33, m22_36, m22_38, m22_39, m22_40, m22_43, m22_44, m22_47, m22_49, m22_50i, m22_51, m22_54, m22_57, m22_58, m22_61, m22_62, m22_63, m22_64, m22_67, m22_70, nb0, nb1, ou_a, Option.toList_some, Option.toList_none, List.nil_append, List.cons_append, mx_a, mxA_a, ou_mx, ou_mxA]
    exact hv b pre post Q u U hq
theorem g20 {m : Int32} (h : GS s A) (m0 : 0 ≤ m.toInt) (m1 : m.toInt ≤ 9) : ∃ (s' : Nat → Int32) (A' : Nat → List Int32), GS s' A' ∧ ∀ (b : Nat) (pre post : AHeap) (Q : Option Value → AHeap → Prop) (u : Nat → Int32) (U : Nat → List Int32), Q none (put (b + 1) pre (mx u s') (mxA U A') post) → M22 0 [.val (.ref (b + 1)), .val (.int m), .unset, .unset, .unset] [] (put (b + 1) pre (mx u s) (mxA U A) post) Q := by
  obtain ⟨s', A', g', hv⟩ := g20b (s := s) m0 m1 4 0 .unset .unset A h okS_u okS_u (by decide) rfl
  refine ⟨s', A', g', fun b pre post Q u U hq => ?_⟩
  simp [m22_0, m22_1u, m22_3, m22_4, m22_7, m22_8u, m22_8i, m22_8r, m22_8g, m22_9, m22_10u, m22_10i, m22_10r, m22_10g, m22_14, m22_15, m22_18, m22_19, m22_22, m22_24, m22_25, m22_26, m22_27, m22_28, m22_29, m22_32, m22_33, m22_36, m22_38, m22_39, m22_40, m22_43, m22_44, m22_47, m22_49, m22_50i, m22_51, m22_54, m22_57, m22_58, m22_61, m22_62, m22_63, m22_64, m22_67, m22_70, nb0, nb1, ou_a, Option.toList_some, Option.toList_none, List.nil_append, List.cons_append, mx_a, mxA_a, ou_mx, ou_mxA]
  exact hv b pre post Q u U hq
set_option maxRecDepth 1000000 in
set_option maxHeartbeats 20000000 in
theorem g21a (h : LN A) {i m p j : Int32} (j0 : ¬ j < 0) (j1 : j < 9) : ∀ (n : Nat) (r c : Int32) (k7 : Slot), okS k7 → ¬ r < 0 → r.toInt + n = 4 → ∃ (c' : Int32) (r' k7' : Slot), okS r' ∧ okS k7' ∧ ∀ (b : Nat) (pre post : AHeap) (Q : Option Value → AHeap → Prop) (u : Nat → Int32) (U : Nat → List Int32), M23 89 [.val (.ref (b + 1)), .val (.int i), .val (.int m), .val (.int c'), .val (.int p), .val (.int j), r', k7'] [] (put (b + 1) pre (mx u s) (mxA U A) post) Q → M23 37 [.val (.ref (b + 1)), .val (.int i), .val (.int m), .val (.int c), .val (.int p), .val (.int j), .val (.int r), k7] [] (put (b + 1) pre (mx u s) (mxA U A) post) Q := by
  intro n
  induction n with
  | zero =>
    intro r c k7 o7 h0 e
    have hge : ¬ r < 4 := by rw [lt_i, i_4]; omega
    refine ⟨c, .val (.int r), k7, okS_i _, o7, fun b pre post Q u U hq => ?_⟩
    rw [m23_37]
    simp [hge, m23_0, m23_1u, m23_2, m23_3, m23_6, m23_7, m23_8u, m23_10, m23_11u, m23_15, m23_16, m23_19, m23_20, m23_23, m23_25, m23_26, m23_28, m23_31, m23_34, m23_35u, m23_35i, m23_35r, m23_35g, m23_39, m23_40, m23_43, m23_44, m23_47, m23_49, m23_50, m23_51, m23_53, m23_54, m23_55u, m23_55i, m23_55r, m23_55g, m23_57, m23_59, m23_62, m23_63, m23_66, m23_68, m23_69, m23_71, m23_74, m23_76, m23_77, m23_80, m23_82i, m23_83, m23_86, m23_92, m23_95, m23_96, nb0, nb1, ou_a, Option.toList_some, Option.toList_none, List.nil_append, List.cons_append, mx_a, mxA_a, ou_mx, ou_mxA]
    exact hq
  | succ n ih =>
    intro r c k7 o7 h0 e
    have hlt : r < 4 := by rw [lt_i, i_4]; omega
    have x := idx4 j0 j1 h0 hlt
    have k5 := in_lt h z5 x.1 x.2
    have q11 := in_lt h z11 h0 hlt
    have n1 := succ_nn h0 (by omega)
    have e1 : (r + 1).toInt + n = 4 := by rw [add1_i (by omega)]; omega
    by_cases b1 : 0 < getA (A 5) (j * 4 + r)
    · by_cases b2 : getA (A 11) r < p
      · obtain ⟨v, r', k', o1, o2, hv⟩ := ih (r + 1) c (.val (.int (getA (A 5) (j * 4 + r)))) (okS_i _) n1 e1
        refine ⟨v, r', k', o1, o2, fun b pre post Q u U hq => ?_⟩
        rw [m23_37]
        simp [hlt, k5, q11, b1, b2, o7, m23_0, m23_1u, m23_2, m23_3, m23_6, m23_7, m23_8u, m23_10, m23_11u, m23_15, m23_16, m23_19, m23_20, m23_23, m23_25, m23_26, m23_28, m23_31, m23_34, m23_35u, m23_35i, m23_35r, m23_35g, m23_39, m23_40, m23_43, m23_44, m23_47, m23_49, m23_50, m23_51, m23_53, m23_54, m23_55u, m23_55i, m23_55r, m23_55g, m23_57, m23_59, m23_62, m23_63, m23_66, m23_68, m23_69, m23_71, m23_74, m23_76, m23_77, m23_80, m23_82i, m23_83, m23_86, m23_92, m23_95, m23_96, nb0, nb1, ou_a, Option.toList_some, Option.toList_none, List.nil_append, List.cons_append, mx_a, mxA_a, ou_mx, ou_mxA]
        exact hv b pre post Q u U hq
      · by_cases b3 : c < getA (A 5) (j * 4 + r)
        · obtain ⟨v, r', k', o1, o2, hv⟩ := ih (r + 1) (getA (A 5) (j * 4 + r)) (.val (.int (getA (A 5) (j * 4 + r)))) (okS_i _) n1 e1
          refine ⟨v, r', k', o1, o2, fun b pre post Q u U hq => ?_⟩
          rw [m23_37]
          simp [hlt, k5, q11, b1, b2, b3, o7, m23_0, m23_1u, m23_2, m23_3, m23_6, m23_7, m23_8u, m23_10, m23_11u, m23_15, m23_16, m23_19, m23_20, m23_23, m23_25, m23_26, m23_28, m23_31, m23_34, m23_35u, m23_35i, m23_35r, m23_35g, m23_39, m23_40, m23_43, m23_44, m23_47, m23_49, m23_50, m23_51, m23_53, m23_54, m23_55u, m23_55i, m23_55r, m23_55g, m23_57, m23_59, m23_62, m23_63, m23_66, m23_68, m23_69, m23_71, m23_74, m23_76, m23_77, m23_80, m23_82i, m23_83, m23_86, m23_92, m23_95, m23_96, nb0, nb1, ou_a, Option.toList_some, Option.toList_none, List.nil_append, List.cons_append, mx_a, mxA_a, ou_mx, ou_mxA]
          exact hv b pre post Q u U hq
        · obtain ⟨v, r', k', o1, o2, hv⟩ := ih (r + 1) c (.val (.int (getA (A 5) (j * 4 + r)))) (okS_i _) n1 e1
          refine ⟨v, r', k', o1, o2, fun b pre post Q u U hq => ?_⟩
          rw [m23_37]
          simp [hlt, k5, q11, b1, b2, b3, o7, m23_0, m23_1u, m23_2, m23_3, m23_6, m23_7, m23_8u, m23_10, m23_11u, m23_15, m23_16, m23_19, m23_20, m23_23, m23_25, m23_26, m23_28, m23_31, m23_34, m23_35u, m23_35i, m23_35r, m23_35g, m23_39, m23_40, m23_43, m23_44, m23_47, m23_49, m23_50, m23_51, m23_53, m23_54, m23_55u, m23_55i, m23_55r, m23_55g, m23_57, m23_59, m23_62, m23_63, m23_66, m23_68, m23_69, m23_71, m23_74, m23_76, m23_77, m23_80, m23_82i, m23_83, m23_86, m23_92, m23_95, m23_96, nb0, nb1, ou_a, Option.toList_some, Option.toList_none, List.nil_append, List.cons_append, mx_a, mxA_a, ou_mx, ou_mxA]
          exact hv b pre post Q u U hq
    · obtain ⟨v, r', k', o1, o2, hv⟩ := ih (r + 1) c (.val (.int (getA (A 5) (j * 4 + r)))) (okS_i _) n1 e1
      refine ⟨v, r', k', o1, o2, fun b pre post Q u U hq => ?_⟩
      rw [m23_37]
      simp [hlt, k5, b1, o7, m23_0, m23_1u, m23_2, m23_3, m23_6, m23_7, m23_8u, m23_10, m23_11u, m23_15, m23_16, m23_19, m23_20, m23_23, m23_25, m23_26, m23_28, m23_31, m23_34, m23_35u, m23_35i, m23_35r, m23_35g, m23_39, m23_40, m23_43, m23_44, m23_47, m23_49, m23_50, m23_51, m23_53, m23_54, m23_55u, m23_55i, m23_55r, m23_55g, m23_57, m23_59, m23_62, m23_63, m23_66, m23_68, m23_69, m23_71, m23_74, m23_76, m23_77, m23_80, m23_82i, m23_83, m23_86, m23_92, m23_95, m23_96, nb0, nb1, ou_a, Option.toList_some, Option.toList_none, List.nil_append, List.cons_append, mx_a, mxA_a, ou_mx, ou_mxA]
      exact hv b pre post Q u U hq
set_option maxRecDepth 1000000 in
set_option maxHeartbeats 20000000 in
theorem g21b (h : LN A) {i m p : Int32} (m1 : m.toInt ≤ 9) : ∀ (n : Nat) (j c : Int32) (k6 k7 : Slot), okS k6 → okS k7 → ¬ j < 0 → j.toInt + n = m.toInt → ∃ v : Int32, ∀ (b : Nat) (pre post : AHeap) (Q : Option Value → AHeap → Prop) (u : Nat → Int32) (U : Nat → List Int32), Q (some (.int v)) (put (b + 1) pre (mx u s) (mxA U A) post) → M23 13 [.val (.ref (b + 1)), .val (.int i), .val (.int m), .val (.int c), .val (.int p), .val (.int j), k6, k7] [] (put (b + 1) pre (mx u s) (mxA U A) post) Q := by
  intro n
  induction n with
  | zero =>
    intro j c k6 k7 o6 o7 h0 e
    have hge : ¬ j < m := by rw [lt_i]; omega
    refine ⟨c, fun b pre post Q u U hq => ?_⟩
    rw [m23_13]
    simp [hge, m23_0, m23_1u, m23_2, m23_3, m23_6, m23_7, m23_8u, m23_10, m23_11u, m23_15, m23_16, m23_19, m23_20, m23_23, m23_25, m23_26, m23_28, m23_31, m23_34, m23_35u, m23_35i, m23_35r, m23_35g, m23_39, m23_40, m23_43, m23_44, m23_47, m23_49, m23_50, m23_51, m23_53, m23_54, m23_55u, m23_55i, m23_55r, m23_55g, m23_57, m23_59, m23_62, m23_63, m23_66, m23_68, m23_69, m23_71, m23_74, m23_76, m23_77, m23_80, m23_82i, m23_83, m23_86, m23_92, m23_95, m23_96, nb0, nb1, ou_a, Option.toList_some, Option.toList_none, List.nil_append, List.cons_append, mx_a, mxA_a, ou_mx, ou_mxA]
    exact hq
  | succ n ih =>
    intro j c k6 k7 o6 o7 h0 e
    have hlt : j < m := by rw [lt_i]; omega
    have j9 := lt9 hlt m1
    have k3 := in_lt h z3 h0 j9
    have n1 := succ_nn h0 (by omega)
    have e1 : (j + 1).toInt + n = m.toInt := by rw [add1_i (by omega)]; omega
    by_cases b1 : getA (A 3) j < p
    · obtain ⟨c', r', k', o1, o2, hc⟩ := g21a (s := s) (i := i) (m := m) (p := p) h h0 j9 4 0 c k7 o7 (by decide) rfl
      obtain ⟨v, hv⟩ := ih (j + 1) c' r' k' o1 o2 n1 e1
      refine ⟨v, fun b pre post Q u U hq => ?_⟩
      rw [m23_13]
      simp [hlt, k3, b1, o6, m23_0, m23_1u, m23_2, m23_3, m23_6, m23_7, m23_8u, m23_10, m23_11u, m23_15, m23_16, m23_19, m23_20, m23_23, m23_25, m23_26, m23_28, m23_31, m23_34, m23_35u, m23_35i, m23_35r, m23_35g, m23_39, m23_40, m23_43, m23_44, m23_47, m23_49, m23_50, m23_51, m23_53, m23_54, m23_55u, m23_55i, m23_55r, m23_55g, m23_57, m23_59, m23_62, m23_63, m23_66, m23_68, m23_69, m23_71, m23_74, m23_76, m23_77, m23_80, m23_82i, m23_83, m23_86, m23_92, m23_95, m23_96, nb0, nb1, ou_a, Option.toList_some, Option.toList_none, List.nil_append, List.cons_append, mx_a, mxA_a, ou_mx, ou_mxA]
      refine hc b pre post Q u U ?_
      rw [m23_89]
      simp [m23_0, m23_1u, m23_2, m23_3, m23_6, m23_7, m23_8u, m23_10, m23_11u, m23_15, m23_16, m23_19, m23_20, m23_23, m23_25, m23_26, m23_28, m23_31, m23_34, m23_35u, m23_35i, m23_35r, m23_35g, m23_39, m23_40, m23_43, m23_44, m23_47, m23_49, m23_50, m23_51, m23_53, m23_54, m23_55u, m23_55i, m23_55r, m23_55g, m23_57, m23_59, m23_62, m23_63, m23_66, m23_68, m23_69, m23_71, m23_74, m23_76, m23_77, m23_80, m23_82i, m23_83, m23_86, m23_92, m23_95, m23_96, nb0, nb1, ou_a, Option.toList_some, Option.toList_none, List.nil_append, List.cons_append, mx_a, mxA_a, ou_mx, ou_mxA]
      exact hv b pre post Q u U hq
    · obtain ⟨v, hv⟩ := ih (j + 1) c k6 k7 o6 o7 n1 e1
      refine ⟨v, fun b pre post Q u U hq => ?_⟩
      rw [m23_13]
      simp [hlt, k3, b1, m23_0, m23_1u, m23_2, m23_3, m23_6, m23_7, m23_8u, m23_10, m23_11u, m23_15, m23_16, m23_19, m23_20, m23_23, m23_25, m23_26, m23_28, m23_31, m23_34, m23_35u, m23_35i, m23_35r, m23_35g, m23_39, m23_40, m23_43, m23_44, m23_47, m23_49, m23_50, m23_51, m23_53, m23_54, m23_55u, m23_55i, m23_55r, m23_55g, m23_57, m23_59, m23_62, m23_63, m23_66, m23_68, m23_69, m23_71, m23_74, m23_76, m23_77, m23_80, m23_82i, m23_83, m23_86, m23_92, m23_95, m23_96, nb0, nb1, ou_a, Option.toList_some, Option.toList_none, List.nil_append, List.cons_append, mx_a, mxA_a, ou_mx, ou_mxA]
      rw [m23_89]
      simp [m23_0, m23_1u, m23_2, m23_3, m23_6, m23_7, m23_8u, m23_10, m23_11u, m23_15, m23_16, m23_19, m23_20, m23_23, m23_25, m23_26, m23_28, m23_31, m23_34, m23_35u, m23_35i, m23_35r, m23_35g, m23_39, m23_40, m23_43, m23_44, m23_47, m23_49, m23_50, m23_51, m23_53, m23_54, m23_55u, m23_55i, m23_55r, m23_55g, m23_57, m23_59, m23_62, m23_63, m23_66, m23_68, m23_69, m23_71, m23_74, m23_76, m23_77, m23_80, m23_82i, m23_83, m23_86, m23_92, m23_95, m23_96, nb0, nb1, ou_a, Option.toList_some, Option.toList_none, List.nil_append, List.cons_append, mx_a, mxA_a, ou_mx, ou_mxA]
      exact hv b pre post Q u U hq
theorem g21 (h : LN A) (i m : Int32) (i0 : ¬ i < 0) (i1 : i < 9) (m0 : 0 ≤ m.toInt) (m1 : m.toInt ≤ 9) : ∃ v : Int32, ∀ (b : Nat) (pre post : AHeap) (Q : Option Value → AHeap → Prop) (u : Nat → Int32) (U : Nat → List Int32), Q (some (.int v)) (put (b + 1) pre (mx u s) (mxA U A) post) → M23 0 [.val (.ref (b + 1)), .val (.int i), .val (.int m), .unset, .unset, .unset, .unset, .unset] [] (put (b + 1) pre (mx u s) (mxA U A) post) Q := by
  have em := Int.toNat_of_nonneg m0
  have k3 := in_lt h z3 i0 i1
  obtain ⟨v, hv⟩ := g21b (s := s) (i := i) (p := getA (A 3) i) h m1 m.toInt.toNat 0 0 .unset .unset okS_u okS_u (by decide) (by rw [i_0]; omega)
  refine ⟨v, fun b pre post Q u U hq => ?_⟩
  simp [k3, m23_0, m23_1u, m23_2, m23_3, m23_6, m23_7, m23_8u, m23_10, m23_11u, m23_15, m23_16, m23_19, m23_20, m23_23, m23_25, m23_26, m23_28, m23_31, m23_34, m23_35u, m23_35i, m23_35r, m23_35g, m23_39, m23_40, m23_43, m23_44, m23_47, m23_49, m23_50, m23_51, m23_53, m23_54, m23_55u, m23_55i, m23_55r, m23_55g, m23_57, m23_59, m23_62, m23_63, m23_66, m23_68, m23_69, m23_71, m23_74, m23_76, m23_77, m23_80, m23_82i, m23_83, m23_86, m23_92, m23_95, m23_96, nb0, nb1, ou_a, Option.toList_some, Option.toList_none, List.nil_append, List.cons_append, mx_a, mxA_a, ou_mx, ou_mxA]
  exact hv b pre post Q u U hq
set_option maxRecDepth 1000000 in
set_option maxHeartbeats 20000000 in
theorem g23a (h : LN A) {i m r p : Int32} (m1 : m.toInt ≤ 9) : ∀ (n : Nat) (j c : Int32) (k7 : Slot), okS k7 → ¬ j < 0 → j.toInt + n = m.toInt → ∃ v : Int32, ∀ (b : Nat) (pre post : AHeap) (Q : Option Value → AHeap → Prop) (u : Nat → Int32) (U : Nat → List Int32), Q (some (.int v)) (put (b + 1) pre (mx u s) (mxA U A) post) → M25 14 [.val (.ref (b + 1)), .val (.int i), .val (.int m), .val (.int r), .val (.int c), .val (.int p), .val (.int j), k7] [] (put (b + 1) pre (mx u s) (mxA U A) post) Q := by
  intro n
  induction n with
  | zero =>
    intro j c k7 o7 h0 e
    have hge : ¬ j < m := by rw [lt_i]; omega
    refine ⟨c, fun b pre post Q u U hq => ?_⟩
    rw [m25_14]
    simp [hge, m25_0, m25_1u, m25_3, m25_4, m25_7, m25_8, m25_9u, m25_11, m25_12u, m25_16, m25_17, m25_20, m25_21, m25_24, m25_26, m25_27u, m25_27i, m25_27r, m25_27g, m25_29, m25_30, m25_33, m25_35, m25_36, m25_38, m25_41, m25_43, m25_46, m25_48, m25_49, m25_51, m25_52, m25_53, m25_54, m25_56, m25_57, m25_58, m25_61, m25_63, m25_64, m25_65, m25_66i, m25_68, m25_71, m25_74, m25_76, nb0, nb1, ou_a, Option.toList_some, Option.toList_none, List.nil_append, List.cons_append, mx_a, mxA_a, ou_mx, ou_mxA]
    exact hq
  | succ n ih =>
    intro j c k7 o7 h0 e
    have hlt : j < m := by rw [lt_i]; omega
    have j9 := lt9 hlt m1
    have k0 := in_lt h z0 h0 j9
    have k2 := in_lt h z2 h0 j9
    have k3 := in_lt h z3 h0 j9
    have n1 := succ_nn h0 (by omega)
    have e1 : (j + 1).toInt + n = m.toInt := by rw [add1_i (by omega)]; omega
    by_cases b1 : p < getA (A 3) j
    · by_cases b2 : 0 < getA (A 0) j
      · have b3 := ne0_pos b2
        obtain ⟨v, hv⟩ := ih (j + 1) (c + (r + getA (A 0) j - 1) / getA (A 0) j * getA (A 2) j) (.val (.int (getA (A 0) j))) (okS_i _) n1 e1
        refine ⟨v, fun b pre post Q u U hq => ?_⟩
        rw [m25_14]
        simp [hlt, k0, k2, k3, b1, b2, b3, o7, m25_0, m25_1u, m25_3, m25_4, m25_7, m25_8, m25_9u, m25_11, m25_12u, m25_16, m25_17, m25_20, m25_21, m25_24, m25_26, m25_27u, m25_27i, m25_27r, m25_27g, m25_29, m25_30, m25_33, m25_35, m25_36, m25_38, m25_41, m25_43, m25_46, m25_48, m25_49, m25_51, m25_52, m25_53, m25_54, m25_56, m25_57, m25_58, m25_61, m25_63, m25_64, m25_65, m25_66i, m25_68, m25_71, m25_74, m25_76, nb0, nb1, ou_a, Option.toList_some, Option.toList_none, List.nil_append, List.cons_append, mx_a, mxA_a, ou_mx, ou_mxA]
        exact hv b pre post Q u U hq
      · obtain ⟨v, hv⟩ := ih (j + 1) c (.val (.int (getA (A 0) j))) (okS_i _) n1 e1
        refine ⟨v, fun b pre post Q u U hq => ?_⟩
        rw [m25_14]
        simp [hlt, k0, k3, b1, b2, o7, m25_0, m25_1u, m25_3, m25_4, m25_7, m25_8, m25_9u, m25_11, m25_12u, m25_16, m25_17, m25_20, m25_21, m25_24, m25_26, m25_27u, m25_27i, m25_27r, m25_27g, m25_29, m25_30, m25_33, m25_35, m25_36, m25_38, m25_41, m25_43, m25_46, m25_48, m25_49, m25_51, m25_52, m25_53, m25_54, m25_56, m25_57, m25_58, m25_61, m25_63, m25_64, m25_65, m25_66i, m25_68, m25_71, m25_74, m25_76, nb0, nb1, ou_a, Option.toList_some, Option.toList_none, List.nil_append, List.cons_append, mx_a, mxA_a, ou_mx, ou_mxA]
        exact hv b pre post Q u U hq
    · obtain ⟨v, hv⟩ := ih (j + 1) c (.val (.int (getA (A 0) j))) (okS_i _) n1 e1
      refine ⟨v, fun b pre post Q u U hq => ?_⟩
      rw [m25_14]
      simp [hlt, k0, k3, b1, o7, m25_0, m25_1u, m25_3, m25_4, m25_7, m25_8, m25_9u, m25_11, m25_12u, m25_16, m25_17, m25_20, m25_21, m25_24, m25_26, m25_27u, m25_27i, m25_27r, m25_27g, m25_29, m25_30, m25_33, m25_35, m25_36, m25_38, m25_41, m25_43, m25_46, m25_48, m25_49, m25_51, m25_52, m25_53, m25_54, m25_56, m25_57, m25_58, m25_61, m25_63, m25_64, m25_65, m25_66i, m25_68, m25_71, m25_74, m25_76, nb0, nb1, ou_a, Option.toList_some, Option.toList_none, List.nil_append, List.cons_append, mx_a, mxA_a, ou_mx, ou_mxA]
      exact hv b pre post Q u U hq
theorem g23 (h : LN A) (i m r : Int32) (i0 : ¬ i < 0) (i1 : i < 9) (m0 : 0 ≤ m.toInt) (m1 : m.toInt ≤ 9) : ∃ v : Int32, ∀ (b : Nat) (pre post : AHeap) (Q : Option Value → AHeap → Prop) (u : Nat → Int32) (U : Nat → List Int32), Q (some (.int v)) (put (b + 1) pre (mx u s) (mxA U A) post) → M25 0 [.val (.ref (b + 1)), .val (.int i), .val (.int m), .val (.int r), .unset, .unset, .unset, .unset] [] (put (b + 1) pre (mx u s) (mxA U A) post) Q := by
  have em := Int.toNat_of_nonneg m0
  have k3 := in_lt h z3 i0 i1
  obtain ⟨v, hv⟩ := g23a (s := s) (i := i) (r := r) (p := getA (A 3) i) h m1 m.toInt.toNat 0 0 .unset okS_u (by decide) (by rw [i_0]; omega)
  refine ⟨v, fun b pre post Q u U hq => ?_⟩
  simp [k3, m25_0, m25_1u, m25_3, m25_4, m25_7, m25_8, m25_9u, m25_11, m25_12u, m25_16, m25_17, m25_20, m25_21, m25_24, m25_26, m25_27u, m25_27i, m25_27r, m25_27g, m25_29, m25_30, m25_33, m25_35, m25_36, m25_38, m25_41, m25_43, m25_46, m25_48, m25_49, m25_51, m25_52, m25_53, m25_54, m25_56, m25_57, m25_58, m25_61, m25_63, m25_64, m25_65, m25_66i, m25_68, m25_71, m25_74, m25_76, nb0, nb1, ou_a, Option.toList_some, Option.toList_none, List.nil_append, List.cons_append, mx_a, mxA_a, ou_mx, ou_mxA]
  exact hv b pre post Q u U hq
set_option maxRecDepth 1000000 in
set_option maxHeartbeats 20000000 in
theorem g22a (h : LN A) {i m bl bs : Int32} (i0 : ¬ i < 0) (i1 : i < 9) (m0 : 0 ≤ m.toInt) (m1 : m.toInt ≤ 9) : ∀ (n : Nat) (k r : Int32) (k7 : Slot), okS k7 → ¬ k < 0 → k.toInt + n = 842 → ∃ v : Int32, ∀ (b : Nat) (pre post : AHeap) (Q : Option Value → AHeap → Prop) (u : Nat → Int32) (U : Nat → List Int32), Q (some (.int v)) (put (b + 1) pre (mx u s) (mxA U A) post) → M24 17 [.val (.ref (b + 1)), .val (.int i), .val (.int m), .val (.int bl), .val (.int bs), .val (.int r), .val (.int k), k7] [] (put (b + 1) pre (mx u s) (mxA U A) post) Q := by
  intro n
  induction n with
  | zero =>
    intro k r k7 o7 h0 e
    have hge : ¬ k < 842 := by rw [lt_i, i_842]; omega
    refine ⟨-1, fun b pre post Q u U hq => ?_⟩
    rw [m24_17]
    simp [hge, m24_0, m24_1, m24_4, m24_5, m24_6, m24_7, m24_8u, m24_10, m24_12u, m24_14, m24_15u, m24_19, m24_22, m24_25, m24_27, m24_28, m24_31, m24_32, m24_33, m24_36, m24_37, m24_38, m24_40, m24_41, m24_42, m24_43, m24_45, m24_48, m24_49u, m24_49i, m24_49r, m24_49g, m24_51, m24_53, m24_55, m24_58, m24_60, m24_61, m24_63i, m24_65, m24_68, m24_71, m24_72, nb0, nb1, ou_a, Option.toList_some, Option.toList_none, List.nil_append, List.cons_append, mx_a, mxA_a, ou_mx, ou_mxA]
    exact hq
  | succ n ih =>
    intro k r k7 o7 h0 e
    have hlt : k < 842 := by rw [lt_i, i_842]; omega
    have k1 := in_lt h z1 i0 i1
    by_cases b1 : getA (A 1) i < r
    · refine ⟨-1, fun b pre post Q u U hq => ?_⟩
      rw [m24_17]
      simp [hlt, k1, b1, m24_0, m24_1, m24_4, m24_5, m24_6, m24_7, m24_8u, m24_10, m24_12u, m24_14, m24_15u, m24_19, m24_22, m24_25, m24_27, m24_28, m24_31, m24_32, m24_33, m24_36, m24_37, m24_38, m24_40, m24_41, m24_42, m24_43, m24_45, m24_48, m24_49u, m24_49i, m24_49r, m24_49g, m24_51, m24_53, m24_55, m24_58, m24_60, m24_61, m24_63i, m24_65, m24_68, m24_71, m24_72, nb0, nb1, ou_a, Option.toList_some, Option.toList_none, List.nil_append, List.cons_append, mx_a, mxA_a, ou_mx, ou_mxA]
      exact hq
    obtain ⟨w, hw⟩ := g23 (s := s) h i m r i0 i1 m0 m1
    by_cases b2 : bs + w = r
    · refine ⟨r, fun b pre post Q u U hq => ?_⟩
      rw [m24_17]
      simp [hlt, k1, b1, m24_0, m24_1, m24_4, m24_5, m24_6, m24_7, m24_8u, m24_10, m24_12u, m24_14, m24_15u, m24_19, m24_22, m24_25, m24_27, m24_28, m24_31, m24_32, m24_33, m24_36, m24_37, m24_38, m24_40, m24_41, m24_42, m24_43, m24_45, m24_48, m24_49u, m24_49i, m24_49r, m24_49g, m24_51, m24_53, m24_55, m24_58, m24_60, m24_61, m24_63i, m24_65, m24_68, m24_71, m24_72, nb0, nb1, ou_a, Option.toList_some, Option.toList_none, List.nil_append, List.cons_append, mx_a, mxA_a, ou_mx, ou_mxA]
      refine hw b pre post _ u U ?_
      simp [b2, o7, m24_0, m24_1, m24_4, m24_5, m24_6, m24_7, m24_8u, m24_10, m24_12u, m24_14, m24_15u, m24_19, m24_22, m24_25, m24_27, m24_28, m24_31, m24_32, m24_33, m24_36, m24_37, m24_38, m24_40, m24_41, m24_42, m24_43, m24_45, m24_48, m24_49u, m24_49i, m24_49r, m24_49g, m24_51, m24_53, m24_55, m24_58, m24_60, m24_61, m24_63i, m24_65, m24_68, m24_71, m24_72, nb0, nb1, ou_a, Option.toList_some, Option.toList_none, List.nil_append, List.cons_append, mx_a, mxA_a, ou_mx, ou_mxA]
      exact hq
    · obtain ⟨v, hv⟩ := ih (k + 1) (bs + w) (.val (.int (bs + w))) (okS_i _) (succ_nn h0 (by omega)) (by rw [add1_i (by omega)]; omega)
      refine ⟨v, fun b pre post Q u U hq => ?_⟩
      rw [m24_17]
      simp [hlt, k1, b1, m24_0, m24_1, m24_4, m24_5, m24_6, m24_7, m24_8u, m24_10, m24_12u, m24_14, m24_15u, m24_19, m24_22, m24_25, m24_27, m24_28, m24_31, m24_32, m24_33, m24_36, m24_37, m24_38, m24_40, m24_41, m24_42, m24_43, m24_45, m24_48, m24_49u, m24_49i, m24_49r, m24_49g, m24_51, m24_53, m24_55, m24_58, m24_60, m24_61, m24_63i, m24_65, m24_68, m24_71, m24_72, nb0, nb1, ou_a, Option.toList_some, Option.toList_none, List.nil_append, List.cons_append, mx_a, mxA_a, ou_mx, ou_mxA]
      refine hw b pre post _ u U ?_
      simp [b2, o7, m24_0, m24_1, m24_4, m24_5, m24_6, m24_7, m24_8u, m24_10, m24_12u, m24_14, m24_15u, m24_19, m24_22, m24_25, m24_27, m24_28, m24_31, m24_32, m24_33, m24_36, m24_37, m24_38, m24_40, m24_41, m24_42, m24_43, m24_45, m24_48, m24_49u, m24_49i, m24_49r, m24_49g, m24_51, m24_53, m24_55, m24_58, m24_60, m24_61, m24_63i, m24_65, m24_68, m24_71, m24_72, nb0, nb1, ou_a, Option.toList_some, Option.toList_none, List.nil_append, List.cons_append, mx_a, mxA_a, ou_mx, ou_mxA]
      exact hv b pre post Q u U hq
theorem g22 (h : LN A) (i m bl : Int32) (i0 : ¬ i < 0) (i1 : i < 9) (m0 : 0 ≤ m.toInt) (m1 : m.toInt ≤ 9) : ∃ v : Int32, ∀ (b : Nat) (pre post : AHeap) (Q : Option Value → AHeap → Prop) (u : Nat → Int32) (U : Nat → List Int32), Q (some (.int v)) (put (b + 1) pre (mx u s) (mxA U A) post) → M24 0 [.val (.ref (b + 1)), .val (.int i), .val (.int m), .val (.int bl), .unset, .unset, .unset, .unset] [] (put (b + 1) pre (mx u s) (mxA U A) post) Q := by
  have k2 := in_lt h z2 i0 i1
  obtain ⟨v, hv⟩ := g22a (s := s) (bl := bl) (bs := getA (A 2) i + bl) h i0 i1 m0 m1 842 0 (getA (A 2) i + bl) .unset okS_u (by decide) rfl
  refine ⟨v, fun b pre post Q u U hq => ?_⟩
  simp [k2, m24_0, m24_1, m24_4, m24_5, m24_6, m24_7, m24_8u, m24_10, m24_12u, m24_14, m24_15u, m24_19, m24_22, m24_25, m24_27, m24_28, m24_31, m24_32, m24_33, m24_36, m24_37, m24_38, m24_40, m24_41, m24_42, m24_43, m24_45, m24_48, m24_49u, m24_49i, m24_49r, m24_49g, m24_51, m24_53, m24_55, m24_58, m24_60, m24_61, m24_63i, m24_65, m24_68, m24_71, m24_72, nb0, nb1, ou_a, Option.toList_some, Option.toList_none, List.nil_append, List.cons_append, mx_a, mxA_a, ou_mx, ou_mxA]
  exact hv b pre post Q u U hq
set_option maxRecDepth 1000000 in
set_option maxHeartbeats 20000000 in
theorem g19a {m : Int32} (m0 : 0 ≤ m.toInt) (m1 : m.toInt ≤ 9) : ∀ (n : Nat) (i : Int32) (k3 k4 : Slot) (A : Nat → List Int32), GS s A → okS k3 → okS k4 → ¬ i < 0 → i.toInt + n = m.toInt → ∃ (v : Int32) (s' : Nat → Int32) (A' : Nat → List Int32), GS s' A' ∧ ∀ (b : Nat) (pre post : AHeap) (Q : Option Value → AHeap → Prop) (u : Nat → Int32) (U : Nat → List Int32), Q (some (.int v)) (put (b + 1) pre (mx u s') (mxA U A') post) → M21 7 [.val (.ref (b + 1)), .val (.int m), .val (.int i), k3, k4] [] (put (b + 1) pre (mx u s) (mxA U A) post) Q := by
  intro n
  induction n with
  | zero =>
    intro i k3 k4 A h o3 o4 h0 e
    have hge : ¬ i < m := by rw [lt_i]; omega
    refine ⟨-1, s, A, h, fun b pre post Q u U hq => ?_⟩
    rw [m21_7]
    simp [hge, m21_0, m21_1, m21_2, m21_5, m21_6u, m21_8, m21_9, m21_12, m21_13, m21_14, m21_15, m21_18u, m21_18i, m21_18r, m21_18g, m21_19, m21_20, m21_23, m21_24, m21_25, m21_26, m21_27, m21_28, m21_29, m21_30, m21_33u, m21_33i, m21_33r, m21_33g, m21_35, m21_37, m21_40, m21_41, m21_42, m21_43, m21_46, m21_47, m21_49, m21_50, m21_53, m21_56, m21_57, nb0, nb1, ou_a, Option.toList_some, Option.toList_none, List.nil_append, List.cons_append, mx_a, mxA_a, ou_mx, ou_mxA]
    exact hq
  | succ n ih =>
    intro i k3 k4 A h o3 o4 h0 e
    have hlt : i < m := by rw [lt_i]; omega
    have i9 := lt9 hlt m1
    have q12 := in_lt h.1 z12 h0 i9
    have q13 := in_lt h.1 z13 h0 i9
    obtain ⟨c, hc⟩ := g21 (s := s) h.1 i m h0 i9 m0 m1
    have hA1 : LN (ou A 12 (setA (A 12) i c)) := LN_ou h.1 (by simp only [setA_len]; exact h.1 _)
    obtain ⟨w, hw⟩ := g22 (s := s) hA1 i m c h0 i9 m0 m1
    by_cases b1 : w < 0
    · refine ⟨i, s, ou A 12 (setA (A 12) i c), ⟨hA1, h.2.1, h.2.2⟩, fun b pre post Q u U hq => ?_⟩
      rw [m21_7]
      simp [hlt, m21_0, m21_1, m21_2, m21_5, m21_6u, m21_8, m21_9, m21_12, m21_13, m21_14, m21_15, m21_18u, m21_18i, m21_18r, m21_18g, m21_19, m21_20, m21_23, m21_24, m21_25, m21_26, m21_27, m21_28, m21_29, m21_30, m21_33u, m21_33i, m21_33r, m21_33g, m21_35, m21_37, m21_40, m21_41, m21_42, m21_43, m21_46, m21_47, m21_49, m21_50, m21_53, m21_56, m21_57, nb0, nb1, ou_a, Option.toList_some, Option.toList_none, List.nil_append, List.cons_append, mx_a, mxA_a, ou_mx, ou_mxA]
      refine hc b pre post _ u U ?_
      simp [q12, o3, m21_0, m21_1, m21_2, m21_5, m21_6u, m21_8, m21_9, m21_12, m21_13, m21_14, m21_15, m21_18u, m21_18i, m21_18r, m21_18g, m21_19, m21_20, m21_23, m21_24, m21_25, m21_26, m21_27, m21_28, m21_29, m21_30, m21_33u, m21_33i, m21_33r, m21_33g, m21_35, m21_37, m21_40, m21_41, m21_42, m21_43, m21_46, m21_47, m21_49, m21_50, m21_53, m21_56, m21_57, nb0, nb1, ou_a, Option.toList_some, Option.toList_none, List.nil_append, List.cons_append, mx_a, mxA_a, ou_mx, ou_mxA]
      refine hw b pre post _ u U ?_
      simp [b1, o4, m21_0, m21_1, m21_2, m21_5, m21_6u, m21_8, m21_9, m21_12, m21_13, m21_14, m21_15, m21_18u, m21_18i, m21_18r, m21_18g, m21_19, m21_20, m21_23, m21_24, m21_25, m21_26, m21_27, m21_28, m21_29, m21_30, m21_33u, m21_33i, m21_33r, m21_33g, m21_35, m21_37, m21_40, m21_41, m21_42, m21_43, m21_46, m21_47, m21_49, m21_50, m21_53, m21_56, m21_57, nb0, nb1, ou_a, Option.toList_some, Option.toList_none, List.nil_append, List.cons_append, mx_a, mxA_a, ou_mx, ou_mxA]
      exact hq
    · have hA2 : LN (ou (ou A 12 (setA (A 12) i c)) 13 (setA (A 13) i w)) := LN_ou hA1 (by simp only [setA_len]; exact h.1 _)
      obtain ⟨v, s', A', g', hv⟩ := ih (i + 1) (.val (.int c)) (.val (.int w)) _ ⟨hA2, h.2.1, h.2.2⟩ (okS_i _) (okS_i _) (succ_nn h0 (by omega)) (by rw [add1_i (by omega)]; omega)
      refine ⟨v, s', A', g', fun b pre post Q u U hq => ?_⟩
      rw [m21_7]
      simp [hlt, m21_0, m21_1, m21_2, m21_5, m21_6u, m21_8, m21_9, m21_12, m21_13, m21_14, m21_15, m21_18u, m21_18i, m21_18r, m21_18g, m21_19, m21_20, m21_23, m21_24, m21_25, m21_26, m21_27, m21_28, m21_29, m21_30, m21_33u, m21_33i, m21_33r, m21_33g, m21_35, m21_37, m21_40, m21_41, m21_42, m21_43, m21_46, m21_47, m21_49, m21_50, m21_53, m21_56, m21_57, nb0, nb1, ou_a, Option.toList_some, Option.toList_none, List.nil_append, List.cons_append, mx_a, mxA_a, ou_mx, ou_mxA]
      refine hc b pre post _ u U ?_
      simp [q12, o3, m21_0, m21_1, m21_2, m21_5, m21_6u, m21_8, m21_9, m21_12, m21_13, m21_14, m21_15, m21_18u, m21_18i, m21_18r, m21_18g, m21_19, m21_20, m21_23, m21_24, m21_25, m21_26, m21_27, m21_28, m21_29, m21_30, m21_33u, m21_33i, m21_33r, m21_33g, m21_35, m21_37, m21_40, m21_41, m21_42, m21_43, m21_46, m21_47, m21_49, m21_50, m21_53, m21_56, m21_57, nb0, nb1, ou_a, Option.toList_some, Option.toList_none, List.nil_append, List.cons_append, mx_a, mxA_a, ou_mx, ou_mxA]
      refine hw b pre post _ u U ?_
      simp [b1, q13, o4, m21_0, m21_1, m21_2, m21_5, m21_6u, m21_8, m21_9, m21_12, m21_13, m21_14, m21_15, m21_18u, m21_18i, m21_18r, m21_18g, m21_19, m21_20, m21_23, m21_24, m21_25, m21_26, m21_27, m21_28, m21_29, m21_30, m21_33u, m21_33i, m21_33r, m21_33g, m21_35, m21_37, m21_40, m21_41, m21_42, m21_43, m21_46, m21_47, m21_49, m21_50, m21_53, m21_56, m21_57, nb0, nb1, ou_a, Option.toList_some, Option.toList_none, List.nil_append, List.cons_append, mx_a, mxA_a, ou_mx, ou_mxA]
      exact hv b pre post Q u U hq
set_option maxRecDepth 1000000 in
set_option maxHeartbeats 20000000 in
theorem g19 {m : Int32} (h : GS s A) (m0 : 0 ≤ m.toInt) (m1 : m.toInt ≤ 9) : ∃ (v : Int32) (s' : Nat → Int32) (A' : Nat → List Int32), GS s' A' ∧ ∀ (b : Nat) (pre post : AHeap) (Q : Option Value → AHeap → Prop) (u : Nat → Int32) (U : Nat → List Int32), Q (some (.int v)) (put (b + 1) pre (mx u s') (mxA U A') post) → M21 0 [.val (.ref (b + 1)), .val (.int m), .unset, .unset, .unset] [] (put (b + 1) pre (mx u s) (mxA U A) post) Q := by
  obtain ⟨s1, A1, h1, hv1⟩ := g20 h m0 m1
  have em := Int.toNat_of_nonneg m0
  obtain ⟨v, s', A', g', hv⟩ := g19a (s := s1) m0 m1 m.toInt.toNat 0 .unset .unset A1 h1 okS_u okS_u (by decide) (by rw [i_0]; omega)
  refine ⟨v, s', A', g', fun b pre post Q u U hq => ?_⟩
  simp [m21_0, m21_1, m21_2, m21_5, m21_6u, m21_8, m21_9, m21_12, m21_13, m21_14, m21_15, m21_18u, m21_18i, m21_18r, m21_18g, m21_19, m21_20, m21_23, m21_24, m21_25, m21_26, m21_27, m21_28, m21_29, m21_30, m21_33u, m21_33i, m21_33r, m21_33g, m21_35, m21_37, m21_40, m21_41, m21_42, m21_43, m21_46, m21_47, m21_49, m21_50, m21_53, m21_56, m21_57, nb0, nb1, ou_a, Option.toList_some, Option.toList_none, List.nil_append, List.cons_append, mx_a, mxA_a, ou_mx, ou_mxA]
  refine hv1 b pre post _ u U ?_
  simp [m21_0, m21_1, m21_2, m21_5, m21_6u, m21_8, m21_9, m21_12, m21_13, m21_14, m21_15, m21_18u, m21_18i, m21_18r, m21_18g, m21_19, m21_20, m21_23, m21_24, m21_25, m21_26, m21_27, m21_28, m21_29, m21_30, m21_33u, m21_33i, m21_33r, m21_33g, m21_35, m21_37, m21_40, m21_41, m21_42, m21_43, m21_46, m21_47, m21_49, m21_50, m21_53, m21_56, m21_57, nb0, nb1, ou_a, Option.toList_some, Option.toList_none, List.nil_append, List.cons_append, mx_a, mxA_a, ou_mx, ou_mxA]
  exact hv b pre post Q u U hq
set_option maxRecDepth 1000000 in
set_option maxHeartbeats 20000000 in
theorem g24a {m : Int32} (m1 : m.toInt ≤ 9) : ∀ (n : Nat) (i : Int32) (A : Nat → List Int32), GS s A → ¬ i < 0 → i.toInt + n = m.toInt → ∃ (s' : Nat → Int32) (A' : Nat → List Int32), GS s' A' ∧ ∀ (b : Nat) (pre post : AHeap) (Q : Option Value → AHeap → Prop) (u : Nat → Int32) (U : Nat → List Int32), Q none (put (b + 1) pre (mx u s') (mxA U A') post) → M26 2 [.val (.ref (b + 1)), .val (.int m), .val (.int i)] [] (put (b + 1) pre (mx u s) (mxA U A) post) Q := by
  intro n
  induction n with
  | zero =>
    intro i A h h0 e
    have hge : ¬ i < m := by rw [lt_i]; omega
    have y8 : (A 8).length = 4 := (h.1 8).trans A0l_8
    have y11 : (A 11).length = 4 := (h.1 11).trans A0l_11
    apply Exists.intro
    apply Exists.intro
    refine ⟨?_, fun b pre post Q u U hq => ?_⟩
    rotate_left 1
    · rw [m26_2]
      simp [hge, inB_iff, setA_len, y8, y11, m26_0, m26_1u, m26_3, m26_4, m26_7, m26_8, m26_11, m26_12, m26_13, m26_16, m26_17, m26_18, m26_19, m26_20, m26_23, m26_24, m26_25, m26_28, m26_29, m26_30, m26_31, m26_34, m26_37, m26_38i, m26_39, m26_40, m26_41, m26_44, m26_45, m26_48, m26_49, m26_50, m26_53, m26_54, m26_55, m26_56, m26_59, m26_62, nb0, nb1, ou_a, Option.toList_some, Option.toList_none, List.nil_append, List.cons_append, mx_a, mxA_a, ou_mx, ou_mxA]
      exact hq
    · refine ⟨?_, h.2.1, h.2.2⟩
      have h := h.1
      exact (by (repeat refine LN_ou ?_ (by simp only [setA_len]; exact h _)); exact h)
  | succ n ih =>
    intro i A h h0 e
    have hlt : i < m := by rw [lt_i]; omega
    have i9 := lt9 hlt m1
    have q6 := in_lt h.1 z6 h0 i9
    have q7 := in_lt h.1 z7 h0 i9
    have q12 := in_lt h.1 z12 h0 i9
    have q13 := in_lt h.1 z13 h0 i9
    obtain ⟨s', A', g', hv⟩ := ih (i + 1) (ou (ou A 6 (setA (A 6) i (getA (A 13) i))) 7 (setA (A 7) i (getA (A 12) i))) ⟨LN_ou (LN_ou h.1 (by simp only [setA_len]; exact h.1 _)) (by simp only [setA_len]; exact h.1 _), h.2.1, h.2.2⟩ (succ_nn h0 (by omega)) (by rw [add1_i (by omega)]; omega)
    refine ⟨s', A', g', fun b pre post Q u U hq => ?_⟩
    rw [m26_2]
    simp [hlt, q6, q7, q12, q13, m26_0, m26_1u, m26_3, m26_4, m26_7, m26_8, m26_11, m26_12, m26_13, m26_16, m26_17, m26_18, m26_19, m26_20, m26_23, m26_24, m26_25, m26_28, m26_29, m26_30, m26_31, m26_34, m26_37, m26_38i, m26_40, m26_41, m26_44, m26_45, m26_48, m26_49, m26_50, m26_53, m26_54, m26_55, m26_56, m26_59, m26_62, nb0, nb1, ou_a, Option.toList_some, Option.toList_none, List.nil_append, List.cons_append, mx_a, mxA_a, ou_mx, ou_mxA]
    exact hv b pre post Q u U hq
theorem g24 {m : Int32} (h : GS s A) (m0 : 0 ≤ m.toInt) (m1 : m.toInt ≤ 9) : ∃ (s' : Nat → Int32) (A' : Nat → List Int32), GS s' A' ∧ ∀ (b : Nat) (pre post : AHeap) (Q : Option Value → AHeap → Prop) (u : Nat → Int32) (U : Nat → List Int32), Q none (put (b + 1) pre (mx u s') (mxA U A') post) → M26 0 [.val (.ref (b + 1)), .val (.int m), .unset] [] (put (b + 1) pre (mx u s) (mxA U A) post) Q := by
  have em := Int.toNat_of_nonneg m0
  obtain ⟨s', A', g', hv⟩ := g24a (s := s) m1 m.toInt.toNat 0 A h (by decide) (by rw [i_0]; omega)
  refine ⟨s', A', g', fun b pre post Q u U hq => ?_⟩
  simp [m26_0, m26_1u, m26_3, m26_4, m26_7, m26_8, m26_11, m26_12, m26_13, m26_16, m26_17, m26_18, m26_19, m26_20, m26_23, m26_24, m26_25, m26_28, m26_29, m26_30, m26_31, m26_34, m26_37, m26_38i, m26_40, m26_41, m26_44, m26_45, m26_48, m26_49, m26_50, m26_53, m26_54, m26_55, m26_56, m26_59, m26_62, nb0, nb1, ou_a, Option.toList_some, Option.toList_none, List.nil_append, List.cons_append, mx_a, mxA_a, ou_mx, ou_mxA]
  exact hv b pre post Q u U hq
set_option maxRecDepth 1000000 in
set_option maxHeartbeats 20000000 in
theorem g29 (h : LN A) (i : Int32) (i0 : ¬ i < 0) (i1 : i < 9) : ∃ v : Int32, ∀ (b : Nat) (pre post : AHeap) (Q : Option Value → AHeap → Prop), Q (some (.int v)) (put (b + 1) pre s A post) → M33 0 [.val (.ref (b + 1)), .val (.int i), .unset] [] (put (b + 1) pre s A post) Q := by
  have q17 := in_lt h z17 i0 i1
  have q3 := in_lt h z3 i0 i1
  by_cases b1 : getA (A 17) i < 0
  · exact ⟨getA (A 3) i, fun b pre post Q hq => by simp [b1, q17, q3, m33_0, m33_1, m33_4, m33_5, m33_6u, m33_7, m33_8, m33_11, m33_12, m33_13, m33_16, m33_17, m33_20, m33_21, m33_22, m33_23, m33_24, m33_27, m33_28, m33_29, nb0, nb1, ou_a, Option.toList_some, Option.toList_none, List.nil_append, List.cons_append]; exact hq⟩
  by_cases b2 : getA (A 17) i < 4
  · have q8 := in_lt h z8 b1 b2
    exact ⟨getA (A 8) (getA (A 17) i), fun b pre post Q hq => by simp [b1, b2, q17, q8, m33_0, m33_1, m33_4, m33_5, m33_6u, m33_7, m33_8, m33_11, m33_12, m33_13, m33_16, m33_17, m33_20, m33_21, m33_22, m33_23, m33_24, m33_27, m33_28, m33_29, nb0, nb1, ou_a, Option.toList_some, Option.toList_none, List.nil_append, List.cons_append]; exact hq⟩
  · exact ⟨getA (A 3) i, fun b pre post Q hq => by simp [b1, b2, q17, q3, m33_0, m33_1, m33_4, m33_5, m33_6u, m33_7, m33_8, m33_11, m33_12, m33_13, m33_16, m33_17, m33_20, m33_21, m33_22, m33_23, m33_24, m33_27, m33_28, m33_29, nb0, nb1, ou_a, Option.toList_some, Option.toList_none, List.nil_append, List.cons_append]; exact hq⟩
set_option maxRecDepth 1000000 in
set_option maxHeartbeats 20000000 in
theorem g28a (h : LN A) (c1 : (s 1).toInt ≤ 8) : ∀ (n : Nat) (i bs ba bh : Int32) (k5 k6 : Slot), okS k5 → okS k6 → (bs < 0 ∨ (¬ bs < 0 ∧ bs < i)) → ¬ i < 0 → i.toInt + n = (s 1).toInt → ∃ v : Int32, (v < 0 ∨ (¬ v < 0 ∧ v < s 1)) ∧ ∀ (b : Nat) (pre post : AHeap) (Q : Option Value → AHeap → Prop), Q (some (.int v)) (put (b + 1) pre s A post) → M5 9 [.val (.ref (b + 1)), .val (.int bs), .val (.int ba), .val (.int bh), .val (.int i), k5, k6] [] (put (b + 1) pre s A post) Q := by
  intro n
  induction n with
  | zero =>
    intro i bs ba bh k5 k6 o5 o6 iv h0 e
    have hi : i = s 1 := Int32.toInt_inj.mp (by omega)
    refine ⟨bs, by rw [← hi]; exact iv, fun b pre post Q hq => ?_⟩
    rw [m5_9]
    simp [hi, lt_irr, m5_0, m5_1u, m5_2, m5_3u, m5_4, m5_5u, m5_6, m5_7u, m5_11, m5_12, m5_15, m5_18, m5_19, m5_22, m5_24, m5_25, m5_28, m5_31, m5_32, m5_34, m5_37u, m5_37i, m5_37r, m5_37g, m5_39, m5_40, m5_43, m5_45, m5_46, m5_49, m5_50, m5_53, m5_54u, m5_54i, m5_54r, m5_54g, m5_56, m5_57, m5_60, m5_62, m5_63, m5_66, m5_68, m5_69, m5_72, m5_74, m5_77, m5_78, m5_81, m5_83i, m5_84, m5_86i, m5_87, m5_89i, m5_90, m5_93, m5_96, m5_97, nb0, nb1, ou_a, Option.toList_some, Option.toList_none, List.nil_append, List.cons_append]
    exact hq
  | succ n ih =>
    intro i bs ba bh k5 k6 o5 o6 iv h0 e
    have hlt : i < s 1 := by rw [lt_i]; omega
    have i9 := lt9 hlt (by omega)
    have q14 := in_lt h z14 h0 i9
    have q17 := in_lt h z17 h0 i9
    have n1 := succ_nn h0 (by omega)
    have e2 : (i + 1).toInt = i.toInt + 1 := add1_i (by omega)
    have e1 : (i + 1).toInt + n = (s 1).toInt := by omega
    have iv2 : bs < 0 ∨ (¬ bs < 0 ∧ bs < i + 1) := by
      rcases iv with q | ⟨q1, q2⟩
      · exact Or.inl q
      · refine Or.inr ⟨q1, ?_⟩
        rw [lt_i] at *
        omega
    by_cases p0 : getA (A 14) i = 0
    · obtain ⟨v, pv, hv⟩ := ih (i + 1) bs ba bh k5 k6 o5 o6 iv2 n1 e1
      refine ⟨v, pv, fun b pre post Q hq => ?_⟩
      rw [m5_9]
      simp [hlt, q14, p0, m5_0, m5_1u, m5_2, m5_3u, m5_4, m5_5u, m5_6, m5_7u, m5_11, m5_12, m5_15, m5_18, m5_19, m5_22, m5_24, m5_25, m5_28, m5_31, m5_32, m5_34, m5_37u, m5_37i, m5_37r, m5_37g, m5_39, m5_40, m5_43, m5_45, m5_46, m5_49, m5_50, m5_53, m5_54u, m5_54i, m5_54r, m5_54g, m5_56, m5_57, m5_60, m5_62, m5_63, m5_66, m5_68, m5_69, m5_72, m5_74, m5_77, m5_78, m5_81, m5_83i, m5_84, m5_86i, m5_87, m5_89i, m5_90, m5_93, m5_96, m5_97, nb0, nb1, ou_a, Option.toList_some, Option.toList_none, List.nil_append, List.cons_append]
      exact hv b pre post Q hq
    obtain ⟨ap, hap⟩ := g29 (s := s) h i h0 i9
    by_cases g0 : getA (A 17) i < 0
    · by_cases b1 : bs < 0
      · obtain ⟨v, pv, hv⟩ := ih (i + 1) i ap 0 (.val (.int ap)) (.val (.int 0)) (okS_i _) (okS_i _) (Or.inr ⟨h0, by rw [lt_i, e2]; omega⟩) n1 e1
        refine ⟨v, pv, fun b pre post Q hq => ?_⟩
        rw [m5_9]
        simp [hlt, q14, p0, m5_0, m5_1u, m5_2, m5_3u, m5_4, m5_5u, m5_6, m5_7u, m5_11, m5_12, m5_15, m5_18, m5_19, m5_22, m5_24, m5_25, m5_28, m5_31, m5_32, m5_34, m5_37u, m5_37i, m5_37r, m5_37g, m5_39, m5_40, m5_43, m5_45, m5_46, m5_49, m5_50, m5_53, m5_54u, m5_54i, m5_54r, m5_54g, m5_56, m5_57, m5_60, m5_62, m5_63, m5_66, m5_68, m5_69, m5_72, m5_74, m5_77, m5_78, m5_81, m5_83i, m5_84, m5_86i, m5_87, m5_89i, m5_90, m5_93, m5_96, m5_97, nb0, nb1, ou_a, Option.toList_some, Option.toList_none, List.nil_append, List.cons_append]
        refine hap b pre post _ ?_
        simp [q17, o5, o6, g0, b1, m5_0, m5_1u, m5_2, m5_3u, m5_4, m5_5u, m5_6, m5_7u, m5_11, m5_12, m5_15, m5_18, m5_19, m5_22, m5_24, m5_25, m5_28, m5_31, m5_32, m5_34, m5_37u, m5_37i, m5_37r, m5_37g, m5_39, m5_40, m5_43, m5_45, m5_46, m5_49, m5_50, m5_53, m5_54u, m5_54i, m5_54r, m5_54g, m5_56, m5_57, m5_60, m5_62, m5_63, m5_66, m5_68, m5_69, m5_72, m5_74, m5_77, m5_78, m5_81, m5_83i, m5_84, m5_86i, m5_87, m5_89i, m5_90, m5_93, m5_96, m5_97, nb0, nb1, ou_a, Option.toList_some, Option.toList_none, List.nil_append, List.cons_append]
        exact hv b pre post Q hq
      by_cases b2 : ba < ap
      · obtain ⟨v, pv, hv⟩ := ih (i + 1) i ap 0 (.val (.int ap)) (.val (.int 0)) (okS_i _) (okS_i _) (Or.inr ⟨h0, by rw [lt_i, e2]; omega⟩) n1 e1
        refine ⟨v, pv, fun b pre post Q hq => ?_⟩
        rw [m5_9]
        simp [hlt, q14, p0, m5_0, m5_1u, m5_2, m5_3u, m5_4, m5_5u, m5_6, m5_7u, m5_11, m5_12, m5_15, m5_18, m5_19, m5_22, m5_24, m5_25, m5_28, m5_31, m5_32, m5_34, m5_37u, m5_37i, m5_37r, m5_37g, m5_39, m5_40, m5_43, m5_45, m5_46, m5_49, m5_50, m5_53, m5_54u, m5_54i, m5_54r, m5_54g, m5_56, m5_57, m5_60, m5_62, m5_63, m5_66, m5_68, m5_69, m5_72, m5_74, m5_77, m5_78, m5_81, m5_83i, m5_84, m5_86i, m5_87, m5_89i, m5_90, m5_93, m5_96, m5_97, nb0, nb1, ou_a, Option.toList_some, Option.toList_none, List.nil_append, List.cons_append]
        refine hap b pre post _ ?_
        simp [q17, o5, o6, g0, b1, b2, m5_0, m5_1u, m5_2, m5_3u, m5_4, m5_5u, m5_6, m5_7u, m5_11, m5_12, m5_15, m5_18, m5_19, m5_22, m5_24, m5_25, m5_28, m5_31, m5_32, m5_34, m5_37u, m5_37i, m5_37r, m5_37g, m5_39, m5_40, m5_43, m5_45, m5_46, m5_49, m5_50, m5_53, m5_54u, m5_54i, m5_54r, m5_54g, m5_56, m5_57, m5_60, m5_62, m5_63, m5_66, m5_68, m5_69, m5_72, m5_74, m5_77, m5_78, m5_81, m5_83i, m5_84, m5_86i, m5_87, m5_89i, m5_90, m5_93, m5_96, m5_97, nb0, nb1, ou_a, Option.toList_some, Option.toList_none, List.nil_append, List.cons_append]
        exact hv b pre post Q hq
      by_cases b3 : ap = ba
      · obtain ⟨v, pv, hv⟩ := ih (i + 1) bs ba bh (.val (.int ap)) (.val (.int 0)) (okS_i _) (okS_i _) (iv2 : bs < 0 ∨ (¬ bs < 0 ∧ bs < i + 1)) n1 e1
        refine ⟨v, pv, fun b pre post Q hq => ?_⟩
        rw [m5_9]
        simp [hlt, q14, p0, m5_0, m5_1u, m5_2, m5_3u, m5_4, m5_5u, m5_6, m5_7u, m5_11, m5_12, m5_15, m5_18, m5_19, m5_22, m5_24, m5_25, m5_28, m5_31, m5_32, m5_34, m5_37u, m5_37i, m5_37r, m5_37g, m5_39, m5_40, m5_43, m5_45, m5_46, m5_49, m5_50, m5_53, m5_54u, m5_54i, m5_54r, m5_54g, m5_56, m5_57, m5_60, m5_62, m5_63, m5_66, m5_68, m5_69, m5_72, m5_74, m5_77, m5_78, m5_81, m5_83i, m5_84, m5_86i, m5_87, m5_89i, m5_90, m5_93, m5_96, m5_97, nb0, nb1, ou_a, Option.toList_some, Option.toList_none, List.nil_append, List.cons_append]
        refine hap b pre post _ ?_
        simp [q17, o5, o6, g0, b1, b2, eq_true b3, m5_0, m5_1u, m5_2, m5_3u, m5_4, m5_5u, m5_6, m5_7u, m5_11, m5_12, m5_15, m5_18, m5_19, m5_22, m5_24, m5_25, m5_28, m5_31, m5_32, m5_34, m5_37u, m5_37i, m5_37r, m5_37g, m5_39, m5_40, m5_43, m5_45, m5_46, m5_49, m5_50, m5_53, m5_54u, m5_54i, m5_54r, m5_54g, m5_56, m5_57, m5_60, m5_62, m5_63, m5_66, m5_68, m5_69, m5_72, m5_74, m5_77, m5_78, m5_81, m5_83i, m5_84, m5_86i, m5_87, m5_89i, m5_90, m5_93, m5_96, m5_97, nb0, nb1, ou_a, Option.toList_some, Option.toList_none, List.nil_append, List.cons_append]
        exact hv b pre post Q hq
      obtain ⟨v, pv, hv⟩ := ih (i + 1) bs ba bh (.val (.int ap)) (.val (.int 0)) (okS_i _) (okS_i _) (iv2 : bs < 0 ∨ (¬ bs < 0 ∧ bs < i + 1)) n1 e1
      refine ⟨v, pv, fun b pre post Q hq => ?_⟩
      rw [m5_9]
      simp [hlt, q14, p0, m5_0, m5_1u, m5_2, m5_3u, m5_4, m5_5u, m5_6, m5_7u, m5_11, m5_12, m5_15, m5_18, m5_19, m5_22, m5_24, m5_25, m5_28, m5_31, m5_32, m5_34, m5_37u, m5_37i, m5_37r, m5_37g, m5_39, m5_40, m5_43, m5_45, m5_46, m5_49, m5_50, m5_53, m5_54u, m5_54i, m5_54r, m5_54g, m5_56, m5_57, m5_60, m5_62, m5_63, m5_66, m5_68, m5_69, m5_72, m5_74, m5_77, m5_78, m5_81, m5_83i, m5_84, m5_86i, m5_87, m5_89i, m5_90, m5_93, m5_96, m5_97, nb0, nb1, ou_a, Option.toList_some, Option.toList_none, List.nil_append, List.cons_append]
      refine hap b pre post _ ?_
      simp [q17, o5, o6, g0, b1, b2, b3, m5_0, m5_1u, m5_2, m5_3u, m5_4, m5_5u, m5_6, m5_7u, m5_11, m5_12, m5_15, m5_18, m5_19, m5_22, m5_24, m5_25, m5_28, m5_31, m5_32, m5_34, m5_37u, m5_37i, m5_37r, m5_37g, m5_39, m5_40, m5_43, m5_45, m5_46, m5_49, m5_50, m5_53, m5_54u, m5_54i, m5_54r, m5_54g, m5_56, m5_57, m5_60, m5_62, m5_63, m5_66, m5_68, m5_69, m5_72, m5_74, m5_77, m5_78, m5_81, m5_83i, m5_84, m5_86i, m5_87, m5_89i, m5_90, m5_93, m5_96, m5_97, nb0, nb1, ou_a, Option.toList_some, Option.toList_none, List.nil_append, List.cons_append]
      exact hv b pre post Q hq
    by_cases b1 : bs < 0
    · obtain ⟨v, pv, hv⟩ := ih (i + 1) i ap 1 (.val (.int ap)) (.val (.int 1)) (okS_i _) (okS_i _) (Or.inr ⟨h0, by rw [lt_i, e2]; omega⟩) n1 e1
      refine ⟨v, pv, fun b pre post Q hq => ?_⟩
      rw [m5_9]
      simp [hlt, q14, p0, m5_0, m5_1u, m5_2, m5_3u, m5_4, m5_5u, m5_6, m5_7u, m5_11, m5_12, m5_15, m5_18, m5_19, m5_22, m5_24, m5_25, m5_28, m5_31, m5_32, m5_34, m5_37u, m5_37i, m5_37r, m5_37g, m5_39, m5_40, m5_43, m5_45, m5_46, m5_49, m5_50, m5_53, m5_54u, m5_54i, m5_54r, m5_54g, m5_56, m5_57, m5_60, m5_62, m5_63, m5_66, m5_68, m5_69, m5_72, m5_74, m5_77, m5_78, m5_81, m5_83i, m5_84, m5_86i, m5_87, m5_89i, m5_90, m5_93, m5_96, m5_97, nb0, nb1, ou_a, Option.toList_some, Option.toList_none, List.nil_append, List.cons_append]
      refine hap b pre post _ ?_
      simp [q17, o5, o6, g0, b1, m5_0, m5_1u, m5_2, m5_3u, m5_4, m5_5u, m5_6, m5_7u, m5_11, m5_12, m5_15, m5_18, m5_19, m5_22, m5_24, m5_25, m5_28, m5_31, m5_32, m5_34, m5_37u, m5_37i, m5_37r, m5_37g, m5_39, m5_40, m5_43, m5_45, m5_46, m5_49, m5_50, m5_53, m5_54u, m5_54i, m5_54r, m5_54g, m5_56, m5_57, m5_60, m5_62, m5_63, m5_66, m5_68, m5_69, m5_72, m5_74, m5_77, m5_78, m5_81, m5_83i, m5_84, m5_86i, m5_87, m5_89i, m5_90, m5_93, m5_96, m5_97, nb0, nb1, ou_a, Option.toList_some, Option.toList_none, List.nil_append, List.cons_append]
      exact hv b pre post Q hq
    by_cases b2 : ba < ap
    · obtain ⟨v, pv, hv⟩ := ih (i + 1) i ap 1 (.val (.int ap)) (.val (.int 1)) (okS_i _) (okS_i _) (Or.inr ⟨h0, by rw [lt_i, e2]; omega⟩) n1 e1
      refine ⟨v, pv, fun b pre post Q hq => ?_⟩
      rw [m5_9]
      simp [hlt, q14, p0, m5_0, m5_1u, m5_2, m5_3u, m5_4, m5_5u, m5_6, m5_7u, m5_11, m5_12, m5_15, m5_18, m5_19, m5_22, m5_24, m5_25, m5_28, m5_31, m5_32, m5_34, m5_37u, m5_37i, m5_37r, m5_37g, m5_39, m5_40, m5_43, m5_45, m5_46, m5_49, m5_50, m5_53, m5_54u, m5_54i, m5_54r, m5_54g, m5_56, m5_57, m5_60, m5_62, m5_63, m5_66, m5_68, m5_69, m5_72, m5_74, m5_77, m5_78, m5_81, m5_83i, m5_84, m5_86i, m5_87, m5_89i, m5_90, m5_93, m5_96, m5_97, nb0, nb1, ou_a, Option.toList_some, Option.toList_none, List.nil_append, List.cons_append]
      refine hap b pre post _ ?_
      simp [q17, o5, o6, g0, b1, b2, m5_0, m5_1u, m5_2, m5_3u, m5_4, m5_5u, m5_6, m5_7u, m5_11, m5_12, m5_15, m5_18, m5_19, m5_22, m5_24, m5_25, m5_28, m5_31, m5_32, m5_34, m5_37u, m5_37i, m5_37r, m5_37g, m5_39, m5_40, m5_43, m5_45, m5_46, m5_49, m5_50, m5_53, m5_54u, m5_54i, m5_54r, m5_54g, m5_56, m5_57, m5_60, m5_62, m5_63, m5_66, m5_68, m5_69, m5_72, m5_74, m5_77, m5_78, m5_81, m5_83i, m5_84, m5_86i, m5_87, m5_89i, m5_90, m5_93, m5_96, m5_97, nb0, nb1, ou_a, Option.toList_some, Option.toList_none, List.nil_append, List.cons_append]
      exact hv b pre post Q hq
    by_cases b3 : ap = ba
    · by_cases b4 : bh = 0
      · obtain ⟨v, pv, hv⟩ := ih (i + 1) i ap 1 (.val (.int ap)) (.val (.int 1)) (okS_i _) (okS_i _) (Or.inr ⟨h0, by rw [lt_i, e2]; omega⟩) n1 e1
        refine ⟨v, pv, fun b pre post Q hq => ?_⟩
        rw [m5_9]
        simp [hlt, q14, p0, m5_0, m5_1u, m5_2, m5_3u, m5_4, m5_5u, m5_6, m5_7u, m5_11, m5_12, m5_15, m5_18, m5_19, m5_22, m5_24, m5_25, m5_28, m5_31, m5_32, m5_34, m5_37u, m5_37i, m5_37r, m5_37g, m5_39, m5_40, m5_43, m5_45, m5_46, m5_49, m5_50, m5_53, m5_54u, m5_54i, m5_54r, m5_54g, m5_56, m5_57, m5_60, m5_62, m5_63, m5_66, m5_68, m5_69, m5_72, m5_74, m5_77, m5_78, m5_81, m5_83i, m5_84, m5_86i, m5_87, m5_89i, m5_90, m5_93, m5_96, m5_97, nb0, nb1, ou_a, Option.toList_some, Option.toList_none, List.nil_append, List.cons_append]
        refine hap b pre post _ ?_
        simp [q17, o5, o6, g0, b1, b2, eq_true b3, b4, m5_0, m5_1u, m5_2, m5_3u, m5_4, m5_5u, m5_6, m5_7u, m5_11, m5_12, m5_15, m5_18, m5_19, m5_22, m5_24, m5_25, m5_28, m5_31, m5_32, m5_34, m5_37u, m5_37i, m5_37r, m5_37g, m5_39, m5_40, m5_43, m5_45, m5_46, m5_49, m5_50, m5_53, m5_54u, m5_54i, m5_54r, m5_54g, m5_56, m5_57, m5_60, m5_62, m5_63, m5_66, m5_68, m5_69, m5_72, m5_74, m5_77, m5_78, m5_81, m5_83i, m5_84, m5_86i, m5_87, m5_89i, m5_90, m5_93, m5_96, m5_97, nb0, nb1, ou_a, Option.toList_some, Option.toList_none, List.nil_append, List.cons_append]
        exact hv b pre post Q hq
      · obtain ⟨v, pv, hv⟩ := ih (i + 1) bs ba bh (.val (.int ap)) (.val (.int 1)) (okS_i _) (okS_i _) (iv2 : bs < 0 ∨ (¬ bs < 0 ∧ bs < i + 1)) n1 e1
        refine ⟨v, pv, fun b pre post Q hq => ?_⟩
        rw [m5_9]
        simp [hlt, q14, p0, m5_0, m5_1u, m5_2, m5_3u, m5_4, m5_5u, m5_6, m5_7u, m5_11, m5_12, m5_15, m5_18, m5_19, m5_22, m5_24, m5_25, m5_28, m5_31, m5_32, m5_34, m5_37u, m5_37i, m5_37r, m5_37g, m5_39, m5_40, m5_43, m5_45, m5_46, m5_49, m5_50, m5_53, m5_54u, m5_54i, m5_54r, m5_54g, m5_56, m5_57, m5_60, m5_62, m5_63, m5_66, m5_68, m5_69, m5_72, m5_74, m5_77, m5_78, m5_81, m5_83i, m5_84, m5_86i, m5_87, m5_89i, m5_90, m5_93, m5_96, m5_97, nb0, nb1, ou_a, Option.toList_some, Option.toList_none, List.nil_append, List.cons_append]
        refine hap b pre post _ ?_
        simp [q17, o5, o6, g0, b1, b2, eq_true b3, b4, m5_0, m5_1u, m5_2, m5_3u, m5_4, m5_5u, m5_6, m5_7u, m5_11, m5_12, m5_15, m5_18, m5_19, m5_22, m5_24, m5_25, m5_28, m5_31, m5_32, m5_34, m5_37u, m5_37i, m5_37r, m5_37g, m5_39, m5_40, m5_43, m5_45, m5_46, m5_49, m5_50, m5_53, m5_54u, m5_54i, m5_54r, m5_54g, m5_56, m5_57, m5_60, m5_62, m5_63, m5_66, m5_68, m5_69, m5_72, m5_74, m5_77, m5_78, m5_81, m5_83i, m5_84, m5_86i, m5_87, m5_89i, m5_90, m5_93, m5_96, m5_97, nb0, nb1, ou_a, Option.toList_some, Option.toList_none, List.nil_append, List.cons_append]
        exact hv b pre post Q hq
    obtain ⟨v, pv, hv⟩ := ih (i + 1) bs ba bh (.val (.int ap)) (.val (.int 1)) (okS_i _) (okS_i _) (iv2 : bs < 0 ∨ (¬ bs < 0 ∧ bs < i + 1)) n1 e1
    refine ⟨v, pv, fun b pre post Q hq => ?_⟩
    rw [m5_9]
    simp [hlt, q14, p0, m5_0, m5_1u, m5_2, m5_3u, m5_4, m5_5u, m5_6, m5_7u, m5_11, m5_12, m5_15, m5_18, m5_19, m5_22, m5_24, m5_25, m5_28, m5_31, m5_32, m5_34, m5_37u, m5_37i, m5_37r, m5_37g, m5_39, m5_40, m5_43, m5_45, m5_46, m5_49, m5_50, m5_53, m5_54u, m5_54i, m5_54r, m5_54g, m5_56, m5_57, m5_60, m5_62, m5_63, m5_66, m5_68, m5_69, m5_72, m5_74, m5_77, m5_78, m5_81, m5_83i, m5_84, m5_86i, m5_87, m5_89i, m5_90, m5_93, m5_96, m5_97, nb0, nb1, ou_a, Option.toList_some, Option.toList_none, List.nil_append, List.cons_append]
    refine hap b pre post _ ?_
    simp [q17, o5, o6, g0, b1, b2, b3, m5_0, m5_1u, m5_2, m5_3u, m5_4, m5_5u, m5_6, m5_7u, m5_11, m5_12, m5_15, m5_18, m5_19, m5_22, m5_24, m5_25, m5_28, m5_31, m5_32, m5_34, m5_37u, m5_37i, m5_37r, m5_37g, m5_39, m5_40, m5_43, m5_45, m5_46, m5_49, m5_50, m5_53, m5_54u, m5_54i, m5_54r, m5_54g, m5_56, m5_57, m5_60, m5_62, m5_63, m5_66, m5_68, m5_69, m5_72, m5_74, m5_77, m5_78, m5_81, m5_83i, m5_84, m5_86i, m5_87, m5_89i, m5_90, m5_93, m5_96, m5_97, nb0, nb1, ou_a, Option.toList_some, Option.toList_none, List.nil_append, List.cons_append]
    exact hv b pre post Q hq
theorem g28 (h : GS s A) : ∃ v : Int32, (v < 0 ∨ (¬ v < 0 ∧ v < s 1)) ∧ ∀ (b : Nat) (pre post : AHeap) (Q : Option Value → AHeap → Prop), Q (some (.int v)) (put (b + 1) pre s A post) → M5 0 [.val (.ref (b + 1)), .unset, .unset, .unset, .unset, .unset, .unset] [] (put (b + 1) pre s A post) Q := by
  have em := Int.toNat_of_nonneg h.2.1
  obtain ⟨v, pv, hv⟩ := g28a (s := s) h.1 h.2.2 (s 1).toInt.toNat 0 (-1) (-1) 0 .unset .unset okS_u okS_u (Or.inl (by decide)) (by decide) (by rw [i_0]; omega)
  refine ⟨v, pv, fun b pre post Q hq => ?_⟩
  simp [m5_0, m5_1u, m5_2, m5_3u, m5_4, m5_5u, m5_6, m5_7u, m5_11, m5_12, m5_15, m5_18, m5_19, m5_22, m5_24, m5_25, m5_28, m5_31, m5_32, m5_34, m5_37u, m5_37i, m5_37r, m5_37g, m5_39, m5_40, m5_43, m5_45, m5_46, m5_49, m5_50, m5_53, m5_54u, m5_54i, m5_54r, m5_54g, m5_56, m5_57, m5_60, m5_62, m5_63, m5_66, m5_68, m5_69, m5_72, m5_74, m5_77, m5_78, m5_81, m5_83i, m5_84, m5_86i, m5_87, m5_89i, m5_90, m5_93, m5_96, m5_97, nb0, nb1, ou_a, Option.toList_some, Option.toList_none, List.nil_append, List.cons_append]
  exact hv b pre post Q hq
set_option maxRecDepth 1000000 in
set_option maxHeartbeats 20000000 in
theorem g8 (i : Int32) (c : (s 1).toInt ≤ 8) : ∃ v : Int32, ((v = 0) ∨ (v = 1 ∧ ¬ i < 0 ∧ i < 9)) ∧ ∀ (b : Nat) (pre post : AHeap) (Q : Option Value → AHeap → Prop), Q (some (.int v)) (put (b + 1) pre s A post) → M11 0 [.val (.ref (b + 1)), .val (.int i)] [] (put (b + 1) pre s A post) Q := by
  by_cases b1 : i < 0
  · exact ⟨0, Or.inl rfl, fun b pre post Q hq => by simp [b1, m11_0, m11_1, m11_4, m11_5, m11_6, m11_9, m11_12, m11_13, m11_16, m11_17, nb0, nb1, ou_a, Option.toList_some, Option.toList_none, List.nil_append, List.cons_append]; exact hq⟩
  by_cases b2 : i < s 1
  · exact ⟨1, Or.inr ⟨rfl, b1, lt9 b2 (by omega)⟩, fun b pre post Q hq => by simp [b1, b2, m11_0, m11_1, m11_4, m11_5, m11_6, m11_9, m11_12, m11_13, m11_16, m11_17, nb0, nb1, ou_a, Option.toList_some, Option.toList_none, List.nil_append, List.cons_append]; exact hq⟩
  · exact ⟨0, Or.inl rfl, fun b pre post Q hq => by simp [b1, b2, m11_0, m11_1, m11_4, m11_5, m11_6, m11_9, m11_12, m11_13, m11_16, m11_17, nb0, nb1, ou_a, Option.toList_some, Option.toList_none, List.nil_append, List.cons_append]; exact hq⟩
set_option maxRecDepth 1000000 in
set_option maxHeartbeats 20000000 in
theorem g7 (h : GS s A) (i : Int32) : ∃ v : Int32, ∀ (b : Nat) (pre post : AHeap) (Q : Option Value → AHeap → Prop), Q (some (.int v)) (put (b + 1) pre s A post) → M29 0 [.val (.ref (b + 1)), .val (.int i)] [] (put (b + 1) pre s A post) Q := by
  obtain ⟨v, pv, hv⟩ := g8 (s := s) (A := A) i h.2.2
  rcases pv with rfl | ⟨rfl, i0, i1⟩
  · refine ⟨-1, fun b pre post Q hq => ?_⟩
    simp [m29_0, m29_1, m29_2, m29_5, m29_8, m29_9, m29_10, m29_11, m29_14, m29_15, m29_16, nb0, nb1, ou_a, Option.toList_some, Option.toList_none, List.nil_append, List.cons_append]
    refine hv b pre post _ ?_
    simp [m29_0, m29_1, m29_2, m29_5, m29_8, m29_9, m29_10, m29_11, m29_14, m29_15, m29_16, nb0, nb1, ou_a, Option.toList_some, Option.toList_none, List.nil_append, List.cons_append]
    exact hq
  · have q := in_lt h.1 z18 i0 i1
    refine ⟨getA (A 18) i, fun b pre post Q hq => ?_⟩
    simp [m29_0, m29_1, m29_2, m29_5, m29_8, m29_9, m29_10, m29_11, m29_14, m29_15, m29_16, nb0, nb1, ou_a, Option.toList_some, Option.toList_none, List.nil_append, List.cons_append]
    refine hv b pre post _ ?_
    simp [q, m29_0, m29_1, m29_2, m29_5, m29_8, m29_9, m29_10, m29_11, m29_14, m29_15, m29_16, nb0, nb1, ou_a, Option.toList_some, Option.toList_none, List.nil_append, List.cons_append]
    exact hq
set_option maxRecDepth 1000000 in
set_option maxHeartbeats 20000000 in
theorem g9 (h : GS s A) (i : Int32) : ∃ v : Int32, ∀ (b : Nat) (pre post : AHeap) (Q : Option Value → AHeap → Prop), Q (some (.int v)) (put (b + 1) pre s A post) → M30 0 [.val (.ref (b + 1)), .val (.int i)] [] (put (b + 1) pre s A post) Q := by
  obtain ⟨v, pv, hv⟩ := g8 (s := s) (A := A) i h.2.2
  rcases pv with rfl | ⟨rfl, i0, i1⟩
  · refine ⟨-1, fun b pre post Q hq => ?_⟩
    simp [m30_0, m30_1, m30_2, m30_5, m30_8, m30_9, m30_10, m30_11, m30_14, m30_15, m30_16, nb0, nb1, ou_a, Option.toList_some, Option.toList_none, List.nil_append, List.cons_append]
    refine hv b pre post _ ?_
    simp [m30_0, m30_1, m30_2, m30_5, m30_8, m30_9, m30_10, m30_11, m30_14, m30_15, m30_16, nb0, nb1, ou_a, Option.toList_some, Option.toList_none, List.nil_append, List.cons_append]
    exact hq
  · have q := in_lt h.1 z19 i0 i1
    refine ⟨getA (A 19) i, fun b pre post Q hq => ?_⟩
    simp [m30_0, m30_1, m30_2, m30_5, m30_8, m30_9, m30_10, m30_11, m30_14, m30_15, m30_16, nb0, nb1, ou_a, Option.toList_some, Option.toList_none, List.nil_append, List.cons_append]
    refine hv b pre post _ ?_
    simp [q, m30_0, m30_1, m30_2, m30_5, m30_8, m30_9, m30_10, m30_11, m30_14, m30_15, m30_16, nb0, nb1, ou_a, Option.toList_some, Option.toList_none, List.nil_append, List.cons_append]
    exact hq
set_option maxRecDepth 1000000 in
set_option maxHeartbeats 20000000 in
theorem g10 (h : GS s A) (i : Int32) : ∃ v : Int32, ∀ (b : Nat) (pre post : AHeap) (Q : Option Value → AHeap → Prop), Q (some (.int v)) (put (b + 1) pre s A post) → M31 0 [.val (.ref (b + 1)), .val (.int i)] [] (put (b + 1) pre s A post) Q := by
  obtain ⟨v, pv, hv⟩ := g8 (s := s) (A := A) i h.2.2
  rcases pv with rfl | ⟨rfl, i0, i1⟩
  · refine ⟨-1, fun b pre post Q hq => ?_⟩
    simp [m31_0, m31_1, m31_2, m31_5, m31_8, m31_9, m31_12, m31_13, m31_14, m31_17, m31_18, m31_19, m31_20, m31_23, m31_24, m31_25, nb0, nb1, ou_a, Option.toList_some, Option.toList_none, List.nil_append, List.cons_append]
    refine hv b pre post _ ?_
    simp [m31_0, m31_1, m31_2, m31_5, m31_8, m31_9, m31_12, m31_13, m31_14, m31_17, m31_18, m31_19, m31_20, m31_23, m31_24, m31_25, nb0, nb1, ou_a, Option.toList_some, Option.toList_none, List.nil_append, List.cons_append]
    exact hq
  · have q14 := in_lt h.1 z14 i0 i1
    have q16 := in_lt h.1 z16 i0 i1
    by_cases b1 : getA (A 14) i = 0
    · refine ⟨-1, fun b pre post Q hq => ?_⟩
      simp [m31_0, m31_1, m31_2, m31_5, m31_8, m31_9, m31_12, m31_13, m31_14, m31_17, m31_18, m31_19, m31_20, m31_23, m31_24, m31_25, nb0, nb1, ou_a, Option.toList_some, Option.toList_none, List.nil_append, List.cons_append]
      refine hv b pre post _ ?_
      simp [q14, b1, m31_0, m31_1, m31_2, m31_5, m31_8, m31_9, m31_12, m31_13, m31_14, m31_17, m31_18, m31_19, m31_20, m31_23, m31_24, m31_25, nb0, nb1, ou_a, Option.toList_some, Option.toList_none, List.nil_append, List.cons_append]
      exact hq
    · refine ⟨getA (A 16) i, fun b pre post Q hq => ?_⟩
      simp [m31_0, m31_1, m31_2, m31_5, m31_8, m31_9, m31_12, m31_13, m31_14, m31_17, m31_18, m31_19, m31_20, m31_23, m31_24, m31_25, nb0, nb1, ou_a, Option.toList_some, Option.toList_none, List.nil_append, List.cons_append]
      refine hv b pre post _ ?_
      simp [q14, q16, b1, m31_0, m31_1, m31_2, m31_5, m31_8, m31_9, m31_12, m31_13, m31_14, m31_17, m31_18, m31_19, m31_20, m31_23, m31_24, m31_25, nb0, nb1, ou_a, Option.toList_some, Option.toList_none, List.nil_append, List.cons_append]
      exact hq
set_option maxRecDepth 1000000 in
set_option maxHeartbeats 20000000 in
theorem g11a (h : LN A) (c1 : (s 1).toInt ≤ 8) {r : Int32} : ∀ (n : Nat) (i : Int32), ¬ i < 0 → i.toInt + n = (s 1).toInt → ∃ v : Int32, ∀ (b : Nat) (pre post : AHeap) (Q : Option Value → AHeap → Prop), Q (some (.int v)) (put (b + 1) pre s A post) → M32 13 [.val (.ref (b + 1)), .val (.int r), .val (.int i)] [] (put (b + 1) pre s A post) Q := by
  intro n
  induction n with
  | zero =>
    intro i h0 e
    have hge : ¬ i < s 1 := by rw [lt_i]; omega
    refine ⟨-1, fun b pre post Q hq => ?_⟩
    rw [m32_13]
    simp [hge, m32_0, m32_1, m32_4, m32_5, m32_6, m32_9, m32_10, m32_11, m32_12u, m32_14, m32_15, m32_18, m32_21, m32_22, m32_25, m32_26, m32_27, m32_30, m32_31, m32_34, m32_35, m32_36, m32_37, m32_40, m32_41, m32_42, m32_45, m32_48, m32_49, nb0, nb1, ou_a, Option.toList_some, Option.toList_none, List.nil_append, List.cons_append]
    exact hq
  | succ n ih =>
    intro i h0 e
    have hlt : i < s 1 := by rw [lt_i]; omega
    have i9 := lt9 hlt (by omega)
    have q14 := in_lt h z14 h0 i9
    have q17 := in_lt h z17 h0 i9
    obtain ⟨v, hv⟩ := ih (i + 1) (succ_nn h0 (by omega)) (by rw [add1_i (by omega)]; omega)
    by_cases b1 : getA (A 14) i = 0
    · refine ⟨v, fun b pre post Q hq => ?_⟩
      rw [m32_13]
      simp [hlt, q14, b1, m32_0, m32_1, m32_4, m32_5, m32_6, m32_9, m32_10, m32_11, m32_12u, m32_14, m32_15, m32_18, m32_21, m32_22, m32_25, m32_26, m32_27, m32_30, m32_31, m32_34, m32_35, m32_36, m32_37, m32_40, m32_41, m32_42, m32_45, m32_48, m32_49, nb0, nb1, ou_a, Option.toList_some, Option.toList_none, List.nil_append, List.cons_append]
      exact hv b pre post Q hq
    by_cases b2 : getA (A 17) i = r
    · refine ⟨i, fun b pre post Q hq => ?_⟩
      rw [m32_13]
      simp [hlt, q14, q17, b1, b2, m32_0, m32_1, m32_4, m32_5, m32_6, m32_9, m32_10, m32_11, m32_12u, m32_14, m32_15, m32_18, m32_21, m32_22, m32_25, m32_26, m32_27, m32_30, m32_31, m32_34, m32_35, m32_36, m32_37, m32_40, m32_41, m32_42, m32_45, m32_48, m32_49, nb0, nb1, ou_a, Option.toList_some, Option.toList_none, List.nil_append, List.cons_append]
      exact hq
    · refine ⟨v, fun b pre post Q hq => ?_⟩
      rw [m32_13]
      simp [hlt, q14, q17, b1, b2, m32_0, m32_1, m32_4, m32_5, m32_6, m32_9, m32_10, m32_11, m32_12u, m32_14, m32_15, m32_18, m32_21, m32_22, m32_25, m32_26, m32_27, m32_30, m32_31, m32_34, m32_35, m32_36, m32_37, m32_40, m32_41, m32_42, m32_45, m32_48, m32_49, nb0, nb1, ou_a, Option.toList_some, Option.toList_none, List.nil_append, List.cons_append]
      exact hv b pre post Q hq
set_option maxRecDepth 1000000 in
set_option maxHeartbeats 20000000 in
theorem g11 (h : GS s A) (r : Int32) : ∃ v : Int32, ∀ (b : Nat) (pre post : AHeap) (Q : Option Value → AHeap → Prop), Q (some (.int v)) (put (b + 1) pre s A post) → M32 0 [.val (.ref (b + 1)), .val (.int r), .unset] [] (put (b + 1) pre s A post) Q := by
  have em := Int.toNat_of_nonneg h.2.1
  by_cases b1 : r < 0
  · exact ⟨-1, fun b pre post Q hq => by simp [b1, m32_0, m32_1, m32_4, m32_5, m32_6, m32_9, m32_10, m32_11, m32_12u, m32_14, m32_15, m32_18, m32_21, m32_22, m32_25, m32_26, m32_27, m32_30, m32_31, m32_34, m32_35, m32_36, m32_37, m32_40, m32_41, m32_42, m32_45, m32_48, m32_49, nb0, nb1, ou_a, Option.toList_some, Option.toList_none, List.nil_append, List.cons_append]; exact hq⟩
  by_cases b2 : r < 4
  · obtain ⟨v, hv⟩ := g11a (s := s) (r := r) h.1 h.2.2 (s 1).toInt.toNat 0 (by decide) (by rw [i_0]; omega)
    refine ⟨v, fun b pre post Q hq => ?_⟩
    simp [b1, b2, m32_0, m32_1, m32_4, m32_5, m32_6, m32_9, m32_10, m32_11, m32_12u, m32_14, m32_15, m32_18, m32_21, m32_22, m32_25, m32_26, m32_27, m32_30, m32_31, m32_34, m32_35, m32_36, m32_37, m32_40, m32_41, m32_42, m32_45, m32_48, m32_49, nb0, nb1, ou_a, Option.toList_some, Option.toList_none, List.nil_append, List.cons_append]
    exact hv b pre post Q hq
  · exact ⟨-1, fun b pre post Q hq => by simp [b1, b2, m32_0, m32_1, m32_4, m32_5, m32_6, m32_9, m32_10, m32_11, m32_12u, m32_14, m32_15, m32_18, m32_21, m32_22, m32_25, m32_26, m32_27, m32_30, m32_31, m32_34, m32_35, m32_36, m32_37, m32_40, m32_41, m32_42, m32_45, m32_48, m32_49, nb0, nb1, ou_a, Option.toList_some, Option.toList_none, List.nil_append, List.cons_append]; exact hq⟩
set_option maxRecDepth 1000000 in
set_option maxHeartbeats 20000000 in
theorem ex8 (i : Int32) (c : (s 1).toInt ≤ 8) : ∃ v : Int32, ((v = 0) ∨ (v = 1 ∧ ¬ i < 0 ∧ i < 9)) ∧ ∀ (b : Nat) (pre post : AHeap) (Q : Option Value → AHeap → Prop) (u : Nat → Int32) (U : Nat → List Int32), Q (some (.int v)) (put (b + 1) pre (mx u s) (mxA U A) post) → M11 0 [.val (.ref (b + 1)), .val (.int i)] [] (put (b + 1) pre (mx u s) (mxA U A) post) Q := by
  by_cases b1 : i < 0
  · exact ⟨0, Or.inl rfl, fun b pre post Q u U hq => by simp [b1, m11_0, m11_1, m11_4, m11_5, m11_6, m11_9, m11_12, m11_13, m11_16, m11_17, nb0, nb1, ou_a, Option.toList_some, Option.toList_none, List.nil_append, List.cons_append, mx_a, mxA_a, ou_mx, ou_mxA]; exact hq⟩
  by_cases b2 : i < s 1
  · exact ⟨1, Or.inr ⟨rfl, b1, lt9 b2 (by omega)⟩, fun b pre post Q u U hq => by simp [b1, b2, m11_0, m11_1, m11_4, m11_5, m11_6, m11_9, m11_12, m11_13, m11_16, m11_17, nb0, nb1, ou_a, Option.toList_some, Option.toList_none, List.nil_append, List.cons_append, mx_a, mxA_a, ou_mx, ou_mxA]; exact hq⟩
  · exact ⟨0, Or.inl rfl, fun b pre post Q u U hq => by simp [b1, b2, m11_0, m11_1, m11_4, m11_5, m11_6, m11_9, m11_12, m11_13, m11_16, m11_17, nb0, nb1, ou_a, Option.toList_some, Option.toList_none, List.nil_append, List.cons_append, mx_a, mxA_a, ou_mx, ou_mxA]; exact hq⟩
set_option maxRecDepth 1000000 in
set_option maxHeartbeats 20000000 in
theorem ex10 (h : GS s A) (i : Int32) : ∃ v : Int32, ∀ (b : Nat) (pre post : AHeap) (Q : Option Value → AHeap → Prop) (u : Nat → Int32) (U : Nat → List Int32), Q (some (.int v)) (put (b + 1) pre (mx u s) (mxA U A) post) → M10 0 [.val (.ref (b + 1)), .val (.int i)] [] (put (b + 1) pre (mx u s) (mxA U A) post) Q := by
  obtain ⟨v, pv, hv⟩ := ex8 (s := s) (A := A) i h.2.2
  rcases pv with rfl | ⟨rfl, i0, i1⟩
  · refine ⟨-1, fun b pre post Q u U hq => ?_⟩
    simp [m10_0, m10_1, m10_2, m10_5, m10_8, m10_9, m10_10, m10_11, m10_14, m10_15, m10_16, nb0, nb1, ou_a, Option.toList_some, Option.toList_none, List.nil_append, List.cons_append, mx_a, mxA_a, ou_mx, ou_mxA]
    refine hv b pre post _ u U ?_
    simp [m10_0, m10_1, m10_2, m10_5, m10_8, m10_9, m10_10, m10_11, m10_14, m10_15, m10_16, nb0, nb1, ou_a, Option.toList_some, Option.toList_none, List.nil_append, List.cons_append, mx_a, mxA_a, ou_mx, ou_mxA]
    exact hq
  · have q := in_lt h.1 z6 i0 i1
    refine ⟨getA (A 6) i, fun b pre post Q u U hq => ?_⟩
    simp [m10_0, m10_1, m10_2, m10_5, m10_8, m10_9, m10_10, m10_11, m10_14, m10_15, m10_16, nb0, nb1, ou_a, Option.toList_some, Option.toList_none, List.nil_append, List.cons_append, mx_a, mxA_a, ou_mx, ou_mxA]
    refine hv b pre post _ u U ?_
    simp [q, m10_0, m10_1, m10_2, m10_5, m10_8, m10_9, m10_10, m10_11, m10_14, m10_15, m10_16, nb0, nb1, ou_a, Option.toList_some, Option.toList_none, List.nil_append, List.cons_append, mx_a, mxA_a, ou_mx, ou_mxA]
    exact hq
set_option maxRecDepth 1000000 in
set_option maxHeartbeats 20000000 in
theorem ex12 (h : GS s A) (i : Int32) : ∃ v : Int32, ∀ (b : Nat) (pre post : AHeap) (Q : Option Value → AHeap → Prop) (u : Nat → Int32) (U : Nat → List Int32), Q (some (.int v)) (put (b + 1) pre (mx u s) (mxA U A) post) → M12 0 [.val (.ref (b + 1)), .val (.int i)] [] (put (b + 1) pre (mx u s) (mxA U A) post) Q := by
  obtain ⟨v, pv, hv⟩ := ex8 (s := s) (A := A) i h.2.2
  rcases pv with rfl | ⟨rfl, i0, i1⟩
  · refine ⟨-1, fun b pre post Q u U hq => ?_⟩
    simp [m12_0, m12_1, m12_2, m12_5, m12_8, m12_9, m12_10, m12_11, m12_14, m12_15, m12_16, nb0, nb1, ou_a, Option.toList_some, Option.toList_none, List.nil_append, List.cons_append, mx_a, mxA_a, ou_mx, ou_mxA]
    refine hv b pre post _ u U ?_
    simp [m12_0, m12_1, m12_2, m12_5, m12_8, m12_9, m12_10, m12_11, m12_14, m12_15, m12_16, nb0, nb1, ou_a, Option.toList_some, Option.toList_none, List.nil_append, List.cons_append, mx_a, mxA_a, ou_mx, ou_mxA]
    exact hq
  · have q := in_lt h.1 z7 i0 i1
    refine ⟨getA (A 7) i, fun b pre post Q u U hq => ?_⟩
    simp [m12_0, m12_1, m12_2, m12_5, m12_8, m12_9, m12_10, m12_11, m12_14, m12_15, m12_16, nb0, nb1, ou_a, Option.toList_some, Option.toList_none, List.nil_append, List.cons_append, mx_a, mxA_a, ou_mx, ou_mxA]
    refine hv b pre post _ u U ?_
    simp [q, m12_0, m12_1, m12_2, m12_5, m12_8, m12_9, m12_10, m12_11, m12_14, m12_15, m12_16, nb0, nb1, ou_a, Option.toList_some, Option.toList_none, List.nil_append, List.cons_append, mx_a, mxA_a, ou_mx, ou_mxA]
    exact hq
set_option maxRecDepth 1000000 in
set_option maxHeartbeats 20000000 in
theorem ex13 (h : GS s A) (r : Int32) (r0 : ¬ r < 0) (r1 : r < 4) : ∃ v : Int32, ∀ (b : Nat) (pre post : AHeap) (Q : Option Value → AHeap → Prop) (u : Nat → Int32) (U : Nat → List Int32), Q (some (.int v)) (put (b + 1) pre (mx u s) (mxA U A) post) → M13 0 [.val (.ref (b + 1)), .val (.int r)] [] (put (b + 1) pre (mx u s) (mxA U A) post) Q := by
  have q := in_lt h.1 z8 r0 r1
  exact ⟨getA (A 8) r, fun b pre post Q u U hq => by simp [r0, r1, q, m13_0, m13_1, m13_4, m13_5, m13_6, m13_9, m13_10, m13_11, m13_12, m13_15, m13_16, m13_17, nb0, nb1, ou_a, Option.toList_some, Option.toList_none, List.nil_append, List.cons_append, mx_a, mxA_a, ou_mx, ou_mxA]; exact hq⟩
def Z0 : Nat → Int32 := fun _ => 0
def ZZ : Nat → List Int32 := fun j => if j = 17 then List.replicate 9 (-1) else List.replicate 9 0
abbrev LS (U : Nat → List Int32) : Prop := ∀ j, 14 ≤ j ∧ j < 20 → (U j).length = (A0 j).length
theorem LS_Z : LS ZZ := by
  intro j hj
  have q : j = 14 ∨ j = 15 ∨ j = 16 ∨ j = 17 ∨ j = 18 ∨ j = 19 := by omega
  rcases q with rfl | rfl | rfl | rfl | rfl | rfl <;> rfl
theorem GS_mx {u : Nat → Int32} {U : Nat → List Int32} (h : GS s A) (hU : LS U) : GS (mx u s) (mxA U A) := by
  refine ⟨fun j => ?_, h.2.1, h.2.2⟩
  rw [mxA_a]
  split
  · exact hU j (by assumption)
  · exact h.1 j
theorem ch9 {l : List Int32} (h : l.length = 9) (v : Int32) : setA (setA (setA (setA (setA (setA (setA (setA (setA l 0 v) 1 v) 2 v) 3 v) 4 v) 5 v) 6 v) 7 v) 8 v = List.replicate 9 v := by
  match l, h with
  | [a, b, c, d, e, f, g, x, y], _ => rfl
theorem e_mx {u : Nat → Int32} : ou (ou (mx u s) 9 0) 10 0 = mx Z0 s := by
  funext i
  simp only [ou_a, mx_a, Z0]
  by_cases h1 : i = 10
  · simp [h1]
  · by_cases h2 : i = 9 <;> simp [h1, h2]
theorem e_mxA {U : Nat → List Int32} : ou (ou (ou (ou (ou (ou (mxA U A) 14 (List.replicate 9 0)) 15 (List.replicate 9 0)) 16 (List.replicate 9 0)) 17 (List.replicate 9 (-1))) 18 (List.replicate 9 0)) 19 (List.replicate 9 0) = mxA ZZ A := by
  funext j
  simp only [ou_a, mxA_a, ZZ]
  by_cases h : 14 ≤ j ∧ j < 20
  · have q : j = 14 ∨ j = 15 ∨ j = 16 ∨ j = 17 ∨ j = 18 ∨ j = 19 := by omega
    rcases q with rfl | rfl | rfl | rfl | rfl | rfl <;> simp
  · have q : ¬ j = 14 ∧ ¬ j = 15 ∧ ¬ j = 16 ∧ ¬ j = 17 ∧ ¬ j = 18 ∧ ¬ j = 19 := by omega
    simp [h, q.1, q.2.1, q.2.2.1, q.2.2.2.1, q.2.2.2.2.1, q.2.2.2.2.2]
set_option maxRecDepth 1000000 in
set_option maxHeartbeats 20000000 in
theorem ex1 {u : Nat → Int32} {U : Nat → List Int32} (hU : LS U) {b : Nat} {pre post : AHeap} {Q : Option Value → AHeap → Prop} (hq : Q none (put (b + 1) pre (mx Z0 s) (mxA ZZ A) post)) : M1 0 [.val (.ref (b + 1)), .unset] [] (put (b + 1) pre (mx u s) (mxA U A) post) Q := by
  have sim14 : (U 14).length = 9 := (hU 14 (by decide)).trans A0l_14
  have sim15 : (U 15).length = 9 := (hU 15 (by decide)).trans A0l_15
  have sim16 : (U 16).length = 9 := (hU 16 (by decide)).trans A0l_16
  have sim17 : (U 17).length = 9 := (hU 17 (by decide)).trans A0l_17
  have sim18 : (U 18).length = 9 := (hU 18 (by decide)).trans A0l_18
  have sim19 : (U 19).length = 9 := (hU 19 (by decide)).trans A0l_19
  have f14 := ch9 sim14 0
  have f15 := ch9 sim15 0
  have f16 := ch9 sim16 0
  have f17 := ch9 sim17 (-1)
  have f18 := ch9 sim18 0
  have f19 := ch9 sim19 0
  simp [inB_iff, setA_len, sim14, sim15, sim16, sim17, sim18, sim19, m1_0, m1_1, m1_2, m1_5, m1_6, m1_7, m1_10, m1_11u, m1_12, m1_13, m1_15, m1_18, m1_19, m1_22, m1_23, m1_24, m1_25, m1_26, m1_29, m1_30, m1_31, m1_32, m1_33, m1_36, m1_37, m1_38, m1_39, m1_40, m1_43, m1_44, m1_45, m1_46, m1_47, m1_50, m1_51, m1_52, m1_53, m1_54, m1_57, m1_58, m1_59, m1_60, m1_63, m1_66, nb0, nb1, ou_a, Option.toList_some, Option.toList_none, List.nil_append, List.cons_append, ou_same, ou_comm, setA_same, setA_comm, mx_a, mxA_a]
  rw [f14, f15, f16, f17, f18, f19, e_mx, e_mxA]
  exact hq
set_option maxRecDepth 1000000 in
set_option maxHeartbeats 20000000 in
theorem ex2 (h : GS s A) : ∃ (v : Int32) (s' : Nat → Int32) (A' : Nat → List Int32), GS s' A' ∧ ((v < 0 ∧ ∀ (b : Nat) (pre post : AHeap) (Q : Option Value → AHeap → Prop) (u : Nat → Int32) (U : Nat → List Int32), Q (some (.int v)) (put (b + 1) pre (mx u s') (mxA U A') post) → M15 0 [.val (.ref (b + 1)), .unset, .unset, .unset] [] (put (b + 1) pre (mx u s) (mxA U A) post) Q) ∨ (¬ v < 0 ∧ ∀ (b : Nat) (pre post : AHeap) (Q : Option Value → AHeap → Prop) (u : Nat → Int32) (U : Nat → List Int32), LS U → Q (some (.int v)) (put (b + 1) pre (mx Z0 s') (mxA ZZ A') post) → M15 0 [.val (.ref (b + 1)), .unset, .unset, .unset] [] (put (b + 1) pre (mx u s) (mxA U A) post) Q)) := by
  have c0 := h.2.1
  have c1 := h.2.2
  by_cases f0 : s 4 = 0
  · exact ⟨-4, s, A, h, Or.inl ⟨by decide, fun b pre post Q u U hq => by simp [f0, m15_0, m15_1, m15_4, m15_7, m15_9, m15_10, m15_11, m15_14u, m15_15, m15_16, m15_18, m15_21, m15_22, m15_23, m15_26, m15_27, m15_28, m15_29, m15_30, m15_33, m15_34, m15_37, m15_40u, m15_41, m15_42, m15_45, m15_48, m15_49, m15_50, m15_53, m15_54, m15_55, m15_58, m15_60, m15_61, m15_62, m15_63, m15_66, m15_67, m15_68, m15_69, m15_70, m15_73u, m15_74, m15_75, m15_78, m15_79, m15_80, m15_83, m15_84, m15_85, m15_88, m15_90, m15_91, m15_92, m15_93, m15_94, m15_95, m15_98, m15_99, m15_100, m15_101, m15_102, m15_105, m15_106, m15_107, m15_110, m15_111, m15_112, m15_115, m15_116, m15_117, m15_120, m15_121, m15_124, m15_125, nb0, nb1, ou_a, Option.toList_some, Option.toList_none, List.nil_append, List.cons_append, mx_a, mxA_a, ou_mx, ou_mxA]; exact hq⟩⟩
  by_cases f1 : s 1 < 8
  · have f1' := f1
    rw [lt_i, i_8] at f1'
    obtain ⟨lc, hlc⟩ := g16 (s := s) (A := A) (s 2) (s 5)
    by_cases f2 : 840 < lc
    · refine ⟨-6, ou (ou s 4 0) 3 (-1), A, ⟨h.1, c0, c1⟩, Or.inl ⟨by decide, fun b pre post Q u U hq => ?_⟩⟩
      simp [f0, f1, m15_0, m15_1, m15_4, m15_7, m15_9, m15_10, m15_11, m15_14u, m15_15, m15_16, m15_18, m15_21, m15_22, m15_23, m15_26, m15_27, m15_28, m15_29, m15_30, m15_33, m15_34, m15_37, m15_40u, m15_41, m15_42, m15_45, m15_48, m15_49, m15_50, m15_53, m15_54, m15_55, m15_58, m15_60, m15_61, m15_62, m15_63, m15_66, m15_67, m15_68, m15_69, m15_70, m15_73u, m15_74, m15_75, m15_78, m15_79, m15_80, m15_83, m15_84, m15_85, m15_88, m15_90, m15_91, m15_92, m15_93, m15_94, m15_95, m15_98, m15_99, m15_100, m15_101, m15_102, m15_105, m15_106, m15_107, m15_110, m15_111, m15_112, m15_115, m15_116, m15_117, m15_120, m15_121, m15_124, m15_125, nb0, nb1, ou_a, Option.toList_some, Option.toList_none, List.nil_append, List.cons_append, mx_a, mxA_a, ou_mx, ou_mxA]
      refine hlc b pre post _ u U ?_
      simp [f2, m15_0, m15_1, m15_4, m15_7, m15_9, m15_10, m15_11, m15_14u, m15_15, m15_16, m15_18, m15_21, m15_22, m15_23, m15_26, m15_27, m15_28, m15_29, m15_30, m15_33, m15_34, m15_37, m15_40u, m15_41, m15_42, m15_45, m15_48, m15_49, m15_50, m15_53, m15_54, m15_55, m15_58, m15_60, m15_61, m15_62, m15_63, m15_66, m15_67, m15_68, m15_69, m15_70, m15_73u, m15_74, m15_75, m15_78, m15_79, m15_80, m15_83, m15_84, m15_85, m15_88, m15_90, m15_91, m15_92, m15_93, m15_94, m15_95, m15_98, m15_99, m15_100, m15_101, m15_102, m15_105, m15_106, m15_107, m15_110, m15_111, m15_112, m15_115, m15_116, m15_117, m15_120, m15_121, m15_124, m15_125, nb0, nb1, ou_a, Option.toList_some, Option.toList_none, List.nil_append, List.cons_append, mx_a, mxA_a, ou_mx, ou_mxA]
      exact hq
    have n0 : ¬ s 1 < 0 := by rw [nn_i]; exact c0
    have n9 : s 1 < 9 := by rw [lt_i, i_9]; omega
    have em : (s 1 + 1).toInt = (s 1).toInt + 1 := add1_i (by omega)
    obtain ⟨s1, A1, h1, hp⟩ := g18 h (s 1) n0 n9
    obtain ⟨f, s2, A2, h2, ha⟩ := g19 (m := s 1 + 1) h1 (by omega) (by omega)
    by_cases f3 : f < 0
    · obtain ⟨s3, A3, h3, hd⟩ := g24 (m := s 1 + 1) h2 (by omega) (by omega)
      have h4 : GS (ou (ou (ou (ou s3 1 (s 1 + 1)) 4 0) 2 lc) 3 (-1)) A3 := ⟨h3.1, by show 0 ≤ (s 1 + 1).toInt; omega, by show (s 1 + 1).toInt ≤ 8; omega⟩
      refine ⟨s 1, _, _, h4, Or.inr ⟨n0, fun b pre post Q u U hU hq => ?_⟩⟩
      simp [f0, f1, m15_0, m15_1, m15_4, m15_7, m15_9, m15_10, m15_11, m15_14u, m15_15, m15_16, m15_18, m15_21, m15_22, m15_23, m15_26, m15_27, m15_28, m15_29, m15_30, m15_33, m15_34, m15_37, m15_40u, m15_41, m15_42, m15_45, m15_48, m15_49, m15_50, m15_53, m15_54, m15_55, m15_58, m15_60, m15_61, m15_62, m15_63, m15_66, m15_67, m15_68, m15_69, m15_70, m15_73u, m15_74, m15_75, m15_78, m15_79, m15_80, m15_83, m15_84, m15_85, m15_88, m15_90, m15_91, m15_92, m15_93, m15_94, m15_95, m15_98, m15_99, m15_100, m15_101, m15_102, m15_105, m15_106, m15_107, m15_110, m15_111, m15_112, m15_115, m15_116, m15_117, m15_120, m15_121, m15_124, m15_125, nb0, nb1, ou_a, Option.toList_some, Option.toList_none, List.nil_append, List.cons_append, mx_a, mxA_a, ou_mx, ou_mxA]
      refine hlc b pre post _ u U ?_
      simp [f2, m15_0, m15_1, m15_4, m15_7, m15_9, m15_10, m15_11, m15_14u, m15_15, m15_16, m15_18, m15_21, m15_22, m15_23, m15_26, m15_27, m15_28, m15_29, m15_30, m15_33, m15_34, m15_37, m15_40u, m15_41, m15_42, m15_45, m15_48, m15_49, m15_50, m15_53, m15_54, m15_55, m15_58, m15_60, m15_61, m15_62, m15_63, m15_66, m15_67, m15_68, m15_69, m15_70, m15_73u, m15_74, m15_75, m15_78, m15_79, m15_80, m15_83, m15_84, m15_85, m15_88, m15_90, m15_91, m15_92, m15_93, m15_94, m15_95, m15_98, m15_99, m15_100, m15_101, m15_102, m15_105, m15_106, m15_107, m15_110, m15_111, m15_112, m15_115, m15_116, m15_117, m15_120, m15_121, m15_124, m15_125, nb0, nb1, ou_a, Option.toList_some, Option.toList_none, List.nil_append, List.cons_append, mx_a, mxA_a, ou_mx, ou_mxA]
      refine hp b pre post _ u U ?_
      simp [m15_0, m15_1, m15_4, m15_7, m15_9, m15_10, m15_11, m15_14u, m15_15, m15_16, m15_18, m15_21, m15_22, m15_23, m15_26, m15_27, m15_28, m15_29, m15_30, m15_33, m15_34, m15_37, m15_40u, m15_41, m15_42, m15_45, m15_48, m15_49, m15_50, m15_53, m15_54, m15_55, m15_58, m15_60, m15_61, m15_62, m15_63, m15_66, m15_67, m15_68, m15_69, m15_70, m15_73u, m15_74, m15_75, m15_78, m15_79, m15_80, m15_83, m15_84, m15_85, m15_88, m15_90, m15_91, m15_92, m15_93, m15_94, m15_95, m15_98, m15_99, m15_100, m15_101, m15_102, m15_105, m15_106, m15_107, m15_110, m15_111, m15_112, m15_115, m15_116, m15_117, m15_120, m15_121, m15_124, m15_125, nb0, nb1, ou_a, Option.toList_some, Option.toList_none, List.nil_append, List.cons_append, mx_a, mxA_a, ou_mx, ou_mxA]
      refine ha b pre post _ u U ?_
      simp [f3, m15_0, m15_1, m15_4, m15_7, m15_9, m15_10, m15_11, m15_14u, m15_15, m15_16, m15_18, m15_21, m15_22, m15_23, m15_26, m15_27, m15_28, m15_29, m15_30, m15_33, m15_34, m15_37, m15_40u, m15_41, m15_42, m15_45, m15_48, m15_49, m15_50, m15_53, m15_54, m15_55, m15_58, m15_60, m15_61, m15_62, m15_63, m15_66, m15_67, m15_68, m15_69, m15_70, m15_73u, m15_74, m15_75, m15_78, m15_79, m15_80, m15_83, m15_84, m15_85, m15_88, m15_90, m15_91, m15_92, m15_93, m15_94, m15_95, m15_98, m15_99, m15_100, m15_101, m15_102, m15_105, m15_106, m15_107, m15_110, m15_111, m15_112, m15_115, m15_116, m15_117, m15_120, m15_121, m15_124, m15_125, nb0, nb1, ou_a, Option.toList_some, Option.toList_none, List.nil_append, List.cons_append, mx_a, mxA_a, ou_mx, ou_mxA]
      refine hd b pre post _ u U ?_
      simp [m15_0, m15_1, m15_4, m15_7, m15_9, m15_10, m15_11, m15_14u, m15_15, m15_16, m15_18, m15_21, m15_22, m15_23, m15_26, m15_27, m15_28, m15_29, m15_30, m15_33, m15_34, m15_37, m15_40u, m15_41, m15_42, m15_45, m15_48, m15_49, m15_50, m15_53, m15_54, m15_55, m15_58, m15_60, m15_61, m15_62, m15_63, m15_66, m15_67, m15_68, m15_69, m15_70, m15_73u, m15_74, m15_75, m15_78, m15_79, m15_80, m15_83, m15_84, m15_85, m15_88, m15_90, m15_91, m15_92, m15_93, m15_94, m15_95, m15_98, m15_99, m15_100, m15_101, m15_102, m15_105, m15_106, m15_107, m15_110, m15_111, m15_112, m15_115, m15_116, m15_117, m15_120, m15_121, m15_124, m15_125, nb0, nb1, ou_a, Option.toList_some, Option.toList_none, List.nil_append, List.cons_append, mx_a, mxA_a, ou_mx, ou_mxA]
      refine ex1 hU ?_
      try simp [m15_0, m15_1, m15_4, m15_7, m15_9, m15_10, m15_11, m15_14u, m15_15, m15_16, m15_18, m15_21, m15_22, m15_23, m15_26, m15_27, m15_28, m15_29, m15_30, m15_33, m15_34, m15_37, m15_40u, m15_41, m15_42, m15_45, m15_48, m15_49, m15_50, m15_53, m15_54, m15_55, m15_58, m15_60, m15_61, m15_62, m15_63, m15_66, m15_67, m15_68, m15_69, m15_70, m15_73u, m15_74, m15_75, m15_78, m15_79, m15_80, m15_83, m15_84, m15_85, m15_88, m15_90, m15_91, m15_92, m15_93, m15_94, m15_95, m15_98, m15_99, m15_100, m15_101, m15_102, m15_105, m15_106, m15_107, m15_110, m15_111, m15_112, m15_115, m15_116, m15_117, m15_120, m15_121, m15_124, m15_125, nb0, nb1, ou_a, Option.toList_some, Option.toList_none, List.nil_append, List.cons_append]
      exact hq
    · refine ⟨-7, ou (ou s2 4 0) 3 f, A2, ⟨h2.1, h2.2.1, h2.2.2⟩, Or.inl ⟨by decide, fun b pre post Q u U hq => ?_⟩⟩
      simp [f0, f1, m15_0, m15_1, m15_4, m15_7, m15_9, m15_10, m15_11, m15_14u, m15_15, m15_16, m15_18, m15_21, m15_22, m15_23, m15_26, m15_27, m15_28, m15_29, m15_30, m15_33, m15_34, m15_37, m15_40u, m15_41, m15_42, m15_45, m15_48, m15_49, m15_50, m15_53, m15_54, m15_55, m15_58, m15_60, m15_61, m15_62, m15_63, m15_66, m15_67, m15_68, m15_69, m15_70, m15_73u, m15_74, m15_75, m15_78, m15_79, m15_80, m15_83, m15_84, m15_85, m15_88, m15_90, m15_91, m15_92, m15_93, m15_94, m15_95, m15_98, m15_99, m15_100, m15_101, m15_102, m15_105, m15_106, m15_107, m15_110, m15_111, m15_112, m15_115, m15_116, m15_117, m15_120, m15_121, m15_124, m15_125, nb0, nb1, ou_a, Option.toList_some, Option.toList_none, List.nil_append, List.cons_append, mx_a, mxA_a, ou_mx, ou_mxA]
      refine hlc b pre post _ u U ?_
      simp [f2, m15_0, m15_1, m15_4, m15_7, m15_9, m15_10, m15_11, m15_14u, m15_15, m15_16, m15_18, m15_21, m15_22, m15_23, m15_26, m15_27, m15_28, m15_29, m15_30, m15_33, m15_34, m15_37, m15_40u, m15_41, m15_42, m15_45, m15_48, m15_49, m15_50, m15_53, m15_54, m15_55, m15_58, m15_60, m15_61, m15_62, m15_63, m15_66, m15_67, m15_68, m15_69, m15_70, m15_73u, m15_74, m15_75, m15_78, m15_79, m15_80, m15_83, m15_84, m15_85, m15_88, m15_90, m15_91, m15_92, m15_93, m15_94, m15_95, m15_98, m15_99, m15_100, m15_101, m15_102, m15_105, m15_106, m15_107, m15_110, m15_111, m15_112, m15_115, m15_116, m15_117, m15_120, m15_121, m15_124, m15_125, nb0, nb1, ou_a, Option.toList_some, Option.toList_none, List.nil_append, List.cons_append, mx_a, mxA_a, ou_mx, ou_mxA]
      refine hp b pre post _ u U ?_
      simp [m15_0, m15_1, m15_4, m15_7, m15_9, m15_10, m15_11, m15_14u, m15_15, m15_16, m15_18, m15_21, m15_22, m15_23, m15_26, m15_27, m15_28, m15_29, m15_30, m15_33, m15_34, m15_37, m15_40u, m15_41, m15_42, m15_45, m15_48, m15_49, m15_50, m15_53, m15_54, m15_55, m15_58, m15_60, m15_61, m15_62, m15_63, m15_66, m15_67, m15_68, m15_69, m15_70, m15_73u, m15_74, m15_75, m15_78, m15_79, m15_80, m15_83, m15_84, m15_85, m15_88, m15_90, m15_91, m15_92, m15_93, m15_94, m15_95, m15_98, m15_99, m15_100, m15_101, m15_102, m15_105, m15_106, m15_107, m15_110, m15_111, m15_112, m15_115, m15_116, m15_117, m15_120, m15_121, m15_124, m15_125, nb0, nb1, ou_a, Option.toList_some, Option.toList_none, List.nil_append, List.cons_append, mx_a, mxA_a, ou_mx, ou_mxA]
      refine ha b pre post _ u U ?_
      simp [f3, m15_0, m15_1, m15_4, m15_7, m15_9, m15_10, m15_11, m15_14u, m15_15, m15_16, m15_18, m15_21, m15_22, m15_23, m15_26, m15_27, m15_28, m15_29, m15_30, m15_33, m15_34, m15_37, m15_40u, m15_41, m15_42, m15_45, m15_48, m15_49, m15_50, m15_53, m15_54, m15_55, m15_58, m15_60, m15_61, m15_62, m15_63, m15_66, m15_67, m15_68, m15_69, m15_70, m15_73u, m15_74, m15_75, m15_78, m15_79, m15_80, m15_83, m15_84, m15_85, m15_88, m15_90, m15_91, m15_92, m15_93, m15_94, m15_95, m15_98, m15_99, m15_100, m15_101, m15_102, m15_105, m15_106, m15_107, m15_110, m15_111, m15_112, m15_115, m15_116, m15_117, m15_120, m15_121, m15_124, m15_125, nb0, nb1, ou_a, Option.toList_some, Option.toList_none, List.nil_append, List.cons_append, mx_a, mxA_a, ou_mx, ou_mxA]
      exact hq
  · exact ⟨-1, ou s 4 0, A, ⟨h.1, c0, c1⟩, Or.inl ⟨by decide, fun b pre post Q u U hq => by simp [f0, f1, m15_0, m15_1, m15_4, m15_7, m15_9, m15_10, m15_11, m15_14u, m15_15, m15_16, m15_18, m15_21, m15_22, m15_23, m15_26, m15_27, m15_28, m15_29, m15_30, m15_33, m15_34, m15_37, m15_40u, m15_41, m15_42, m15_45, m15_48, m15_49, m15_50, m15_53, m15_54, m15_55, m15_58, m15_60, m15_61, m15_62, m15_63, m15_66, m15_67, m15_68, m15_69, m15_70, m15_73u, m15_74, m15_75, m15_78, m15_79, m15_80, m15_83, m15_84, m15_85, m15_88, m15_90, m15_91, m15_92, m15_93, m15_94, m15_95, m15_98, m15_99, m15_100, m15_101, m15_102, m15_105, m15_106, m15_107, m15_110, m15_111, m15_112, m15_115, m15_116, m15_117, m15_120, m15_121, m15_124, m15_125, nb0, nb1, ou_a, Option.toList_some, Option.toList_none, List.nil_append, List.cons_append, mx_a, mxA_a, ou_mx, ou_mxA]; exact hq⟩⟩
abbrev FR (s : Nat → Int32) (A : Nat → List Int32) (t : Nat → Int32) (D : Nat → List Int32) : Prop := (∀ i, i ≠ 9 → i ≠ 10 → t i = s i) ∧ (∀ j, ¬ (14 ≤ j ∧ j < 20) → D j = A j)
theorem FR_r : FR s A s A := ⟨fun _ _ _ => rfl, fun _ _ => rfl⟩
theorem FR_t {t w : Nat → Int32} {D E : Nat → List Int32} (h : FR s A t D) (g : FR t D w E) : FR s A w E := ⟨fun i p q => (g.1 i p q).trans (h.1 i p q), fun j p => (g.2 j p).trans (h.2 j p)⟩
theorem FR_A {t : Nat → Int32} {D : Nat → List Int32} {j : Nat} {l : List Int32} (h : FR s A t D) (hj : 14 ≤ j ∧ j < 20) : FR s A t (ou D j l) := ⟨h.1, fun k p => by rw [ou_a, if_neg (by intro e; subst e; exact p hj)]; exact h.2 k p⟩
theorem FR_s {t : Nat → Int32} {D : Nat → List Int32} {i : Nat} {v : Int32} (h : FR s A t D) (hi : i = 9 ∨ i = 10) : FR s A (ou t i v) D := ⟨fun k p q => by rw [ou_a, if_neg (by omega)]; exact h.1 k p q, h.2⟩
theorem mx_of {t : Nat → Int32} {u : Nat → Int32} {D U : Nat → List Int32} (h : FR (mx u s) (mxA U A) t D) : t = mx t s ∧ D = mxA D A := by
  refine ⟨funext fun i => ?_, funext fun j => ?_⟩
  · rw [mx_a]
    by_cases q : i = 9 ∨ i = 10
    · rw [if_pos q]
    · rw [if_neg q, h.1 i (by omega) (by omega), mx_a, if_neg q]
  · rw [mxA_a]
    by_cases q : 14 ≤ j ∧ j < 20
    · rw [if_pos q]
    · rw [if_neg q, h.2 j q, mxA_a, if_neg q]
set_option maxRecDepth 1000000 in
set_option maxHeartbeats 20000000 in
theorem sim27 {pre post : AHeap} {Q : Option Value → AHeap → Prop} (hQ : ∀ t D, GS t D → FR s A t D → Q none (put 1 pre t D post)) : ∀ (n : Nat) (i : Int32) (k2 : Slot) (D : Nat → List Int32), GS s D → FR s A s D → okS k2 → ¬ i < 0 → i.toInt + n = (s 1).toInt → M4 2 [.val (.ref 1), .val (.int i), k2] [] (put 1 pre s D post) Q := by
  intro n
  induction n with
  | zero =>
    intro i k2 D h fr o2 h0 e
    have hge : ¬ i < s 1 := by rw [lt_i]; omega
    rw [m4_2]
    simp [hge, m4_0, m4_1u, m4_3, m4_4, m4_7, m4_10, m4_11, m4_14, m4_15, m4_16u, m4_16i, m4_16r, m4_16g, m4_17, m4_18, m4_21, m4_22, m4_25, m4_26, m4_27, m4_30, m4_31, m4_34, m4_35, m4_36, m4_37, m4_38, m4_41, m4_42, m4_43, m4_46, m4_47, m4_48, m4_51, m4_52, m4_53, m4_54, m4_55, m4_58, m4_59, m4_60, m4_61, m4_64, m4_67, nb0, nb1, ou_a, Option.toList_some, Option.toList_none, List.nil_append, List.cons_append]
    exact hQ s D h fr
  | succ n ih =>
    intro i k2 D h fr o2 h0 e
    have c1 := h.2.2
    have hlt : i < s 1 := by rw [lt_i]; omega
    have i9 := lt9 hlt (by omega)
    have q0 := in_lt h.1 z0 h0 i9
    have q14 := in_lt h.1 z14 h0 i9
    have q15 := in_lt h.1 z15 h0 i9
    have q16 := in_lt h.1 z16 h0 i9
    have q17 := in_lt h.1 z17 h0 i9
    have n1 := succ_nn h0 (by omega)
    have e1 : (i + 1).toInt + n = (s 1).toInt := by rw [add1_i (by omega)]; omega
    rw [m4_2]
    by_cases b1 : 0 < getA (D 0) i
    · have b0 := ne0_pos b1
      by_cases b2 : s 9 % getA (D 0) i = 0
      · simp [hlt, q0, q14, q15, q16, q17, b0, b1, b2, o2, m4_0, m4_1u, m4_3, m4_4, m4_7, m4_10, m4_11, m4_14, m4_15, m4_16u, m4_16i, m4_16r, m4_16g, m4_17, m4_18, m4_21, m4_22, m4_25, m4_26, m4_27, m4_30, m4_31, m4_34, m4_35, m4_36, m4_37, m4_38, m4_41, m4_42, m4_43, m4_46, m4_47, m4_48, m4_51, m4_52, m4_53, m4_54, m4_55, m4_58, m4_59, m4_60, m4_61, m4_64, m4_67, nb0, nb1, ou_a, Option.toList_some, Option.toList_none, List.nil_append, List.cons_append]
        exact ih _ _ _ ⟨(by have h := h.1; exact (by (repeat refine LN_ou ?_ (by simp only [setA_len]; exact h _)); exact h)), h.2.1, h.2.2⟩ (by (repeat refine FR_A ?_ (by decide)); exact fr) (okS_i _) n1 e1
      · simp [hlt, q0, b0, b1, b2, o2, m4_0, m4_1u, m4_3, m4_4, m4_7, m4_10, m4_11, m4_14, m4_15, m4_16u, m4_16i, m4_16r, m4_16g, m4_17, m4_18, m4_21, m4_22, m4_25, m4_26, m4_27, m4_30, m4_31, m4_34, m4_35, m4_36, m4_37, m4_38, m4_41, m4_42, m4_43, m4_46, m4_47, m4_48, m4_51, m4_52, m4_53, m4_54, m4_55, m4_58, m4_59, m4_60, m4_61, m4_64, m4_67, nb0, nb1, ou_a, Option.toList_some, Option.toList_none, List.nil_append, List.cons_append]
        exact ih _ _ _ h fr (okS_i _) n1 e1
    · simp [hlt, q0, b1, o2, m4_0, m4_1u, m4_3, m4_4, m4_7, m4_10, m4_11, m4_14, m4_15, m4_16u, m4_16i, m4_16r, m4_16g, m4_17, m4_18, m4_21, m4_22, m4_25, m4_26, m4_27, m4_30, m4_31, m4_34, m4_35, m4_36, m4_37, m4_38, m4_41, m4_42, m4_43, m4_46, m4_47, m4_48, m4_51, m4_52, m4_53, m4_54, m4_55, m4_58, m4_59, m4_60, m4_61, m4_64, m4_67, nb0, nb1, ou_a, Option.toList_some, Option.toList_none, List.nil_append, List.cons_append]
      exact ih _ _ _ h fr (okS_i _) n1 e1
set_option maxRecDepth 1000000 in
set_option maxHeartbeats 20000000 in
theorem sim31 {pre post : AHeap} {Q : Option Value → AHeap → Prop} (h : GS s A) {i : Int32} (i0 : ¬ i < 0) (i1 : i < 9) (hQ : ∀ t D, GS t D → FR s A t D → Q none (put 1 pre t D post)) : ∀ (n : Nat) (r : Int32), ¬ r < 0 → r.toInt + n = 4 → M35 12 [.val (.ref 1), .val (.int i), .val (.int r)] [] (put 1 pre s A post) Q := by
  intro n
  induction n with
  | zero =>
    intro r h0 e
    have hge : ¬ r < 4 := by rw [lt_i, i_4]; omega
    rw [m35_12]
    simp [hge, m35_0, m35_1, m35_4, m35_5, m35_6, m35_9, m35_10, m35_11u, m35_13, m35_14, m35_17, m35_18, m35_21, m35_22, m35_23, m35_24, m35_25, m35_26, m35_27, m35_30, m35_31, m35_34, m35_35, m35_36, m35_37, m35_38, m35_39, m35_40, m35_41, m35_44, m35_45, m35_46, m35_49, m35_50, m35_53, m35_54, m35_55, m35_56, m35_57, m35_60, m35_63, nb0, nb1, ou_a, Option.toList_some, Option.toList_none, List.nil_append, List.cons_append]
    exact hQ s A h FR_r
  | succ n ih =>
    intro r h0 e
    have hlt : r < 4 := by rw [lt_i, i_4]; omega
    have x := idx4 i0 i1 h0 hlt
    have q4 := in_lt h.1 z4 x.1 x.2
    have q5 := in_lt h.1 z5 x.1 x.2
    have q16 := in_lt h.1 z16 i0 i1
    have q17 := in_lt h.1 z17 i0 i1
    have n1 := succ_nn h0 (by omega)
    have e1 : (r + 1).toInt + n = 4 := by rw [add1_i (by omega)]; omega
    rw [m35_12]
    by_cases b1 : 0 < getA (A 5) (i * 4 + r)
    · by_cases b2 : getA (A 4) (i * 4 + r) = getA (A 16) i
      · simp [hlt, q4, q5, q16, q17, b1, b2, m35_0, m35_1, m35_4, m35_5, m35_6, m35_9, m35_10, m35_11u, m35_13, m35_14, m35_17, m35_18, m35_21, m35_22, m35_23, m35_24, m35_25, m35_26, m35_27, m35_30, m35_31, m35_34, m35_35, m35_36, m35_37, m35_38, m35_39, m35_40, m35_41, m35_44, m35_45, m35_46, m35_49, m35_50, m35_53, m35_54, m35_55, m35_56, m35_57, m35_60, m35_63, nb0, nb1, ou_a, Option.toList_some, Option.toList_none, List.nil_append, List.cons_append]
        exact hQ _ _ ⟨LN_ou h.1 (by simp only [setA_len]; exact h.1 _), h.2.1, h.2.2⟩ (FR_A FR_r (by decide))
      · simp [hlt, q4, q5, q16, b1, b2, m35_0, m35_1, m35_4, m35_5, m35_6, m35_9, m35_10, m35_11u, m35_13, m35_14, m35_17, m35_18, m35_21, m35_22, m35_23, m35_24, m35_25, m35_26, m35_27, m35_30, m35_31, m35_34, m35_35, m35_36, m35_37, m35_38, m35_39, m35_40, m35_41, m35_44, m35_45, m35_46, m35_49, m35_50, m35_53, m35_54, m35_55, m35_56, m35_57, m35_60, m35_63, nb0, nb1, ou_a, Option.toList_some, Option.toList_none, List.nil_append, List.cons_append]
        exact ih _ n1 e1
    · simp [hlt, q5, b1, m35_0, m35_1, m35_4, m35_5, m35_6, m35_9, m35_10, m35_11u, m35_13, m35_14, m35_17, m35_18, m35_21, m35_22, m35_23, m35_24, m35_25, m35_26, m35_27, m35_30, m35_31, m35_34, m35_35, m35_36, m35_37, m35_38, m35_39, m35_40, m35_41, m35_44, m35_45, m35_46, m35_49, m35_50, m35_53, m35_54, m35_55, m35_56, m35_57, m35_60, m35_63, nb0, nb1, ou_a, Option.toList_some, Option.toList_none, List.nil_append, List.cons_append]
      exact ih _ n1 e1
set_option maxRecDepth 1000000 in
set_option maxHeartbeats 20000000 in
theorem sim33 {pre post : AHeap} {Q : Option Value → AHeap → Prop} (h : GS s A) {i : Int32} (i0 : ¬ i < 0) (i1 : i < 9) (hQ : ∀ t D, GS t D → FR s A t D → Q none (put 1 pre t D post)) : M36 0 [.val (.ref 1), .val (.int i), .unset] [] (put 1 pre s A post) Q := by
  have q14 := in_lt h.1 z14 i0 i1
  have q15 := in_lt h.1 z15 i0 i1
  have q17 := in_lt h.1 z17 i0 i1
  have q18 := in_lt h.1 z18 i0 i1
  have q19 := in_lt h.1 z19 i0 i1
  by_cases b1 : getA (A 19) i < s 9 + 1 - getA (A 15) i <;>
  · simp [b1, q14, q15, q17, q18, q19, m36_0, m36_1, m36_4, m36_5, m36_6, m36_7, m36_10, m36_11, m36_12, m36_13u, m36_14, m36_15, m36_18, m36_19, m36_20, m36_23, m36_24, m36_25, m36_26, m36_27, m36_28, m36_29, m36_30, m36_33, m36_34, m36_35, m36_38, m36_39, m36_42, m36_43, m36_44, m36_45, m36_46, m36_49, m36_50, m36_51, m36_52, m36_53, m36_56, m36_57, m36_58, m36_59, nb0, nb1, ou_a, Option.toList_some, Option.toList_none, List.nil_append, List.cons_append]
    exact hQ _ _ ⟨(by have h := h.1; exact (by (repeat refine LN_ou ?_ (by simp only [setA_len]; exact h _)); exact h)), h.2.1, h.2.2⟩ (by (repeat refine FR_A ?_ (by decide)); exact FR_r)
set_option maxRecDepth 1000000 in
set_option maxHeartbeats 20000000 in
theorem sim30b {pre post : AHeap} {Q : Option Value → AHeap → Prop} (h : GS s A) {i : Int32} (i0 : ¬ i < 0) (i1 : i < 9) {k2 : Slot} (hQ : ∀ t D, GS t D → FR s A t D → Q none (put 1 pre t D post)) : M34 72 [.val (.ref 1), .val (.int i), k2] [] (put 1 pre s A post) Q := by
  have q2 := in_lt h.1 z2 i0 i1
  have q16 := in_lt h.1 z16 i0 i1
  by_cases b1 : getA (A 16) i = getA (A 2) i
  · simp [b1, q2, q16, m34_0, m34_1, m34_2, m34_5, m34_6, m34_9, m34_10, m34_11, m34_14, m34_15, m34_16, m34_17, m34_18, m34_19, m34_20, m34_23, m34_24, m34_25u, m34_26, m34_27, m34_30, m34_31, m34_32, m34_35, m34_36, m34_39, m34_40, m34_41, m34_42, m34_45, m34_46, m34_47, m34_48, m34_49, m34_50, m34_51, m34_52, m34_55, m34_56, m34_57, m34_58, m34_59, m34_60, m34_61, m34_62, m34_65, m34_66, m34_69, m34_70, m34_71, m34_72, m34_73, m34_76, m34_77, m34_78, m34_79, m34_82, m34_83, m34_84, m34_87, m34_88, m34_89, m34_92, nb0, nb1, ou_a, Option.toList_some, Option.toList_none, List.nil_append, List.cons_append]
    refine sim33 h i0 i1 (fun t D h' fr => ?_)
    simp [m34_0, m34_1, m34_2, m34_5, m34_6, m34_9, m34_10, m34_11, m34_14, m34_15, m34_16, m34_17, m34_18, m34_19, m34_20, m34_23, m34_24, m34_25u, m34_26, m34_27, m34_30, m34_31, m34_32, m34_35, m34_36, m34_39, m34_40, m34_41, m34_42, m34_45, m34_46, m34_47, m34_48, m34_49, m34_50, m34_51, m34_52, m34_55, m34_56, m34_57, m34_58, m34_59, m34_60, m34_61, m34_62, m34_65, m34_66, m34_69, m34_70, m34_71, m34_72, m34_73, m34_76, m34_77, m34_78, m34_79, m34_82, m34_83, m34_84, m34_87, m34_88, m34_89, m34_92, nb0, nb1, ou_a, Option.toList_some, Option.toList_none, List.nil_append, List.cons_append]
    exact hQ t D h' fr
  · simp [b1, q2, q16, m34_0, m34_1, m34_2, m34_5, m34_6, m34_9, m34_10, m34_11, m34_14, m34_15, m34_16, m34_17, m34_18, m34_19, m34_20, m34_23, m34_24, m34_25u, m34_26, m34_27, m34_30, m34_31, m34_32, m34_35, m34_36, m34_39, m34_40, m34_41, m34_42, m34_45, m34_46, m34_47, m34_48, m34_49, m34_50, m34_51, m34_52, m34_55, m34_56, m34_57, m34_58, m34_59, m34_60, m34_61, m34_62, m34_65, m34_66, m34_69, m34_70, m34_71, m34_72, m34_73, m34_76, m34_77, m34_78, m34_79, m34_82, m34_83, m34_84, m34_87, m34_88, m34_89, m34_92, nb0, nb1, ou_a, Option.toList_some, Option.toList_none, List.nil_append, List.cons_append]
    exact hQ s A h FR_r
theorem sim30a {pre post : AHeap} {Q : Option Value → AHeap → Prop} (h : GS s A) {i : Int32} (i0 : ¬ i < 0) (i1 : i < 9) (hQ : ∀ t D, GS t D → FR s A t D → Q none (put 1 pre t D post)) : M34 5 [.val (.ref 1), .val (.int i), .unset] [] (put 1 pre s A post) Q := by
  have q16 := in_lt h.1 z16 i0 i1
  have q17 := in_lt h.1 z17 i0 i1
  have h1 : GS s (ou A 16 (setA (A 16) i (getA (A 16) i + 1))) := ⟨LN_ou h.1 (by simp only [setA_len]; exact h.1 _), h.2.1, h.2.2⟩
  have hQ1 : ∀ t D, GS t D → FR s (ou A 16 (setA (A 16) i (getA (A 16) i + 1))) t D → Q none (put 1 pre t D post) := fun t D g fr => hQ t D g (FR_t (FR_A FR_r (by decide)) fr)
  by_cases b1 : getA (A 17) i < 0
  · simp [b1, q16, q17, m34_0, m34_1, m34_2, m34_5, m34_6, m34_9, m34_10, m34_11, m34_14, m34_15, m34_16, m34_17, m34_18, m34_19, m34_20, m34_23, m34_24, m34_25u, m34_26, m34_27, m34_30, m34_31, m34_32, m34_35, m34_36, m34_39, m34_40, m34_41, m34_42, m34_45, m34_46, m34_47, m34_48, m34_49, m34_50, m34_51, m34_52, m34_55, m34_56, m34_57, m34_58, m34_59, m34_60, m34_61, m34_62, m34_65, m34_66, m34_69, m34_70, m34_71, m34_73, m34_76, m34_77, m34_78, m34_79, m34_82, m34_83, m34_84, m34_87, m34_88, m34_89, m34_92, nb0, nb1, ou_a, Option.toList_some, Option.toList_none, List.nil_append, List.cons_append]
    exact sim30b h1 i0 i1 hQ1
  by_cases b2 : getA (A 17) i < 4
  · have x := idx4 i0 i1 b1 b2
    have q4 := in_lt h.1 z4 x.1 x.2
    have q5 := in_lt h.1 z5 x.1 x.2
    by_cases b3 : getA (setA (A 16) i (getA (A 16) i + 1)) i = getA (A 4) (i * 4 + getA (A 17) i) + getA (A 5) (i * 4 + getA (A 17) i)
    · simp [b1, b2, b3, q4, q5, q16, q17, inB_set, m34_0, m34_1, m34_2, m34_5, m34_6, m34_9, m34_10, m34_11, m34_14, m34_15, m34_16, m34_17, m34_18, m34_19, m34_20, m34_23, m34_24, m34_25u, m34_26, m34_27, m34_30, m34_31, m34_32, m34_35, m34_36, m34_39, m34_40, m34_41, m34_42, m34_45, m34_46, m34_47, m34_48, m34_49, m34_50, m34_51, m34_52, m34_55, m34_56, m34_57, m34_58, m34_59, m34_60, m34_61, m34_62, m34_65, m34_66, m34_69, m34_70, m34_71, m34_73, m34_76, m34_77, m34_78, m34_79, m34_82, m34_83, m34_84, m34_87, m34_88, m34_89, m34_92, nb0, nb1, ou_a, Option.toList_some, Option.toList_none, List.nil_append, List.cons_append]
      exact sim30b ⟨LN_ou h1.1 (by simp only [setA_len]; exact h.1 _), h.2.1, h.2.2⟩ i0 i1 (fun t D g fr => hQ t D g (FR_t (FR_A (FR_A FR_r (by decide)) (by decide)) fr))
    · simp [b1, b2, b3, q4, q5, q16, q17, inB_set, m34_0, m34_1, m34_2, m34_5, m34_6, m34_9, m34_10, m34_11, m34_14, m34_15, m34_16, m34_17, m34_18, m34_19, m34_20, m34_23, m34_24, m34_25u, m34_26, m34_27, m34_30, m34_31, m34_32, m34_35, m34_36, m34_39, m34_40, m34_41, m34_42, m34_45, m34_46, m34_47, m34_48, m34_49, m34_50, m34_51, m34_52, m34_55, m34_56, m34_57, m34_58, m34_59, m34_60, m34_61, m34_62, m34_65, m34_66, m34_69, m34_70, m34_71, m34_73, m34_76, m34_77, m34_78, m34_79, m34_82, m34_83, m34_84, m34_87, m34_88, m34_89, m34_92, nb0, nb1, ou_a, Option.toList_some, Option.toList_none, List.nil_append, List.cons_append]
      exact sim30b h1 i0 i1 hQ1
  · simp [b1, b2, q16, q17, m34_0, m34_1, m34_2, m34_5, m34_6, m34_9, m34_10, m34_11, m34_14, m34_15, m34_16, m34_17, m34_18, m34_19, m34_20, m34_23, m34_24, m34_25u, m34_26, m34_27, m34_30, m34_31, m34_32, m34_35, m34_36, m34_39, m34_40, m34_41, m34_42, m34_45, m34_46, m34_47, m34_48, m34_49, m34_50, m34_51, m34_52, m34_55, m34_56, m34_57, m34_58, m34_59, m34_60, m34_61, m34_62, m34_65, m34_66, m34_69, m34_70, m34_71, m34_73, m34_76, m34_77, m34_78, m34_79, m34_82, m34_83, m34_84, m34_87, m34_88, m34_89, m34_92, nb0, nb1, ou_a, Option.toList_some, Option.toList_none, List.nil_append, List.cons_append]
    exact sim30b h1 i0 i1 hQ1
theorem sim30 {pre post : AHeap} {Q : Option Value → AHeap → Prop} (h : GS s A) {i : Int32} (i0 : ¬ i < 0) (i1 : i < 9) (hQ : ∀ t D, GS t D → FR s A t D → Q none (put 1 pre t D post)) : M34 0 [.val (.ref 1), .val (.int i), .unset] [] (put 1 pre s A post) Q := by
  have q17 := in_lt h.1 z17 i0 i1
  simp [m34_0, m34_1, m34_2, nb0, nb1, ou_a, Option.toList_some, Option.toList_none, List.nil_append, List.cons_append]
  by_cases b1 : getA (A 17) i < 0
  · simp [b1, q17, m35_0, m35_1, m35_4, m35_5, m35_6, m35_9, m35_10, m35_11u, m35_13, m35_14, m35_17, m35_18, m35_21, m35_22, m35_23, m35_24, m35_25, m35_26, m35_27, m35_30, m35_31, m35_34, m35_35, m35_36, m35_37, m35_38, m35_39, m35_40, m35_41, m35_44, m35_45, m35_46, m35_49, m35_50, m35_53, m35_54, m35_55, m35_56, m35_57, m35_60, m35_63, nb0, nb1, ou_a, Option.toList_some, Option.toList_none, List.nil_append, List.cons_append]
    refine sim31 h i0 i1 (fun t D h' fr => ?_) 4 0 (by decide) rfl
    simp [nb0, nb1, ou_a, Option.toList_some, Option.toList_none, List.nil_append, List.cons_append]
    exact sim30a h' i0 i1 (fun t' D' g fr' => hQ t' D' g (FR_t fr fr'))
  · simp [b1, q17, m35_0, m35_1, m35_4, m35_5, m35_6, m35_9, m35_10, m35_11u, m35_13, m35_14, m35_17, m35_18, m35_21, m35_22, m35_23, m35_24, m35_25, m35_26, m35_27, m35_30, m35_31, m35_34, m35_35, m35_36, m35_37, m35_38, m35_39, m35_40, m35_41, m35_44, m35_45, m35_46, m35_49, m35_50, m35_53, m35_54, m35_55, m35_56, m35_57, m35_60, m35_63, nb0, nb1, ou_a, Option.toList_some, Option.toList_none, List.nil_append, List.cons_append]
    exact sim30a h i0 i1 hQ
set_option maxRecDepth 1000000 in
set_option maxHeartbeats 20000000 in
theorem sim32 {pre post : AHeap} {Q : Option Value → AHeap → Prop} {c : Int} (c1 : c ≤ 8) (hQ : ∀ t D, GS t D → FR s A t D → Q none (put 1 pre t D post)) : ∀ (n : Nat) (i : Int32) (t : Nat → Int32) (D : Nat → List Int32), GS t D → FR s A t D → (t 1).toInt = c → ¬ i < 0 → i.toInt + n = c → M6 2 [.val (.ref 1), .val (.int i)] [] (put 1 pre t D post) Q := by
  intro n
  induction n with
  | zero =>
    intro i t D h fr hc h0 e
    have hge : ¬ i < t 1 := by rw [lt_i]; omega
    rw [m6_2]
    simp [hge, m6_0, m6_1u, m6_3, m6_4, m6_7, m6_10, m6_11, m6_14, m6_15, m6_16, m6_19, m6_20, m6_23, m6_24, m6_25, m6_26, m6_29, m6_30, m6_31, m6_32, m6_33, m6_36, m6_39, m6_40, m6_41, m6_44, m6_45, m6_46, m6_49, m6_50, m6_53, m6_54, m6_55, m6_56, m6_57, m6_60, m6_61, m6_62, m6_63, m6_66, m6_69, nb0, nb1, ou_a, Option.toList_some, Option.toList_none, List.nil_append, List.cons_append]
    exact hQ t D h fr
  | succ n ih =>
    intro i t D h fr hc h0 e
    have hlt : i < t 1 := by rw [lt_i]; omega
    have i9 := lt9 hlt (by omega)
    have q1 := in_lt h.1 z1 h0 i9
    have q14 := in_lt h.1 z14 h0 i9
    have q15 := in_lt h.1 z15 h0 i9
    have q17 := in_lt h.1 z17 h0 i9
    have n1 := succ_nn h0 (by omega)
    have e1 : (i + 1).toInt + n = c := by rw [add1_i (by omega)]; omega
    rw [m6_2]
    by_cases b1 : getA (D 14) i = 0
    · simp [hlt, q14, b1, m6_0, m6_1u, m6_3, m6_4, m6_7, m6_10, m6_11, m6_14, m6_15, m6_16, m6_19, m6_20, m6_23, m6_24, m6_25, m6_26, m6_29, m6_30, m6_31, m6_32, m6_33, m6_36, m6_39, m6_40, m6_41, m6_44, m6_45, m6_46, m6_49, m6_50, m6_53, m6_54, m6_55, m6_56, m6_57, m6_60, m6_61, m6_62, m6_63, m6_66, m6_69, nb0, nb1, ou_a, Option.toList_some, Option.toList_none, List.nil_append, List.cons_append]
      exact ih _ _ _ h fr hc n1 e1
    by_cases b2 : getA (D 15) i + getA (D 1) i = t 9
    · simp [hlt, q1, q14, q15, q17, b1, b2, m6_0, m6_1u, m6_3, m6_4, m6_7, m6_10, m6_11, m6_14, m6_15, m6_16, m6_19, m6_20, m6_23, m6_24, m6_25, m6_26, m6_29, m6_30, m6_31, m6_32, m6_33, m6_36, m6_39, m6_40, m6_41, m6_44, m6_45, m6_46, m6_49, m6_50, m6_53, m6_54, m6_55, m6_56, m6_57, m6_60, m6_61, m6_62, m6_63, m6_66, m6_69, nb0, nb1, ou_a, Option.toList_some, Option.toList_none, List.nil_append, List.cons_append]
      exact ih _ _ _ ⟨(by have h := h.1; exact (by (repeat refine LN_ou ?_ (by simp only [setA_len]; exact h _)); exact h)), h.2.1, h.2.2⟩ (FR_A (FR_A (FR_s fr (by decide)) (by decide)) (by decide)) hc n1 e1
    · simp [hlt, q1, q14, q15, b1, b2, m6_0, m6_1u, m6_3, m6_4, m6_7, m6_10, m6_11, m6_14, m6_15, m6_16, m6_19, m6_20, m6_23, m6_24, m6_25, m6_26, m6_29, m6_30, m6_31, m6_32, m6_33, m6_36, m6_39, m6_40, m6_41, m6_44, m6_45, m6_46, m6_49, m6_50, m6_53, m6_54, m6_55, m6_56, m6_57, m6_60, m6_61, m6_62, m6_63, m6_66, m6_69, nb0, nb1, ou_a, Option.toList_some, Option.toList_none, List.nil_append, List.cons_append]
      exact ih _ _ _ h fr hc n1 e1
set_option maxRecDepth 1000000 in
set_option maxHeartbeats 20000000 in
theorem sim26 {pre post : AHeap} {Q : Option Value → AHeap → Prop} (h : GS s A) (hQ : ∀ t D, GS t D → FR s A t D → Q none (put 1 pre t D post)) : M3 0 [.val (.ref 1), .unset] [] (put 1 pre s A post) Q := by
  have em := Int.toNat_of_nonneg h.2.1
  simp [m3_0, m3_1, m3_4, m3_5, m3_8u, m3_9, m3_10, m3_13, m3_14, m3_15, m3_18, m3_19, m3_20, m3_23, m3_24, m3_25, m3_28, m3_29, m3_32, m4_0, m4_1u, m4_3, m4_4, m4_7, m4_10, m4_11, m4_14, m4_15, m4_16u, m4_16i, m4_16r, m4_16g, m4_17, m4_18, m4_21, m4_22, m4_25, m4_26, m4_27, m4_30, m4_31, m4_34, m4_35, m4_36, m4_37, m4_38, m4_41, m4_42, m4_43, m4_46, m4_47, m4_48, m4_51, m4_52, m4_53, m4_54, m4_55, m4_58, m4_59, m4_60, m4_61, m4_64, m4_67, nb0, nb1, ou_a, Option.toList_some, Option.toList_none, List.nil_append, List.cons_append]
  refine sim27 (A := A) (fun t D h1 fr1 => ?_) (s 1).toInt.toNat 0 _ A h FR_r okS_u (by decide) (by rw [i_0]; omega)
  simp [m3_0, m3_1, m3_4, m3_5, m3_8u, m3_9, m3_10, m3_13, m3_14, m3_15, m3_18, m3_19, m3_20, m3_23, m3_24, m3_25, m3_28, m3_29, m3_32, nb0, nb1, ou_a, Option.toList_some, Option.toList_none, List.nil_append, List.cons_append]
  obtain ⟨r, pr, v2⟩ := g28 h1
  refine v2 0 pre post _ ?_
  by_cases b1 : r < 0
  · simp [b1, m3_0, m3_1, m3_4, m3_5, m3_8u, m3_9, m3_10, m3_13, m3_14, m3_15, m3_18, m3_19, m3_20, m3_23, m3_24, m3_25, m3_28, m3_29, m3_32, m6_0, m6_1u, m6_3, m6_4, m6_7, m6_10, m6_11, m6_14, m6_15, m6_16, m6_19, m6_20, m6_23, m6_24, m6_25, m6_26, m6_29, m6_30, m6_31, m6_32, m6_33, m6_36, m6_39, m6_40, m6_41, m6_44, m6_45, m6_46, m6_49, m6_50, m6_53, m6_54, m6_55, m6_56, m6_57, m6_60, m6_61, m6_62, m6_63, m6_66, m6_69, nb0, nb1, ou_a, Option.toList_some, Option.toList_none, List.nil_append, List.cons_append]
    exact sim32 (s := s) (A := A) h1.2.2 (fun t' D' g fr => by simp [m3_0, m3_1, m3_4, m3_5, m3_8u, m3_9, m3_10, m3_13, m3_14, m3_15, m3_18, m3_19, m3_20, m3_23, m3_24, m3_25, m3_28, m3_29, m3_32, nb0, nb1, ou_a, Option.toList_some, Option.toList_none, List.nil_append, List.cons_append]; exact hQ t' D' g fr) (t 1).toInt.toNat 0 _ _ ⟨h1.1, h1.2.1, h1.2.2⟩ (FR_s fr1 (by decide)) rfl (by decide) (by have := Int.toNat_of_nonneg h1.2.1; rw [i_0]; omega)
  · have c1 := h1.2.2
    have r9 : r < 9 := by
      rcases pr with q | ⟨_, q⟩
      · exact absurd q b1
      · exact lt9 q (by omega)
    simp [b1, m3_0, m3_1, m3_4, m3_5, m3_8u, m3_9, m3_10, m3_13, m3_14, m3_15, m3_18, m3_19, m3_20, m3_23, m3_24, m3_25, m3_28, m3_29, m3_32, nb0, nb1, ou_a, Option.toList_some, Option.toList_none, List.nil_append, List.cons_append]
    refine sim30 h1 b1 r9 (fun t2 D2 h2 fr2 => ?_)
    simp [m3_0, m3_1, m3_4, m3_5, m3_8u, m3_9, m3_10, m3_13, m3_14, m3_15, m3_18, m3_19, m3_20, m3_23, m3_24, m3_25, m3_28, m3_29, m3_32, m6_0, m6_1u, m6_3, m6_4, m6_7, m6_10, m6_11, m6_14, m6_15, m6_16, m6_19, m6_20, m6_23, m6_24, m6_25, m6_26, m6_29, m6_30, m6_31, m6_32, m6_33, m6_36, m6_39, m6_40, m6_41, m6_44, m6_45, m6_46, m6_49, m6_50, m6_53, m6_54, m6_55, m6_56, m6_57, m6_60, m6_61, m6_62, m6_63, m6_66, m6_69, nb0, nb1, ou_a, Option.toList_some, Option.toList_none, List.nil_append, List.cons_append]
    exact sim32 (s := s) (A := A) h2.2.2 (fun t' D' g fr => by simp [m3_0, m3_1, m3_4, m3_5, m3_8u, m3_9, m3_10, m3_13, m3_14, m3_15, m3_18, m3_19, m3_20, m3_23, m3_24, m3_25, m3_28, m3_29, m3_32, nb0, nb1, ou_a, Option.toList_some, Option.toList_none, List.nil_append, List.cons_append]; exact hQ t' D' g fr) (t2 1).toInt.toNat 0 _ _ ⟨h2.1, h2.2.1, h2.2.2⟩ (FR_s (FR_t fr1 fr2) (by decide)) rfl (by decide) (by have := Int.toNat_of_nonneg h2.2.1; rw [i_0]; omega)
set_option maxRecDepth 1000000 in
set_option maxHeartbeats 20000000 in
theorem sim25 {pre post : AHeap} {Q : Option Value → AHeap → Prop} {nn lm : Int32} (l2 : lm.toInt ≤ 840) (hQ : ∀ (v : Int32) t D, GS t D → FR s A t D → Q (some (.int v)) (put 1 pre t D post)) : ∀ (n : Nat) (k : Int32) (t : Nat → Int32) (D : Nat → List Int32), GS t D → FR s A t D → ¬ k < 0 → k.toInt + n = lm.toInt → M2 23 [.val (.ref 1), .val (.int nn), .val (.int lm), .val (.int k)] [] (put 1 pre t D post) Q := by
  intro n
  induction n with
  | zero =>
    intro k t D h fr h0 e
    have hge : ¬ k < lm := by rw [lt_i]; omega
    rw [m2_23]
    simp [hge, m2_0, m2_1u, m2_2, m2_3, m2_6, m2_7i, m2_8, m2_9, m2_12, m2_15, m2_18i, m2_19, m2_20u, m2_21, m2_22i, m2_24, m2_25, m2_28, m2_29, m2_32, m2_33, m2_36, m2_39, m2_42, m2_43, m2_46, m2_49, m2_52, m2_53, nb0, nb1, ou_a, Option.toList_some, Option.toList_none, List.nil_append, List.cons_append]
    exact hQ k t D h fr
  | succ n ih =>
    intro k t D h fr h0 e
    have hlt : k < lm := by rw [lt_i]; omega
    rw [m2_23]
    by_cases c : t 9 < t 2
    · simp [hlt, c, m2_0, m2_1u, m2_2, m2_3, m2_6, m2_7i, m2_8, m2_9, m2_12, m2_15, m2_18i, m2_19, m2_20u, m2_21, m2_22i, m2_24, m2_25, m2_28, m2_29, m2_32, m2_33, m2_36, m2_39, m2_42, m2_43, m2_46, m2_49, m2_52, m2_53, nb0, nb1, ou_a, Option.toList_some, Option.toList_none, List.nil_append, List.cons_append]
      refine sim26 h (fun t' D' g fr' => ?_)
      simp [m2_0, m2_1u, m2_2, m2_3, m2_6, m2_7i, m2_8, m2_9, m2_12, m2_15, m2_18i, m2_19, m2_20u, m2_21, m2_22i, m2_24, m2_25, m2_28, m2_29, m2_32, m2_33, m2_36, m2_39, m2_42, m2_43, m2_46, m2_49, m2_52, m2_53, nb0, nb1, ou_a, Option.toList_some, Option.toList_none, List.nil_append, List.cons_append]
      exact ih _ _ _ g (FR_t fr fr') (succ_nn h0 (by omega)) (by rw [add1_i (by omega)]; omega)
    · simp [hlt, c, m2_0, m2_1u, m2_2, m2_3, m2_6, m2_7i, m2_8, m2_9, m2_12, m2_15, m2_18i, m2_19, m2_20u, m2_21, m2_22i, m2_24, m2_25, m2_28, m2_29, m2_32, m2_33, m2_36, m2_39, m2_42, m2_43, m2_46, m2_49, m2_52, m2_53, nb0, nb1, ou_a, Option.toList_some, Option.toList_none, List.nil_append, List.cons_append]
      exact hQ k t D h fr
theorem sim25r {pre post : AHeap} {Q : Option Value → AHeap → Prop} {nn : Int32} (h : GS s A) (hQ : ∀ (v : Int32) t D, GS t D → FR s A t D → Q (some (.int v)) (put 1 pre t D post)) : M2 0 [.val (.ref 1), .val (.int nn), .unset, .unset] [] (put 1 pre s A post) Q := by
  by_cases a1 : nn < 0
  · simp [a1, m2_0, m2_1u, m2_2, m2_3, m2_6, m2_7i, m2_8, m2_9, m2_12, m2_15, m2_18i, m2_19, m2_20u, m2_21, m2_22i, m2_24, m2_25, m2_28, m2_29, m2_32, m2_33, m2_36, m2_39, m2_42, m2_43, m2_46, m2_49, m2_52, m2_53, nb0, nb1, ou_a, Option.toList_some, Option.toList_none, List.nil_append, List.cons_append]
    exact sim25 (by decide) hQ 0 0 s A h FR_r (by decide) rfl
  by_cases a2 : 840 < nn
  · simp [a1, a2, m2_0, m2_1u, m2_2, m2_3, m2_6, m2_7i, m2_8, m2_9, m2_12, m2_15, m2_18i, m2_19, m2_20u, m2_21, m2_22i, m2_24, m2_25, m2_28, m2_29, m2_32, m2_33, m2_36, m2_39, m2_42, m2_43, m2_46, m2_49, m2_52, m2_53, nb0, nb1, ou_a, Option.toList_some, Option.toList_none, List.nil_append, List.cons_append]
    exact sim25 (by decide) hQ 840 0 s A h FR_r (by decide) rfl
  · have em := Int.toNat_of_nonneg (nn_i.mp a1)
    simp [a1, a2, m2_0, m2_1u, m2_2, m2_3, m2_6, m2_7i, m2_8, m2_9, m2_12, m2_15, m2_18i, m2_19, m2_20u, m2_21, m2_22i, m2_24, m2_25, m2_28, m2_29, m2_32, m2_33, m2_36, m2_39, m2_42, m2_43, m2_46, m2_49, m2_52, m2_53, nb0, nb1, ou_a, Option.toList_some, Option.toList_none, List.nil_append, List.cons_append]
    exact sim25 (by rw [lt_i, i_840] at a2; omega) hQ nn.toInt.toNat 0 s A h FR_r (by decide) (by rw [i_0]; omega)
end Gate
def tl (s : Nat → Int32) (A : Nat → List Int32) : AHeap := ((.object "ResponseTimeGate", objv 22 s) :: (.array .int, (A 0).map Value.int) :: (.array .int, (A 1).map Value.int) :: (.array .int, (A 2).map Value.int) :: (.array .int, (A 3).map Value.int) :: (.array .int, (A 4).map Value.int) :: (.array .int, (A 5).map Value.int) :: (.array .int, (A 6).map Value.int) :: (.array .int, (A 7).map Value.int) :: (.array .int, (A 8).map Value.int) :: (.array .int, (A 9).map Value.int) :: (.array .int, (A 10).map Value.int) :: (.array .int, (A 11).map Value.int) :: (.array .int, (A 12).map Value.int) :: (.array .int, (A 13).map Value.int) :: (.array .boolean, (A 14).map Value.int) :: (.array .int, (A 15).map Value.int) :: (.array .int, (A 16).map Value.int) :: (.array .int, (A 17).map Value.int) :: (.array .int, (A 18).map Value.int) :: (.array .int, (A 19).map Value.int) :: [])
theorem vw {p : AHeap} {s t : Nat → Int32} {A B : Nat → List Int32} : put 1 p s A (tl t B) = put 22 (put 1 p s A []) t B [] := by
  have hl : (put 1 p s A []).length = 22 := by rw [put_len]; rfl
  have e : put 22 (put 1 p s A []) t B [] = put 1 p s A [] ++ tl t B := by
    show pad 22 (put 1 p s A []) ++ tl t B = _
    rw [pad_eq hl]
  rw [e]
  simp only [put, List.append_assoc, List.cons_append, List.nil_append]
theorem mx_self (s : Nat → Int32) : mx s s = s := by
  funext i; rw [mx_a]; split <;> rfl
theorem mxA_self (A : Nat → List Int32) : mxA A A = A := by
  funext i; rw [mxA_a]; split <;> rfl
set_option maxRecDepth 1000000 in
set_option maxHeartbeats 20000000 in
theorem s38b {p : AHeap} {s u w : Nat → Int32} {A U W : Nat → List Int32} (h : GS s A) {Q : Option Value → AHeap → Prop} (hQ : Q (some (.int 1)) (put 1 p (mx u s) (mxA U A) (tl (mx w s) (mxA W A)))) : ∀ (n : Nat) (i : Int32), ¬ i < 0 → i.toInt + n = 4 → M38 81 [.val (.ref 1), .val (.ref 22), .val (.int i)] [] (put 1 p (mx u s) (mxA U A) (tl (mx w s) (mxA W A))) Q := by
  intro n
  induction n with
  | zero =>
    intro i h0 e
    have hge : ¬ i < 4 := by rw [lt_i, i_4]; omega
    rw [m38_81]
    simp [hge, m38_0, m38_1, m38_4, m38_5, m38_8, m38_11, m38_12, m38_15, m38_16, m38_19, m38_22, m38_23, m38_24, m38_25, m38_28, m38_29, m38_32, m38_35, m38_36, m38_37, m38_38u, m38_40, m38_42, m38_45, m38_46, m38_47, m38_50, m38_51, m38_52, m38_55, m38_58, m38_59, m38_60, m38_63, m38_64, m38_65, m38_68, m38_71, m38_72, m38_73, m38_76, m38_79, m38_80i, m38_82, m38_83, m38_86, m38_87, m38_88, m38_91, m38_92, m38_93, m38_96, m38_99, m38_100, m38_101, m38_104, m38_107, m38_108, m7_0, m7_1, m7_4, m8_0, m8_1, m8_4, m9_0, m9_1, m9_4, nb0, nb1, ou_a, Option.toList_some, Option.toList_none, List.nil_append, List.cons_append, mx_a]
    exact hQ
  | succ n ih =>
    intro i h0 e
    have hlt : i < 4 := by rw [lt_i, i_4]; omega
    have n1 := succ_nn h0 (by omega)
    have e1 : (i + 1).toInt + n = 4 := by rw [add1_i (by omega)]; omega
    obtain ⟨va, ha⟩ := ex13 h i h0 hlt
    rw [m38_81]
    simp [hlt, m38_0, m38_1, m38_4, m38_5, m38_8, m38_11, m38_12, m38_15, m38_16, m38_19, m38_22, m38_23, m38_24, m38_25, m38_28, m38_29, m38_32, m38_35, m38_36, m38_37, m38_38u, m38_40, m38_42, m38_45, m38_46, m38_47, m38_50, m38_51, m38_52, m38_55, m38_58, m38_59, m38_60, m38_63, m38_64, m38_65, m38_68, m38_71, m38_72, m38_73, m38_76, m38_79, m38_80i, m38_82, m38_83, m38_86, m38_87, m38_88, m38_91, m38_92, m38_93, m38_96, m38_99, m38_100, m38_101, m38_104, m38_107, m38_108, m7_0, m7_1, m7_4, m8_0, m8_1, m8_4, m9_0, m9_1, m9_4, nb0, nb1, ou_a, Option.toList_some, Option.toList_none, List.nil_append, List.cons_append, mx_a]
    refine ha 0 p _ _ u U ?_
    simp [m38_0, m38_1, m38_4, m38_5, m38_8, m38_11, m38_12, m38_15, m38_16, m38_19, m38_22, m38_23, m38_24, m38_25, m38_28, m38_29, m38_32, m38_35, m38_36, m38_37, m38_38u, m38_40, m38_42, m38_45, m38_46, m38_47, m38_50, m38_51, m38_52, m38_55, m38_58, m38_59, m38_60, m38_63, m38_64, m38_65, m38_68, m38_71, m38_72, m38_73, m38_76, m38_79, m38_80i, m38_82, m38_83, m38_86, m38_87, m38_88, m38_91, m38_92, m38_93, m38_96, m38_99, m38_100, m38_101, m38_104, m38_107, m38_108, m7_0, m7_1, m7_4, m8_0, m8_1, m8_4, m9_0, m9_1, m9_4, nb0, nb1, ou_a, Option.toList_some, Option.toList_none, List.nil_append, List.cons_append, mx_a]
    rw [vw]
    simp [m38_0, m38_1, m38_4, m38_5, m38_8, m38_11, m38_12, m38_15, m38_16, m38_19, m38_22, m38_23, m38_24, m38_25, m38_28, m38_29, m38_32, m38_35, m38_36, m38_37, m38_38u, m38_40, m38_42, m38_45, m38_46, m38_47, m38_50, m38_51, m38_52, m38_55, m38_58, m38_59, m38_60, m38_63, m38_64, m38_65, m38_68, m38_71, m38_72, m38_73, m38_76, m38_79, m38_80i, m38_82, m38_83, m38_86, m38_87, m38_88, m38_91, m38_92, m38_93, m38_96, m38_99, m38_100, m38_101, m38_104, m38_107, m38_108, m7_0, m7_1, m7_4, m8_0, m8_1, m8_4, m9_0, m9_1, m9_4, nb0, nb1, ou_a, Option.toList_some, Option.toList_none, List.nil_append, List.cons_append, mx_a]
    refine ha 21 _ _ _ w W ?_
    simp [m38_0, m38_1, m38_4, m38_5, m38_8, m38_11, m38_12, m38_15, m38_16, m38_19, m38_22, m38_23, m38_24, m38_25, m38_28, m38_29, m38_32, m38_35, m38_36, m38_37, m38_38u, m38_40, m38_42, m38_45, m38_46, m38_47, m38_50, m38_51, m38_52, m38_55, m38_58, m38_59, m38_60, m38_63, m38_64, m38_65, m38_68, m38_71, m38_72, m38_73, m38_76, m38_79, m38_80i, m38_82, m38_83, m38_86, m38_87, m38_88, m38_91, m38_92, m38_93, m38_96, m38_99, m38_100, m38_101, m38_104, m38_107, m38_108, m7_0, m7_1, m7_4, m8_0, m8_1, m8_4, m9_0, m9_1, m9_4, nb0, nb1, ou_a, Option.toList_some, Option.toList_none, List.nil_append, List.cons_append, mx_a]
    rw [← vw]
    exact ih (i + 1) n1 e1
set_option maxRecDepth 1000000 in
set_option maxHeartbeats 20000000 in
theorem s38a {p : AHeap} {s u w : Nat → Int32} {A U W : Nat → List Int32} (h : GS s A) {Q : Option Value → AHeap → Prop} (hQ : Q (some (.int 1)) (put 1 p (mx u s) (mxA U A) (tl (mx w s) (mxA W A)))) : ∀ (n : Nat) (i : Int32), ¬ i < 0 → i.toInt + n = 9 → M38 39 [.val (.ref 1), .val (.ref 22), .val (.int i)] [] (put 1 p (mx u s) (mxA U A) (tl (mx w s) (mxA W A))) Q := by
  intro n
  induction n with
  | zero =>
    intro i h0 e
    have hge : ¬ i < 9 := by rw [lt_i, i_9]; omega
    rw [m38_39]
    simp [hge, m38_0, m38_1, m38_4, m38_5, m38_8, m38_11, m38_12, m38_15, m38_16, m38_19, m38_22, m38_23, m38_24, m38_25, m38_28, m38_29, m38_32, m38_35, m38_36, m38_37, m38_38u, m38_40, m38_42, m38_45, m38_46, m38_47, m38_50, m38_51, m38_52, m38_55, m38_58, m38_59, m38_60, m38_63, m38_64, m38_65, m38_68, m38_71, m38_72, m38_73, m38_76, m38_79, m38_80i, m38_82, m38_83, m38_86, m38_87, m38_88, m38_91, m38_92, m38_93, m38_96, m38_99, m38_100, m38_101, m38_104, m38_107, m38_108, m7_0, m7_1, m7_4, m8_0, m8_1, m8_4, m9_0, m9_1, m9_4, nb0, nb1, ou_a, Option.toList_some, Option.toList_none, List.nil_append, List.cons_append, mx_a]
    exact s38b h hQ 4 0 (by decide) rfl
  | succ n ih =>
    intro i h0 e
    have hlt : i < 9 := by rw [lt_i, i_9]; omega
    have n1 := succ_nn h0 (by omega)
    have e1 : (i + 1).toInt + n = 9 := by rw [add1_i (by omega)]; omega
    obtain ⟨va, ha⟩ := ex10 h i
    obtain ⟨vb, hb⟩ := ex12 h i
    rw [m38_39]
    simp [hlt, m38_0, m38_1, m38_4, m38_5, m38_8, m38_11, m38_12, m38_15, m38_16, m38_19, m38_22, m38_23, m38_24, m38_25, m38_28, m38_29, m38_32, m38_35, m38_36, m38_37, m38_38u, m38_40, m38_42, m38_45, m38_46, m38_47, m38_50, m38_51, m38_52, m38_55, m38_58, m38_59, m38_60, m38_63, m38_64, m38_65, m38_68, m38_71, m38_72, m38_73, m38_76, m38_79, m38_80i, m38_82, m38_83, m38_86, m38_87, m38_88, m38_91, m38_92, m38_93, m38_96, m38_99, m38_100, m38_101, m38_104, m38_107, m38_108, m7_0, m7_1, m7_4, m8_0, m8_1, m8_4, m9_0, m9_1, m9_4, nb0, nb1, ou_a, Option.toList_some, Option.toList_none, List.nil_append, List.cons_append, mx_a]
    refine ha 0 p _ _ u U ?_
    simp [m38_0, m38_1, m38_4, m38_5, m38_8, m38_11, m38_12, m38_15, m38_16, m38_19, m38_22, m38_23, m38_24, m38_25, m38_28, m38_29, m38_32, m38_35, m38_36, m38_37, m38_38u, m38_40, m38_42, m38_45, m38_46, m38_47, m38_50, m38_51, m38_52, m38_55, m38_58, m38_59, m38_60, m38_63, m38_64, m38_65, m38_68, m38_71, m38_72, m38_73, m38_76, m38_79, m38_80i, m38_82, m38_83, m38_86, m38_87, m38_88, m38_91, m38_92, m38_93, m38_96, m38_99, m38_100, m38_101, m38_104, m38_107, m38_108, m7_0, m7_1, m7_4, m8_0, m8_1, m8_4, m9_0, m9_1, m9_4, nb0, nb1, ou_a, Option.toList_some, Option.toList_none, List.nil_append, List.cons_append, mx_a]
    rw [vw]
    simp [m38_0, m38_1, m38_4, m38_5, m38_8, m38_11, m38_12, m38_15, m38_16, m38_19, m38_22, m38_23, m38_24, m38_25, m38_28, m38_29, m38_32, m38_35, m38_36, m38_37, m38_38u, m38_40, m38_42, m38_45, m38_46, m38_47, m38_50, m38_51, m38_52, m38_55, m38_58, m38_59, m38_60, m38_63, m38_64, m38_65, m38_68, m38_71, m38_72, m38_73, m38_76, m38_79, m38_80i, m38_82, m38_83, m38_86, m38_87, m38_88, m38_91, m38_92, m38_93, m38_96, m38_99, m38_100, m38_101, m38_104, m38_107, m38_108, m7_0, m7_1, m7_4, m8_0, m8_1, m8_4, m9_0, m9_1, m9_4, nb0, nb1, ou_a, Option.toList_some, Option.toList_none, List.nil_append, List.cons_append, mx_a]
    refine ha 21 _ _ _ w W ?_
    simp [m38_0, m38_1, m38_4, m38_5, m38_8, m38_11, m38_12, m38_15, m38_16, m38_19, m38_22, m38_23, m38_24, m38_25, m38_28, m38_29, m38_32, m38_35, m38_36, m38_37, m38_38u, m38_40, m38_42, m38_45, m38_46, m38_47, m38_50, m38_51, m38_52, m38_55, m38_58, m38_59, m38_60, m38_63, m38_64, m38_65, m38_68, m38_71, m38_72, m38_73, m38_76, m38_79, m38_80i, m38_82, m38_83, m38_86, m38_87, m38_88, m38_91, m38_92, m38_93, m38_96, m38_99, m38_100, m38_101, m38_104, m38_107, m38_108, m7_0, m7_1, m7_4, m8_0, m8_1, m8_4, m9_0, m9_1, m9_4, nb0, nb1, ou_a, Option.toList_some, Option.toList_none, List.nil_append, List.cons_append, mx_a]
    rw [← vw]
    simp [m38_0, m38_1, m38_4, m38_5, m38_8, m38_11, m38_12, m38_15, m38_16, m38_19, m38_22, m38_23, m38_24, m38_25, m38_28, m38_29, m38_32, m38_35, m38_36, m38_37, m38_38u, m38_40, m38_42, m38_45, m38_46, m38_47, m38_50, m38_51, m38_52, m38_55, m38_58, m38_59, m38_60, m38_63, m38_64, m38_65, m38_68, m38_71, m38_72, m38_73, m38_76, m38_79, m38_80i, m38_82, m38_83, m38_86, m38_87, m38_88, m38_91, m38_92, m38_93, m38_96, m38_99, m38_100, m38_101, m38_104, m38_107, m38_108, m7_0, m7_1, m7_4, m8_0, m8_1, m8_4, m9_0, m9_1, m9_4, nb0, nb1, ou_a, Option.toList_some, Option.toList_none, List.nil_append, List.cons_append, mx_a]
    refine hb 0 p _ _ u U ?_
    simp [m38_0, m38_1, m38_4, m38_5, m38_8, m38_11, m38_12, m38_15, m38_16, m38_19, m38_22, m38_23, m38_24, m38_25, m38_28, m38_29, m38_32, m38_35, m38_36, m38_37, m38_38u, m38_40, m38_42, m38_45, m38_46, m38_47, m38_50, m38_51, m38_52, m38_55, m38_58, m38_59, m38_60, m38_63, m38_64, m38_65, m38_68, m38_71, m38_72, m38_73, m38_76, m38_79, m38_80i, m38_82, m38_83, m38_86, m38_87, m38_88, m38_91, m38_92, m38_93, m38_96, m38_99, m38_100, m38_101, m38_104, m38_107, m38_108, m7_0, m7_1, m7_4, m8_0, m8_1, m8_4, m9_0, m9_1, m9_4, nb0, nb1, ou_a, Option.toList_some, Option.toList_none, List.nil_append, List.cons_append, mx_a]
    rw [vw]
    simp [m38_0, m38_1, m38_4, m38_5, m38_8, m38_11, m38_12, m38_15, m38_16, m38_19, m38_22, m38_23, m38_24, m38_25, m38_28, m38_29, m38_32, m38_35, m38_36, m38_37, m38_38u, m38_40, m38_42, m38_45, m38_46, m38_47, m38_50, m38_51, m38_52, m38_55, m38_58, m38_59, m38_60, m38_63, m38_64, m38_65, m38_68, m38_71, m38_72, m38_73, m38_76, m38_79, m38_80i, m38_82, m38_83, m38_86, m38_87, m38_88, m38_91, m38_92, m38_93, m38_96, m38_99, m38_100, m38_101, m38_104, m38_107, m38_108, m7_0, m7_1, m7_4, m8_0, m8_1, m8_4, m9_0, m9_1, m9_4, nb0, nb1, ou_a, Option.toList_some, Option.toList_none, List.nil_append, List.cons_append, mx_a]
    refine hb 21 _ _ _ w W ?_
    simp [m38_0, m38_1, m38_4, m38_5, m38_8, m38_11, m38_12, m38_15, m38_16, m38_19, m38_22, m38_23, m38_24, m38_25, m38_28, m38_29, m38_32, m38_35, m38_36, m38_37, m38_38u, m38_40, m38_42, m38_45, m38_46, m38_47, m38_50, m38_51, m38_52, m38_55, m38_58, m38_59, m38_60, m38_63, m38_64, m38_65, m38_68, m38_71, m38_72, m38_73, m38_76, m38_79, m38_80i, m38_82, m38_83, m38_86, m38_87, m38_88, m38_91, m38_92, m38_93, m38_96, m38_99, m38_100, m38_101, m38_104, m38_107, m38_108, m7_0, m7_1, m7_4, m8_0, m8_1, m8_4, m9_0, m9_1, m9_4, nb0, nb1, ou_a, Option.toList_some, Option.toList_none, List.nil_append, List.cons_append, mx_a]
    rw [← vw]
    exact ih (i + 1) n1 e1
set_option maxRecDepth 1000000 in
set_option maxHeartbeats 20000000 in
theorem s38 {p : AHeap} {s u w : Nat → Int32} {A U W : Nat → List Int32} (h : GS s A) {Q : Option Value → AHeap → Prop} (hQ : Q (some (.int 1)) (put 1 p (mx u s) (mxA U A) (tl (mx w s) (mxA W A)))) : M38 0 [.val (.ref 1), .val (.ref 22), .unset] [] (put 1 p (mx u s) (mxA U A) (tl (mx w s) (mxA W A))) Q := by
  simp [m38_0, m38_1, m38_4, m38_5, m38_8, m38_11, m38_12, m38_15, m38_16, m38_19, m38_22, m38_23, m38_24, m38_25, m38_28, m38_29, m38_32, m38_35, m38_36, m38_37, m38_38u, m38_40, m38_42, m38_45, m38_46, m38_47, m38_50, m38_51, m38_52, m38_55, m38_58, m38_59, m38_60, m38_63, m38_64, m38_65, m38_68, m38_71, m38_72, m38_73, m38_76, m38_79, m38_80i, m38_82, m38_83, m38_86, m38_87, m38_88, m38_91, m38_92, m38_93, m38_96, m38_99, m38_100, m38_101, m38_104, m38_107, m38_108, m7_0, m7_1, m7_4, m8_0, m8_1, m8_4, m9_0, m9_1, m9_4, nb0, nb1, ou_a, Option.toList_some, Option.toList_none, List.nil_append, List.cons_append, mx_a]
  rw [vw]
  simp [m38_0, m38_1, m38_4, m38_5, m38_8, m38_11, m38_12, m38_15, m38_16, m38_19, m38_22, m38_23, m38_24, m38_25, m38_28, m38_29, m38_32, m38_35, m38_36, m38_37, m38_38u, m38_40, m38_42, m38_45, m38_46, m38_47, m38_50, m38_51, m38_52, m38_55, m38_58, m38_59, m38_60, m38_63, m38_64, m38_65, m38_68, m38_71, m38_72, m38_73, m38_76, m38_79, m38_80i, m38_82, m38_83, m38_86, m38_87, m38_88, m38_91, m38_92, m38_93, m38_96, m38_99, m38_100, m38_101, m38_104, m38_107, m38_108, m7_0, m7_1, m7_4, m8_0, m8_1, m8_4, m9_0, m9_1, m9_4, nb0, nb1, ou_a, Option.toList_some, Option.toList_none, List.nil_append, List.cons_append, mx_a]
  rw [← vw]
  simp [m38_0, m38_1, m38_4, m38_5, m38_8, m38_11, m38_12, m38_15, m38_16, m38_19, m38_22, m38_23, m38_24, m38_25, m38_28, m38_29, m38_32, m38_35, m38_36, m38_37, m38_38u, m38_40, m38_42, m38_45, m38_46, m38_47, m38_50, m38_51, m38_52, m38_55, m38_58, m38_59, m38_60, m38_63, m38_64, m38_65, m38_68, m38_71, m38_72, m38_73, m38_76, m38_79, m38_80i, m38_82, m38_83, m38_86, m38_87, m38_88, m38_91, m38_92, m38_93, m38_96, m38_99, m38_100, m38_101, m38_104, m38_107, m38_108, m7_0, m7_1, m7_4, m8_0, m8_1, m8_4, m9_0, m9_1, m9_4, nb0, nb1, ou_a, Option.toList_some, Option.toList_none, List.nil_append, List.cons_append, mx_a]
  rw [vw]
  simp [m38_0, m38_1, m38_4, m38_5, m38_8, m38_11, m38_12, m38_15, m38_16, m38_19, m38_22, m38_23, m38_24, m38_25, m38_28, m38_29, m38_32, m38_35, m38_36, m38_37, m38_38u, m38_40, m38_42, m38_45, m38_46, m38_47, m38_50, m38_51, m38_52, m38_55, m38_58, m38_59, m38_60, m38_63, m38_64, m38_65, m38_68, m38_71, m38_72, m38_73, m38_76, m38_79, m38_80i, m38_82, m38_83, m38_86, m38_87, m38_88, m38_91, m38_92, m38_93, m38_96, m38_99, m38_100, m38_101, m38_104, m38_107, m38_108, m7_0, m7_1, m7_4, m8_0, m8_1, m8_4, m9_0, m9_1, m9_4, nb0, nb1, ou_a, Option.toList_some, Option.toList_none, List.nil_append, List.cons_append, mx_a]
  rw [← vw]
  simp [m38_0, m38_1, m38_4, m38_5, m38_8, m38_11, m38_12, m38_15, m38_16, m38_19, m38_22, m38_23, m38_24, m38_25, m38_28, m38_29, m38_32, m38_35, m38_36, m38_37, m38_38u, m38_40, m38_42, m38_45, m38_46, m38_47, m38_50, m38_51, m38_52, m38_55, m38_58, m38_59, m38_60, m38_63, m38_64, m38_65, m38_68, m38_71, m38_72, m38_73, m38_76, m38_79, m38_80i, m38_82, m38_83, m38_86, m38_87, m38_88, m38_91, m38_92, m38_93, m38_96, m38_99, m38_100, m38_101, m38_104, m38_107, m38_108, m7_0, m7_1, m7_4, m8_0, m8_1, m8_4, m9_0, m9_1, m9_4, nb0, nb1, ou_a, Option.toList_some, Option.toList_none, List.nil_append, List.cons_append, mx_a]
  rw [vw]
  simp [m38_0, m38_1, m38_4, m38_5, m38_8, m38_11, m38_12, m38_15, m38_16, m38_19, m38_22, m38_23, m38_24, m38_25, m38_28, m38_29, m38_32, m38_35, m38_36, m38_37, m38_38u, m38_40, m38_42, m38_45, m38_46, m38_47, m38_50, m38_51, m38_52, m38_55, m38_58, m38_59, m38_60, m38_63, m38_64, m38_65, m38_68, m38_71, m38_72, m38_73, m38_76, m38_79, m38_80i, m38_82, m38_83, m38_86, m38_87, m38_88, m38_91, m38_92, m38_93, m38_96, m38_99, m38_100, m38_101, m38_104, m38_107, m38_108, m7_0, m7_1, m7_4, m8_0, m8_1, m8_4, m9_0, m9_1, m9_4, nb0, nb1, ou_a, Option.toList_some, Option.toList_none, List.nil_append, List.cons_append, mx_a]
  rw [← vw]
  exact s38a h hQ 9 0 (by decide) rfl
set_option maxRecDepth 1000000 in
set_option maxHeartbeats 20000000 in
theorem s39b {p : AHeap} {s : Nat → Int32} {A : Nat → List Int32} (h : GS s A) {Q : Option Value → AHeap → Prop} (hQ : Q (some (.int 1)) (put 1 p s A (tl s A))) : ∀ (n : Nat) (i : Int32), ¬ i < 0 → i.toInt + n = 4 → M39 83 [.val (.ref 1), .val (.ref 22), .val (.int i)] [] (put 1 p s A (tl s A)) Q := by
  intro n
  induction n with
  | zero =>
    intro i h0 e
    have hge : ¬ i < 4 := by rw [lt_i, i_4]; omega
    rw [m39_83]
    simp [hge, m39_0, m39_1, m39_4, m39_5, m39_8, m39_11, m39_12, m39_15, m39_16, m39_19, m39_22, m39_23, m39_24, m39_25u, m39_27, m39_29, m39_32, m39_33, m39_34, m39_37, m39_38, m39_39, m39_42, m39_45, m39_46, m39_47, m39_50, m39_51, m39_52, m39_55, m39_58, m39_59, m39_60, m39_61, m39_62, m39_65, m39_66, m39_67, m39_70, m39_73, m39_74, m39_75, m39_78, m39_81, m39_82i, m39_84, m39_85, m39_88, m39_89, m39_90, m39_93, m39_94, m39_95, m39_98, m39_101, m39_102, m39_103, m39_106, m39_109, m39_110, m27_0, m27_1, m27_4, m28_0, m28_1, m28_4, nb0, nb1, ou_a, Option.toList_some, Option.toList_none, List.nil_append, List.cons_append]
    exact hQ
  | succ n ih =>
    intro i h0 e
    have hlt : i < 4 := by rw [lt_i, i_4]; omega
    have n1 := succ_nn h0 (by omega)
    have e1 : (i + 1).toInt + n = 4 := by rw [add1_i (by omega)]; omega
    obtain ⟨va, ha⟩ := g11 h i
    rw [m39_83]
    simp [hlt, m39_0, m39_1, m39_4, m39_5, m39_8, m39_11, m39_12, m39_15, m39_16, m39_19, m39_22, m39_23, m39_24, m39_25u, m39_27, m39_29, m39_32, m39_33, m39_34, m39_37, m39_38, m39_39, m39_42, m39_45, m39_46, m39_47, m39_50, m39_51, m39_52, m39_55, m39_58, m39_59, m39_60, m39_61, m39_62, m39_65, m39_66, m39_67, m39_70, m39_73, m39_74, m39_75, m39_78, m39_81, m39_82i, m39_84, m39_85, m39_88, m39_89, m39_90, m39_93, m39_94, m39_95, m39_98, m39_101, m39_102, m39_103, m39_106, m39_109, m39_110, m27_0, m27_1, m27_4, m28_0, m28_1, m28_4, nb0, nb1, ou_a, Option.toList_some, Option.toList_none, List.nil_append, List.cons_append]
    refine ha 0 p _ _ ?_
    simp [m39_0, m39_1, m39_4, m39_5, m39_8, m39_11, m39_12, m39_15, m39_16, m39_19, m39_22, m39_23, m39_24, m39_25u, m39_27, m39_29, m39_32, m39_33, m39_34, m39_37, m39_38, m39_39, m39_42, m39_45, m39_46, m39_47, m39_50, m39_51, m39_52, m39_55, m39_58, m39_59, m39_60, m39_61, m39_62, m39_65, m39_66, m39_67, m39_70, m39_73, m39_74, m39_75, m39_78, m39_81, m39_82i, m39_84, m39_85, m39_88, m39_89, m39_90, m39_93, m39_94, m39_95, m39_98, m39_101, m39_102, m39_103, m39_106, m39_109, m39_110, m27_0, m27_1, m27_4, m28_0, m28_1, m28_4, nb0, nb1, ou_a, Option.toList_some, Option.toList_none, List.nil_append, List.cons_append]
    rw [vw]
    simp [m39_0, m39_1, m39_4, m39_5, m39_8, m39_11, m39_12, m39_15, m39_16, m39_19, m39_22, m39_23, m39_24, m39_25u, m39_27, m39_29, m39_32, m39_33, m39_34, m39_37, m39_38, m39_39, m39_42, m39_45, m39_46, m39_47, m39_50, m39_51, m39_52, m39_55, m39_58, m39_59, m39_60, m39_61, m39_62, m39_65, m39_66, m39_67, m39_70, m39_73, m39_74, m39_75, m39_78, m39_81, m39_82i, m39_84, m39_85, m39_88, m39_89, m39_90, m39_93, m39_94, m39_95, m39_98, m39_101, m39_102, m39_103, m39_106, m39_109, m39_110, m27_0, m27_1, m27_4, m28_0, m28_1, m28_4, nb0, nb1, ou_a, Option.toList_some, Option.toList_none, List.nil_append, List.cons_append]
    refine ha 21 _ _ _ ?_
    simp [m39_0, m39_1, m39_4, m39_5, m39_8, m39_11, m39_12, m39_15, m39_16, m39_19, m39_22, m39_23, m39_24, m39_25u, m39_27, m39_29, m39_32, m39_33, m39_34, m39_37, m39_38, m39_39, m39_42, m39_45, m39_46, m39_47, m39_50, m39_51, m39_52, m39_55, m39_58, m39_59, m39_60, m39_61, m39_62, m39_65, m39_66, m39_67, m39_70, m39_73, m39_74, m39_75, m39_78, m39_81, m39_82i, m39_84, m39_85, m39_88, m39_89, m39_90, m39_93, m39_94, m39_95, m39_98, m39_101, m39_102, m39_103, m39_106, m39_109, m39_110, m27_0, m27_1, m27_4, m28_0, m28_1, m28_4, nb0, nb1, ou_a, Option.toList_some, Option.toList_none, List.nil_append, List.cons_append]
    rw [← vw]
    exact ih (i + 1) n1 e1
set_option maxRecDepth 1000000 in
set_option maxHeartbeats 20000000 in
theorem s39a {p : AHeap} {s : Nat → Int32} {A : Nat → List Int32} (h : GS s A) {Q : Option Value → AHeap → Prop} (hQ : Q (some (.int 1)) (put 1 p s A (tl s A))) : ∀ (n : Nat) (i : Int32), ¬ i < 0 → i.toInt + n = 9 → M39 26 [.val (.ref 1), .val (.ref 22), .val (.int i)] [] (put 1 p s A (tl s A)) Q := by
  intro n
  induction n with
  | zero =>
    intro i h0 e
    have hge : ¬ i < 9 := by rw [lt_i, i_9]; omega
    rw [m39_26]
    simp [hge, m39_0, m39_1, m39_4, m39_5, m39_8, m39_11, m39_12, m39_15, m39_16, m39_19, m39_22, m39_23, m39_24, m39_25u, m39_27, m39_29, m39_32, m39_33, m39_34, m39_37, m39_38, m39_39, m39_42, m39_45, m39_46, m39_47, m39_50, m39_51, m39_52, m39_55, m39_58, m39_59, m39_60, m39_61, m39_62, m39_65, m39_66, m39_67, m39_70, m39_73, m39_74, m39_75, m39_78, m39_81, m39_82i, m39_84, m39_85, m39_88, m39_89, m39_90, m39_93, m39_94, m39_95, m39_98, m39_101, m39_102, m39_103, m39_106, m39_109, m39_110, m27_0, m27_1, m27_4, m28_0, m28_1, m28_4, nb0, nb1, ou_a, Option.toList_some, Option.toList_none, List.nil_append, List.cons_append]
    exact s39b h hQ 4 0 (by decide) rfl
  | succ n ih =>
    intro i h0 e
    have hlt : i < 9 := by rw [lt_i, i_9]; omega
    have n1 := succ_nn h0 (by omega)
    have e1 : (i + 1).toInt + n = 9 := by rw [add1_i (by omega)]; omega
    obtain ⟨va, ha⟩ := g7 h i
    obtain ⟨vb, hb⟩ := g9 h i
    obtain ⟨vc, hc⟩ := g10 h i
    rw [m39_26]
    simp [hlt, m39_0, m39_1, m39_4, m39_5, m39_8, m39_11, m39_12, m39_15, m39_16, m39_19, m39_22, m39_23, m39_24, m39_25u, m39_27, m39_29, m39_32, m39_33, m39_34, m39_37, m39_38, m39_39, m39_42, m39_45, m39_46, m39_47, m39_50, m39_51, m39_52, m39_55, m39_58, m39_59, m39_60, m39_61, m39_62, m39_65, m39_66, m39_67, m39_70, m39_73, m39_74, m39_75, m39_78, m39_81, m39_82i, m39_84, m39_85, m39_88, m39_89, m39_90, m39_93, m39_94, m39_95, m39_98, m39_101, m39_102, m39_103, m39_106, m39_109, m39_110, m27_0, m27_1, m27_4, m28_0, m28_1, m28_4, nb0, nb1, ou_a, Option.toList_some, Option.toList_none, List.nil_append, List.cons_append]
    refine ha 0 p _ _ ?_
    simp [m39_0, m39_1, m39_4, m39_5, m39_8, m39_11, m39_12, m39_15, m39_16, m39_19, m39_22, m39_23, m39_24, m39_25u, m39_27, m39_29, m39_32, m39_33, m39_34, m39_37, m39_38, m39_39, m39_42, m39_45, m39_46, m39_47, m39_50, m39_51, m39_52, m39_55, m39_58, m39_59, m39_60, m39_61, m39_62, m39_65, m39_66, m39_67, m39_70, m39_73, m39_74, m39_75, m39_78, m39_81, m39_82i, m39_84, m39_85, m39_88, m39_89, m39_90, m39_93, m39_94, m39_95, m39_98, m39_101, m39_102, m39_103, m39_106, m39_109, m39_110, m27_0, m27_1, m27_4, m28_0, m28_1, m28_4, nb0, nb1, ou_a, Option.toList_some, Option.toList_none, List.nil_append, List.cons_append]
    rw [vw]
    simp [m39_0, m39_1, m39_4, m39_5, m39_8, m39_11, m39_12, m39_15, m39_16, m39_19, m39_22, m39_23, m39_24, m39_25u, m39_27, m39_29, m39_32, m39_33, m39_34, m39_37, m39_38, m39_39, m39_42, m39_45, m39_46, m39_47, m39_50, m39_51, m39_52, m39_55, m39_58, m39_59, m39_60, m39_61, m39_62, m39_65, m39_66, m39_67, m39_70, m39_73, m39_74, m39_75, m39_78, m39_81, m39_82i, m39_84, m39_85, m39_88, m39_89, m39_90, m39_93, m39_94, m39_95, m39_98, m39_101, m39_102, m39_103, m39_106, m39_109, m39_110, m27_0, m27_1, m27_4, m28_0, m28_1, m28_4, nb0, nb1, ou_a, Option.toList_some, Option.toList_none, List.nil_append, List.cons_append]
    refine ha 21 _ _ _ ?_
    simp [m39_0, m39_1, m39_4, m39_5, m39_8, m39_11, m39_12, m39_15, m39_16, m39_19, m39_22, m39_23, m39_24, m39_25u, m39_27, m39_29, m39_32, m39_33, m39_34, m39_37, m39_38, m39_39, m39_42, m39_45, m39_46, m39_47, m39_50, m39_51, m39_52, m39_55, m39_58, m39_59, m39_60, m39_61, m39_62, m39_65, m39_66, m39_67, m39_70, m39_73, m39_74, m39_75, m39_78, m39_81, m39_82i, m39_84, m39_85, m39_88, m39_89, m39_90, m39_93, m39_94, m39_95, m39_98, m39_101, m39_102, m39_103, m39_106, m39_109, m39_110, m27_0, m27_1, m27_4, m28_0, m28_1, m28_4, nb0, nb1, ou_a, Option.toList_some, Option.toList_none, List.nil_append, List.cons_append]
    rw [← vw]
    simp [m39_0, m39_1, m39_4, m39_5, m39_8, m39_11, m39_12, m39_15, m39_16, m39_19, m39_22, m39_23, m39_24, m39_25u, m39_27, m39_29, m39_32, m39_33, m39_34, m39_37, m39_38, m39_39, m39_42, m39_45, m39_46, m39_47, m39_50, m39_51, m39_52, m39_55, m39_58, m39_59, m39_60, m39_61, m39_62, m39_65, m39_66, m39_67, m39_70, m39_73, m39_74, m39_75, m39_78, m39_81, m39_82i, m39_84, m39_85, m39_88, m39_89, m39_90, m39_93, m39_94, m39_95, m39_98, m39_101, m39_102, m39_103, m39_106, m39_109, m39_110, m27_0, m27_1, m27_4, m28_0, m28_1, m28_4, nb0, nb1, ou_a, Option.toList_some, Option.toList_none, List.nil_append, List.cons_append]
    refine hb 0 p _ _ ?_
    simp [m39_0, m39_1, m39_4, m39_5, m39_8, m39_11, m39_12, m39_15, m39_16, m39_19, m39_22, m39_23, m39_24, m39_25u, m39_27, m39_29, m39_32, m39_33, m39_34, m39_37, m39_38, m39_39, m39_42, m39_45, m39_46, m39_47, m39_50, m39_51, m39_52, m39_55, m39_58, m39_59, m39_60, m39_61, m39_62, m39_65, m39_66, m39_67, m39_70, m39_73, m39_74, m39_75, m39_78, m39_81, m39_82i, m39_84, m39_85, m39_88, m39_89, m39_90, m39_93, m39_94, m39_95, m39_98, m39_101, m39_102, m39_103, m39_106, m39_109, m39_110, m27_0, m27_1, m27_4, m28_0, m28_1, m28_4, nb0, nb1, ou_a, Option.toList_some, Option.toList_none, List.nil_append, List.cons_append]
    rw [vw]
    simp [m39_0, m39_1, m39_4, m39_5, m39_8, m39_11, m39_12, m39_15, m39_16, m39_19, m39_22, m39_23, m39_24, m39_25u, m39_27, m39_29, m39_32, m39_33, m39_34, m39_37, m39_38, m39_39, m39_42, m39_45, m39_46, m39_47, m39_50, m39_51, m39_52, m39_55, m39_58, m39_59, m39_60, m39_61, m39_62, m39_65, m39_66, m39_67, m39_70, m39_73, m39_74, m39_75, m39_78, m39_81, m39_82i, m39_84, m39_85, m39_88, m39_89, m39_90, m39_93, m39_94, m39_95, m39_98, m39_101, m39_102, m39_103, m39_106, m39_109, m39_110, m27_0, m27_1, m27_4, m28_0, m28_1, m28_4, nb0, nb1, ou_a, Option.toList_some, Option.toList_none, List.nil_append, List.cons_append]
    refine hb 21 _ _ _ ?_
    simp [m39_0, m39_1, m39_4, m39_5, m39_8, m39_11, m39_12, m39_15, m39_16, m39_19, m39_22, m39_23, m39_24, m39_25u, m39_27, m39_29, m39_32, m39_33, m39_34, m39_37, m39_38, m39_39, m39_42, m39_45, m39_46, m39_47, m39_50, m39_51, m39_52, m39_55, m39_58, m39_59, m39_60, m39_61, m39_62, m39_65, m39_66, m39_67, m39_70, m39_73, m39_74, m39_75, m39_78, m39_81, m39_82i, m39_84, m39_85, m39_88, m39_89, m39_90, m39_93, m39_94, m39_95, m39_98, m39_101, m39_102, m39_103, m39_106, m39_109, m39_110, m27_0, m27_1, m27_4, m28_0, m28_1, m28_4, nb0, nb1, ou_a, Option.toList_some, Option.toList_none, List.nil_append, List.cons_append]
    rw [← vw]
    simp [m39_0, m39_1, m39_4, m39_5, m39_8, m39_11, m39_12, m39_15, m39_16, m39_19, m39_22, m39_23, m39_24, m39_25u, m39_27, m39_29, m39_32, m39_33, m39_34, m39_37, m39_38, m39_39, m39_42, m39_45, m39_46, m39_47, m39_50, m39_51, m39_52, m39_55, m39_58, m39_59, m39_60, m39_61, m39_62, m39_65, m39_66, m39_67, m39_70, m39_73, m39_74, m39_75, m39_78, m39_81, m39_82i, m39_84, m39_85, m39_88, m39_89, m39_90, m39_93, m39_94, m39_95, m39_98, m39_101, m39_102, m39_103, m39_106, m39_109, m39_110, m27_0, m27_1, m27_4, m28_0, m28_1, m28_4, nb0, nb1, ou_a, Option.toList_some, Option.toList_none, List.nil_append, List.cons_append]
    refine hc 0 p _ _ ?_
    simp [m39_0, m39_1, m39_4, m39_5, m39_8, m39_11, m39_12, m39_15, m39_16, m39_19, m39_22, m39_23, m39_24, m39_25u, m39_27, m39_29, m39_32, m39_33, m39_34, m39_37, m39_38, m39_39, m39_42, m39_45, m39_46, m39_47, m39_50, m39_51, m39_52, m39_55, m39_58, m39_59, m39_60, m39_61, m39_62, m39_65, m39_66, m39_67, m39_70, m39_73, m39_74, m39_75, m39_78, m39_81, m39_82i, m39_84, m39_85, m39_88, m39_89, m39_90, m39_93, m39_94, m39_95, m39_98, m39_101, m39_102, m39_103, m39_106, m39_109, m39_110, m27_0, m27_1, m27_4, m28_0, m28_1, m28_4, nb0, nb1, ou_a, Option.toList_some, Option.toList_none, List.nil_append, List.cons_append]
    rw [vw]
    simp [m39_0, m39_1, m39_4, m39_5, m39_8, m39_11, m39_12, m39_15, m39_16, m39_19, m39_22, m39_23, m39_24, m39_25u, m39_27, m39_29, m39_32, m39_33, m39_34, m39_37, m39_38, m39_39, m39_42, m39_45, m39_46, m39_47, m39_50, m39_51, m39_52, m39_55, m39_58, m39_59, m39_60, m39_61, m39_62, m39_65, m39_66, m39_67, m39_70, m39_73, m39_74, m39_75, m39_78, m39_81, m39_82i, m39_84, m39_85, m39_88, m39_89, m39_90, m39_93, m39_94, m39_95, m39_98, m39_101, m39_102, m39_103, m39_106, m39_109, m39_110, m27_0, m27_1, m27_4, m28_0, m28_1, m28_4, nb0, nb1, ou_a, Option.toList_some, Option.toList_none, List.nil_append, List.cons_append]
    refine hc 21 _ _ _ ?_
    simp [m39_0, m39_1, m39_4, m39_5, m39_8, m39_11, m39_12, m39_15, m39_16, m39_19, m39_22, m39_23, m39_24, m39_25u, m39_27, m39_29, m39_32, m39_33, m39_34, m39_37, m39_38, m39_39, m39_42, m39_45, m39_46, m39_47, m39_50, m39_51, m39_52, m39_55, m39_58, m39_59, m39_60, m39_61, m39_62, m39_65, m39_66, m39_67, m39_70, m39_73, m39_74, m39_75, m39_78, m39_81, m39_82i, m39_84, m39_85, m39_88, m39_89, m39_90, m39_93, m39_94, m39_95, m39_98, m39_101, m39_102, m39_103, m39_106, m39_109, m39_110, m27_0, m27_1, m27_4, m28_0, m28_1, m28_4, nb0, nb1, ou_a, Option.toList_some, Option.toList_none, List.nil_append, List.cons_append]
    rw [← vw]
    exact ih (i + 1) n1 e1
set_option maxRecDepth 1000000 in
set_option maxHeartbeats 20000000 in
theorem s39 {p : AHeap} {s : Nat → Int32} {A : Nat → List Int32} (h : GS s A) {Q : Option Value → AHeap → Prop} (hQ : Q (some (.int 1)) (put 1 p s A (tl s A))) : M39 0 [.val (.ref 1), .val (.ref 22), .unset] [] (put 1 p s A (tl s A)) Q := by
  simp [m39_0, m39_1, m39_4, m39_5, m39_8, m39_11, m39_12, m39_15, m39_16, m39_19, m39_22, m39_23, m39_24, m39_25u, m39_27, m39_29, m39_32, m39_33, m39_34, m39_37, m39_38, m39_39, m39_42, m39_45, m39_46, m39_47, m39_50, m39_51, m39_52, m39_55, m39_58, m39_59, m39_60, m39_61, m39_62, m39_65, m39_66, m39_67, m39_70, m39_73, m39_74, m39_75, m39_78, m39_81, m39_82i, m39_84, m39_85, m39_88, m39_89, m39_90, m39_93, m39_94, m39_95, m39_98, m39_101, m39_102, m39_103, m39_106, m39_109, m39_110, m27_0, m27_1, m27_4, m28_0, m28_1, m28_4, nb0, nb1, ou_a, Option.toList_some, Option.toList_none, List.nil_append, List.cons_append]
  rw [vw]
  simp [m39_0, m39_1, m39_4, m39_5, m39_8, m39_11, m39_12, m39_15, m39_16, m39_19, m39_22, m39_23, m39_24, m39_25u, m39_27, m39_29, m39_32, m39_33, m39_34, m39_37, m39_38, m39_39, m39_42, m39_45, m39_46, m39_47, m39_50, m39_51, m39_52, m39_55, m39_58, m39_59, m39_60, m39_61, m39_62, m39_65, m39_66, m39_67, m39_70, m39_73, m39_74, m39_75, m39_78, m39_81, m39_82i, m39_84, m39_85, m39_88, m39_89, m39_90, m39_93, m39_94, m39_95, m39_98, m39_101, m39_102, m39_103, m39_106, m39_109, m39_110, m27_0, m27_1, m27_4, m28_0, m28_1, m28_4, nb0, nb1, ou_a, Option.toList_some, Option.toList_none, List.nil_append, List.cons_append]
  rw [← vw]
  simp [m39_0, m39_1, m39_4, m39_5, m39_8, m39_11, m39_12, m39_15, m39_16, m39_19, m39_22, m39_23, m39_24, m39_25u, m39_27, m39_29, m39_32, m39_33, m39_34, m39_37, m39_38, m39_39, m39_42, m39_45, m39_46, m39_47, m39_50, m39_51, m39_52, m39_55, m39_58, m39_59, m39_60, m39_61, m39_62, m39_65, m39_66, m39_67, m39_70, m39_73, m39_74, m39_75, m39_78, m39_81, m39_82i, m39_84, m39_85, m39_88, m39_89, m39_90, m39_93, m39_94, m39_95, m39_98, m39_101, m39_102, m39_103, m39_106, m39_109, m39_110, m27_0, m27_1, m27_4, m28_0, m28_1, m28_4, nb0, nb1, ou_a, Option.toList_some, Option.toList_none, List.nil_append, List.cons_append]
  rw [vw]
  simp [m39_0, m39_1, m39_4, m39_5, m39_8, m39_11, m39_12, m39_15, m39_16, m39_19, m39_22, m39_23, m39_24, m39_25u, m39_27, m39_29, m39_32, m39_33, m39_34, m39_37, m39_38, m39_39, m39_42, m39_45, m39_46, m39_47, m39_50, m39_51, m39_52, m39_55, m39_58, m39_59, m39_60, m39_61, m39_62, m39_65, m39_66, m39_67, m39_70, m39_73, m39_74, m39_75, m39_78, m39_81, m39_82i, m39_84, m39_85, m39_88, m39_89, m39_90, m39_93, m39_94, m39_95, m39_98, m39_101, m39_102, m39_103, m39_106, m39_109, m39_110, m27_0, m27_1, m27_4, m28_0, m28_1, m28_4, nb0, nb1, ou_a, Option.toList_some, Option.toList_none, List.nil_append, List.cons_append]
  rw [← vw]
  exact s39a h hQ 9 0 (by decide) rfl
theorem c13 {s : Nat → Int32} {A : Nat → List Int32} (h : GS s A) {pp dd ww qq : Int32} {pre post : AHeap} {Q : Option Value → AHeap → Prop} {u : Nat → Int32} {U : Nat → List Int32} (k : ∀ (v : Int32) (s' : Nat → Int32) (A' : Nat → List Int32), GS s' A' → (∀ (b : Nat) (pre post : AHeap) (Q : Option Value → AHeap → Prop) (u : Nat → Int32) (U : Nat → List Int32), Q (some (.int v)) (put (b + 1) pre (mx u s') (mxA U A') post) → M14 0 [.val (.ref (b + 1)), .val (.int pp), .val (.int dd), .val (.int ww), .val (.int qq), .unset] [] (put (b + 1) pre (mx u s) (mxA U A) post) Q) → Q (some (.int v)) (put 1 pre (mx u s') (mxA U A') post)) : M14 0 [.val (.ref 1), .val (.int pp), .val (.int dd), .val (.int ww), .val (.int qq), .unset] [] (put 1 pre (mx u s) (mxA U A) post) Q := by
  obtain ⟨v, s', A', g', hv⟩ := g13 h pp dd ww qq
  exact hv 0 pre post Q u U (k v s' A' g' hv)
theorem c12 {s : Nat → Int32} {A : Nat → List Int32} (h : GS s A) {pp dd ww : Int32} {pre post : AHeap} {Q : Option Value → AHeap → Prop} {u : Nat → Int32} {U : Nat → List Int32} (k : ∀ (v : Int32) (s' : Nat → Int32) (A' : Nat → List Int32), GS s' A' → (∀ (b : Nat) (pre post : AHeap) (Q : Option Value → AHeap → Prop) (u : Nat → Int32) (U : Nat → List Int32), Q (some (.int v)) (put (b + 1) pre (mx u s') (mxA U A') post) → M16 0 [.val (.ref (b + 1)), .val (.int pp), .val (.int dd), .val (.int ww)] [] (put (b + 1) pre (mx u s) (mxA U A) post) Q) → Q (some (.int v)) (put 1 pre (mx u s') (mxA U A') post)) : M16 0 [.val (.ref 1), .val (.int pp), .val (.int dd), .val (.int ww)] [] (put 1 pre (mx u s) (mxA U A) post) Q := by
  obtain ⟨v, s', A', g', hv⟩ := g12 h pp dd ww
  exact hv 0 pre post Q u U (k v s' A' g' hv)
def LP (vs : List Int32) (Q : Option Value → AHeap → Prop) (n : Nat) : Prop := ∀ (ix : Int32) (k4 k5 k6 k7 : Slot) (s u w : Nat → Int32) (A U W : Nat → List Int32), okS k4 → okS k5 → okS k6 → okS k7 → GS s A → LS U → LS W → 0 ≤ ix.toInt → ix.toInt ≤ 1000 → (vs.length : Int) ≤ ix.toInt + n → M40 20 [.val (.ref 0), .val (.ref 1), .val (.ref 22), .val (.int ix), k4, k5, k6, k7] [] (put 1 [(.array .int, vs.map Value.int)] (mx u s) (mxA U A) (tl (mx w s) (mxA W A))) Q
theorem and3 (x : Int32) : x &&& 3 = 0 ∨ x &&& 3 = 1 ∨ x &&& 3 = 2 ∨ x &&& 3 = 3 := by
  have b := and_bd x 3 (by decide)
  have c : (x &&& 3).toInt ≤ 3 := b.2
  obtain ⟨k, hk, e⟩ := rng (n := 4) b.1 (by omega)
  have hk' : k = 0 ∨ k = 1 ∨ k = 2 ∨ k = 3 := by omega
  rw [e]
  rcases hk' with rfl | rfl | rfl | rfl <;> decide
theorem i_2 : (2 : Int32).toInt = 2 := rfl
section Law
variable {Q : Option Value → AHeap → Prop} {vs : List Int32}
set_option maxRecDepth 1000000 in
set_option maxHeartbeats 20000000 in
theorem tail0 {n : Nat} (lp : LP vs Q n) {ix : Int32} {s u w : Nat → Int32} {A U W : Nat → List Int32} (h : GS s A) (hU : LS U) (hW : LS W) (hx1 : 0 ≤ ix.toInt) (hx2 : ix.toInt + 5 ≤ 1000) (hx3 : (vs.length : Int) ≤ ix.toInt + 5 + n) {z4 v : Int32} : M40 198 [.val (.ref 0), .val (.ref 1), .val (.ref 22), .val (.int ix), .val (.int z4), .val (.int v), .val (.int v), .val (.int 0)] [] (put 1 [(.array .int, vs.map Value.int)] (mx u s) (mxA U A) (tl (mx w s) (mxA W A))) Q := by
  have x5 : (ix + 5).toInt = ix.toInt + 5 := add_i (by rw [i_5]; omega) (by rw [i_5]; omega)
  simp [m40_198, m40_200, m40_202, m40_205, m40_206, m40_207, nb0, nb1, ou_a, Option.toList_some, Option.toList_none, List.nil_append, List.cons_append]
  refine s38 h ?_
  simp [m40_210, m40_213, m40_214, m40_215, m40_217, m40_220, m40_221, m40_222, m40_225, m40_228, m40_229, m40_230, m40_233, nb0, nb1, ou_a, Option.toList_some, Option.toList_none, List.nil_append, List.cons_append]
  exact lp _ _ _ _ _ _ _ _ _ _ _ (okS_i _) (okS_i _) (okS_i _) (okS_i _) h hU hW (by rw [x5]; omega) (by rw [x5]; omega) (by rw [x5]; omega)
set_option maxRecDepth 1000000 in
set_option maxHeartbeats 20000000 in
theorem tail1 {n : Nat} (lp : LP vs Q n) {ix : Int32} {s u w : Nat → Int32} {A U W : Nat → List Int32} (h : GS s A) (hU : LS U) (hW : LS W) (hx1 : 0 ≤ ix.toInt) (hx2 : ix.toInt + 5 ≤ 1000) (hx3 : (vs.length : Int) ≤ ix.toInt + 5 + n) {z4 v : Int32} : M40 198 [.val (.ref 0), .val (.ref 1), .val (.ref 22), .val (.int ix), .val (.int z4), .val (.int v), .val (.int v), .val (.int 1)] [] (put 1 [(.array .int, vs.map Value.int)] (mx Z0 s) (mxA ZZ A) (tl (mx Z0 s) (mxA ZZ A))) Q := by
  have x5 : (ix + 5).toInt = ix.toInt + 5 := add_i (by rw [i_5]; omega) (by rw [i_5]; omega)
  simp [m40_198, m40_200, m40_202, m40_205, m40_206, m40_207, nb0, nb1, ou_a, Option.toList_some, Option.toList_none, List.nil_append, List.cons_append]
  refine s38 h ?_
  simp [m40_210, m40_213, m40_214, m40_215, m40_217, m40_220, m40_221, m40_222, nb0, nb1, ou_a, Option.toList_some, Option.toList_none, List.nil_append, List.cons_append]
  refine s39 (GS_mx h LS_Z) ?_
  simp [m40_225, m40_228, m40_229, m40_230, m40_233, nb0, nb1, ou_a, Option.toList_some, Option.toList_none, List.nil_append, List.cons_append]
  exact lp _ _ _ _ _ _ _ _ _ _ _ (okS_i _) (okS_i _) (okS_i _) (okS_i _) h LS_Z LS_Z (by rw [x5]; omega) (by rw [x5]; omega) (by rw [x5]; omega)
set_option maxRecDepth 1000000 in
set_option maxHeartbeats 20000000 in
theorem op0 {n : Nat} (lp : LP vs Q n) {ix : Int32} {k4 k5 k6 k7 : Slot} {s u w : Nat → Int32} {A U W : Nat → List Int32} (h : GS s A) (hU : LS U) (hW : LS W) (hx1 : 0 ≤ ix.toInt) (hx2 : ix.toInt + 5 ≤ 1000) (hx3 : (vs.length : Int) ≤ ix.toInt + 5 + n) (o4 : okS k4) (o5 : okS k5) (o6 : okS k6) (o7 : okS k7) (x0 : inB ix vs) (x1 : inB (ix + 1) vs) (x2 : inB (ix + 2) vs) (x3 : inB (ix + 3) vs) (x4 : inB (ix + 4) vs) (ha : getA vs ix &&& 3 = 0) : M40 28 [.val (.ref 0), .val (.ref 1), .val (.ref 22), .val (.int ix), k4, k5, k6, k7] [] (put 1 [(.array .int, vs.map Value.int)] (mx u s) (mxA U A) (tl (mx w s) (mxA W A))) Q := by
  simp [ha, x0, x1, x2, x3, x4, okS_i, o4, o5, o6, o7, m40_28, m40_29, m40_30, m40_30p, m40_31, m40_32, m40_33u, m40_33i, m40_33r, m40_33g, m40_35, m40_36u, m40_36i, m40_36r, m40_36g, m40_38, m40_39u, m40_39i, m40_39r, m40_39g, m40_41, m40_42u, m40_42i, m40_42r, m40_42g, m40_44, m40_46, m40_49, m40_50, m40_51, m40_52, m40_53, m40_54, m40_54p, m40_55, m40_56, m40_57, m40_58, m40_59, m40_59p, m40_60, m40_61, m40_62, m40_63, m40_64, m40_64p, m40_65, m40_66, m40_67, m40_68, m40_69, m40_69p, m40_70, m40_73i, m40_75, m40_76, m40_77, m40_78, m40_79, m40_80, m40_80p, m40_81, m40_82, m40_83, m40_84, m40_85, m40_85p, m40_86, m40_87, m40_88, m40_89, m40_90, m40_90p, m40_91, m40_92, m40_93, m40_94, m40_95, m40_95p, m40_96, m40_99i, m40_101, nb0, nb1, ou_a, Option.toList_some, Option.toList_none, List.nil_append, List.cons_append]
  refine c13 h (fun v s' A' g' hv => ?_)
  simp [x0, x1, x2, x3, x4, okS_i, o4, o5, o6, o7, m40_28, m40_29, m40_30, m40_30p, m40_31, m40_32, m40_33u, m40_33i, m40_33r, m40_33g, m40_35, m40_36u, m40_36i, m40_36r, m40_36g, m40_38, m40_39u, m40_39i, m40_39r, m40_39g, m40_41, m40_42u, m40_42i, m40_42r, m40_42g, m40_44, m40_46, m40_49, m40_50, m40_51, m40_52, m40_53, m40_54, m40_54p, m40_55, m40_56, m40_57, m40_58, m40_59, m40_59p, m40_60, m40_61, m40_62, m40_63, m40_64, m40_64p, m40_65, m40_66, m40_67, m40_68, m40_69, m40_69p, m40_70, m40_73i, m40_75, m40_76, m40_77, m40_78, m40_79, m40_80, m40_80p, m40_81, m40_82, m40_83, m40_84, m40_85, m40_85p, m40_86, m40_87, m40_88, m40_89, m40_90, m40_90p, m40_91, m40_92, m40_93, m40_94, m40_95, m40_95p, m40_96, m40_99i, m40_101, nb0, nb1, ou_a, Option.toList_some, Option.toList_none, List.nil_append, List.cons_append]
  rw [vw]
  simp [x0, x1, x2, x3, x4, okS_i, o4, o5, o6, o7, m40_28, m40_29, m40_30, m40_30p, m40_31, m40_32, m40_33u, m40_33i, m40_33r, m40_33g, m40_35, m40_36u, m40_36i, m40_36r, m40_36g, m40_38, m40_39u, m40_39i, m40_39r, m40_39g, m40_41, m40_42u, m40_42i, m40_42r, m40_42g, m40_44, m40_46, m40_49, m40_50, m40_51, m40_52, m40_53, m40_54, m40_54p, m40_55, m40_56, m40_57, m40_58, m40_59, m40_59p, m40_60, m40_61, m40_62, m40_63, m40_64, m40_64p, m40_65, m40_66, m40_67, m40_68, m40_69, m40_69p, m40_70, m40_73i, m40_75, m40_76, m40_77, m40_78, m40_79, m40_80, m40_80p, m40_81, m40_82, m40_83, m40_84, m40_85, m40_85p, m40_86, m40_87, m40_88, m40_89, m40_90, m40_90p, m40_91, m40_92, m40_93, m40_94, m40_95, m40_95p, m40_96, m40_99i, m40_101, nb0, nb1, ou_a, Option.toList_some, Option.toList_none, List.nil_append, List.cons_append]
  refine hv 21 _ _ _ w W ?_
  simp [x0, x1, x2, x3, x4, okS_i, o4, o5, o6, o7, m40_28, m40_29, m40_30, m40_30p, m40_31, m40_32, m40_33u, m40_33i, m40_33r, m40_33g, m40_35, m40_36u, m40_36i, m40_36r, m40_36g, m40_38, m40_39u, m40_39i, m40_39r, m40_39g, m40_41, m40_42u, m40_42i, m40_42r, m40_42g, m40_44, m40_46, m40_49, m40_50, m40_51, m40_52, m40_53, m40_54, m40_54p, m40_55, m40_56, m40_57, m40_58, m40_59, m40_59p, m40_60, m40_61, m40_62, m40_63, m40_64, m40_64p, m40_65, m40_66, m40_67, m40_68, m40_69, m40_69p, m40_70, m40_73i, m40_75, m40_76, m40_77, m40_78, m40_79, m40_80, m40_80p, m40_81, m40_82, m40_83, m40_84, m40_85, m40_85p, m40_86, m40_87, m40_88, m40_89, m40_90, m40_90p, m40_91, m40_92, m40_93, m40_94, m40_95, m40_95p, m40_96, m40_99i, m40_101, nb0, nb1, ou_a, Option.toList_some, Option.toList_none, List.nil_append, List.cons_append]
  rw [← vw]
  exact tail0 lp g' hU hW hx1 hx2 hx3
set_option maxRecDepth 1000000 in
set_option maxHeartbeats 20000000 in
theorem op1 {n : Nat} (lp : LP vs Q n) {ix : Int32} {k4 k5 k6 k7 : Slot} {s u w : Nat → Int32} {A U W : Nat → List Int32} (h : GS s A) (hU : LS U) (hW : LS W) (hx1 : 0 ≤ ix.toInt) (hx2 : ix.toInt + 5 ≤ 1000) (hx3 : (vs.length : Int) ≤ ix.toInt + 5 + n) (o4 : okS k4) (o5 : okS k5) (o6 : okS k6) (o7 : okS k7) (x0 : inB ix vs) (x1 : inB (ix + 1) vs) (x2 : inB (ix + 2) vs) (x3 : inB (ix + 3) vs) (x4 : inB (ix + 4) vs) (ha : getA vs ix &&& 3 = 1) : M40 28 [.val (.ref 0), .val (.ref 1), .val (.ref 22), .val (.int ix), k4, k5, k6, k7] [] (put 1 [(.array .int, vs.map Value.int)] (mx u s) (mxA U A) (tl (mx w s) (mxA W A))) Q := by
  simp [ha, x0, x1, x2, x3, x4, okS_i, o4, o5, o6, o7, m40_28, m40_29, m40_30, m40_30p, m40_31, m40_32, m40_33u, m40_33i, m40_33r, m40_33g, m40_35, m40_36u, m40_36i, m40_36r, m40_36g, m40_38, m40_39u, m40_39i, m40_39r, m40_39g, m40_41, m40_42u, m40_42i, m40_42r, m40_42g, m40_44, m40_46, m40_104, m40_106, m40_107, m40_110, m40_111, m40_112, m40_113, m40_114, m40_115, m40_115p, m40_116, m40_117, m40_118, m40_119, m40_120, m40_120p, m40_121, m40_122, m40_123, m40_124, m40_125, m40_125p, m40_126, m40_129i, m40_131, m40_132, m40_133, m40_134, m40_135, m40_136, m40_136p, m40_137, m40_138, m40_139, m40_140, m40_141, m40_141p, m40_142, m40_143, m40_144, m40_145, m40_146, m40_146p, m40_147, m40_150i, m40_152, nb0, nb1, ou_a, Option.toList_some, Option.toList_none, List.nil_append, List.cons_append]
  refine c12 h (fun v s' A' g' hv => ?_)
  simp [x0, x1, x2, x3, x4, okS_i, o4, o5, o6, o7, m40_28, m40_29, m40_30, m40_30p, m40_31, m40_32, m40_33u, m40_33i, m40_33r, m40_33g, m40_35, m40_36u, m40_36i, m40_36r, m40_36g, m40_38, m40_39u, m40_39i, m40_39r, m40_39g, m40_41, m40_42u, m40_42i, m40_42r, m40_42g, m40_44, m40_46, m40_104, m40_106, m40_107, m40_110, m40_111, m40_112, m40_113, m40_114, m40_115, m40_115p, m40_116, m40_117, m40_118, m40_119, m40_120, m40_120p, m40_121, m40_122, m40_123, m40_124, m40_125, m40_125p, m40_126, m40_129i, m40_131, m40_132, m40_133, m40_134, m40_135, m40_136, m40_136p, m40_137, m40_138, m40_139, m40_140, m40_141, m40_141p, m40_142, m40_143, m40_144, m40_145, m40_146, m40_146p, m40_147, m40_150i, m40_152, nb0, nb1, ou_a, Option.toList_some, Option.toList_none, List.nil_append, List.cons_append]
  rw [vw]
  simp [x0, x1, x2, x3, x4, okS_i, o4, o5, o6, o7, m40_28, m40_29, m40_30, m40_30p, m40_31, m40_32, m40_33u, m40_33i, m40_33r, m40_33g, m40_35, m40_36u, m40_36i, m40_36r, m40_36g, m40_38, m40_39u, m40_39i, m40_39r, m40_39g, m40_41, m40_42u, m40_42i, m40_42r, m40_42g, m40_44, m40_46, m40_104, m40_106, m40_107, m40_110, m40_111, m40_112, m40_113, m40_114, m40_115, m40_115p, m40_116, m40_117, m40_118, m40_119, m40_120, m40_120p, m40_121, m40_122, m40_123, m40_124, m40_125, m40_125p, m40_126, m40_129i, m40_131, m40_132, m40_133, m40_134, m40_135, m40_136, m40_136p, m40_137, m40_138, m40_139, m40_140, m40_141, m40_141p, m40_142, m40_143, m40_144, m40_145, m40_146, m40_146p, m40_147, m40_150i, m40_152, nb0, nb1, ou_a, Option.toList_some, Option.toList_none, List.nil_append, List.cons_append]
  refine hv 21 _ _ _ w W ?_
  simp [x0, x1, x2, x3, x4, okS_i, o4, o5, o6, o7, m40_28, m40_29, m40_30, m40_30p, m40_31, m40_32, m40_33u, m40_33i, m40_33r, m40_33g, m40_35, m40_36u, m40_36i, m40_36r, m40_36g, m40_38, m40_39u, m40_39i, m40_39r, m40_39g, m40_41, m40_42u, m40_42i, m40_42r, m40_42g, m40_44, m40_46, m40_104, m40_106, m40_107, m40_110, m40_111, m40_112, m40_113, m40_114, m40_115, m40_115p, m40_116, m40_117, m40_118, m40_119, m40_120, m40_120p, m40_121, m40_122, m40_123, m40_124, m40_125, m40_125p, m40_126, m40_129i, m40_131, m40_132, m40_133, m40_134, m40_135, m40_136, m40_136p, m40_137, m40_138, m40_139, m40_140, m40_141, m40_141p, m40_142, m40_143, m40_144, m40_145, m40_146, m40_146p, m40_147, m40_150i, m40_152, nb0, nb1, ou_a, Option.toList_some, Option.toList_none, List.nil_append, List.cons_append]
  rw [← vw]
  exact tail0 lp g' hU hW hx1 hx2 hx3
set_option maxRecDepth 1000000 in
set_option maxHeartbeats 20000000 in
theorem op2 {n : Nat} (lp : LP vs Q n) {ix : Int32} {k4 k5 k6 k7 : Slot} {s u w : Nat → Int32} {A U W : Nat → List Int32} (h : GS s A) (hU : LS U) (hW : LS W) (hx1 : 0 ≤ ix.toInt) (hx2 : ix.toInt + 5 ≤ 1000) (hx3 : (vs.length : Int) ≤ ix.toInt + 5 + n) (o4 : okS k4) (o5 : okS k5) (o6 : okS k6) (o7 : okS k7) (x0 : inB ix vs) (x1 : inB (ix + 1) vs) (x2 : inB (ix + 2) vs) (x3 : inB (ix + 3) vs) (x4 : inB (ix + 4) vs) (ha : getA vs ix &&& 3 = 2) : M40 28 [.val (.ref 0), .val (.ref 1), .val (.ref 22), .val (.int ix), k4, k5, k6, k7] [] (put 1 [(.array .int, vs.map Value.int)] (mx u s) (mxA U A) (tl (mx w s) (mxA W A))) Q := by
  obtain ⟨v, s', A', g', hv⟩ := ex2 h
  simp [ha, x0, x1, x2, x3, x4, okS_i, o4, o5, o6, o7, m40_28, m40_29, m40_30, m40_30p, m40_31, m40_32, m40_33u, m40_33i, m40_33r, m40_33g, m40_35, m40_36u, m40_36i, m40_36r, m40_36g, m40_38, m40_39u, m40_39i, m40_39r, m40_39g, m40_41, m40_42u, m40_42i, m40_42r, m40_42g, m40_44, m40_46, m40_104, m40_106, m40_107, m40_155, m40_157, m40_158, m40_161, m40_162, m40_165i, m40_167, m40_168, m40_171i, m40_173, m40_175, m40_178, m40_179, m40_182, m40_183i, m40_185, nb0, nb1, ou_a, Option.toList_some, Option.toList_none, List.nil_append, List.cons_append]
  rcases hv with ⟨v0, hv⟩ | ⟨v0, hv⟩
  · refine hv 0 _ _ _ u U ?_
    simp [x0, x1, x2, x3, x4, okS_i, o4, o5, o6, o7, m40_28, m40_29, m40_30, m40_30p, m40_31, m40_32, m40_33u, m40_33i, m40_33r, m40_33g, m40_35, m40_36u, m40_36i, m40_36r, m40_36g, m40_38, m40_39u, m40_39i, m40_39r, m40_39g, m40_41, m40_42u, m40_42i, m40_42r, m40_42g, m40_44, m40_46, m40_104, m40_106, m40_107, m40_155, m40_157, m40_158, m40_161, m40_162, m40_165i, m40_167, m40_168, m40_171i, m40_173, m40_175, m40_178, m40_179, m40_182, m40_183i, m40_185, nb0, nb1, ou_a, Option.toList_some, Option.toList_none, List.nil_append, List.cons_append]
    rw [vw]
    simp [x0, x1, x2, x3, x4, okS_i, o4, o5, o6, o7, m40_28, m40_29, m40_30, m40_30p, m40_31, m40_32, m40_33u, m40_33i, m40_33r, m40_33g, m40_35, m40_36u, m40_36i, m40_36r, m40_36g, m40_38, m40_39u, m40_39i, m40_39r, m40_39g, m40_41, m40_42u, m40_42i, m40_42r, m40_42g, m40_44, m40_46, m40_104, m40_106, m40_107, m40_155, m40_157, m40_158, m40_161, m40_162, m40_165i, m40_167, m40_168, m40_171i, m40_173, m40_175, m40_178, m40_179, m40_182, m40_183i, m40_185, nb0, nb1, ou_a, Option.toList_some, Option.toList_none, List.nil_append, List.cons_append]
    refine hv 21 _ _ _ w W ?_
    simp [v0, x0, x1, x2, x3, x4, okS_i, o4, o5, o6, o7, m40_28, m40_29, m40_30, m40_30p, m40_31, m40_32, m40_33u, m40_33i, m40_33r, m40_33g, m40_35, m40_36u, m40_36i, m40_36r, m40_36g, m40_38, m40_39u, m40_39i, m40_39r, m40_39g, m40_41, m40_42u, m40_42i, m40_42r, m40_42g, m40_44, m40_46, m40_104, m40_106, m40_107, m40_155, m40_157, m40_158, m40_161, m40_162, m40_165i, m40_167, m40_168, m40_171i, m40_173, m40_175, m40_178, m40_179, m40_182, m40_183i, m40_185, nb0, nb1, ou_a, Option.toList_some, Option.toList_none, List.nil_append, List.cons_append]
    rw [← vw]
    exact tail0 lp g' hU hW hx1 hx2 hx3
  · refine hv 0 _ _ _ u U hU ?_
    simp [x0, x1, x2, x3, x4, okS_i, o4, o5, o6, o7, m40_28, m40_29, m40_30, m40_30p, m40_31, m40_32, m40_33u, m40_33i, m40_33r, m40_33g, m40_35, m40_36u, m40_36i, m40_36r, m40_36g, m40_38, m40_39u, m40_39i, m40_39r, m40_39g, m40_41, m40_42u, m40_42i, m40_42r, m40_42g, m40_44, m40_46, m40_104, m40_106, m40_107, m40_155, m40_157, m40_158, m40_161, m40_162, m40_165i, m40_167, m40_168, m40_171i, m40_173, m40_175, m40_178, m40_179, m40_182, m40_183i, m40_185, nb0, nb1, ou_a, Option.toList_some, Option.toList_none, List.nil_append, List.cons_append]
    rw [vw]
    simp [x0, x1, x2, x3, x4, okS_i, o4, o5, o6, o7, m40_28, m40_29, m40_30, m40_30p, m40_31, m40_32, m40_33u, m40_33i, m40_33r, m40_33g, m40_35, m40_36u, m40_36i, m40_36r, m40_36g, m40_38, m40_39u, m40_39i, m40_39r, m40_39g, m40_41, m40_42u, m40_42i, m40_42r, m40_42g, m40_44, m40_46, m40_104, m40_106, m40_107, m40_155, m40_157, m40_158, m40_161, m40_162, m40_165i, m40_167, m40_168, m40_171i, m40_173, m40_175, m40_178, m40_179, m40_182, m40_183i, m40_185, nb0, nb1, ou_a, Option.toList_some, Option.toList_none, List.nil_append, List.cons_append]
    refine hv 21 _ _ _ w W hW ?_
    simp [v0, x0, x1, x2, x3, x4, okS_i, o4, o5, o6, o7, m40_28, m40_29, m40_30, m40_30p, m40_31, m40_32, m40_33u, m40_33i, m40_33r, m40_33g, m40_35, m40_36u, m40_36i, m40_36r, m40_36g, m40_38, m40_39u, m40_39i, m40_39r, m40_39g, m40_41, m40_42u, m40_42i, m40_42r, m40_42g, m40_44, m40_46, m40_104, m40_106, m40_107, m40_155, m40_157, m40_158, m40_161, m40_162, m40_165i, m40_167, m40_168, m40_171i, m40_173, m40_175, m40_178, m40_179, m40_182, m40_183i, m40_185, nb0, nb1, ou_a, Option.toList_some, Option.toList_none, List.nil_append, List.cons_append]
    rw [← vw]
    exact tail1 (u := u) (w := w) lp g' LS_Z LS_Z hx1 hx2 hx3
set_option maxRecDepth 1000000 in
set_option maxHeartbeats 20000000 in
theorem op3 {n : Nat} (lp : LP vs Q n) {ix : Int32} {k4 k5 k6 k7 : Slot} {s u w : Nat → Int32} {A U W : Nat → List Int32} (h : GS s A) (hU : LS U) (hW : LS W) (hx1 : 0 ≤ ix.toInt) (hx2 : ix.toInt + 5 ≤ 1000) (hx3 : (vs.length : Int) ≤ ix.toInt + 5 + n) (o4 : okS k4) (o5 : okS k5) (o6 : okS k6) (o7 : okS k7) (x0 : inB ix vs) (x1 : inB (ix + 1) vs) (x2 : inB (ix + 2) vs) (x3 : inB (ix + 3) vs) (x4 : inB (ix + 4) vs) (ha : getA vs ix &&& 3 = 3) : M40 28 [.val (.ref 0), .val (.ref 1), .val (.ref 22), .val (.int ix), k4, k5, k6, k7] [] (put 1 [(.array .int, vs.map Value.int)] (mx u s) (mxA U A) (tl (mx w s) (mxA W A))) Q := by
  simp [ha, x0, x1, x2, x3, x4, okS_i, o4, o5, o6, o7, m40_28, m40_29, m40_30, m40_30p, m40_31, m40_32, m40_33u, m40_33i, m40_33r, m40_33g, m40_35, m40_36u, m40_36i, m40_36r, m40_36g, m40_38, m40_39u, m40_39i, m40_39r, m40_39g, m40_41, m40_42u, m40_42i, m40_42r, m40_42g, m40_44, m40_46, m40_104, m40_106, m40_107, m40_155, m40_157, m40_158, m40_188, m40_189, m40_190, m40_191, m40_192, m40_193, m40_193p, m40_194, m40_197, nb0, nb1, ou_a, Option.toList_some, Option.toList_none, List.nil_append, List.cons_append]
  refine sim25r (GS_mx h hU) (fun v t D g fr => ?_)
  obtain ⟨e1, e2⟩ := mx_of fr
  have hD : LS D := fun j _ => g.1 j
  rw [e1, e2]
  simp [x0, x1, x2, x3, x4, okS_i, o4, o5, o6, o7, m40_28, m40_29, m40_30, m40_30p, m40_31, m40_32, m40_33u, m40_33i, m40_33r, m40_33g, m40_35, m40_36u, m40_36i, m40_36r, m40_36g, m40_38, m40_39u, m40_39i, m40_39r, m40_39g, m40_41, m40_42u, m40_42i, m40_42r, m40_42g, m40_44, m40_46, m40_104, m40_106, m40_107, m40_155, m40_157, m40_158, m40_188, m40_189, m40_190, m40_191, m40_192, m40_193, m40_193p, m40_194, m40_197, nb0, nb1, ou_a, Option.toList_some, Option.toList_none, List.nil_append, List.cons_append]
  exact tail0 lp h hD hW hx1 hx2 hx3
set_option maxRecDepth 1000000 in
set_option maxHeartbeats 20000000 in
theorem loop (hlen : vs.length ≤ 260) (hQ : ∀ s u w A U W, GS s A → LS U → LS W → Q (some (.int 1)) (put 1 [(.array .int, vs.map Value.int)] (mx u s) (mxA U A) (tl (mx w s) (mxA W A)))) : ∀ n, LP vs Q n := by
  intro n
  induction n with
  | zero =>
    intro ix k4 k5 k6 k7 s u w A U W o4 o5 o6 o7 h hU hW hx1 hx0 hx3
    have eL : (vs.length.toInt32).toInt = vs.length := len_toInt (by omega)
    have e5 : (ix + 5).toInt = ix.toInt + 5 := add_i (by rw [i_5]; omega) (by rw [i_5]; omega)
    have g : vs.length.toInt32 < ix + 5 := by rw [lt_i, eL, e5]; omega
    rw [m40_20]
    simp [g, m40_21, m40_22, m40_23, m40_24, m40_24p, m40_25, m40_236, m40_237, nb0, nb1, ou_a, Option.toList_some, Option.toList_none, List.nil_append, List.cons_append]
    exact hQ s u w A U W h hU hW
  | succ n ih =>
    intro ix k4 k5 k6 k7 s u w A U W o4 o5 o6 o7 h hU hW hx1 hx0 hx3
    have eL : (vs.length.toInt32).toInt = vs.length := len_toInt (by omega)
    have e1 := add1_i (a := ix) (by omega)
    have e2 : (ix + 2).toInt = ix.toInt + 2 := add_i (by rw [i_2]; omega) (by rw [i_2]; omega)
    have e3 : (ix + 3).toInt = ix.toInt + 3 := add_i (by show _ ≤ ix.toInt + 3; omega) (by show ix.toInt + 3 < _; omega)
    have e4 : (ix + 4).toInt = ix.toInt + 4 := add_i (by rw [i_4]; omega) (by rw [i_4]; omega)
    have e5 : (ix + 5).toInt = ix.toInt + 5 := add_i (by rw [i_5]; omega) (by rw [i_5]; omega)
    by_cases g : vs.length.toInt32 < ix + 5
    · rw [m40_20]
      simp [g, m40_21, m40_22, m40_23, m40_24, m40_24p, m40_25, m40_236, m40_237, nb0, nb1, ou_a, Option.toList_some, Option.toList_none, List.nil_append, List.cons_append]
      exact hQ s u w A U W h hU hW
    · have q := g
      rw [lt_i, eL, e5] at q
      have x0 : inB ix vs := by rw [inB_iff]; omega
      have x1 : inB (ix + 1) vs := by rw [inB_iff, e1]; omega
      have x2 : inB (ix + 2) vs := by rw [inB_iff, e2]; omega
      have x3 : inB (ix + 3) vs := by rw [inB_iff, e3]; omega
      have x4 : inB (ix + 4) vs := by rw [inB_iff, e4]; omega
      rw [m40_20]
      simp [g, m40_21, m40_22, m40_23, m40_24, m40_24p, m40_25, nb0, nb1, ou_a, Option.toList_some, Option.toList_none, List.nil_append, List.cons_append]
      have hx2 : ix.toInt + 5 ≤ 1000 := by omega
      have hx4 : (vs.length : Int) ≤ ix.toInt + 5 + n := by omega
      rcases and3 (getA vs ix) with ha | ha | ha | ha
      · exact op0 ih h hU hW hx1 hx2 hx4 o4 o5 o6 o7 x0 x1 x2 x3 x4 ha
      · exact op1 ih h hU hW hx1 hx2 hx4 o4 o5 o6 o7 x0 x1 x2 x3 x4 ha
      · exact op2 ih h hU hW hx1 hx2 hx4 o4 o5 o6 o7 x0 x1 x2 x3 x4 ha
      · exact op3 ih h hU hW hx1 hx2 hx4 o4 o5 o6 o7 x0 x1 x2 x3 x4 ha
end Law
set_option maxRecDepth 1000000 in
set_option maxHeartbeats 20000000 in
theorem g0 : ∃ (s' : Nat → Int32) (A' : Nat → List Int32), GS s' A' ∧ ∀ (b : Nat) (pre post : AHeap) (Q : Option Value → AHeap → Prop), Q none (put (b + 1) pre s' A' post) → M0 160 [.val (.ref (b + 1)), .val (.int 4), .unset, .unset] [] (put (b + 1) pre (fun _ => 0) A0 post) Q := by
  apply Exists.intro
  apply Exists.intro
  refine ⟨?_, fun b pre post Q hq => ?_⟩
  rotate_left 1
  · simp [m0_0, m0_1, m0_4, m0_5, m0_12, m0_13, m0_20, m0_21, m0_28, m0_29, m0_36, m0_37, m0_44, m0_45, m0_52, m0_53, m0_60, m0_61, m0_68, m0_69, m0_75, m0_76, m0_82, m0_83, m0_89, m0_90, m0_96, m0_97, m0_104, m0_105, m0_112, m0_113, m0_120, m0_121, m0_128, m0_129, m0_136, m0_137, m0_144, m0_145, m0_152, m0_153, m0_160, m0_161u, m0_162, m0_163, m0_164, m0_167, m0_168i, m0_169, m0_170, m0_172, m0_175, m0_177i, m0_178, m0_179, m0_180, m0_183, m0_184, m0_185, m0_188, m0_189, m0_190, m0_193, m0_194, m0_195, m0_198, m0_199, m0_200, m0_203, m0_204u, m0_205, m0_206, m0_207, m0_210, m0_211, m0_214, m0_215, m0_216, m0_217, m0_220, m0_223, m0_224, m0_227, m1_0, m1_1, m1_2, m1_5, m1_6, m1_7, m1_10, m1_11u, m1_12, m1_13, m1_15, m1_18, m1_19, m1_22, m1_23, m1_24, m1_25, m1_26, m1_29, m1_30, m1_31, m1_32, m1_33, m1_36, m1_37, m1_38, m1_39, m1_40, m1_43, m1_44, m1_45, m1_46, m1_47, m1_50, m1_51, m1_52, m1_53, m1_54, m1_57, m1_58, m1_59, m1_60, m1_63, m1_66, nb0, nb1, ou_a, Option.toList_some, Option.toList_none, List.nil_append, List.cons_append, getA_set2, setA_len, inB_iff, A0g_0, A0g_1, A0g_2, A0g_3, A0g_4, A0g_5, A0g_6, A0g_7, A0g_8, A0g_9, A0g_10, A0g_11, A0g_12, A0g_13, A0g_14, A0g_15, A0g_16, A0g_17, A0g_18, A0g_19, A0l_0, A0l_1, A0l_2, A0l_3, A0l_4, A0l_5, A0l_6, A0l_7, A0l_8, A0l_9, A0l_10, A0l_11, A0l_12, A0l_13, A0l_14, A0l_15, A0l_16, A0l_17, A0l_18, A0l_19]
    exact hq
  · exact ⟨(by (repeat refine len_ou ?_ (by simp only [setA_len])); exact fun _ => rfl), by show 0 ≤ (0 : Int32).toInt; decide, by show (0 : Int32).toInt ≤ 8; decide⟩
set_option maxRecDepth 1000000 in
set_option maxHeartbeats 20000000 in
theorem own_k {vs : List Int32} {Q : Option Value → AHeap → Prop} (hlen : vs.length ≤ 260) (hQ : ∀ s u w A U W, GS s A → LS U → LS W → Q (some (.int 1)) (put 1 [((FieldType.array .int, vs.map Value.int) : FieldType × List Value)] (mx u s) (mxA U A) (tl (mx w s) (mxA W A)))) : M40 0 [.val (.ref 0), .unset, .unset, .unset, .unset, .unset, .unset, .unset] [] [((FieldType.array .int, vs.map Value.int) : FieldType × List Value)] Q := by
  obtain ⟨s, A, h, hv⟩ := g0
  simp [m40_0, m40_3, m40_4, m40_5, nb0, nb1, ou_a, Option.toList_some, Option.toList_none, List.nil_append, List.cons_append]
  refine Eq.mpr (own_ctor0 (pre := [((FieldType.array .int, vs.map Value.int) : FieldType × List Value)]) (b := 1) rfl (Nat.le_refl 1)) ?_
  refine hv 0 _ _ _ ?_
  simp [put_len, m40_8u, m40_9, m40_12, m40_13, m40_14, nb0, nb1, ou_a, Option.toList_some, Option.toList_none, List.nil_append, List.cons_append]
  refine Eq.mpr (own_ctor0 (pre := put 1 [((FieldType.array .int, vs.map Value.int) : FieldType × List Value)] s A []) (b := 22) (by rw [put_len]; rfl) (by decide)) ?_
  refine hv 21 _ _ _ ?_
  simp [m40_17u, m40_18, m40_19u, nb0, nb1, ou_a, Option.toList_some, Option.toList_none, List.nil_append, List.cons_append]
  rw [← vw]
  have hl := loop hlen hQ 260 0 .unset .unset .unset .unset s s s A A A okS_u okS_u okS_u okS_u h (fun j _ => h.1 j) (fun j _ => h.1 j) (by decide) (by decide) (by rw [i_0]; omega)
  rw [mx_self, mxA_self] at hl
  exact hl
set_option maxRecDepth 1000000 in
set_option maxHeartbeats 20000000 in
theorem own_law (vs : List Int32) (hlen : vs.length ≤ 260) : W tables_1 dn 1 x code ret 0 (entry [.ref 0] maxLocals) [] [(FieldType.array .int, vs.map Value.int)] (fun v H1 => v = some (.int 1) ∧ H1.length - ([(FieldType.array .int, vs.map Value.int)] : AHeap).length ≤ 96 ∧ tot tables_1 H1 - tot tables_1 [(FieldType.array .int, vs.map Value.int)] ≤ 1088) := by
  show M40 0 [.val (.ref 0), .unset, .unset, .unset, .unset, .unset, .unset, .unset] [] [(FieldType.array .int, vs.map Value.int)] _
  refine own_k hlen (fun s u w A U W h hU hW => ⟨rfl, ?_, ?_⟩)
  · rw [vw, put_len]; simp
  · have q1 : ∀ i, (mxA U A i).length = (A0 i).length := (GS_mx (u := u) h hU).1
    have q2 : ∀ i, (mxA W A i).length = (A0 i).length := (GS_mx (u := w) h hW).1
    have hl : (put 1 [(FieldType.array .int, vs.map Value.int)] (mx u s) (mxA U A) []).length = 22 := by rw [put_len]; rfl
    rw [vw, put_tot, pad_eq hl, put_tot, pad_1]
    simp only [q1, q2, put_len, put_tot, pad_0, tot_nil, List.length_nil, List.length_cons, A0l_0, A0l_1, A0l_2, A0l_3, A0l_4, A0l_5, A0l_6, A0l_7, A0l_8, A0l_9, A0l_10, A0l_11, A0l_12, A0l_13, A0l_14, A0l_15, A0l_16, A0l_17, A0l_18, A0l_19]
    omega
theorem own_dn : ∀ f' l', dnOf dn x = some (f', l') → f' ≤ room_1.frames ∧ l' ≤ room_1.locals := by
  have h : dnOf dn x = some (4, 70) := by decide +kernel
  intro f' l' q; rw [h] at q; cases q; decide
theorem own_pn : Jvm.plainName x.cls = true := by first | (simp [Jvm.plainName, overriddenIn, x]; done) | decide +kernel
theorem own_rm (l : Launch) (Z : State) (a0 : Array Value) (hw : ∀ d ∈ tables_1, d.before a0 Z = true) (vs : List Int32) (hlen : vs.length ≤ 260) (h : Heap) (a : Addr) (cl : Cell) (Ar : Arr Z h a cl .int) (ev : cl.slots = (vs.map Value.int).toArray) :
    MetFree l x (head1 (Jvm.Cond.code x code maxLocals ret :: tables_1) room_1) (fun A U => A = #[.ref a] ∧ Z.Warmed39 U.vm ∧ U.heap = h) (fun _ _ _ _ _ => True) (fun _ U o U' => ∃ w L, o = .returned w ∧ (w = some (.int 1) ∧ Fr h.size L) ∧ FrameEnd U o U' L 96 1088) :=
  law_of (as := [.ref 0]) (mx := maxLocals) (f := room_1.frames) (lc := room_1.locals) hw l tables_1 own_pn (by show 1 ≤ 8; omega) (own_law vs hlen) own_dn (Sim.script tables_1 Ar ev)
set_option maxRecDepth 65536 in
set_option maxHeartbeats 40000000 in
theorem comes_1 {Post : Tables → Env → Array Value → State → Outcome → State → Prop} (hpost : ∀ tb e args s v u, (limb_1_1.after args s (.returned v) u = true ∧ limb_1_2.after args s (.returned v) u = true ∧ True) → FrameEnd s (.returned v) u (Jvm.fieldLocs frame_1_writes args s ++ Jvm.arrayLocs frame_1_arrays args s ++ Jvm.staticLocs frame_1_statics s) 96 1088 → Post tb e args s (.returned v) u) :
    ArmFor flags0 classFile x code maxLocals ret World_1 tables_1 room_1 Calls_1 rest_1 Pre_1 Post := by
  intro l hfl _ _ p e ha hc hk s m args below hf hA hF happ hP
  obtain ⟨hcalls, hrest, hpre⟩ := hP
  obtain ⟨-, -, -, hnamed, -, -, -, hat⟩ := (Spec.applies_iff hf).mp happ
  obtain ⟨hg, hn⟩ := and_e (Cond.before_iff.mp (show (Jvm.Cond.and given_1 narrow_1).before args s = true from hpre))
  obtain ⟨g0, q0⟩ := and_e hg
  obtain ⟨w0, rfl⟩ : ∃ w0 : Value, args = #[w0] := by
    have hs : args.size = 1 := by simpa [Cond.value, given_1] using g0
    obtain ⟨L⟩ := args
    match L, hs with
    | [w0], _ => exact ⟨w0, rfl⟩
  have hw := fun d (hd : d ∈ tables_1) => atoms_spec (ws := Jvm.Cond.code x code maxLocals ret :: tables_1) hat d (List.mem_cons_of_mem _ hd)
  have hfit : Fit s := fun {y c} hc i hi => by
    obtain ⟨ha, rfl⟩ := Array.getElem?_eq_some_iff.mp hc
    have q := List.all_eq_true.mp ((Array.all_eq_true_iff_forall_mem.mp hF) _ (Array.getElem_mem ha)) i (List.mem_range.mpr hi)
    simpa [Array.getElem?_eq_getElem hi] using q
  obtain ⟨n1, n2⟩ := and_e hn
  obtain ⟨a, ea⟩ := arr_v n1
  obtain rfl : w0 = .ref a := Option.some.inj ea
  obtain ⟨cl, Ar⟩ := Arr.start ea n1
  obtain ⟨r1, -⟩ := and_e (Cond.before_iff.mp (show rest_1_c.before _ s = true from hrest))
  obtain ⟨z, ez⟩ := is_v r1
  have hat' := Ar.fin (Vm.Alike.refl _)
  have hsz : cl.slots.size < 2 ^ 31 ∧ z = cl.slots.size.toInt32 := by
    simp only [Term.eval] at ea ez
    simp only [ea, hat', Option.bind_eq_bind, Option.bind_some] at ez
    split at ez
    · rename_i hlt; exact ⟨hlt, by simpa using ez.symm⟩
    · cases ez
  obtain ⟨vs, ev⟩ := script_of hfit Ar hsz.1
  have hlen : vs.length ≤ 260 := by
    have e1 : cl.slots.size = vs.length := by rw [ev]; simp
    have e2 := len_toInt hsz.1
    have n3 := Cond.le_ints (a := .length (.arg 0)) (b := .int 260) ez (Term.int_eval _)
    rw [n2] at n3
    have n4 := of_decide_eq_true (Option.some.inj n3).symm
    rw [Int32.le_iff_toInt_le, hsz.2, e2] at n4
    have e3 : (260 : Int32).toInt = 260 := by decide
    rw [e3] at n4
    omega
  obtain ⟨n, o, h1, h2, h3, _, L, rfl, ⟨rfl, N⟩, hq⟩ := own_rm l s _ hw vs hlen s.heap a cl Ar ev p e ha hc hk s m _ below hf ((Spec.applies_iff_loose hf).mp happ).1 ⟨rfl, State.Warmed39.refl s, rfl⟩ trivial
  exact ⟨n, _, h1, h2, h3, hpost _ _ _ _ _ _ ⟨Cond.after_iff.mpr rfl, Cond.after_iff.mpr (eq_i res_at (Term.int_eval (1)) rfl), trivial⟩ ⟨hq.1, hq.2.1, (hq.2.2.sift fun y hy => Or.inr (N y hy)).mono (by decide) (by decide)⟩⟩
theorem main_1_1 : Claimed_1_1 := comes_1 fun _ _ _ _ _ _ h hF => ⟨h.1, hF⟩
theorem main_1_2 : Claimed_1_2 := comes_1 fun _ _ _ _ _ _ h hF => ⟨h.2.1, hF⟩
end Jvm.Pilot.@@N@@
namespace Jvm.Pilot.@@N@@
open Jvm Jvm.ClassFile Sem Op Lib Jvm.Free Jvm.Stand Jvm.Pilot.@@N@@.Jvm.D
/-! MADE BY PROGRAM (witnessworld.py) out of the Statement's table words and the real class files: 11 classes; the members and pool entries that the words name. The judged class is class 1, her method 1. -/
namespace start1
open Jvm.ClassFile
def u (s : String) : CpInfo := .utf8 (stringToUtf16 s)
/-- a pool by its gaps: so many unusable entries, then the entry; so many at the end -/
def gap : Nat → List CpInfo → List CpInfo
  | 0, r => r
  | n + 1, r => .unusable :: gap n r
def poolList (es : List (Nat × CpInfo)) (last : Nat) : List CpInfo := es.foldr (fun e r => gap e.1 (e.2 :: r)) (gap last [])
def pool (es : List (Nat × CpInfo)) (last : Nat) : Array CpInfo := ⟨poolList es last⟩
def fileOf (pool : Array CpInfo) (this : Nat) (attrs : Array Attribute := #[]) (ms : Array MethodInfo := #[]) (fl : Nat := 33) (sup : Nat := 0) (ifs : Array Nat := #[]) (fds : Array FieldInfo := #[]) : ClassFile where
  minorVersion := 0
  majorVersion := 65
  constantPool := pool
  accessFlags := fl
  thisClass := this
  superClass := sup
  interfaces := ifs
  fields := fds
  methods := ms
  attributes := attrs
def plain (name : String) (sup : Option ClassId) : Class where
  name := name
  kind := .ordinary
  loader := none
  accessFlags := 33
  super := sup
  interfaces := #[]
  cf := none
  fields := #[]
  methods := #[]
  instanceTypes := #[]
  staticTypes := #[]
  resolved := #[]
  callSites := []
  init := .initialized
  statics := none
  mirror := none

def pool0 : Array CpInfo := pool [(5, u "<init>"), (0, u "()V"), (1, .class_ 10), (1, u "java/lang/Object")] 113

def k0c0 : Code := { maxStack := 0, maxLocals := 1, code := object_method_1_code, exceptionTable := #[], attributes := #[] }
def k0m0 : Method := { name := "<init>", desc := "()V", sig := { parameters := [], returnType := none }, accessFlags := 1, code := some k0c0 }
/-- java/lang/Object -/
def k0 : Class := { plain "java/lang/Object" none with
  accessFlags := 33
  interfaces := #[]
  cf := some (fileOf pool0 8 #[] #[{ accessFlags := 1, nameIndex := 5, descriptorIndex := 6, attributes := #[] }] 33 0 #[] #[])
  fields := #[]
  methods := #[k0m0]
  instanceTypes := #[]
  staticTypes := #[]
  resolved := Array.replicate 124 none
  statics := none }

def pool1 : Array CpInfo := pool [(2, .class_ 4), (1, u "java/lang/Object"), (0, u "<init>"), (0, u "()V"), (0, .class_ 8), (0, u "ResponseTimeGate"), (0, .methodref 7 10), (0, .nameAndType 5 11), (0, u "(I)V"), (0, .methodref 7 13), (0, .nameAndType 14 15), (0, u "beginTask"), (0, u "(IIII)I"), (0, .methodref 7 17), (0, .nameAndType 18 19), (0, u "addSection"), (0, u "(III)I"), (0, .methodref 7 21), (0, .nameAndType 22 23), (0, u "commitTask"), (0, u "()I"), (0, .methodref 7 25), (0, .nameAndType 26 27), (0, u "run"), (0, u "(I)I"), (0, .methodref 29 30), (0, .class_ 31), (0, .nameAndType 32 33), (0, u "ResponseTimeGateL5"), (0, u "sameAnalysis"), (0, u "(LResponseTimeGate;LResponseTimeGate;)Z"), (0, .methodref 29 35), (0, .nameAndType 36 33), (0, u "sameSim"), (0, .methodref 7 38), (0, .nameAndType 39 23), (0, u "taskCount"), (0, .methodref 7 41), (0, .nameAndType 42 23), (0, u "hyperperiod"), (0, .methodref 7 44), (0, .nameAndType 45 23), (0, u "failedTask"), (0, .methodref 7 47), (0, .nameAndType 48 27), (0, u "bound"), (0, .methodref 7 50), (0, .nameAndType 51 27), (0, u "blocking"), (0, .methodref 7 53), (0, .nameAndType 54 27), (0, u "ceiling"), (0, .methodref 7 56), (0, .nameAndType 57 23), (0, u "time"), (0, .methodref 7 59), (0, .nameAndType 60 23), (0, u "misses"), (0, .methodref 7 62), (0, .nameAndType 63 27), (0, u "jobsDone"), (0, .methodref 7 65), (0, .nameAndType 66 27), (0, u "maxResponse"), (0, .methodref 7 68), (0, .nameAndType 69 27), (0, u "progress"), (0, .methodref 7 71), (0, .nameAndType 72 27), (0, u "holder"), (2, u "law"), (0, u "([I)Z")] 5

def k1m0 : Method := { name := "<init>", desc := "()V", sig := { parameters := [], returnType := none }, accessFlags := 1, code := none }
def k1c1 : Code := { maxStack := 7, maxLocals := 8, code := code, exceptionTable := #[], attributes := #[] }
def k1m1 : Method := { name := "law", desc := "([I)Z", sig := { parameters := [(.array .int)], returnType := some .boolean }, accessFlags := 9, code := some k1c1 }
def k1c2 : Code := { maxStack := 3, maxLocals := 3, code := method_3_code, exceptionTable := #[], attributes := #[] }
def k1m2 : Method := { name := "sameAnalysis", desc := "(LResponseTimeGate;LResponseTimeGate;)Z", sig := { parameters := [(.object "ResponseTimeGate"), (.object "ResponseTimeGate")], returnType := some .boolean }, accessFlags := 10, code := some k1c2 }
def k1c3 : Code := { maxStack := 3, maxLocals := 3, code := method_4_code, exceptionTable := #[], attributes := #[] }
def k1m3 : Method := { name := "sameSim", desc := "(LResponseTimeGate;LResponseTimeGate;)Z", sig := { parameters := [(.object "ResponseTimeGate"), (.object "ResponseTimeGate")], returnType := some .boolean }, accessFlags := 10, code := some k1c3 }
/-- ResponseTimeGateL5 -/
def k1 : Class := { plain "ResponseTimeGateL5" (some 0) with
  accessFlags := 49
  interfaces := #[]
  cf := some (fileOf pool1 29 #[] #[{ accessFlags := 1, nameIndex := 5, descriptorIndex := 6, attributes := #[] }, { accessFlags := 9, nameIndex := 75, descriptorIndex := 76, attributes := #[] }, { accessFlags := 10, nameIndex := 32, descriptorIndex := 33, attributes := #[] }, { accessFlags := 10, nameIndex := 36, descriptorIndex := 33, attributes := #[] }] 49 2 #[] #[])
  fields := #[]
  methods := #[k1m0, k1m1, k1m2, k1m3]
  instanceTypes := #[]
  staticTypes := #[]
  resolved := Array.replicate 82 none
  statics := none }

def pool2 : Array CpInfo := pool [(1, .methodref 2 3), (0, .class_ 4), (0, .nameAndType 5 6), (0, u "java/lang/Object"), (0, u "<init>"), (0, u "()V"), (0, .fieldref 8 9), (0, .class_ 10), (0, .nameAndType 11 12), (0, u "ResponseTimeGate"), (0, u "per"), (0, u "[I"), (0, .fieldref 8 14), (0, .nameAndType 15 12), (0, u "dl"), (0, .fieldref 8 17), (0, .nameAndType 18 12), (0, u "wc"), (0, .fieldref 8 20), (0, .nameAndType 21 12), (0, u "pr"), (0, .fieldref 8 23), (0, .nameAndType 24 12), (0, u "secS"), (0, .fieldref 8 26), (0, .nameAndType 27 12), (0, u "secL"), (0, .fieldref 8 29), (0, .nameAndType 30 12), (0, u "bnd"), (0, .fieldref 8 32), (0, .nameAndType 33 12), (0, u "blk"), (0, .fieldref 8 35), (0, .nameAndType 36 12), (0, u "ceil"), (0, .fieldref 8 38), (0, .nameAndType 39 12), (0, u "stS"), (0, .fieldref 8 41), (0, .nameAndType 42 12), (0, u "stL"), (0, .fieldref 8 44), (0, .nameAndType 45 12), (0, u "candCeil"), (0, .fieldref 8 47), (0, .nameAndType 48 12), (0, u "candB"), (0, .fieldref 8 50), (0, .nameAndType 51 12), (0, u "candR"), (0, .fieldref 8 53), (0, .nameAndType 54 55), (0, u "pend"), (0, u "[Z"), (0, .fieldref 8 57), (0, .nameAndType 58 12), (0, u "rel"), (0, .fieldref 8 60), (0, .nameAndType 61 12), (0, u "prog"), (0, .fieldref 8 63), (0, .nameAndType 64 12), (0, u "held"), (0, .fieldref 8 66), (0, .nameAndType 67 12), (0, u "done"), (0, .fieldref 8 69), (0, .nameAndType 70 12), (0, u "maxR"), (0, .fieldref 8 72), (0, .nameAndType 73 74), (0, u "cap"), (0, u "I"), (0, .fieldref 8 76), (0, .nameAndType 77 74), (0, u "count"), (0, .fieldref 8 79), (0, .nameAndType 80 81), (0, u "staged"), (0, u "Z"), (0, .fieldref 8 83), (0, .nameAndType 84 74), (0, u "failed"), (0, .fieldref 8 86), (0, .nameAndType 87 74), (0, u "hyper"), (0, .methodref 8 89), (0, .nameAndType 90 6), (0, u "resetSim"), (0, .methodref 8 92), (0, .nameAndType 93 94), (0, u "priorityTaken"), (0, u "(I)Z"), (0, .fieldref 8 96), (0, .nameAndType 97 74), (0, u "stT"), (0, .fieldref 8 99), (0, .nameAndType 100 74), (0, u "stD"), (0, .fieldref 8 102), (0, .nameAndType 103 74), (0, u "stC"), (0, .fieldref 8 105), (0, .nameAndType 106 74), (0, u "stP"), (0, .methodref 8 108), (0, .nameAndType 109 110), (0, u "overlapsStaged"), (0, u "(II)Z"), (0, .methodref 8 112), (0, .nameAndType 113 114), (0, u "lcmWith"), (0, u "(II)I"), (0, .methodref 8 116), (0, .nameAndType 117 118), (0, u "placeStaged"), (0, u "(I)V"), (0, .methodref 8 120), (0, .nameAndType 121 122), (0, u "analyze"), (0, u "(I)I"), (0, .methodref 8 124), (0, .nameAndType 125 118), (0, u "adoptResults"), (0, .methodref 8 127), (0, .nameAndType 128 114), (0, u "gcd"), (0, .methodref 8 130), (0, .nameAndType 131 118), (0, u "computeCeilings"), (0, .methodref 8 133), (0, .nameAndType 134 114), (0, u "blockingOf"), (0, .methodref 8 136), (0, .nameAndType 137 138), (0, u "responseOf"), (0, u "(III)I"), (0, .methodref 8 140), (0, .nameAndType 141 138), (0, u "interference"), (0, .methodref 8 143), (0, .nameAndType 144 94), (0, u "admitted"), (0, .fieldref 8 146), (0, .nameAndType 147 74), (0, u "now"), (0, .fieldref 8 149), (0, .nameAndType 150 74), (0, u "missCount"), (0, .methodref 8 152), (0, .nameAndType 153 6), (0, u "tick"), (0, .methodref 8 155), (0, .nameAndType 156 6), (0, u "releaseJobs"), (0, .methodref 8 158), (0, .nameAndType 159 160), (0, u "pickRunning"), (0, u "()I"), (0, .methodref 8 162), (0, .nameAndType 163 118), (0, u "executeUnit"), (0, .methodref 8 165), (0, .nameAndType 166 6), (0, u "checkMisses"), (0, .methodref 8 168), (0, .nameAndType 169 122), (0, u "activePriority"), (0, .methodref 8 171), (0, .nameAndType 172 118), (0, u "takeResourceIfStart"), (0, .methodref 8 174), (0, .nameAndType 175 118), (0, u "completeJob"), (0, u "MAX_TASKS"), (2, u "RESOURCES"), (1, u "MAX_PERIOD"), (1, u "HYPER_LIMIT"), (0, u "MAX_PRIORITY"), (1, u "MAX_RUN"), (0, u "OK"), (1, u "ERR_FULL"), (1, u "ERR_BAD_ARG"), (1, u "ERR_PRIORITY"), (1, u "ERR_NO_STAGED"), (1, u "ERR_SECTION"), (1, u "REJ_HYPER"), (1, u "REJ_DEADLINE"), (4, u "beginTask"), (0, u "(IIII)I"), (0, u "addSection"), (0, u "commitTask"), (0, u "taskCount"), (0, u "bound"), (0, u "blocking"), (0, u "ceiling"), (0, u "hyperperiod"), (0, u "failedTask"), (0, u "run"), (0, u "time"), (0, u "maxResponse"), (0, u "jobsDone"), (0, u "misses"), (0, u "progress"), (0, u "holder")] 2

def k2c0 : Code := { maxStack := 3, maxLocals := 4, code := prog_1_method_1_code, exceptionTable := #[], attributes := #[] }
def k2m0 : Method := { name := "<init>", desc := "(I)V", sig := { parameters := [.int], returnType := none }, accessFlags := 1, code := some k2c0 }
def k2c1 : Code := { maxStack := 3, maxLocals := 6, code := prog_1_method_2_code, exceptionTable := #[], attributes := #[] }
def k2m1 : Method := { name := "beginTask", desc := "(IIII)I", sig := { parameters := [.int, .int, .int, .int], returnType := some .int }, accessFlags := 1, code := some k2c1 }
def k2c2 : Code := { maxStack := 2, maxLocals := 3, code := prog_1_method_3_code, exceptionTable := #[], attributes := #[] }
def k2m2 : Method := { name := "priorityTaken", desc := "(I)Z", sig := { parameters := [.int], returnType := some .boolean }, accessFlags := 2, code := some k2c2 }
def k2c3 : Code := { maxStack := 3, maxLocals := 4, code := prog_1_method_4_code, exceptionTable := #[], attributes := #[] }
def k2m3 : Method := { name := "addSection", desc := "(III)I", sig := { parameters := [.int, .int, .int], returnType := some .int }, accessFlags := 1, code := some k2c3 }
def k2c4 : Code := { maxStack := 3, maxLocals := 6, code := prog_1_method_5_code, exceptionTable := #[], attributes := #[] }
def k2m4 : Method := { name := "overlapsStaged", desc := "(II)Z", sig := { parameters := [.int, .int], returnType := some .boolean }, accessFlags := 2, code := some k2c4 }
def k2c5 : Code := { maxStack := 3, maxLocals := 4, code := prog_1_method_6_code, exceptionTable := #[], attributes := #[] }
def k2m5 : Method := { name := "commitTask", desc := "()I", sig := { parameters := [], returnType := some .int }, accessFlags := 1, code := some k2c5 }
def k2c6 : Code := { maxStack := 4, maxLocals := 3, code := prog_1_method_7_code, exceptionTable := #[], attributes := #[] }
def k2m6 : Method := { name := "placeStaged", desc := "(I)V", sig := { parameters := [.int], returnType := none }, accessFlags := 2, code := some k2c6 }
def k2c7 : Code := { maxStack := 4, maxLocals := 3, code := prog_1_method_8_code, exceptionTable := #[], attributes := #[] }
def k2m7 : Method := { name := "adoptResults", desc := "(I)V", sig := { parameters := [.int], returnType := none }, accessFlags := 2, code := some k2c7 }
def k2c8 : Code := { maxStack := 2, maxLocals := 7, code := prog_1_method_9_code, exceptionTable := #[], attributes := #[] }
def k2m8 : Method := { name := "gcd", desc := "(II)I", sig := { parameters := [.int, .int], returnType := some .int }, accessFlags := 2, code := some k2c8 }
def k2c9 : Code := { maxStack := 3, maxLocals := 4, code := prog_1_method_10_code, exceptionTable := #[], attributes := #[] }
def k2m9 : Method := { name := "lcmWith", desc := "(II)I", sig := { parameters := [.int, .int], returnType := some .int }, accessFlags := 2, code := some k2c9 }
def k2c10 : Code := { maxStack := 4, maxLocals := 5, code := prog_1_method_11_code, exceptionTable := #[], attributes := #[] }
def k2m10 : Method := { name := "analyze", desc := "(I)I", sig := { parameters := [.int], returnType := some .int }, accessFlags := 2, code := some k2c10 }
def k2c11 : Code := { maxStack := 3, maxLocals := 5, code := prog_1_method_12_code, exceptionTable := #[], attributes := #[] }
def k2m11 : Method := { name := "computeCeilings", desc := "(I)V", sig := { parameters := [.int], returnType := none }, accessFlags := 2, code := some k2c11 }
def k2c12 : Code := { maxStack := 3, maxLocals := 8, code := prog_1_method_13_code, exceptionTable := #[], attributes := #[] }
def k2m12 : Method := { name := "blockingOf", desc := "(II)I", sig := { parameters := [.int, .int], returnType := some .int }, accessFlags := 2, code := some k2c12 }
def k2c13 : Code := { maxStack := 5, maxLocals := 8, code := prog_1_method_14_code, exceptionTable := #[], attributes := #[] }
def k2m13 : Method := { name := "responseOf", desc := "(III)I", sig := { parameters := [.int, .int, .int], returnType := some .int }, accessFlags := 2, code := some k2c13 }
def k2c14 : Code := { maxStack := 4, maxLocals := 8, code := prog_1_method_15_code, exceptionTable := #[], attributes := #[] }
def k2m14 : Method := { name := "interference", desc := "(III)I", sig := { parameters := [.int, .int, .int], returnType := some .int }, accessFlags := 2, code := some k2c14 }
def k2c15 : Code := { maxStack := 2, maxLocals := 2, code := prog_1_method_16_code, exceptionTable := #[], attributes := #[] }
def k2m15 : Method := { name := "admitted", desc := "(I)Z", sig := { parameters := [.int], returnType := some .boolean }, accessFlags := 2, code := some k2c15 }
def k2c16 : Code := { maxStack := 1, maxLocals := 1, code := prog_1_method_17_code, exceptionTable := #[], attributes := #[] }
def k2m16 : Method := { name := "taskCount", desc := "()I", sig := { parameters := [], returnType := some .int }, accessFlags := 1, code := some k2c16 }
def k2c17 : Code := { maxStack := 2, maxLocals := 2, code := prog_1_method_18_code, exceptionTable := #[], attributes := #[] }
def k2m17 : Method := { name := "bound", desc := "(I)I", sig := { parameters := [.int], returnType := some .int }, accessFlags := 1, code := some k2c17 }
def k2c18 : Code := { maxStack := 2, maxLocals := 2, code := prog_1_method_19_code, exceptionTable := #[], attributes := #[] }
def k2m18 : Method := { name := "blocking", desc := "(I)I", sig := { parameters := [.int], returnType := some .int }, accessFlags := 1, code := some k2c18 }
def k2c19 : Code := { maxStack := 2, maxLocals := 2, code := prog_1_method_20_code, exceptionTable := #[], attributes := #[] }
def k2m19 : Method := { name := "ceiling", desc := "(I)I", sig := { parameters := [.int], returnType := some .int }, accessFlags := 1, code := some k2c19 }
def k2c20 : Code := { maxStack := 1, maxLocals := 1, code := prog_1_method_21_code, exceptionTable := #[], attributes := #[] }
def k2m20 : Method := { name := "hyperperiod", desc := "()I", sig := { parameters := [], returnType := some .int }, accessFlags := 1, code := some k2c20 }
def k2c21 : Code := { maxStack := 1, maxLocals := 1, code := prog_1_method_22_code, exceptionTable := #[], attributes := #[] }
def k2m21 : Method := { name := "failedTask", desc := "()I", sig := { parameters := [], returnType := some .int }, accessFlags := 1, code := some k2c21 }
def k2c22 : Code := { maxStack := 3, maxLocals := 2, code := prog_1_method_23_code, exceptionTable := #[], attributes := #[] }
def k2m22 : Method := { name := "resetSim", desc := "()V", sig := { parameters := [], returnType := none }, accessFlags := 2, code := some k2c22 }
def k2c23 : Code := { maxStack := 2, maxLocals := 4, code := prog_1_method_24_code, exceptionTable := #[], attributes := #[] }
def k2m23 : Method := { name := "run", desc := "(I)I", sig := { parameters := [.int], returnType := some .int }, accessFlags := 1, code := some k2c23 }
def k2c24 : Code := { maxStack := 3, maxLocals := 2, code := prog_1_method_25_code, exceptionTable := #[], attributes := #[] }
def k2m24 : Method := { name := "tick", desc := "()V", sig := { parameters := [], returnType := none }, accessFlags := 2, code := some k2c24 }
def k2c25 : Code := { maxStack := 3, maxLocals := 3, code := prog_1_method_26_code, exceptionTable := #[], attributes := #[] }
def k2m25 : Method := { name := "releaseJobs", desc := "()V", sig := { parameters := [], returnType := none }, accessFlags := 2, code := some k2c25 }
def k2c26 : Code := { maxStack := 2, maxLocals := 3, code := prog_1_method_27_code, exceptionTable := #[], attributes := #[] }
def k2m26 : Method := { name := "activePriority", desc := "(I)I", sig := { parameters := [.int], returnType := some .int }, accessFlags := 2, code := some k2c26 }
def k2c27 : Code := { maxStack := 2, maxLocals := 7, code := prog_1_method_28_code, exceptionTable := #[], attributes := #[] }
def k2m27 : Method := { name := "pickRunning", desc := "()I", sig := { parameters := [], returnType := some .int }, accessFlags := 2, code := some k2c27 }
def k2c28 : Code := { maxStack := 3, maxLocals := 3, code := prog_1_method_29_code, exceptionTable := #[], attributes := #[] }
def k2m28 : Method := { name := "takeResourceIfStart", desc := "(I)V", sig := { parameters := [.int], returnType := none }, accessFlags := 2, code := some k2c28 }
def k2c29 : Code := { maxStack := 5, maxLocals := 3, code := prog_1_method_30_code, exceptionTable := #[], attributes := #[] }
def k2m29 : Method := { name := "executeUnit", desc := "(I)V", sig := { parameters := [.int], returnType := none }, accessFlags := 2, code := some k2c29 }
def k2c30 : Code := { maxStack := 4, maxLocals := 3, code := prog_1_method_31_code, exceptionTable := #[], attributes := #[] }
def k2m30 : Method := { name := "completeJob", desc := "(I)V", sig := { parameters := [.int], returnType := none }, accessFlags := 2, code := some k2c30 }
def k2c31 : Code := { maxStack := 3, maxLocals := 2, code := prog_1_method_32_code, exceptionTable := #[], attributes := #[] }
def k2m31 : Method := { name := "checkMisses", desc := "()V", sig := { parameters := [], returnType := none }, accessFlags := 2, code := some k2c31 }
def k2c32 : Code := { maxStack := 1, maxLocals := 1, code := prog_1_method_33_code, exceptionTable := #[], attributes := #[] }
def k2m32 : Method := { name := "time", desc := "()I", sig := { parameters := [], returnType := some .int }, accessFlags := 1, code := some k2c32 }
def k2c33 : Code := { maxStack := 2, maxLocals := 2, code := prog_1_method_34_code, exceptionTable := #[], attributes := #[] }
def k2m33 : Method := { name := "maxResponse", desc := "(I)I", sig := { parameters := [.int], returnType := some .int }, accessFlags := 1, code := some k2c33 }
def k2c34 : Code := { maxStack := 2, maxLocals := 2, code := prog_1_method_35_code, exceptionTable := #[], attributes := #[] }
def k2m34 : Method := { name := "jobsDone", desc := "(I)I", sig := { parameters := [.int], returnType := some .int }, accessFlags := 1, code := some k2c34 }
def k2c35 : Code := { maxStack := 1, maxLocals := 1, code := prog_1_method_36_code, exceptionTable := #[], attributes := #[] }
def k2m35 : Method := { name := "misses", desc := "()I", sig := { parameters := [], returnType := some .int }, accessFlags := 1, code := some k2c35 }
def k2c36 : Code := { maxStack := 2, maxLocals := 2, code := prog_1_method_37_code, exceptionTable := #[], attributes := #[] }
def k2m36 : Method := { name := "progress", desc := "(I)I", sig := { parameters := [.int], returnType := some .int }, accessFlags := 1, code := some k2c36 }
def k2c37 : Code := { maxStack := 2, maxLocals := 3, code := prog_1_method_38_code, exceptionTable := #[], attributes := #[] }
def k2m37 : Method := { name := "holder", desc := "(I)I", sig := { parameters := [.int], returnType := some .int }, accessFlags := 1, code := some k2c37 }
/-- ResponseTimeGate -/
def k2 : Class := { plain "ResponseTimeGate" (some 0) with
  accessFlags := 49
  interfaces := #[]
  cf := some (fileOf pool2 8 #[] #[{ accessFlags := 1, nameIndex := 5, descriptorIndex := 118, attributes := #[] }, { accessFlags := 1, nameIndex := 206, descriptorIndex := 207, attributes := #[] }, { accessFlags := 2, nameIndex := 93, descriptorIndex := 94, attributes := #[] }, { accessFlags := 1, nameIndex := 208, descriptorIndex := 138, attributes := #[] }, { accessFlags := 2, nameIndex := 109, descriptorIndex := 110, attributes := #[] }, { accessFlags := 1, nameIndex := 209, descriptorIndex := 160, attributes := #[] }, { accessFlags := 2, nameIndex := 117, descriptorIndex := 118, attributes := #[] }, { accessFlags := 2, nameIndex := 125, descriptorIndex := 118, attributes := #[] }, { accessFlags := 2, nameIndex := 128, descriptorIndex := 114, attributes := #[] }, { accessFlags := 2, nameIndex := 113, descriptorIndex := 114, attributes := #[] }, { accessFlags := 2, nameIndex := 121, descriptorIndex := 122, attributes := #[] }, { accessFlags := 2, nameIndex := 131, descriptorIndex := 118, attributes := #[] }, { accessFlags := 2, nameIndex := 134, descriptorIndex := 114, attributes := #[] }, { accessFlags := 2, nameIndex := 137, descriptorIndex := 138, attributes := #[] }, { accessFlags := 2, nameIndex := 141, descriptorIndex := 138, attributes := #[] }, { accessFlags := 2, nameIndex := 144, descriptorIndex := 94, attributes := #[] }, { accessFlags := 1, nameIndex := 210, descriptorIndex := 160, attributes := #[] }, { accessFlags := 1, nameIndex := 211, descriptorIndex := 122, attributes := #[] }, { accessFlags := 1, nameIndex := 212, descriptorIndex := 122, attributes := #[] }, { accessFlags := 1, nameIndex := 213, descriptorIndex := 122, attributes := #[] }, { accessFlags := 1, nameIndex := 214, descriptorIndex := 160, attributes := #[] }, { accessFlags := 1, nameIndex := 215, descriptorIndex := 160, attributes := #[] }, { accessFlags := 2, nameIndex := 90, descriptorIndex := 6, attributes := #[] }, { accessFlags := 1, nameIndex := 216, descriptorIndex := 122, attributes := #[] }, { accessFlags := 2, nameIndex := 153, descriptorIndex := 6, attributes := #[] }, { accessFlags := 2, nameIndex := 156, descriptorIndex := 6, attributes := #[] }, { accessFlags := 2, nameIndex := 169, descriptorIndex := 122, attributes := #[] }, { accessFlags := 2, nameIndex := 159, descriptorIndex := 160, attributes := #[] }, { accessFlags := 2, nameIndex := 172, descriptorIndex := 118, attributes := #[] }, { accessFlags := 2, nameIndex := 163, descriptorIndex := 118, attributes := #[] }, { accessFlags := 2, nameIndex := 175, descriptorIndex := 118, attributes := #[] }, { accessFlags := 2, nameIndex := 166, descriptorIndex := 6, attributes := #[] }, { accessFlags := 1, nameIndex := 217, descriptorIndex := 160, attributes := #[] }, { accessFlags := 1, nameIndex := 218, descriptorIndex := 122, attributes := #[] }, { accessFlags := 1, nameIndex := 219, descriptorIndex := 122, attributes := #[] }, { accessFlags := 1, nameIndex := 220, descriptorIndex := 160, attributes := #[] }, { accessFlags := 1, nameIndex := 221, descriptorIndex := 122, attributes := #[] }, { accessFlags := 1, nameIndex := 222, descriptorIndex := 122, attributes := #[] }] 49 2 #[] #[{ accessFlags := 25, nameIndex := 176, descriptorIndex := 74, attributes := #[] }, { accessFlags := 25, nameIndex := 179, descriptorIndex := 74, attributes := #[] }, { accessFlags := 25, nameIndex := 181, descriptorIndex := 74, attributes := #[] }, { accessFlags := 25, nameIndex := 183, descriptorIndex := 74, attributes := #[] }, { accessFlags := 25, nameIndex := 184, descriptorIndex := 74, attributes := #[] }, { accessFlags := 25, nameIndex := 186, descriptorIndex := 74, attributes := #[] }, { accessFlags := 25, nameIndex := 187, descriptorIndex := 74, attributes := #[] }, { accessFlags := 25, nameIndex := 189, descriptorIndex := 74, attributes := #[] }, { accessFlags := 25, nameIndex := 191, descriptorIndex := 74, attributes := #[] }, { accessFlags := 25, nameIndex := 193, descriptorIndex := 74, attributes := #[] }, { accessFlags := 25, nameIndex := 195, descriptorIndex := 74, attributes := #[] }, { accessFlags := 25, nameIndex := 197, descriptorIndex := 74, attributes := #[] }, { accessFlags := 25, nameIndex := 199, descriptorIndex := 74, attributes := #[] }, { accessFlags := 25, nameIndex := 201, descriptorIndex := 74, attributes := #[] }, { accessFlags := 2, nameIndex := 73, descriptorIndex := 74, attributes := #[] }, { accessFlags := 2, nameIndex := 77, descriptorIndex := 74, attributes := #[] }, { accessFlags := 2, nameIndex := 11, descriptorIndex := 12, attributes := #[] }, { accessFlags := 2, nameIndex := 15, descriptorIndex := 12, attributes := #[] }, { accessFlags := 2, nameIndex := 18, descriptorIndex := 12, attributes := #[] }, { accessFlags := 2, nameIndex := 21, descriptorIndex := 12, attributes := #[] }, { accessFlags := 2, nameIndex := 24, descriptorIndex := 12, attributes := #[] }, { accessFlags := 2, nameIndex := 27, descriptorIndex := 12, attributes := #[] }, { accessFlags := 2, nameIndex := 30, descriptorIndex := 12, attributes := #[] }, { accessFlags := 2, nameIndex := 33, descriptorIndex := 12, attributes := #[] }, { accessFlags := 2, nameIndex := 36, descriptorIndex := 12, attributes := #[] }, { accessFlags := 2, nameIndex := 87, descriptorIndex := 74, attributes := #[] }, { accessFlags := 2, nameIndex := 84, descriptorIndex := 74, attributes := #[] }, { accessFlags := 2, nameIndex := 80, descriptorIndex := 81, attributes := #[] }, { accessFlags := 2, nameIndex := 97, descriptorIndex := 74, attributes := #[] }, { accessFlags := 2, nameIndex := 100, descriptorIndex := 74, attributes := #[] }, { accessFlags := 2, nameIndex := 103, descriptorIndex := 74, attributes := #[] }, { accessFlags := 2, nameIndex := 106, descriptorIndex := 74, attributes := #[] }, { accessFlags := 2, nameIndex := 39, descriptorIndex := 12, attributes := #[] }, { accessFlags := 2, nameIndex := 42, descriptorIndex := 12, attributes := #[] }, { accessFlags := 2, nameIndex := 45, descriptorIndex := 12, attributes := #[] }, { accessFlags := 2, nameIndex := 48, descriptorIndex := 12, attributes := #[] }, { accessFlags := 2, nameIndex := 51, descriptorIndex := 12, attributes := #[] }, { accessFlags := 2, nameIndex := 147, descriptorIndex := 74, attributes := #[] }, { accessFlags := 2, nameIndex := 150, descriptorIndex := 74, attributes := #[] }, { accessFlags := 2, nameIndex := 54, descriptorIndex := 55, attributes := #[] }, { accessFlags := 2, nameIndex := 58, descriptorIndex := 12, attributes := #[] }, { accessFlags := 2, nameIndex := 61, descriptorIndex := 12, attributes := #[] }, { accessFlags := 2, nameIndex := 64, descriptorIndex := 12, attributes := #[] }, { accessFlags := 2, nameIndex := 67, descriptorIndex := 12, attributes := #[] }, { accessFlags := 2, nameIndex := 70, descriptorIndex := 12, attributes := #[] }])
  fields := #[{ name := "MAX_TASKS", type := .int, accessFlags := 25, slot := 0, constantValue := 0 }, { name := "RESOURCES", type := .int, accessFlags := 25, slot := 1, constantValue := 0 }, { name := "MAX_PERIOD", type := .int, accessFlags := 25, slot := 2, constantValue := 0 }, { name := "HYPER_LIMIT", type := .int, accessFlags := 25, slot := 3, constantValue := 0 }, { name := "MAX_PRIORITY", type := .int, accessFlags := 25, slot := 4, constantValue := 0 }, { name := "MAX_RUN", type := .int, accessFlags := 25, slot := 5, constantValue := 0 }, { name := "OK", type := .int, accessFlags := 25, slot := 6, constantValue := 0 }, { name := "ERR_FULL", type := .int, accessFlags := 25, slot := 7, constantValue := 0 }, { name := "ERR_BAD_ARG", type := .int, accessFlags := 25, slot := 8, constantValue := 0 }, { name := "ERR_PRIORITY", type := .int, accessFlags := 25, slot := 9, constantValue := 0 }, { name := "ERR_NO_STAGED", type := .int, accessFlags := 25, slot := 10, constantValue := 0 }, { name := "ERR_SECTION", type := .int, accessFlags := 25, slot := 11, constantValue := 0 }, { name := "REJ_HYPER", type := .int, accessFlags := 25, slot := 12, constantValue := 0 }, { name := "REJ_DEADLINE", type := .int, accessFlags := 25, slot := 13, constantValue := 0 }, { name := "cap", type := .int, accessFlags := 2, slot := 0, constantValue := 0 }, { name := "count", type := .int, accessFlags := 2, slot := 1, constantValue := 0 }, { name := "per", type := (.array .int), accessFlags := 2, slot := 2, constantValue := 0 }, { name := "dl", type := (.array .int), accessFlags := 2, slot := 3, constantValue := 0 }, { name := "wc", type := (.array .int), accessFlags := 2, slot := 4, constantValue := 0 }, { name := "pr", type := (.array .int), accessFlags := 2, slot := 5, constantValue := 0 }, { name := "secS", type := (.array .int), accessFlags := 2, slot := 6, constantValue := 0 }, { name := "secL", type := (.array .int), accessFlags := 2, slot := 7, constantValue := 0 }, { name := "bnd", type := (.array .int), accessFlags := 2, slot := 8, constantValue := 0 }, { name := "blk", type := (.array .int), accessFlags := 2, slot := 9, constantValue := 0 }, { name := "ceil", type := (.array .int), accessFlags := 2, slot := 10, constantValue := 0 }, { name := "hyper", type := .int, accessFlags := 2, slot := 11, constantValue := 0 }, { name := "failed", type := .int, accessFlags := 2, slot := 12, constantValue := 0 }, { name := "staged", type := .boolean, accessFlags := 2, slot := 13, constantValue := 0 }, { name := "stT", type := .int, accessFlags := 2, slot := 14, constantValue := 0 }, { name := "stD", type := .int, accessFlags := 2, slot := 15, constantValue := 0 }, { name := "stC", type := .int, accessFlags := 2, slot := 16, constantValue := 0 }, { name := "stP", type := .int, accessFlags := 2, slot := 17, constantValue := 0 }, { name := "stS", type := (.array .int), accessFlags := 2, slot := 18, constantValue := 0 }, { name := "stL", type := (.array .int), accessFlags := 2, slot := 19, constantValue := 0 }, { name := "candCeil", type := (.array .int), accessFlags := 2, slot := 20, constantValue := 0 }, { name := "candB", type := (.array .int), accessFlags := 2, slot := 21, constantValue := 0 }, { name := "candR", type := (.array .int), accessFlags := 2, slot := 22, constantValue := 0 }, { name := "now", type := .int, accessFlags := 2, slot := 23, constantValue := 0 }, { name := "missCount", type := .int, accessFlags := 2, slot := 24, constantValue := 0 }, { name := "pend", type := (.array .boolean), accessFlags := 2, slot := 25, constantValue := 0 }, { name := "rel", type := (.array .int), accessFlags := 2, slot := 26, constantValue := 0 }, { name := "prog", type := (.array .int), accessFlags := 2, slot := 27, constantValue := 0 }, { name := "held", type := (.array .int), accessFlags := 2, slot := 28, constantValue := 0 }, { name := "done", type := (.array .int), accessFlags := 2, slot := 29, constantValue := 0 }, { name := "maxR", type := (.array .int), accessFlags := 2, slot := 30, constantValue := 0 }]
  methods := #[k2m0, k2m1, k2m2, k2m3, k2m4, k2m5, k2m6, k2m7, k2m8, k2m9, k2m10, k2m11, k2m12, k2m13, k2m14, k2m15, k2m16, k2m17, k2m18, k2m19, k2m20, k2m21, k2m22, k2m23, k2m24, k2m25, k2m26, k2m27, k2m28, k2m29, k2m30, k2m31, k2m32, k2m33, k2m34, k2m35, k2m36, k2m37]
  instanceTypes := #[.int, .int, (.array .int), (.array .int), (.array .int), (.array .int), (.array .int), (.array .int), (.array .int), (.array .int), (.array .int), .int, .int, .boolean, .int, .int, .int, .int, (.array .int), (.array .int), (.array .int), (.array .int), (.array .int), .int, .int, (.array .boolean), (.array .int), (.array .int), (.array .int), (.array .int), (.array .int)]
  staticTypes := #[.int, .int, .int, .int, .int, .int, .int, .int, .int, .int, .int, .int, .int, .int]
  resolved := Array.replicate 225 none
  statics := none }

def pool3 : Array CpInfo := pool [(1, u "java/lang/Cloneable"), (0, .class_ 1), (0, u "java/lang/Object"), (0, .class_ 3)] 3

/-- java/lang/Cloneable -/
def k3 : Class := { plain "java/lang/Cloneable" (some 0) with
  accessFlags := 1537
  interfaces := #[]
  cf := some (fileOf pool3 2 #[] #[] 1537 4 #[] #[])
  fields := #[]
  methods := #[]
  instanceTypes := #[]
  staticTypes := #[]
  resolved := Array.replicate 8 none
  statics := none }

def pool4 : Array CpInfo := pool [(1, u "java/io/Serializable"), (0, .class_ 1), (0, u "java/lang/Object"), (0, .class_ 3)] 3

/-- java/io/Serializable -/
def k4 : Class := { plain "java/io/Serializable" (some 0) with
  accessFlags := 1537
  interfaces := #[]
  cf := some (fileOf pool4 2 #[] #[] 1537 4 #[] #[])
  fields := #[]
  methods := #[]
  instanceTypes := #[]
  staticTypes := #[]
  resolved := Array.replicate 8 none
  statics := none }

/-- the primitive boolean -/
def k5 : Class := { plain "boolean" none with kind := .primitive 'Z', accessFlags := 0x411 }
/-- [Z -/
def k6 : Class := { plain "[Z" (some 0) with kind := .array 5 .boolean, interfaces := #[3, 4], accessFlags := 1041 }

/-- the primitive byte -/
def k7 : Class := { plain "byte" none with kind := .primitive 'B', accessFlags := 0x411 }
/-- [B -/
def k8 : Class := { plain "[B" (some 0) with kind := .array 7 .byte, interfaces := #[3, 4], accessFlags := 1041 }

/-- the primitive int -/
def k9 : Class := { plain "int" none with kind := .primitive 'I', accessFlags := 0x411 }
/-- [I -/
def k10 : Class := { plain "[I" (some 0) with kind := .array 9 .int, interfaces := #[3, 4], accessFlags := 1041 }

def heap : Heap := #[{ cls := 10, slots := #[.int 0, .int 1, .int 2, .int 3, .int 4], vm := .none }]
def classes : Array Class := #[k0, k1, k2, k3, k4, k5, k6, k7, k8, k9, k10]
def interned : List (Array UInt16 × Addr) := []
def slotsUsed : Nat := 5
def theMethod : MethodId := ⟨1, 1⟩
def args0 : Array Value := #[.ref 0]
def aboutOver (below : List Frame) : State where
  vm := { classes := classes, interned := interned.toArray }
  heap := heap
  slotsUsed := slotsUsed
  threads := #[{ frames := .invoking theMethod args0 :: below }]
def below0 : List Frame := [.native { method := ⟨0, 0⟩, args := #[] }]
def about1 : State := aboutOver below0
def p0 : Program := .bare "" "" ""
def e0 : Env := launch0.env 0 0 0
theorem w_frames : about1.frames = Frame.invoking theMethod args0 :: below0 := rfl
set_option maxRecDepth 65536 in
theorem w_args : argsFit about1.vm theMethod args0 = true := by decide +kernel
set_option maxRecDepth 65536 in
theorem w_heap : heapFits about1 = true := by decide +kernel
set_option maxRecDepth 65536 in
theorem w_runnable : about1.curStatus? = some .runnable := by decide +kernel
set_option maxRecDepth 65536 in
theorem w_alone : about1.alone = true := by decide +kernel
set_option maxRecDepth 65536 in
theorem w_named : about1.methodNamed? x = some theMethod := by decide +kernel
set_option maxRecDepth 65536 in
theorem w_hears : about1.hears theMethod below0 = true := by decide +kernel
set_option maxRecDepth 65536 in
theorem w_ripe : about1.ripe theMethod args0 below0 = true := by decide +kernel
theorem w_running : about1.status = .running := rfl
set_option maxRecDepth 65536 in
theorem w_room : about1.hasRoom e0.platform room_1 = true :=
  launch0.hasRoom_least _ room_1 (by decide +kernel) (by decide +kernel) (by decide +kernel) (by decide +kernel) (by decide +kernel) (by decide +kernel)
theorem allAtoms_all (ts : List Jvm.Cond) (a : Array Jvm.Value) (st : Jvm.State) : (allAtoms ts).before a st = ts.all (fun c => c.before a st) := by
  induction ts with
  | nil => rfl
  | cons c t ih =>
    show (Jvm.Cond.and c (allAtoms t)).before a st = _
    rw [Jvm.Cond.before_and, ih, List.all_cons]
def words1 : List Jvm.Cond := Jvm.Cond.code x code maxLocals ret :: tables_1
/-- a 'code' word, met by the world's own term for the bytes: nothing is compared byte by byte -/
theorem code_word {y : MethodName} {bytes : ByteArray} {mx : Nat} {rt : Option FieldType} {a : Array Value} {s : State} {m : MethodId} {meth : Method} {c : Code} (h1 : s.methodNamed? y = some m) (h2 : s.vm.method? m = some meth) (h3 : meth.code = some c) (h4 : c.code = bytes)
    (h5 : (c.maxLocals == mx && c.exceptionTable.isEmpty && decide (c.maxStack ≤ mostOperands) && decide (meth.sig.returnType = rt) && !meth.locks && decide (parseMethodDescriptor y.desc = some meth.sig)) = true) : (Jvm.Cond.code y bytes mx rt).before a s = true := by
  simp only [Bool.and_eq_true, beq_iff_eq, Bool.not_eq_true', decide_eq_true_eq] at h5
  obtain ⟨⟨⟨⟨⟨g1, g2⟩, g3⟩, g4⟩, g5⟩, g6⟩ := h5
  simp [Cond.before, Cond.holds, Cond.value, h1, h2, h3, h4, g1, g2, g3, g4, g5, g6]
def isCode : Jvm.Cond → Bool
  | .code _ _ _ _ => true
  | _ => false
theorem all_split {L : List Jvm.Cond} {P : Jvm.Cond → Bool} (h1 : L.all (fun c => isCode c || P c) = true) (h2 : ∀ c ∈ L.filter isCode, P c = true) : L.all P = true := by
  refine List.all_eq_true.mpr fun c hc => ?_
  have h := List.all_eq_true.mp h1 c hc
  rcases Bool.eq_false_or_eq_true (isCode c) with hi | hi
  · exact h2 c (List.mem_filter.mpr ⟨hc, hi⟩)
  · simpa [hi] using h
set_option maxRecDepth 65536 in
theorem w_c0 : (Jvm.Cond.code x code maxLocals ret).before args0 about1 = true := code_word (m := ⟨1, 1⟩) (meth := k1m1) (c := k1c1) (by decide +kernel) rfl rfl rfl (by decide +kernel)
set_option maxRecDepth 65536 in
theorem w_c1 : (Jvm.Cond.code ({ cls := "ResponseTimeGate", name := "<init>", desc := "(I)V" } : Jvm.MethodName) prog_1_method_1_code (4 : Nat) (Option.none : Option Jvm.ClassFile.FieldType)).before args0 about1 = true := code_word (m := ⟨2, 0⟩) (meth := k2m0) (c := k2c0) (by decide +kernel) rfl rfl rfl (by decide +kernel)
set_option maxRecDepth 65536 in
theorem w_c2 : (Jvm.Cond.code ({ cls := "java/lang/Object", name := "<init>", desc := "()V" } : Jvm.MethodName) object_method_1_code (1 : Nat) (Option.none : Option Jvm.ClassFile.FieldType)).before args0 about1 = true := code_word (m := ⟨0, 0⟩) (meth := k0m0) (c := k0c0) (by decide +kernel) rfl rfl rfl (by decide +kernel)
set_option maxRecDepth 65536 in
theorem w_c3 : (Jvm.Cond.code ({ cls := "ResponseTimeGate", name := "resetSim", desc := "()V" } : Jvm.MethodName) prog_1_method_23_code (2 : Nat) (Option.none : Option Jvm.ClassFile.FieldType)).before args0 about1 = true := code_word (m := ⟨2, 22⟩) (meth := k2m22) (c := k2c22) (by decide +kernel) rfl rfl rfl (by decide +kernel)
set_option maxRecDepth 65536 in
theorem w_c4 : (Jvm.Cond.code ({ cls := "ResponseTimeGate", name := "run", desc := "(I)I" } : Jvm.MethodName) prog_1_method_24_code (4 : Nat) (Option.some Jvm.ClassFile.FieldType.int)).before args0 about1 = true := code_word (m := ⟨2, 23⟩) (meth := k2m23) (c := k2c23) (by decide +kernel) rfl rfl rfl (by decide +kernel)
set_option maxRecDepth 65536 in
theorem w_c5 : (Jvm.Cond.code ({ cls := "ResponseTimeGate", name := "tick", desc := "()V" } : Jvm.MethodName) prog_1_method_25_code (2 : Nat) (Option.none : Option Jvm.ClassFile.FieldType)).before args0 about1 = true := code_word (m := ⟨2, 24⟩) (meth := k2m24) (c := k2c24) (by decide +kernel) rfl rfl rfl (by decide +kernel)
set_option maxRecDepth 65536 in
theorem w_c6 : (Jvm.Cond.code ({ cls := "ResponseTimeGate", name := "releaseJobs", desc := "()V" } : Jvm.MethodName) prog_1_method_26_code (3 : Nat) (Option.none : Option Jvm.ClassFile.FieldType)).before args0 about1 = true := code_word (m := ⟨2, 25⟩) (meth := k2m25) (c := k2c25) (by decide +kernel) rfl rfl rfl (by decide +kernel)
set_option maxRecDepth 65536 in
theorem w_c7 : (Jvm.Cond.code ({ cls := "ResponseTimeGate", name := "pickRunning", desc := "()I" } : Jvm.MethodName) prog_1_method_28_code (7 : Nat) (Option.some Jvm.ClassFile.FieldType.int)).before args0 about1 = true := code_word (m := ⟨2, 27⟩) (meth := k2m27) (c := k2c27) (by decide +kernel) rfl rfl rfl (by decide +kernel)
set_option maxRecDepth 65536 in
theorem w_c8 : (Jvm.Cond.code ({ cls := "ResponseTimeGate", name := "checkMisses", desc := "()V" } : Jvm.MethodName) prog_1_method_32_code (2 : Nat) (Option.none : Option Jvm.ClassFile.FieldType)).before args0 about1 = true := code_word (m := ⟨2, 31⟩) (meth := k2m31) (c := k2c31) (by decide +kernel) rfl rfl rfl (by decide +kernel)
set_option maxRecDepth 65536 in
theorem w_c9 : (Jvm.Cond.code ({ cls := "ResponseTimeGateL5", name := "sameAnalysis", desc := "(LResponseTimeGate;LResponseTimeGate;)Z" } : Jvm.MethodName) method_3_code (3 : Nat) (Option.some Jvm.ClassFile.FieldType.boolean)).before args0 about1 = true := code_word (m := ⟨1, 2⟩) (meth := k1m2) (c := k1c2) (by decide +kernel) rfl rfl rfl (by decide +kernel)
set_option maxRecDepth 65536 in
theorem w_c10 : (Jvm.Cond.code ({ cls := "ResponseTimeGate", name := "taskCount", desc := "()I" } : Jvm.MethodName) prog_1_method_17_code (1 : Nat) (Option.some Jvm.ClassFile.FieldType.int)).before args0 about1 = true := code_word (m := ⟨2, 16⟩) (meth := k2m16) (c := k2c16) (by decide +kernel) rfl rfl rfl (by decide +kernel)
set_option maxRecDepth 65536 in
theorem w_c11 : (Jvm.Cond.code ({ cls := "ResponseTimeGate", name := "hyperperiod", desc := "()I" } : Jvm.MethodName) prog_1_method_21_code (1 : Nat) (Option.some Jvm.ClassFile.FieldType.int)).before args0 about1 = true := code_word (m := ⟨2, 20⟩) (meth := k2m20) (c := k2c20) (by decide +kernel) rfl rfl rfl (by decide +kernel)
set_option maxRecDepth 65536 in
theorem w_c12 : (Jvm.Cond.code ({ cls := "ResponseTimeGate", name := "failedTask", desc := "()I" } : Jvm.MethodName) prog_1_method_22_code (1 : Nat) (Option.some Jvm.ClassFile.FieldType.int)).before args0 about1 = true := code_word (m := ⟨2, 21⟩) (meth := k2m21) (c := k2c21) (by decide +kernel) rfl rfl rfl (by decide +kernel)
set_option maxRecDepth 65536 in
theorem w_c13 : (Jvm.Cond.code ({ cls := "ResponseTimeGate", name := "bound", desc := "(I)I" } : Jvm.MethodName) prog_1_method_18_code (2 : Nat) (Option.some Jvm.ClassFile.FieldType.int)).before args0 about1 = true := code_word (m := ⟨2, 17⟩) (meth := k2m17) (c := k2c17) (by decide +kernel) rfl rfl rfl (by decide +kernel)
set_option maxRecDepth 65536 in
theorem w_c14 : (Jvm.Cond.code ({ cls := "ResponseTimeGate", name := "admitted", desc := "(I)Z" } : Jvm.MethodName) prog_1_method_16_code (2 : Nat) (Option.some Jvm.ClassFile.FieldType.boolean)).before args0 about1 = true := code_word (m := ⟨2, 15⟩) (meth := k2m15) (c := k2c15) (by decide +kernel) rfl rfl rfl (by decide +kernel)
set_option maxRecDepth 65536 in
theorem w_c15 : (Jvm.Cond.code ({ cls := "ResponseTimeGate", name := "blocking", desc := "(I)I" } : Jvm.MethodName) prog_1_method_19_code (2 : Nat) (Option.some Jvm.ClassFile.FieldType.int)).before args0 about1 = true := code_word (m := ⟨2, 18⟩) (meth := k2m18) (c := k2c18) (by decide +kernel) rfl rfl rfl (by decide +kernel)
set_option maxRecDepth 65536 in
theorem w_c16 : (Jvm.Cond.code ({ cls := "ResponseTimeGate", name := "ceiling", desc := "(I)I" } : Jvm.MethodName) prog_1_method_20_code (2 : Nat) (Option.some Jvm.ClassFile.FieldType.int)).before args0 about1 = true := code_word (m := ⟨2, 19⟩) (meth := k2m19) (c := k2c19) (by decide +kernel) rfl rfl rfl (by decide +kernel)
set_option maxRecDepth 65536 in
theorem w_c17 : (Jvm.Cond.code ({ cls := "ResponseTimeGate", name := "beginTask", desc := "(IIII)I" } : Jvm.MethodName) prog_1_method_2_code (6 : Nat) (Option.some Jvm.ClassFile.FieldType.int)).before args0 about1 = true := code_word (m := ⟨2, 1⟩) (meth := k2m1) (c := k2c1) (by decide +kernel) rfl rfl rfl (by decide +kernel)
set_option maxRecDepth 65536 in
theorem w_c18 : (Jvm.Cond.code ({ cls := "ResponseTimeGate", name := "commitTask", desc := "()I" } : Jvm.MethodName) prog_1_method_6_code (4 : Nat) (Option.some Jvm.ClassFile.FieldType.int)).before args0 about1 = true := code_word (m := ⟨2, 5⟩) (meth := k2m5) (c := k2c5) (by decide +kernel) rfl rfl rfl (by decide +kernel)
set_option maxRecDepth 65536 in
theorem w_c19 : (Jvm.Cond.code ({ cls := "ResponseTimeGate", name := "addSection", desc := "(III)I" } : Jvm.MethodName) prog_1_method_4_code (4 : Nat) (Option.some Jvm.ClassFile.FieldType.int)).before args0 about1 = true := code_word (m := ⟨2, 3⟩) (meth := k2m3) (c := k2c3) (by decide +kernel) rfl rfl rfl (by decide +kernel)
set_option maxRecDepth 65536 in
theorem w_c20 : (Jvm.Cond.code ({ cls := "ResponseTimeGate", name := "priorityTaken", desc := "(I)Z" } : Jvm.MethodName) prog_1_method_3_code (3 : Nat) (Option.some Jvm.ClassFile.FieldType.boolean)).before args0 about1 = true := code_word (m := ⟨2, 2⟩) (meth := k2m2) (c := k2c2) (by decide +kernel) rfl rfl rfl (by decide +kernel)
set_option maxRecDepth 65536 in
theorem w_c21 : (Jvm.Cond.code ({ cls := "ResponseTimeGate", name := "lcmWith", desc := "(II)I" } : Jvm.MethodName) prog_1_method_10_code (4 : Nat) (Option.some Jvm.ClassFile.FieldType.int)).before args0 about1 = true := code_word (m := ⟨2, 9⟩) (meth := k2m9) (c := k2c9) (by decide +kernel) rfl rfl rfl (by decide +kernel)
set_option maxRecDepth 65536 in
theorem w_c22 : (Jvm.Cond.code ({ cls := "ResponseTimeGate", name := "gcd", desc := "(II)I" } : Jvm.MethodName) prog_1_method_9_code (7 : Nat) (Option.some Jvm.ClassFile.FieldType.int)).before args0 about1 = true := code_word (m := ⟨2, 8⟩) (meth := k2m8) (c := k2c8) (by decide +kernel) rfl rfl rfl (by decide +kernel)
set_option maxRecDepth 65536 in
theorem w_c23 : (Jvm.Cond.code ({ cls := "ResponseTimeGate", name := "placeStaged", desc := "(I)V" } : Jvm.MethodName) prog_1_method_7_code (3 : Nat) (Option.none : Option Jvm.ClassFile.FieldType)).before args0 about1 = true := code_word (m := ⟨2, 6⟩) (meth := k2m6) (c := k2c6) (by decide +kernel) rfl rfl rfl (by decide +kernel)
set_option maxRecDepth 65536 in
theorem w_c24 : (Jvm.Cond.code ({ cls := "ResponseTimeGate", name := "analyze", desc := "(I)I" } : Jvm.MethodName) prog_1_method_11_code (5 : Nat) (Option.some Jvm.ClassFile.FieldType.int)).before args0 about1 = true := code_word (m := ⟨2, 10⟩) (meth := k2m10) (c := k2c10) (by decide +kernel) rfl rfl rfl (by decide +kernel)
set_option maxRecDepth 65536 in
theorem w_c25 : (Jvm.Cond.code ({ cls := "ResponseTimeGate", name := "computeCeilings", desc := "(I)V" } : Jvm.MethodName) prog_1_method_12_code (5 : Nat) (Option.none : Option Jvm.ClassFile.FieldType)).before args0 about1 = true := code_word (m := ⟨2, 11⟩) (meth := k2m11) (c := k2c11) (by decide +kernel) rfl rfl rfl (by decide +kernel)
set_option maxRecDepth 65536 in
theorem w_c26 : (Jvm.Cond.code ({ cls := "ResponseTimeGate", name := "blockingOf", desc := "(II)I" } : Jvm.MethodName) prog_1_method_13_code (8 : Nat) (Option.some Jvm.ClassFile.FieldType.int)).before args0 about1 = true := code_word (m := ⟨2, 12⟩) (meth := k2m12) (c := k2c12) (by decide +kernel) rfl rfl rfl (by decide +kernel)
set_option maxRecDepth 65536 in
theorem w_c27 : (Jvm.Cond.code ({ cls := "ResponseTimeGate", name := "responseOf", desc := "(III)I" } : Jvm.MethodName) prog_1_method_14_code (8 : Nat) (Option.some Jvm.ClassFile.FieldType.int)).before args0 about1 = true := code_word (m := ⟨2, 13⟩) (meth := k2m13) (c := k2c13) (by decide +kernel) rfl rfl rfl (by decide +kernel)
set_option maxRecDepth 65536 in
theorem w_c28 : (Jvm.Cond.code ({ cls := "ResponseTimeGate", name := "interference", desc := "(III)I" } : Jvm.MethodName) prog_1_method_15_code (8 : Nat) (Option.some Jvm.ClassFile.FieldType.int)).before args0 about1 = true := code_word (m := ⟨2, 14⟩) (meth := k2m14) (c := k2c14) (by decide +kernel) rfl rfl rfl (by decide +kernel)
set_option maxRecDepth 65536 in
theorem w_c29 : (Jvm.Cond.code ({ cls := "ResponseTimeGate", name := "adoptResults", desc := "(I)V" } : Jvm.MethodName) prog_1_method_8_code (3 : Nat) (Option.none : Option Jvm.ClassFile.FieldType)).before args0 about1 = true := code_word (m := ⟨2, 7⟩) (meth := k2m7) (c := k2c7) (by decide +kernel) rfl rfl rfl (by decide +kernel)
set_option maxRecDepth 65536 in
theorem w_c30 : (Jvm.Cond.code ({ cls := "ResponseTimeGateL5", name := "sameSim", desc := "(LResponseTimeGate;LResponseTimeGate;)Z" } : Jvm.MethodName) method_4_code (3 : Nat) (Option.some Jvm.ClassFile.FieldType.boolean)).before args0 about1 = true := code_word (m := ⟨1, 3⟩) (meth := k1m3) (c := k1c3) (by decide +kernel) rfl rfl rfl (by decide +kernel)
set_option maxRecDepth 65536 in
theorem w_c31 : (Jvm.Cond.code ({ cls := "ResponseTimeGate", name := "time", desc := "()I" } : Jvm.MethodName) prog_1_method_33_code (1 : Nat) (Option.some Jvm.ClassFile.FieldType.int)).before args0 about1 = true := code_word (m := ⟨2, 32⟩) (meth := k2m32) (c := k2c32) (by decide +kernel) rfl rfl rfl (by decide +kernel)
set_option maxRecDepth 65536 in
theorem w_c32 : (Jvm.Cond.code ({ cls := "ResponseTimeGate", name := "misses", desc := "()I" } : Jvm.MethodName) prog_1_method_36_code (1 : Nat) (Option.some Jvm.ClassFile.FieldType.int)).before args0 about1 = true := code_word (m := ⟨2, 35⟩) (meth := k2m35) (c := k2c35) (by decide +kernel) rfl rfl rfl (by decide +kernel)
set_option maxRecDepth 65536 in
theorem w_c33 : (Jvm.Cond.code ({ cls := "ResponseTimeGate", name := "jobsDone", desc := "(I)I" } : Jvm.MethodName) prog_1_method_35_code (2 : Nat) (Option.some Jvm.ClassFile.FieldType.int)).before args0 about1 = true := code_word (m := ⟨2, 34⟩) (meth := k2m34) (c := k2c34) (by decide +kernel) rfl rfl rfl (by decide +kernel)
set_option maxRecDepth 65536 in
theorem w_c34 : (Jvm.Cond.code ({ cls := "ResponseTimeGate", name := "maxResponse", desc := "(I)I" } : Jvm.MethodName) prog_1_method_34_code (2 : Nat) (Option.some Jvm.ClassFile.FieldType.int)).before args0 about1 = true := code_word (m := ⟨2, 33⟩) (meth := k2m33) (c := k2c33) (by decide +kernel) rfl rfl rfl (by decide +kernel)
set_option maxRecDepth 65536 in
theorem w_c35 : (Jvm.Cond.code ({ cls := "ResponseTimeGate", name := "progress", desc := "(I)I" } : Jvm.MethodName) prog_1_method_37_code (2 : Nat) (Option.some Jvm.ClassFile.FieldType.int)).before args0 about1 = true := code_word (m := ⟨2, 36⟩) (meth := k2m36) (c := k2c36) (by decide +kernel) rfl rfl rfl (by decide +kernel)
set_option maxRecDepth 65536 in
theorem w_c36 : (Jvm.Cond.code ({ cls := "ResponseTimeGate", name := "holder", desc := "(I)I" } : Jvm.MethodName) prog_1_method_38_code (3 : Nat) (Option.some Jvm.ClassFile.FieldType.int)).before args0 about1 = true := code_word (m := ⟨2, 37⟩) (meth := k2m37) (c := k2c37) (by decide +kernel) rfl rfl rfl (by decide +kernel)
set_option maxRecDepth 65536 in
theorem w_c37 : (Jvm.Cond.code ({ cls := "ResponseTimeGate", name := "activePriority", desc := "(I)I" } : Jvm.MethodName) prog_1_method_27_code (3 : Nat) (Option.some Jvm.ClassFile.FieldType.int)).before args0 about1 = true := code_word (m := ⟨2, 26⟩) (meth := k2m26) (c := k2c26) (by decide +kernel) rfl rfl rfl (by decide +kernel)
set_option maxRecDepth 65536 in
theorem w_c38 : (Jvm.Cond.code ({ cls := "ResponseTimeGate", name := "executeUnit", desc := "(I)V" } : Jvm.MethodName) prog_1_method_30_code (3 : Nat) (Option.none : Option Jvm.ClassFile.FieldType)).before args0 about1 = true := code_word (m := ⟨2, 29⟩) (meth := k2m29) (c := k2c29) (by decide +kernel) rfl rfl rfl (by decide +kernel)
set_option maxRecDepth 65536 in
theorem w_c39 : (Jvm.Cond.code ({ cls := "ResponseTimeGate", name := "takeResourceIfStart", desc := "(I)V" } : Jvm.MethodName) prog_1_method_29_code (3 : Nat) (Option.none : Option Jvm.ClassFile.FieldType)).before args0 about1 = true := code_word (m := ⟨2, 28⟩) (meth := k2m28) (c := k2c28) (by decide +kernel) rfl rfl rfl (by decide +kernel)
set_option maxRecDepth 65536 in
theorem w_c40 : (Jvm.Cond.code ({ cls := "ResponseTimeGate", name := "completeJob", desc := "(I)V" } : Jvm.MethodName) prog_1_method_31_code (3 : Nat) (Option.none : Option Jvm.ClassFile.FieldType)).before args0 about1 = true := code_word (m := ⟨2, 30⟩) (meth := k2m30) (c := k2c30) (by decide +kernel) rfl rfl rfl (by decide +kernel)
set_option maxRecDepth 65536 in
theorem w_c41 : (Jvm.Cond.code ({ cls := "ResponseTimeGate", name := "overlapsStaged", desc := "(II)Z" } : Jvm.MethodName) prog_1_method_5_code (6 : Nat) (Option.some Jvm.ClassFile.FieldType.boolean)).before args0 about1 = true := code_word (m := ⟨2, 4⟩) (meth := k2m4) (c := k2c4) (by decide +kernel) rfl rfl rfl (by decide +kernel)
def codes1 : List Jvm.Cond := [Jvm.Cond.code x code maxLocals ret, Jvm.Cond.code ({ cls := "ResponseTimeGate", name := "<init>", desc := "(I)V" } : Jvm.MethodName) prog_1_method_1_code (4 : Nat) (Option.none : Option Jvm.ClassFile.FieldType), Jvm.Cond.code ({ cls := "java/lang/Object", name := "<init>", desc := "()V" } : Jvm.MethodName) object_method_1_code (1 : Nat) (Option.none : Option Jvm.ClassFile.FieldType), Jvm.Cond.code ({ cls := "ResponseTimeGate", name := "resetSim", desc := "()V" } : Jvm.MethodName) prog_1_method_23_code (2 : Nat) (Option.none : Option Jvm.ClassFile.FieldType), Jvm.Cond.code ({ cls := "ResponseTimeGate", name := "run", desc := "(I)I" } : Jvm.MethodName) prog_1_method_24_code (4 : Nat) (Option.some Jvm.ClassFile.FieldType.int), Jvm.Cond.code ({ cls := "ResponseTimeGate", name := "tick", desc := "()V" } : Jvm.MethodName) prog_1_method_25_code (2 : Nat) (Option.none : Option Jvm.ClassFile.FieldType), Jvm.Cond.code ({ cls := "ResponseTimeGate", name := "releaseJobs", desc := "()V" } : Jvm.MethodName) prog_1_method_26_code (3 : Nat) (Option.none : Option Jvm.ClassFile.FieldType), Jvm.Cond.code ({ cls := "ResponseTimeGate", name := "pickRunning", desc := "()I" } : Jvm.MethodName) prog_1_method_28_code (7 : Nat) (Option.some Jvm.ClassFile.FieldType.int), Jvm.Cond.code ({ cls := "ResponseTimeGate", name := "checkMisses", desc := "()V" } : Jvm.MethodName) prog_1_method_32_code (2 : Nat) (Option.none : Option Jvm.ClassFile.FieldType), Jvm.Cond.code ({ cls := "ResponseTimeGateL5", name := "sameAnalysis", desc := "(LResponseTimeGate;LResponseTimeGate;)Z" } : Jvm.MethodName) method_3_code (3 : Nat) (Option.some Jvm.ClassFile.FieldType.boolean), Jvm.Cond.code ({ cls := "ResponseTimeGate", name := "taskCount", desc := "()I" } : Jvm.MethodName) prog_1_method_17_code (1 : Nat) (Option.some Jvm.ClassFile.FieldType.int), Jvm.Cond.code ({ cls := "ResponseTimeGate", name := "hyperperiod", desc := "()I" } : Jvm.MethodName) prog_1_method_21_code (1 : Nat) (Option.some Jvm.ClassFile.FieldType.int), Jvm.Cond.code ({ cls := "ResponseTimeGate", name := "failedTask", desc := "()I" } : Jvm.MethodName) prog_1_method_22_code (1 : Nat) (Option.some Jvm.ClassFile.FieldType.int), Jvm.Cond.code ({ cls := "ResponseTimeGate", name := "bound", desc := "(I)I" } : Jvm.MethodName) prog_1_method_18_code (2 : Nat) (Option.some Jvm.ClassFile.FieldType.int), Jvm.Cond.code ({ cls := "ResponseTimeGate", name := "admitted", desc := "(I)Z" } : Jvm.MethodName) prog_1_method_16_code (2 : Nat) (Option.some Jvm.ClassFile.FieldType.boolean), Jvm.Cond.code ({ cls := "ResponseTimeGate", name := "blocking", desc := "(I)I" } : Jvm.MethodName) prog_1_method_19_code (2 : Nat) (Option.some Jvm.ClassFile.FieldType.int), Jvm.Cond.code ({ cls := "ResponseTimeGate", name := "ceiling", desc := "(I)I" } : Jvm.MethodName) prog_1_method_20_code (2 : Nat) (Option.some Jvm.ClassFile.FieldType.int), Jvm.Cond.code ({ cls := "ResponseTimeGate", name := "beginTask", desc := "(IIII)I" } : Jvm.MethodName) prog_1_method_2_code (6 : Nat) (Option.some Jvm.ClassFile.FieldType.int), Jvm.Cond.code ({ cls := "ResponseTimeGate", name := "commitTask", desc := "()I" } : Jvm.MethodName) prog_1_method_6_code (4 : Nat) (Option.some Jvm.ClassFile.FieldType.int), Jvm.Cond.code ({ cls := "ResponseTimeGate", name := "addSection", desc := "(III)I" } : Jvm.MethodName) prog_1_method_4_code (4 : Nat) (Option.some Jvm.ClassFile.FieldType.int), Jvm.Cond.code ({ cls := "ResponseTimeGate", name := "priorityTaken", desc := "(I)Z" } : Jvm.MethodName) prog_1_method_3_code (3 : Nat) (Option.some Jvm.ClassFile.FieldType.boolean), Jvm.Cond.code ({ cls := "ResponseTimeGate", name := "lcmWith", desc := "(II)I" } : Jvm.MethodName) prog_1_method_10_code (4 : Nat) (Option.some Jvm.ClassFile.FieldType.int), Jvm.Cond.code ({ cls := "ResponseTimeGate", name := "gcd", desc := "(II)I" } : Jvm.MethodName) prog_1_method_9_code (7 : Nat) (Option.some Jvm.ClassFile.FieldType.int), Jvm.Cond.code ({ cls := "ResponseTimeGate", name := "placeStaged", desc := "(I)V" } : Jvm.MethodName) prog_1_method_7_code (3 : Nat) (Option.none : Option Jvm.ClassFile.FieldType), Jvm.Cond.code ({ cls := "ResponseTimeGate", name := "analyze", desc := "(I)I" } : Jvm.MethodName) prog_1_method_11_code (5 : Nat) (Option.some Jvm.ClassFile.FieldType.int), Jvm.Cond.code ({ cls := "ResponseTimeGate", name := "computeCeilings", desc := "(I)V" } : Jvm.MethodName) prog_1_method_12_code (5 : Nat) (Option.none : Option Jvm.ClassFile.FieldType), Jvm.Cond.code ({ cls := "ResponseTimeGate", name := "blockingOf", desc := "(II)I" } : Jvm.MethodName) prog_1_method_13_code (8 : Nat) (Option.some Jvm.ClassFile.FieldType.int), Jvm.Cond.code ({ cls := "ResponseTimeGate", name := "responseOf", desc := "(III)I" } : Jvm.MethodName) prog_1_method_14_code (8 : Nat) (Option.some Jvm.ClassFile.FieldType.int), Jvm.Cond.code ({ cls := "ResponseTimeGate", name := "interference", desc := "(III)I" } : Jvm.MethodName) prog_1_method_15_code (8 : Nat) (Option.some Jvm.ClassFile.FieldType.int), Jvm.Cond.code ({ cls := "ResponseTimeGate", name := "adoptResults", desc := "(I)V" } : Jvm.MethodName) prog_1_method_8_code (3 : Nat) (Option.none : Option Jvm.ClassFile.FieldType), Jvm.Cond.code ({ cls := "ResponseTimeGateL5", name := "sameSim", desc := "(LResponseTimeGate;LResponseTimeGate;)Z" } : Jvm.MethodName) method_4_code (3 : Nat) (Option.some Jvm.ClassFile.FieldType.boolean), Jvm.Cond.code ({ cls := "ResponseTimeGate", name := "time", desc := "()I" } : Jvm.MethodName) prog_1_method_33_code (1 : Nat) (Option.some Jvm.ClassFile.FieldType.int), Jvm.Cond.code ({ cls := "ResponseTimeGate", name := "misses", desc := "()I" } : Jvm.MethodName) prog_1_method_36_code (1 : Nat) (Option.some Jvm.ClassFile.FieldType.int), Jvm.Cond.code ({ cls := "ResponseTimeGate", name := "jobsDone", desc := "(I)I" } : Jvm.MethodName) prog_1_method_35_code (2 : Nat) (Option.some Jvm.ClassFile.FieldType.int), Jvm.Cond.code ({ cls := "ResponseTimeGate", name := "maxResponse", desc := "(I)I" } : Jvm.MethodName) prog_1_method_34_code (2 : Nat) (Option.some Jvm.ClassFile.FieldType.int), Jvm.Cond.code ({ cls := "ResponseTimeGate", name := "progress", desc := "(I)I" } : Jvm.MethodName) prog_1_method_37_code (2 : Nat) (Option.some Jvm.ClassFile.FieldType.int), Jvm.Cond.code ({ cls := "ResponseTimeGate", name := "holder", desc := "(I)I" } : Jvm.MethodName) prog_1_method_38_code (3 : Nat) (Option.some Jvm.ClassFile.FieldType.int), Jvm.Cond.code ({ cls := "ResponseTimeGate", name := "activePriority", desc := "(I)I" } : Jvm.MethodName) prog_1_method_27_code (3 : Nat) (Option.some Jvm.ClassFile.FieldType.int), Jvm.Cond.code ({ cls := "ResponseTimeGate", name := "executeUnit", desc := "(I)V" } : Jvm.MethodName) prog_1_method_30_code (3 : Nat) (Option.none : Option Jvm.ClassFile.FieldType), Jvm.Cond.code ({ cls := "ResponseTimeGate", name := "takeResourceIfStart", desc := "(I)V" } : Jvm.MethodName) prog_1_method_29_code (3 : Nat) (Option.none : Option Jvm.ClassFile.FieldType), Jvm.Cond.code ({ cls := "ResponseTimeGate", name := "completeJob", desc := "(I)V" } : Jvm.MethodName) prog_1_method_31_code (3 : Nat) (Option.none : Option Jvm.ClassFile.FieldType), Jvm.Cond.code ({ cls := "ResponseTimeGate", name := "overlapsStaged", desc := "(II)Z" } : Jvm.MethodName) prog_1_method_5_code (6 : Nat) (Option.some Jvm.ClassFile.FieldType.boolean)]
set_option maxRecDepth 65536 in
theorem codes_eq : words1.filter isCode = codes1 := rfl
theorem w_codes : ∀ c ∈ words1.filter isCode, c.before args0 about1 = true := by
  rw [codes_eq]
  intro c hc
  simp only [codes1, List.mem_cons, List.not_mem_nil, or_false] at hc
  rcases hc with rfl | rfl | rfl | rfl | rfl | rfl | rfl | rfl | rfl | rfl | rfl | rfl | rfl | rfl | rfl | rfl | rfl | rfl | rfl | rfl | rfl | rfl | rfl | rfl | rfl | rfl | rfl | rfl | rfl | rfl | rfl | rfl | rfl | rfl | rfl | rfl | rfl | rfl | rfl | rfl | rfl | rfl
  · exact w_c0
  · exact w_c1
  · exact w_c2
  · exact w_c3
  · exact w_c4
  · exact w_c5
  · exact w_c6
  · exact w_c7
  · exact w_c8
  · exact w_c9
  · exact w_c10
  · exact w_c11
  · exact w_c12
  · exact w_c13
  · exact w_c14
  · exact w_c15
  · exact w_c16
  · exact w_c17
  · exact w_c18
  · exact w_c19
  · exact w_c20
  · exact w_c21
  · exact w_c22
  · exact w_c23
  · exact w_c24
  · exact w_c25
  · exact w_c26
  · exact w_c27
  · exact w_c28
  · exact w_c29
  · exact w_c30
  · exact w_c31
  · exact w_c32
  · exact w_c33
  · exact w_c34
  · exact w_c35
  · exact w_c36
  · exact w_c37
  · exact w_c38
  · exact w_c39
  · exact w_c40
  · exact w_c41
set_option maxRecDepth 65536 in
theorem w_t1 : (words1.take 24).all (fun c => isCode c || c.before args0 about1) = true := by decide +kernel
set_option maxRecDepth 65536 in
theorem w_t2 : ((words1.drop 24).take 24).all (fun c => isCode c || c.before args0 about1) = true := by decide +kernel
set_option maxRecDepth 65536 in
theorem w_t3 : (((words1.drop 24).drop 24).take 24).all (fun c => isCode c || c.before args0 about1) = true := by decide +kernel
set_option maxRecDepth 65536 in
theorem w_t4 : ((((words1.drop 24).drop 24).drop 24).take 24).all (fun c => isCode c || c.before args0 about1) = true := by decide +kernel
set_option maxRecDepth 65536 in
theorem w_t5 : (((((words1.drop 24).drop 24).drop 24).drop 24).take 24).all (fun c => isCode c || c.before args0 about1) = true := by decide +kernel
set_option maxRecDepth 65536 in
theorem w_t6 : ((((((words1.drop 24).drop 24).drop 24).drop 24).drop 24).take 24).all (fun c => isCode c || c.before args0 about1) = true := by decide +kernel
set_option maxRecDepth 65536 in
theorem w_t7 : (((((((words1.drop 24).drop 24).drop 24).drop 24).drop 24).drop 24).take 24).all (fun c => isCode c || c.before args0 about1) = true := by decide +kernel
set_option maxRecDepth 65536 in
theorem w_t8 : ((((((((words1.drop 24).drop 24).drop 24).drop 24).drop 24).drop 24).drop 24).take 24).all (fun c => isCode c || c.before args0 about1) = true := by decide +kernel
set_option maxRecDepth 65536 in
theorem w_t9 : (((((((((words1.drop 24).drop 24).drop 24).drop 24).drop 24).drop 24).drop 24).drop 24).take 24).all (fun c => isCode c || c.before args0 about1) = true := by decide +kernel
set_option maxRecDepth 65536 in
theorem w_t10 : ((((((((((words1.drop 24).drop 24).drop 24).drop 24).drop 24).drop 24).drop 24).drop 24).drop 24).take 24).all (fun c => isCode c || c.before args0 about1) = true := by decide +kernel
set_option maxRecDepth 65536 in
theorem w_t11 : ((((((((((words1.drop 24).drop 24).drop 24).drop 24).drop 24).drop 24).drop 24).drop 24).drop 24).drop 24).all (fun c => isCode c || c.before args0 about1) = true := by decide +kernel
theorem w_tables : (allAtoms (Jvm.Cond.code x code maxLocals ret :: tables_1)).before args0 about1 = true := by
  rw [allAtoms_all]
  show words1.all (fun c => c.before args0 about1) = true
  refine all_split ?_ w_codes
  rw [← List.take_append_drop 24 words1, List.all_append, w_t1, ← List.take_append_drop 24 (words1.drop 24), List.all_append, w_t2, ← List.take_append_drop 24 ((words1.drop 24).drop 24), List.all_append, w_t3, ← List.take_append_drop 24 (((words1.drop 24).drop 24).drop 24), List.all_append, w_t4, ← List.take_append_drop 24 ((((words1.drop 24).drop 24).drop 24).drop 24), List.all_append, w_t5, ← List.take_append_drop 24 (((((words1.drop 24).drop 24).drop 24).drop 24).drop 24), List.all_append, w_t6, ← List.take_append_drop 24 ((((((words1.drop 24).drop 24).drop 24).drop 24).drop 24).drop 24), List.all_append, w_t7, ← List.take_append_drop 24 (((((((words1.drop 24).drop 24).drop 24).drop 24).drop 24).drop 24).drop 24), List.all_append, w_t8, ← List.take_append_drop 24 ((((((((words1.drop 24).drop 24).drop 24).drop 24).drop 24).drop 24).drop 24).drop 24), List.all_append, w_t9, ← List.take_append_drop 24 (((((((((words1.drop 24).drop 24).drop 24).drop 24).drop 24).drop 24).drop 24).drop 24).drop 24), List.all_append, w_t10, w_t11]
  rfl
set_option maxRecDepth 65536 in
theorem w_rest : rest_1_c.before args0 about1 = true := by decide +kernel
set_option maxRecDepth 65536 in
theorem w_case : (Jvm.Cond.and given_1 narrow_1).before args0 about1 = true := by decide +kernel
theorem w_applies : (headSpec (Jvm.Cond.code x code maxLocals ret :: tables_1) room_1).applies x e0.platform about1 = true :=
  (Spec.applies_iff w_frames).mpr ⟨w_running, w_runnable, w_alone, w_named, w_hears, w_ripe, w_room, w_tables⟩
theorem atStart : AtStart classFile x code maxLocals ret World_1 tables_1 room_1 Calls_1 rest_1 Pre_1 launch0 p0 e0 about1 theMethod args0 below0 :=
  ⟨lists_1, trivial, launch0.admits_env _ _ _, launch0.least_env, fairChoices_fair.cas, fairChoices_fair.clock, w_frames, w_args, w_heap, w_applies, trivial, w_rest, w_case⟩
end start1
theorem witness_1 : WitnessClaimed_1 := ⟨start1.p0, start1.e0, start1.about1, start1.theMethod, start1.args0, start1.below0, start1.atStart⟩
end Jvm.Pilot.@@N@@
