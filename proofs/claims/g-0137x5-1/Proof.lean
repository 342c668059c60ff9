import JvmDerived
import JvmDerived.Pilot.@@N@@Statement
import JvmDerived.Pilot.@@N@@Code
set_option linter.unusedVariables false
set_option linter.unusedSimpArgs false
set_option maxRecDepth 65536
set_option maxHeartbeats 4000000
namespace Jvm.RoadKit
open Sem ClassFile Op Lib Jvm.Stand Jvm.Free Jvm.LawKit
section New
variable {p : Program} {l : Launch} {e : Env} {R : Room} {s : State} {m : MethodId} {args : Array Value} {below : List Frame} {meth : Method} {c : Code} {T : State} {locs : List Loc} {cells slots : Nat}
theorem retI (X : Stand p l e R s m args below meth c T locs cells slots) (hx : p.tables.exec = Jvm.exec) {pc : Nat} {Ls : Array Slot} {z : Int32} {rest : List Value} (hret : meth.sig.returnType = some .int) (hd : decode c.code pc = .ok (.ireturn, 1)) {fs : List Frame}
    (hl : ∀ (f : JFrame) (acts : List Action), f.method = m → f.locked = none → f.entered = [] → (doReturn e (T.setTop f) acts (some (.int z))).1 = T.setFrames fs) : Steps p.tables e below (T.setTop (mkF m pc Ls (.int z :: rest))) (T.setFrames fs) := by
  have hm' : T.vm.method? m = some meth := X.method'
  have hn : narrow .int (.int z) = .int z := rfl
  show Steps p.tables e below (T.setTop { method := m, pc := pc, locals := Ls, stack := _ :: rest, locked := none }) _
  jvm_step X.here [X.here.top, hx, hd, hm', hret, hn]
  first | (intro acts; rw [hl _ acts rfl rfl rfl]) | rw [hl _ _ rfl rfl rfl]
  exact Steps.refl _
end New
end Jvm.RoadKit
namespace Jvm.Pilot.@@N@@
open Jvm Jvm.ClassFile Sem Op Lib Jvm.Free Jvm.Stand Jvm.LawKit Jvm.RoadKit Bundle Jvm.Pilot.@@N@@.Jvm.D
/- records: scalars, int-like arrays, long arrays -/
abbrev Rec : Type := (Nat → Int32) × (Nat → Int32 → Int32) × (Nat → Int32 → Int64)
def zrec : Rec := (fun _ => 0, fun _ _ => 0, fun _ _ => 0)
def gI (ob : Rec) (k : Nat) : Int32 := ob.1 k
def gA (ob : Rec) (k : Nat) (i : Int32) : Int32 := ob.2.1 k i
def gJ (ob : Rec) (k : Nat) (i : Int32) : Int64 := ob.2.2 k i
def sI (ob : Rec) (k : Nat) (v : Int32) : Rec := (fun j => if j = k then v else ob.1 j, ob.2)
def sA (ob : Rec) (k : Nat) (i v : Int32) : Rec := (ob.1, fun j x => if j = k ∧ x = i then v else ob.2.1 j x, ob.2.2)
def sJ (ob : Rec) (k : Nat) (i : Int32) (v : Int64) : Rec := (ob.1, ob.2.1, fun j x => if j = k ∧ x = i then v else ob.2.2 j x)
def chk {γ : Type} (n i : Int32) (A : Option γ) : Option γ := if i < 0 then none else if i < n then A else none
def dvz {γ : Type} (y : Int32) (A : Option γ) : Option γ := if y = 0 then none else A
def bind2 {α β γ : Type} (o : Option (α × β)) (f : α → β → Option γ) : Option γ := o.bind fun q => f q.1 q.2
def bind3 {α β γ δ : Type} (o : Option (α × β × δ)) (f : α → β → δ → Option γ) : Option γ := o.bind fun q => f q.1 q.2.1 q.2.2
theorem ite_el {c : Prop} [Decidable c] {γ : Type} {A B : Option γ} {r : γ} {Q : Prop} (h : (if c then A else B) = some r) (t : c → A = some r → Q) (e : ¬ c → B = some r → Q) : Q := by
  by_cases hc : c
  · rw [if_pos hc] at h; exact t hc h
  · rw [if_neg hc] at h; exact e hc h
theorem bind_el {α γ : Type} {o : Option α} {f : α → Option γ} {r : γ} {Q : Prop} (h : o.bind f = some r) (k : ∀ x, o = some x → f x = some r → Q) : Q := by
  cases o with
  | none => cases h
  | some x => exact k x rfl h
theorem bind2_el {α β γ : Type} {o : Option (α × β)} {f : α → β → Option γ} {r : γ} {Q : Prop} (h : bind2 o f = some r) (k : ∀ x y, o = some (x, y) → f x y = some r → Q) : Q := by
  rcases o with _ | ⟨x, y⟩
  · cases h
  · exact k x y rfl h
theorem bind3_el {α β γ δ : Type} {o : Option (α × β × δ)} {f : α → β → δ → Option γ} {r : γ} {Q : Prop} (h : bind3 o f = some r) (k : ∀ x y z, o = some (x, y, z) → f x y z = some r → Q) : Q := by
  rcases o with _ | ⟨x, y, z⟩
  · cases h
  · exact k x y z rfl h
theorem chk_el {γ : Type} {n i : Int32} {A : Option γ} {r : γ} {Q : Prop} (h : chk n i A = some r) (k : (¬ i < 0 ∧ i < n) → A = some r → Q) : Q := by
  unfold chk at h
  by_cases h0 : i < 0
  · rw [if_pos h0] at h; cases h
  · rw [if_neg h0] at h
    by_cases h1 : i < n
    · rw [if_pos h1] at h; exact k ⟨h0, h1⟩ h
    · rw [if_neg h1] at h; cases h
theorem dvz_el {γ : Type} {y : Int32} {A : Option γ} {r : γ} {Q : Prop} (h : dvz y A = some r) (k : y ≠ 0 → A = some r → Q) : Q := by
  unfold dvz at h
  by_cases h0 : y = 0
  · rw [if_pos h0] at h; cases h
  · rw [if_neg h0] at h; exact k h0 h
def All {α : Type} (p : α → Prop) : List α → Prop
  | [] => True
  | x :: l => p x ∧ All p l
theorem All.mem {α : Type} {p : α → Prop} : ∀ {l : List α}, All p l → ∀ {x : α}, x ∈ l → p x
  | [], _, _, h => nomatch h
  | _ :: _, H, _, h => (List.mem_cons.mp h).elim (fun e => e ▸ H.1) (fun e => All.mem H.2 e)
def el (ty : FieldType) (ob : Rec) (k : Nat) (j : Int32) : Value := match ty with
  | .long => .long (ob.2.2 k j)
  | _ => .int (ob.2.1 k j)
def aD (ty : FieldType) : String := match ty with
  | .int => "[I"
  | .boolean => "[Z"
  | _ => "[J"
abbrev Cls : Type := String × List (String × String) × List (String × FieldType × Int32)
abbrev mem1 (k : Nat) {d : Jvm.Cond} (h : tables_1[k]? = some d) : d ∈ tables_1 := List.mem_of_getElem? h
abbrev sOk (C : String) (nd : String × String) : Prop := (Jvm.Cond.lays C C nd.1 nd.2 ∈ tables_1 ∨ Jvm.Cond.laysFinal C C nd.1 nd.2 ∈ tables_1) ∧ (nd.2 = "I" ∨ nd.2 = "Z")
abbrev aOk (C : String) (t : String × FieldType × Int32) : Prop := (Jvm.Cond.lays C C t.1 (aD t.2.1) ∈ tables_1 ∨ Jvm.Cond.laysFinal C C t.1 (aD t.2.1) ∈ tables_1) ∧ (t.2.1 = .int ∨ t.2.1 = .boolean ∨ t.2.1 = .long) ∧ ¬ t.2.2 < 0
def K : Cls := ("QueryRewriter", [("tyScan", "I"), ("tySelect", "I"), ("tyProject", "I"), ("tyJoin", "I"), ("tyView", "I"), ("plScan", "I"), ("plJoin", "I"), ("rowCap", "I"), ("weightLimit", "I"), ("pendN", "I"), ("nodeN", "I"), ("atomN", "I"), ("resW", "I"), ("resN", "I"), ("planN", "I"), ("qN", "I"), ("sp", "I"), ("rsp", "I"), ("buildFail", "Z")], [("tCols", .int, 4), ("tRows", .int, 4), ("tCells", .int, 96), ("pOp", .int, 4), ("pA", .int, 4), ("pB", .int, 4), ("pFl", .int, 4), ("nType", .int, 32), ("nWidth", .int, 32), ("nX", .int, 32), ("nY", .int, 32), ("nKind", .int, 32), ("nPacked", .int, 32), ("nAtStart", .int, 32), ("nAtCnt", .int, 32), ("aOp", .int, 64), ("aA", .int, 64), ("aB", .int, 64), ("aFl", .int, 64), ("viewNode", .int, 8), ("weight", .int, 32), ("reach", .boolean, 32), ("bag", .int, 16384), ("bagCnt", .int, 32), ("rowBuf", .int, 16), ("res", .int, 512), ("plType", .int, 16), ("plTable", .int, 16), ("plLeft", .int, 16), ("plRight", .int, 16), ("plKind", .int, 16), ("plLen", .int, 16), ("plMap", .int, 128), ("needMask", .int, 16), ("plEmpty", .boolean, 16), ("head", .int, 32), ("qOp", .int, 512), ("qA", .int, 512), ("qB", .int, 512), ("qFl", .int, 512), ("qNext", .int, 512), ("stNode", .int, 64), ("stPhase", .int, 64), ("resStack", .int, 64), ("tmpMap", .int, 8)])
theorem kS : All (sOk K.1) K.2.1 := ⟨⟨Or.inr (mem1 10 rfl), Or.inl rfl⟩, ⟨Or.inr (mem1 12 rfl), Or.inl rfl⟩, ⟨Or.inr (mem1 14 rfl), Or.inl rfl⟩, ⟨Or.inr (mem1 16 rfl), Or.inl rfl⟩, ⟨Or.inr (mem1 18 rfl), Or.inl rfl⟩, ⟨Or.inr (mem1 20 rfl), Or.inl rfl⟩, ⟨Or.inr (mem1 22 rfl), Or.inl rfl⟩, ⟨Or.inl (mem1 120 rfl), Or.inl rfl⟩, ⟨Or.inl (mem1 122 rfl), Or.inl rfl⟩, ⟨Or.inl (mem1 156 rfl), Or.inl rfl⟩, ⟨Or.inl (mem1 143 rfl), Or.inl rfl⟩, ⟨Or.inl (mem1 149 rfl), Or.inl rfl⟩, ⟨Or.inl (mem1 376 rfl), Or.inl rfl⟩, ⟨Or.inl (mem1 378 rfl), Or.inl rfl⟩, ⟨Or.inl (mem1 201 rfl), Or.inl rfl⟩, ⟨Or.inl (mem1 203 rfl), Or.inl rfl⟩, ⟨Or.inl (mem1 205 rfl), Or.inl rfl⟩, ⟨Or.inl (mem1 207 rfl), Or.inl rfl⟩, ⟨Or.inl (mem1 209 rfl), Or.inr rfl⟩, trivial⟩
theorem kA : All (aOk K.1) K.2.2 := ⟨⟨Or.inl (mem1 25 rfl), Or.inl rfl, by decide⟩, ⟨Or.inl (mem1 27 rfl), Or.inl rfl, by decide⟩, ⟨Or.inl (mem1 29 rfl), Or.inl rfl, by decide⟩, ⟨Or.inl (mem1 31 rfl), Or.inl rfl, by decide⟩, ⟨Or.inl (mem1 33 rfl), Or.inl rfl, by decide⟩, ⟨Or.inl (mem1 35 rfl), Or.inl rfl, by decide⟩, ⟨Or.inl (mem1 37 rfl), Or.inl rfl, by decide⟩, ⟨Or.inl (mem1 39 rfl), Or.inl rfl, by decide⟩, ⟨Or.inl (mem1 41 rfl), Or.inl rfl, by decide⟩, ⟨Or.inl (mem1 43 rfl), Or.inl rfl, by decide⟩, ⟨Or.inl (mem1 45 rfl), Or.inl rfl, by decide⟩, ⟨Or.inl (mem1 47 rfl), Or.inl rfl, by decide⟩, ⟨Or.inl (mem1 49 rfl), Or.inl rfl, by decide⟩, ⟨Or.inl (mem1 51 rfl), Or.inl rfl, by decide⟩, ⟨Or.inl (mem1 53 rfl), Or.inl rfl, by decide⟩, ⟨Or.inl (mem1 55 rfl), Or.inl rfl, by decide⟩, ⟨Or.inl (mem1 57 rfl), Or.inl rfl, by decide⟩, ⟨Or.inl (mem1 59 rfl), Or.inl rfl, by decide⟩, ⟨Or.inl (mem1 61 rfl), Or.inl rfl, by decide⟩, ⟨Or.inl (mem1 63 rfl), Or.inl rfl, by decide⟩, ⟨Or.inl (mem1 65 rfl), Or.inl rfl, by decide⟩, ⟨Or.inl (mem1 68 rfl), Or.inr (Or.inl rfl), by decide⟩, ⟨Or.inl (mem1 70 rfl), Or.inl rfl, by decide⟩, ⟨Or.inl (mem1 72 rfl), Or.inl rfl, by decide⟩, ⟨Or.inl (mem1 74 rfl), Or.inl rfl, by decide⟩, ⟨Or.inl (mem1 76 rfl), Or.inl rfl, by decide⟩, ⟨Or.inl (mem1 78 rfl), Or.inl rfl, by decide⟩, ⟨Or.inl (mem1 80 rfl), Or.inl rfl, by decide⟩, ⟨Or.inl (mem1 82 rfl), Or.inl rfl, by decide⟩, ⟨Or.inl (mem1 84 rfl), Or.inl rfl, by decide⟩, ⟨Or.inl (mem1 86 rfl), Or.inl rfl, by decide⟩, ⟨Or.inl (mem1 88 rfl), Or.inl rfl, by decide⟩, ⟨Or.inl (mem1 90 rfl), Or.inl rfl, by decide⟩, ⟨Or.inl (mem1 92 rfl), Or.inl rfl, by decide⟩, ⟨Or.inl (mem1 94 rfl), Or.inr (Or.inl rfl), by decide⟩, ⟨Or.inl (mem1 96 rfl), Or.inl rfl, by decide⟩, ⟨Or.inl (mem1 98 rfl), Or.inl rfl, by decide⟩, ⟨Or.inl (mem1 100 rfl), Or.inl rfl, by decide⟩, ⟨Or.inl (mem1 102 rfl), Or.inl rfl, by decide⟩, ⟨Or.inl (mem1 104 rfl), Or.inl rfl, by decide⟩, ⟨Or.inl (mem1 106 rfl), Or.inl rfl, by decide⟩, ⟨Or.inl (mem1 108 rfl), Or.inl rfl, by decide⟩, ⟨Or.inl (mem1 110 rfl), Or.inl rfl, by decide⟩, ⟨Or.inl (mem1 112 rfl), Or.inl rfl, by decide⟩, ⟨Or.inl (mem1 114 rfl), Or.inl rfl, by decide⟩, trivial⟩
abbrev kN : Nat := 64
theorem kI : Jvm.Cond.instantiable K.1 kN ∈ tables_1 := mem1 1 rfl
theorem kZ : Jvm.Cond.initialized K.1 ∈ tables_1 := mem1 2 rfl
theorem kNm : (K.2.1.map (·.1) ++ K.2.2.map (·.1)).Nodup := by decide +kernel
theorem nm_ss {k k' : Nat} {nd nd' : String × String} (h : K.2.1[k]? = some nd) (h' : K.2.1[k']? = some nd') (ne : k ≠ k') : nd.1 ≠ nd'.1 := fun e => by
  have l := (List.getElem?_eq_some_iff.mp h).1
  have l' := (List.getElem?_eq_some_iff.mp h').1
  refine ne ((List.getElem?_inj (l := K.2.1.map (·.1) ++ K.2.2.map (·.1)) (i := k) (j := k') (by simp; omega) kNm).mp ?_)
  rw [List.getElem?_append_left (by simpa using l), List.getElem?_append_left (by simpa using l'), List.getElem?_map, List.getElem?_map, h, h']
  simp [e]
theorem nm_aa {k k' : Nat} {t t' : String × FieldType × Int32} (h : K.2.2[k]? = some t) (h' : K.2.2[k']? = some t') (ne : k ≠ k') : t.1 ≠ t'.1 := fun e => by
  have l := (List.getElem?_eq_some_iff.mp h).1
  have l' := (List.getElem?_eq_some_iff.mp h').1
  have q := (List.getElem?_inj (l := K.2.1.map (·.1) ++ K.2.2.map (·.1)) (i := K.2.1.length + k) (j := K.2.1.length + k') (by simp; omega) kNm).mp (by
    rw [List.getElem?_append_right (by simp), List.getElem?_append_right (by simp)]
    simp [h, h', e])
  omega
theorem nm_sa {k k' : Nat} {nd : String × String} {t : String × FieldType × Int32} (h : K.2.1[k]? = some nd) (h' : K.2.2[k']? = some t) : nd.1 ≠ t.1 := fun e => by
  have l := (List.getElem?_eq_some_iff.mp h).1
  have l' := (List.getElem?_eq_some_iff.mp h').1
  have q := (List.getElem?_inj (l := K.2.1.map (·.1) ++ K.2.2.map (·.1)) (i := k) (j := K.2.1.length + k') (by simp; omega) kNm).mp (by
    rw [List.getElem?_append_left (by simpa using l), List.getElem?_append_right (by simp)]
    simp [h, h', e])
  omega
abbrev Ctx : Type := Launch × State × Nat × Array Value
def Ok (C : Ctx) : Prop := ∀ d ∈ tables_1, d.before C.2.2.2 C.2.1 = true
def ArrAt (Z : State) (h : Heap) (b : Nat) (ty : FieldType) (len : Int32) (v : Int32 → Value) : Prop := ∃ cl : Cell, Arr Z h b cl ty ∧ cl.slots.size = len.toNatClampNeg ∧ ∀ j : Int32, ¬ j < 0 → j < len → cl.slots[j.toNatClampNeg]? = some (v j)
def ObjAt (Z : State) (h : Heap) (a : Nat) (q : Nat) (ob : Rec) : Prop :=
  Exa Z h a K.1 ∧ (∀ k nd, K.2.1[k]? = some nd → Fld Z h a K.1 nd.1 nd.2 (.int (ob.1 k))) ∧
  (∀ k t, K.2.2[k]? = some t → k < q → Fld Z h a K.1 t.1 (aD t.2.1) (.ref (a + 1 + k)) ∧ ArrAt Z h (a + 1 + k) t.2.1 t.2.2 (el t.2.1 ob k)) ∧
  (∀ k t, K.2.2[k]? = some t → q ≤ k → Fld Z h a K.1 t.1 (aD t.2.1) .null)
abbrev AH : Type := Nat × List (Nat × Nat × Rec)
def Rep (Z : State) (n0 : Nat) (h : Heap) (G : AH) : Prop :=
  h.size = G.1 ∧ Old Z n0 h ∧ (∀ x ∈ G.2, n0 ≤ x.1 ∧ x.1 + x.2.1 < G.1 ∧ ObjAt Z h x.1 x.2.1 x.2.2) ∧ G.2.Pairwise (fun x y => x.1 + x.2.1 < y.1 ∨ y.1 + y.2.1 < x.1)
section Facts
variable {Z : State} {h h' : Heap} {a b : Nat} {q k n0 top : Nat} {ob ob' : Rec} {nd : String × String} {t : String × FieldType × Int32} {a0 : Array Value} {sl : Nat} {v : Value} {H : List (Nat × Nat × Rec)} {G : AH}
theorem fld_fr {C n d : String} (e : h'[a]? = h[a]?) (F : Fld Z h a C n d v) : Fld Z h' a C n d v := by
  obtain ⟨cell, cf, k, i, f, h1, r⟩ := F; exact ⟨cell, cf, k, i, f, e.trans h1, r⟩
theorem exa_fr {C : String} (e : h'[a]? = h[a]?) (F : Exa Z h a C) : Exa Z h' a C := by
  obtain ⟨cell, k, h1, r⟩ := F; exact ⟨cell, k, e.trans h1, r⟩
theorem arrAt_fr {ty : FieldType} {len : Int32} {w : Int32 → Value} (e : h'[a]? = h[a]?) (F : ArrAt Z h a ty len w) : ArrAt Z h' a ty len w := by
  obtain ⟨cl, A, r⟩ := F; exact ⟨cl, ⟨e.trans A.1, A.2⟩, r⟩
theorem ObjAt.frame (e : ∀ b, a ≤ b → b ≤ a + q → h'[b]? = h[b]?) (F : ObjAt Z h a q ob) : ObjAt Z h' a q ob := by
  have e0 := e a (Nat.le_refl _) (Nat.le_add_right _ _)
  refine ⟨exa_fr e0 F.1, fun k nd hk => fld_fr e0 (F.2.1 k nd hk), fun k t hk hq => ⟨fld_fr e0 (F.2.2.1 k t hk hq).1, arrAt_fr (e _ (by omega) (by omega)) (F.2.2.1 k t hk hq).2⟩, fun k t hk hq => fld_fr e0 (F.2.2.2 k t hk hq)⟩
theorem ObjAt.ext (E : Ext h h') (F : ObjAt Z h a q ob) : ObjAt Z h' a q ob := by
  refine ⟨F.1.ext E, fun k nd hk => (F.2.1 k nd hk).ext E, fun k t hk hq => ⟨(F.2.2.1 k t hk hq).1.ext E, ?_⟩, fun k t hk hq => (F.2.2.2 k t hk hq).ext E⟩
  obtain ⟨cl, A, r⟩ := (F.2.2.1 k t hk hq).2; exact ⟨cl, A.ext E, r⟩
theorem wr_ne (W : Wr h h' a sl v) (ne : b ≠ a) : h'[b]? = h[b]? := by
  obtain ⟨cell, -, -, -, rfl⟩ := W; exact Array.getElem?_setIfInBounds_ne (Ne.symm ne)
theorem laidS (hw : ∀ d ∈ tables_1, d.before a0 Z = true) (hk : K.2.1[k]? = some nd) : Laid Z a0 K.1 K.1 nd.1 nd.2 := ((All.mem kS (List.mem_of_getElem? hk)).1).imp (hw _) (hw _)
theorem laidA (hw : ∀ d ∈ tables_1, d.before a0 Z = true) (hk : K.2.2[k]? = some t) : Laid Z a0 K.1 K.1 t.1 (aD t.2.1) := ((All.mem kA (List.mem_of_getElem? hk)).1).imp (hw _) (hw _)
theorem pfS (hk : K.2.1[k]? = some nd) : ∃ ty, parseFieldDescriptor nd.2 = some ty := by
  rcases (All.mem kS (List.mem_of_getElem? hk)).2 with e | e <;> rw [e]
  · exact ⟨.int, by decide⟩
  · exact ⟨.boolean, by decide⟩
theorem pfA (hk : K.2.2[k]? = some t) : parseFieldDescriptor (aD t.2.1) = some (.array t.2.1) := by
  rcases (All.mem kA (List.mem_of_getElem? hk)).2.1 with e | e | e <;> rw [e] <;> decide
theorem ObjAt.putI {x : Int32} (hw : ∀ d ∈ tables_1, d.before a0 Z = true) (F : ObjAt Z h a q ob) (hk : K.2.1[k]? = some nd) (W : Wr h h' a (Jvm.RoadKit.slotOf Z K.1 nd.1 nd.2) (.int x)) : ObjAt Z h' a q (sI ob k x) := by
  obtain ⟨ty, hty⟩ := pfS hk
  refine ⟨F.1.wr W, fun k' nd' hk' => ?_, fun k' t hk' hq => ⟨(F.2.2.1 k' t hk' hq).1.other W (Or.inr (Jvm.RoadKit.slot_ne (laidA hw hk') (laidS hw hk) (Ne.symm (nm_sa hk hk')) (pfA hk') hty)), ?_⟩, fun k' t hk' hq => (F.2.2.2 k' t hk' hq).other W (Or.inr (Jvm.RoadKit.slot_ne (laidA hw hk') (laidS hw hk) (Ne.symm (nm_sa hk hk')) (pfA hk') hty))⟩
  · by_cases e : k' = k
    · subst e; cases hk.symm.trans hk'
      have := (F.2.1 k' nd hk).same W
      simpa [sI] using this
    · obtain ⟨ty', hty'⟩ := pfS hk'
      have := (F.2.1 k' nd' hk').other W (Or.inr (Jvm.RoadKit.slot_ne (laidS hw hk') (laidS hw hk) (nm_ss hk' hk e) hty' hty))
      simpa [sI, e] using this
  · have := arrAt_fr (wr_ne W (by omega)) (F.2.2.1 k' t hk' hq).2
    have e : el t.2.1 (sI ob k x) k' = el t.2.1 ob k' := by funext j; unfold el; split <;> rfl
    rw [e]; exact this
theorem ObjAt.putA (F : ObjAt Z h a q ob) (hk : K.2.2[k]? = some t) (hq : k < q) {x : Value} {j : Int32} (hj : ¬ j < 0 ∧ j < t.2.2) (W : Wr h h' (a + 1 + k) j.toNatClampNeg x)
    (e1 : el t.2.1 ob' k = fun i => if i = j then x else el t.2.1 ob k i) (e2 : ∀ k' t', k' ≠ k → el t' ob' k' = el t' ob k') (e3 : ob'.1 = ob.1) : ObjAt Z h' a q ob' := by
  have u : h'[a]? = h[a]? := wr_ne W (by omega)
  refine ⟨exa_fr u F.1, fun k' nd hk' => by rw [e3]; exact fld_fr u (F.2.1 k' nd hk'), fun k' t' hk' hq' => ⟨fld_fr u (F.2.2.1 k' t' hk' hq').1, ?_⟩, fun k' t' hk' hq' => fld_fr u (F.2.2.2 k' t' hk' hq')⟩
  by_cases e : k' = k
  · subst e; cases hk.symm.trans hk'
    obtain ⟨cl, A, S, V⟩ := (F.2.2.1 k' t hk hq).2
    have inb : ¬ (j < 0 ∨ cl.slots.size ≤ j.toNatClampNeg) := inb_of S hj
    refine ⟨_, A.same W, by rw [sz_set]; exact S, fun i h0 h1 => ?_⟩
    rw [e1]
    by_cases ei : i = j
    · simp only [ei, if_true]; exact get_hit inb rfl
    · simp only [ei, if_false]; rw [get_miss hj.1 h0 ei]; exact V i h0 h1
  · rw [e2 k' _ e]; exact arrAt_fr (wr_ne W (by omega)) (F.2.2.1 k' t' hk' hq').2
theorem el_sA {ty : FieldType} (ht : ty ≠ .long) (j x : Int32) : el ty (sA ob k j x) k = fun i => if i = j then .int x else el ty ob k i := by
  funext i; cases ty <;> first | exact absurd rfl ht | (simp only [el, sA, true_and]; split <;> rfl)
theorem el_sJ (j : Int32) (x : Int64) : el .long (sJ ob k j x) k = fun i => if i = j then .long x else el .long ob k i := by
  funext i; simp only [el, sJ, true_and]; split <;> rfl
theorem el_sA' (j x : Int32) (k' : Nat) (t' : FieldType) (ne : k' ≠ k) : el t' (sA ob k j x) k' = el t' ob k' := by
  funext i; cases t' <;> simp [el, sA, ne]
theorem el_sJ' (j : Int32) (x : Int64) (k' : Nat) (t' : FieldType) (ne : k' ≠ k) : el t' (sJ ob k j x) k' = el t' ob k' := by
  funext i; cases t' <;> simp [el, sJ, ne]
theorem Rep.upd (R : Rep Z n0 h (top, (a, q, ob) :: H)) (hs : h'.size = h.size) (hO : Old Z n0 h') (e : ∀ b, (b < a ∨ a + q < b) → h'[b]? = h[b]?) (F : ObjAt Z h' a q ob') : Rep Z n0 h' (top, (a, q, ob') :: H) := by
  obtain ⟨r1, r2, r3, r4⟩ := R
  refine ⟨hs.trans r1, hO, fun x hx => ?_, ?_⟩
  · rcases List.mem_cons.mp hx with rfl | hx
    · exact ⟨(r3 _ (List.mem_cons_self ..)).1, (r3 _ (List.mem_cons_self ..)).2.1, F⟩
    · obtain ⟨p1, p2, p3⟩ := r3 x (List.mem_cons_of_mem _ hx)
      refine ⟨p1, p2, p3.frame fun b h1 h2 => e b ?_⟩
      have := (List.pairwise_cons.mp r4).1 x hx
      simp only at this
      omega
  · have := List.pairwise_cons.mp r4
    exact List.pairwise_cons.mpr ⟨fun y hy => this.1 y hy, this.2⟩
theorem Rep.objs (R : Rep Z n0 h (top, (a, q, ob) :: H)) : n0 ≤ a ∧ a + q < top ∧ ObjAt Z h a q ob := R.2.2.1 _ (List.mem_cons_self ..)
theorem Rep.putI {x : Int32} (hw : ∀ d ∈ tables_1, d.before a0 Z = true) (R : Rep Z n0 h (top, (a, q, ob) :: H)) (hk : K.2.1[k]? = some nd) (W : Wr h h' a (Jvm.RoadKit.slotOf Z K.1 nd.1 nd.2) (.int x)) : Rep Z n0 h' (top, (a, q, sI ob k x) :: H) :=
  R.upd W.size (R.2.1.wr W R.objs.1) (fun b hb => wr_ne W (by omega)) (R.objs.2.2.putI hw hk W)
theorem Rep.putA {x j : Int32} (R : Rep Z n0 h (top, (a, q, ob) :: H)) (hk : K.2.2[k]? = some t) (hq : k < q) (ht : t.2.1 ≠ .long) (hj : ¬ j < 0 ∧ j < t.2.2) (W : Wr h h' (a + 1 + k) j.toNatClampNeg (.int x)) : Rep Z n0 h' (top, (a, q, sA ob k j x) :: H) :=
  R.upd W.size (R.2.1.wr W (by have := R.objs.1; omega)) (fun b hb => wr_ne W (by omega)) (R.objs.2.2.putA hk hq hj W (el_sA ht j x) (fun k' t' ne => el_sA' j x k' t' ne) rfl)
theorem Rep.putJ {j : Int32} {x : Int64} (R : Rep Z n0 h (top, (a, q, ob) :: H)) (hk : K.2.2[k]? = some t) (hq : k < q) (ht : t.2.1 = .long) (hj : ¬ j < 0 ∧ j < t.2.2) (W : Wr h h' (a + 1 + k) j.toNatClampNeg (.long x)) : Rep Z n0 h' (top, (a, q, sJ ob k j x) :: H) :=
  R.upd W.size (R.2.1.wr W (by have := R.objs.1; omega)) (fun b hb => wr_ne W (by omega)) (R.objs.2.2.putA hk hq hj W (by rw [ht]; exact el_sJ j x) (fun k' t' ne => el_sJ' j x k' t' ne) rfl)
theorem Rep.swap {x y : Nat × Nat × Rec} (R : Rep Z n0 h (top, x :: y :: H)) : Rep Z n0 h (top, y :: x :: H) := by
  obtain ⟨r1, r2, r3, r4⟩ := R
  refine ⟨r1, r2, fun z hz => r3 z ?_, ?_⟩
  · simp only [List.mem_cons] at hz ⊢
    rcases hz with e | e | e
    · exact Or.inr (Or.inl e)
    · exact Or.inl e
    · exact Or.inr (Or.inr e)
  · simp only [List.pairwise_cons, List.mem_cons] at r4 ⊢
    obtain ⟨p1, p2, p3⟩ := r4
    refine ⟨fun z hz => ?_, fun z hz => p1 z (Or.inr hz), p3⟩
    rcases hz with rfl | hz
    · exact (p1 _ (Or.inl rfl)).symm
    · exact p2 z hz
theorem ObjAt.addA (hw : ∀ d ∈ tables_1, d.before a0 Z = true) (F : ObjAt Z h a k ob) (hk : K.2.2[k]? = some t) (A : ArrAt Z h (a + 1 + k) t.2.1 t.2.2 (el t.2.1 ob k)) (W : Wr h h' a (Jvm.RoadKit.slotOf Z K.1 t.1 (aD t.2.1)) (.ref (a + 1 + k))) : ObjAt Z h' a (k + 1) ob := by
  refine ⟨F.1.wr W, fun k' nd hk' => ?_, fun k' t' hk' hq => ?_, fun k' t' hk' hq => ?_⟩
  · obtain ⟨ty', hty'⟩ := pfS hk'
    exact (F.2.1 k' nd hk').other W (Or.inr (Jvm.RoadKit.slot_ne (laidS hw hk') (laidA hw hk) (nm_sa hk' hk) hty' (pfA hk)))
  · by_cases e : k' = k
    · subst e
      have et : t = t' := Option.some.inj (hk.symm.trans hk')
      subst et
      exact ⟨(F.2.2.2 k' t hk (Nat.le_refl _)).same W, arrAt_fr (wr_ne W (by omega)) A⟩
    · obtain ⟨f1, f2⟩ := F.2.2.1 k' t' hk' (by omega)
      exact ⟨f1.other W (Or.inr (Jvm.RoadKit.slot_ne (laidA hw hk') (laidA hw hk) (nm_aa hk' hk e) (pfA hk') (pfA hk))), arrAt_fr (wr_ne W (by omega)) f2⟩
  · exact (F.2.2.2 k' t' hk' (by omega)).other W (Or.inr (Jvm.RoadKit.slot_ne (laidA hw hk') (laidA hw hk) (nm_aa hk' hk (by omega)) (pfA hk') (pfA hk)))
theorem Rep.addA {h1 h2 : Heap} (hw : ∀ d ∈ tables_1, d.before a0 Z = true) (R : Rep Z n0 h (top, (a, k, ob) :: H)) (E : Ext h h1) (s1 : h1.size = top + 1) (htop : top = a + 1 + k) (hk : K.2.2[k]? = some t) (A : ArrAt Z h1 top t.2.1 t.2.2 (el t.2.1 ob k)) (W : Wr h1 h2 a (Jvm.RoadKit.slotOf Z K.1 t.1 (aD t.2.1)) (.ref top)) : Rep Z n0 h2 (top + 1, (a, k + 1, ob) :: H) := by
  obtain ⟨q1, q2, q3⟩ := R.objs
  have hp := List.pairwise_cons.mp R.2.2.2
  have hO : ObjAt Z h2 a (k + 1) ob := by
    subst htop
    exact (q3.ext E).addA hw hk A W
  refine ⟨W.size.trans s1, (R.2.1.ext E).wr W q1, List.forall_mem_cons.mpr ⟨⟨q1, ?_, hO⟩, fun x hx => ?_⟩, List.pairwise_cons.mpr ⟨fun y hy => ?_, hp.2⟩⟩
  · show a + (k + 1) < top + 1; omega
  · obtain ⟨p1, p2, p3⟩ := R.2.2.1 x (List.mem_cons_of_mem _ hx)
    have u1 : a + k < x.1 ∨ x.1 + x.2.1 < a := hp.1 x hx
    have u2 : x.1 + x.2.1 < top := p2
    exact ⟨p1, Nat.lt_succ_of_lt u2, (p3.ext E).frame fun b h1 h2 => wr_ne W (by omega)⟩
  · have u1 : a + k < y.1 ∨ y.1 + y.2.1 < a := hp.1 y hy
    have u2 : y.1 + y.2.1 < top := (R.2.2.1 y (List.mem_cons_of_mem _ hy)).2.1
    show a + (k + 1) < y.1 ∨ y.1 + y.2.1 < a
    omega
theorem arr_new {cA : ClassId} {ty : FieldType} {len : Int32} (A : Arr Z h b (newA cA ty len) ty) (hts : ty = .int ∨ ty = .boolean ∨ ty = .long) (hz : (∀ i, ob.2.1 k i = 0) ∧ (∀ i, ob.2.2 k i = 0)) : ArrAt Z h b ty len (el ty ob k) := by
  refine ⟨_, A, sz_new _ _ _, fun i h0 h1 => ?_⟩
  have hi : ¬ (i < 0 ∨ len.toNatClampNeg ≤ i.toNatClampNeg) := by
    have e0 : (0 : Int32).toInt = 0 := rfl
    simp only [Int32.lt_iff_toInt_lt, Int32.toNatClampNeg] at *
    omega
  rw [get_new hi]
  rcases hts with rfl | rfl | rfl
  · show some (Value.int 0) = some (Value.int (ob.2.1 k i)); rw [hz.1]
  · show some (Value.int 0) = some (Value.int (ob.2.1 k i)); rw [hz.1]
  · show some (Value.long 0) = some (Value.long (ob.2.2 k i)); rw [hz.2]
theorem Rep.start (s : State) : Rep s s.heap.size s.heap (s.heap.size, []) := ⟨rfl, Old.start s, fun x hx => (by cases hx), List.Pairwise.nil⟩
end Facts
/- bodies, decode facts, patterns of local variables -/
abbrev Bdy : Type := MethodName × ByteArray × Nat × Option FieldType × Room
def DAt (M : Bdy) (pc : Nat) (i : Instr) (n q : Nat) : Prop := decode M.2.1 pc = .ok (i, n) ∧ q = pc + n
instance {M : Bdy} {pc : Nat} {i : Instr} {n q : Nat} : Decidable (DAt M pc i n q) := inferInstanceAs (Decidable (_ ∧ _))
abbrev Pat : Type := List (Option Slot)
abbrev vi (x : Int32) : Option Slot := some (.val (.int x))
abbrev vl (x : Int64) : Option Slot := some (.val (.long x))
abbrev vr (a : Nat) : Option Slot := some (.val (.ref a))
abbrev v2 : Option Slot := some .second
abbrev vn : Option Slot := none
def pget : Pat → Nat → Option Slot
  | [], _ => none
  | x :: _, 0 => x
  | _ :: l, n + 1 => pget l n
theorem pget_eq : ∀ (P : Pat) (i : Nat), pget P i = (P[i]?).join
  | [], _ => by simp [pget]
  | x :: l, 0 => by simp [pget]
  | x :: l, n + 1 => by simp [pget, pget_eq l n]
def pput : Pat → Nat → Option Slot → Pat
  | [], _, _ => []
  | _ :: l, 0, y => y :: l
  | x :: l, n + 1, y => x :: pput l n y
theorem pget_pput : ∀ (P : Pat) (i j : Nat) (y : Option Slot) (s : Slot), pget (pput P i y) j = some s → (j = i ∧ y = some s) ∨ (j ≠ i ∧ pget P j = some s)
  | [], _, _, _, _, h => by simp [pput, pget] at h
  | x :: l, 0, 0, y, s, h => Or.inl ⟨rfl, h⟩
  | x :: l, 0, j + 1, y, s, h => Or.inr ⟨by omega, h⟩
  | x :: l, i + 1, 0, y, s, h => Or.inr ⟨by omega, h⟩
  | x :: l, i + 1, j + 1, y, s, h => by
    rcases pget_pput l i j y s h with ⟨e, r⟩ | ⟨e, r⟩
    · exact Or.inl ⟨by omega, r⟩
    · exact Or.inr ⟨by omega, r⟩
/-- a two-word value whose first word is at i is forgotten -/
def pk1 (P : Pat) (i : Nat) : Pat := match pget P i with
  | some (.val (.long _)) => pput P i none
  | some (.val (.double _)) => pput P i none
  | _ => P
def pk2 (P : Pat) (i : Nat) : Pat := match pget P i with
  | some .second => pput P i none
  | _ => P
def pkp (P : Pat) : Nat → Pat
  | 0 => P
  | i + 1 => pk1 P i
def ps1 (P : Pat) (i : Nat) (v : Value) : Pat := pput (pk2 (pkp P i) (i + 1)) i (some (.val v))
def ps2 (P : Pat) (i : Nat) (v : Value) : Pat := pput (pput (pk2 (pkp P i) (i + 2)) i (some (.val v))) (i + 1) (some .second)
def WFl (L : Array Slot) : Prop := (∀ i : Nat, L[i]? = some .second → ∃ (j : Nat) (v : Value), i = j + 1 ∧ L[j]? = some (.val v) ∧ v.category = 2) ∧ (∀ (i : Nat) (v : Value), L[i]? = some (.val v) → v.category = 2 → L[i + 1]? = some .second)
def Fits (P : Pat) (L : Array Slot) : Prop := (∀ i s, pget P i = some s → L[i]? = some s) ∧ WFl L
theorem pk1_sub {P : Pat} {i j : Nat} {s : Slot} (h : pget (pk1 P i) j = some s) : pget P j = some s ∧ (j = i → ∀ w : Value, s = .val w → w.category = 1) := by
  unfold pk1 at h
  split at h
  · rcases pget_pput _ _ _ _ _ h with ⟨-, e⟩ | ⟨e, r⟩
    · cases e
    · exact ⟨r, fun q => absurd q e⟩
  · rcases pget_pput _ _ _ _ _ h with ⟨-, e⟩ | ⟨e, r⟩
    · cases e
    · exact ⟨r, fun q => absurd q e⟩
  · rename_i h1 h2
    refine ⟨h, fun q w e => ?_⟩
    subst q e
    cases w <;> first | rfl | exact absurd h (h1 _) | exact absurd h (h2 _)
theorem pk2_sub {P : Pat} {i j : Nat} {s : Slot} (h : pget (pk2 P i) j = some s) : pget P j = some s ∧ (j = i → s ≠ .second) := by
  unfold pk2 at h
  split at h
  · rcases pget_pput _ _ _ _ _ h with ⟨-, e⟩ | ⟨e, r⟩
    · cases e
    · exact ⟨r, fun q => absurd q e⟩
  · rename_i h1
    refine ⟨h, fun q e => ?_⟩
    subst q e; exact h1 h
theorem pkp_sub {P : Pat} {i j : Nat} {s : Slot} (h : pget (pkp P i) j = some s) : pget P j = some s ∧ (j + 1 = i → ∀ w : Value, s = .val w → w.category = 1) := by
  cases i with
  | zero => exact ⟨h, fun q => by omega⟩
  | succ i => obtain ⟨h1, h2⟩ := pk1_sub (show pget (pk1 P i) j = some s from h); exact ⟨h1, fun q => h2 (by omega)⟩
theorem setAt_eq {L : Array Slot} {i : Nat} {x : Slot} (hi : i < L.size) : Jvm.setAt L i x = some (L.setIfInBounds i x) := by simp [Jvm.setAt, hi]
theorem sl_second {L : Array Slot} {i : Nat} {v : Value} (ho : L[i]? = some .second) : storeLocals L i v = (Jvm.setAt L (i - 1) .unset).bind fun l => storeSelf l i v := by
  unfold storeLocals; rw [ho]; rfl
theorem sl_unset {L : Array Slot} {i : Nat} {v : Value} (ho : L[i]? = some .unset) : storeLocals L i v = storeSelf L i v := by
  unfold storeLocals; rw [ho]; rfl
theorem sl_val {L : Array Slot} {i : Nat} {v o : Value} (ho : L[i]? = some (.val o)) : storeLocals L i v = if o.category = 2 then (Jvm.setAt L (i + 1) .unset).bind fun l => storeSelf l i v else storeSelf L i v := by
  unfold storeLocals; rw [ho]; rfl
theorem ss_one {L : Array Slot} {i : Nat} {v : Value} (hi : i < L.size) (hv : ¬ v.category = 2) : storeSelf L i v = some (L.setIfInBounds i (.val v)) := by
  unfold storeSelf; rw [setAt_eq hi]; simp [hv]
theorem ss_two {L : Array Slot} {i : Nat} {v : Value} {o : Slot} (hi : i < L.size) (hv : v.category = 2) (ho : L[i + 1]? = some o) : storeSelf L i v = (match o with
    | .val old => if old.category = 2 then (Jvm.setAt (L.setIfInBounds i (.val v)) (i + 2) .unset).bind fun l => Jvm.setAt l (i + 1) .second else Jvm.setAt (L.setIfInBounds i (.val v)) (i + 1) .second
    | _ => Jvm.setAt (L.setIfInBounds i (.val v)) (i + 1) .second) := by
  have e : (L.setIfInBounds i (.val v))[i + 1]? = some o := by rw [Array.getElem?_setIfInBounds_ne (by omega)]; exact ho
  unfold storeSelf; rw [setAt_eq hi]
  show (if v.category = 2 then _ else _) = _
  rw [if_pos hv, e]
  cases o <;> rfl
theorem cat12 (v : Value) : v.category = 1 ∨ v.category = 2 := by cases v <;> first | exact Or.inl rfl | exact Or.inr rfl
/-- a one-word store: what stands elsewhere stays, but for the halves of a two-word value that it breaks -/
theorem store_one {L : Array Slot} {i : Nat} {v : Value} (hW : WFl L) (hi : i < L.size) (hv : v.category = 1) :
    ∃ L', storeLocals L i v = some L' ∧ L'.size = L.size ∧ WFl L' ∧ L'[i]? = some (.val v) ∧ ∀ j, j ≠ i → L'[j]? = L[j]? ∨ (j + 1 = i ∧ L[i]? = some .second) ∨ (j = i + 1 ∧ L[j]? = some .second) := by
  have hv2 : ¬ v.category = 2 := by omega
  cases ho : L[i]? with
  | none => rw [Array.getElem?_eq_none_iff] at ho; omega
  | some o =>
    cases o with
    | unset =>
      refine ⟨L.setIfInBounds i (.val v), ?_, by simp, ?_, by simp [hi], fun j hj => Or.inl (Array.getElem?_setIfInBounds_ne (Ne.symm hj))⟩
      · rw [sl_unset ho, ss_one hi hv2]
      · refine ⟨fun j hj => ?_, fun j w hj hw => ?_⟩
        · by_cases e : j = i
          · subst e; simp [hi] at hj
          · rw [Array.getElem?_setIfInBounds_ne (Ne.symm e)] at hj
            obtain ⟨j', w, e1, e2, e3⟩ := hW.1 j hj
            refine ⟨j', w, e1, ?_, e3⟩
            rw [Array.getElem?_setIfInBounds_ne]; exact e2
            intro q; subst q; rw [ho] at e2; cases e2
        · by_cases e : j = i
          · subst e; simp [hi] at hj; subst hj; omega
          · rw [Array.getElem?_setIfInBounds_ne (Ne.symm e)] at hj
            have := hW.2 j w hj hw
            rw [Array.getElem?_setIfInBounds_ne]; exact this
            intro q; subst q; rw [ho] at this; cases this
    | second =>
      obtain ⟨j0, w0, rfl, f2, f3⟩ := hW.1 i ho
      have hj0 : j0 < L.size := by omega
      refine ⟨(L.setIfInBounds j0 .unset).setIfInBounds (j0 + 1) (.val v), ?_, by simp, ?_, by simp [hi], fun j hj => ?_⟩
      · rw [sl_second ho, show j0 + 1 - 1 = j0 from rfl, setAt_eq hj0]; exact ss_one (by simpa using hi) hv2
      · refine ⟨fun j hj => ?_, fun j w hj hw => ?_⟩
        · by_cases e : j = j0 + 1
          · subst e; simp [hi] at hj
          · rw [Array.getElem?_setIfInBounds_ne (Ne.symm e)] at hj
            by_cases e' : j = j0
            · subst e'; simp [hj0] at hj
            · rw [Array.getElem?_setIfInBounds_ne (Ne.symm e')] at hj
              obtain ⟨j', w, e1, e2, e3⟩ := hW.1 j hj
              refine ⟨j', w, e1, ?_, e3⟩
              rw [Array.getElem?_setIfInBounds_ne, Array.getElem?_setIfInBounds_ne]
              · exact e2
              · intro q; subst q; omega
              · intro q; subst q; rw [ho] at e2; cases e2
        · by_cases e : j = j0 + 1
          · subst e; simp [hi] at hj; subst hj; omega
          · rw [Array.getElem?_setIfInBounds_ne (Ne.symm e)] at hj
            by_cases e' : j = j0
            · subst e'; simp [hj0] at hj
            · rw [Array.getElem?_setIfInBounds_ne (Ne.symm e')] at hj
              have := hW.2 j w hj hw
              rw [Array.getElem?_setIfInBounds_ne, Array.getElem?_setIfInBounds_ne]
              · exact this
              · intro q; subst q; rw [f2] at this; cases this
              · omega
      · by_cases e' : j = j0
        · exact Or.inr (Or.inl ⟨by omega, rfl⟩)
        · left; rw [Array.getElem?_setIfInBounds_ne (Ne.symm hj), Array.getElem?_setIfInBounds_ne (Ne.symm e')]
    | val old =>
      by_cases hc : old.category = 2
      · have f2 := hW.2 i old ho hc
        have hi1 : i + 1 < L.size := (Array.getElem?_eq_some_iff.mp f2).1
        refine ⟨(L.setIfInBounds (i + 1) .unset).setIfInBounds i (.val v), ?_, by simp, ?_, by simp [hi], fun j hj => ?_⟩
        · rw [sl_val ho, if_pos hc, setAt_eq hi1]; exact ss_one (by simpa using hi) hv2
        · refine ⟨fun j hj => ?_, fun j w hj hw => ?_⟩
          · by_cases e : j = i
            · subst e; simp [hi] at hj
            · rw [Array.getElem?_setIfInBounds_ne (Ne.symm e)] at hj
              by_cases e' : j = i + 1
              · subst e'; simp [hi1] at hj
              · rw [Array.getElem?_setIfInBounds_ne (Ne.symm e')] at hj
                obtain ⟨j', w, e1, e2, e3⟩ := hW.1 j hj
                refine ⟨j', w, e1, ?_, e3⟩
                rw [Array.getElem?_setIfInBounds_ne, Array.getElem?_setIfInBounds_ne]
                · exact e2
                · intro q; subst q; rw [f2] at e2; cases e2
                · omega
          · by_cases e : j = i
            · subst e; simp [hi] at hj; subst hj; omega
            · rw [Array.getElem?_setIfInBounds_ne (Ne.symm e)] at hj
              by_cases e' : j = i + 1
              · subst e'; simp [hi1] at hj
              · rw [Array.getElem?_setIfInBounds_ne (Ne.symm e')] at hj
                have := hW.2 j w hj hw
                rw [Array.getElem?_setIfInBounds_ne, Array.getElem?_setIfInBounds_ne]
                · exact this
                · omega
                · intro q; subst q; rw [ho] at this; cases this
        · by_cases e' : j = i + 1
          · subst e'; exact Or.inr (Or.inr ⟨rfl, f2⟩)
          · left; rw [Array.getElem?_setIfInBounds_ne (Ne.symm hj), Array.getElem?_setIfInBounds_ne (Ne.symm e')]
      · refine ⟨L.setIfInBounds i (.val v), ?_, by simp, ?_, by simp [hi], fun j hj => Or.inl (Array.getElem?_setIfInBounds_ne (Ne.symm hj))⟩
        · rw [sl_val ho, if_neg hc, ss_one hi hv2]
        · refine ⟨fun j hj => ?_, fun j w hj hw => ?_⟩
          · by_cases e : j = i
            · subst e; simp [hi] at hj
            · rw [Array.getElem?_setIfInBounds_ne (Ne.symm e)] at hj
              obtain ⟨j', w, e1, e2, e3⟩ := hW.1 j hj
              refine ⟨j', w, e1, ?_, e3⟩
              rw [Array.getElem?_setIfInBounds_ne]; exact e2
              intro q; subst q; rw [ho] at e2; cases e2; omega
          · by_cases e : j = i
            · subst e; simp [hi] at hj; subst hj; omega
            · rw [Array.getElem?_setIfInBounds_ne (Ne.symm e)] at hj
              have := hW.2 j w hj hw
              rw [Array.getElem?_setIfInBounds_ne]; exact this
              intro q; subst q; rw [ho] at this; cases this
theorem Fits.store1 {P : Pat} {L : Array Slot} {i : Nat} {v : Value} (h : Fits P L) (hi : i < L.size) (hv : v.category = 1) :
    ∃ L', storeLocals L i v = some L' ∧ L'.size = L.size ∧ Fits (ps1 P i v) L' := by
  obtain ⟨L', e1, e2, e3, e4, e5⟩ := store_one h.2 hi hv
  refine ⟨L', e1, e2, fun j s hj => ?_, e3⟩
  rcases pget_pput _ _ _ _ _ hj with ⟨rfl, q⟩ | ⟨ne, q⟩
  · rw [e4]; exact q
  · obtain ⟨q1, q2⟩ := pk2_sub q
    obtain ⟨q3, q4⟩ := pkp_sub q1
    have hL := h.1 j s q3
    rcases e5 j ne with r | ⟨r1, r2⟩ | ⟨r1, r2⟩
    · rw [r]; exact hL
    · obtain ⟨j', w, z1, z2, z3⟩ := h.2.1 i r2
      have : j' = j := by omega
      subst this
      rw [hL] at z2; cases z2
      have := q4 r1 w rfl; omega
    · rw [hL] at r2; cases r2
      exact absurd rfl (q2 r1)
theorem st_ph1 {L : Array Slot} {i : Nat} {v : Value} (hW : WFl L) (hi : i + 1 < L.size) :
    ∃ A : Array Slot, storeLocals L i v = storeSelf A i v ∧ A.size = L.size ∧ (∀ j, j ≠ i → j ≠ i + 1 → A[j]? = L[j]? ∨ (j + 1 = i ∧ L[i]? = some .second ∧ A[j]? = some .unset)) ∧ (A[i + 1]? = L[i + 1]? ∨ (A[i + 1]? = some .unset ∧ L[i + 1]? = some .second)) ∧ (L[i]? = some .second → ∀ j, j + 1 = i → A[j]? = some .unset) := by
  have hi0 : i < L.size := by omega
  cases ho : L[i]? with
  | none => rw [Array.getElem?_eq_none_iff] at ho; omega
  | some o =>
    cases o with
    | unset => exact ⟨L, sl_unset ho, rfl, fun j _ _ => Or.inl rfl, Or.inl rfl, fun q => by cases q⟩
    | second =>
      obtain ⟨j0, w0, rfl, f2, f3⟩ := hW.1 i ho
      have hj0 : j0 < L.size := by omega
      refine ⟨L.setIfInBounds j0 .unset, by rw [sl_second ho, show j0 + 1 - 1 = j0 from rfl, setAt_eq hj0]; rfl, by simp, fun j h1 h2 => ?_, Or.inl (Array.getElem?_setIfInBounds_ne (by omega)), fun _ j hj => ?_⟩
      · by_cases e : j = j0
        · subst e; exact Or.inr ⟨rfl, rfl, by simp [hj0]⟩
        · exact Or.inl (Array.getElem?_setIfInBounds_ne (Ne.symm e))
      · have : j = j0 := by omega
        subst this; simp [hj0]
    | val old =>
      by_cases hc : old.category = 2
      · refine ⟨L.setIfInBounds (i + 1) .unset, by rw [sl_val ho, if_pos hc, setAt_eq hi]; rfl, by simp, fun j h1 h2 => Or.inl (Array.getElem?_setIfInBounds_ne (Ne.symm h2)), Or.inr ⟨by simp [hi], hW.2 i old ho hc⟩, fun q => by cases q⟩
      · exact ⟨L, by rw [sl_val ho, if_neg hc], rfl, fun j _ _ => Or.inl rfl, Or.inl rfl, fun q => by cases q⟩
theorem st_ph2 {A : Array Slot} {i : Nat} {v : Value} (hi : i + 1 < A.size) (hv : v.category = 2) (hn : ∀ w : Value, A[i + 1]? = some (.val w) → w.category = 2 → i + 2 < A.size) :
    ∃ L', storeSelf A i v = some L' ∧ L'.size = A.size ∧ L'[i]? = some (.val v) ∧ L'[i + 1]? = some .second ∧ (∀ j, j ≠ i → j ≠ i + 1 → L'[j]? = A[j]? ∨ (j = i + 2 ∧ L'[j]? = some .unset ∧ ∃ w : Value, A[i + 1]? = some (.val w) ∧ w.category = 2)) ∧ ((∃ w : Value, A[i + 1]? = some (.val w) ∧ w.category = 2) → L'[i + 2]? = some .unset) := by
  have hi0 : i < A.size := by omega
  have eB : (A.setIfInBounds i (.val v))[i + 1]? = A[i + 1]? := Array.getElem?_setIfInBounds_ne (by omega)
  have plain : (∀ w : Value, A[i + 1]? = some (.val w) → w.category ≠ 2) → storeSelf A i v = some ((A.setIfInBounds i (.val v)).setIfInBounds (i + 1) .second) := fun hq => by
    cases ho : A[i + 1]? with
    | none => rw [Array.getElem?_eq_none_iff] at ho; omega
    | some o => cases o with
      | unset => rw [ss_two hi0 hv ho]; exact setAt_eq (by simpa using hi)
      | second => rw [ss_two hi0 hv ho]; exact setAt_eq (by simpa using hi)
      | val w => have := hq w ho; rw [ss_two hi0 hv ho]; simp only [if_neg this]; exact setAt_eq (by simpa using hi)
  by_cases hw : ∃ w : Value, A[i + 1]? = some (.val w) ∧ w.category = 2
  · obtain ⟨w, h1, h2⟩ := hw
    have h3 := hn w h1 h2
    refine ⟨((A.setIfInBounds i (.val v)).setIfInBounds (i + 2) .unset).setIfInBounds (i + 1) .second, by rw [ss_two hi0 hv h1]; simp only [if_pos h2]; rw [setAt_eq (by simpa using h3)]; exact setAt_eq (by simpa using hi), by simp, ?_, by simp [hi], fun j a b => ?_, fun _ => ?_⟩
    · rw [Array.getElem?_setIfInBounds_ne (by omega), Array.getElem?_setIfInBounds_ne (by omega)]; simp [hi0]
    · rw [Array.getElem?_setIfInBounds_ne (by omega)]
      by_cases e : j = i + 2
      · subst e; exact Or.inr ⟨rfl, by simp [h3], w, h1, h2⟩
      · left; rw [Array.getElem?_setIfInBounds_ne (by omega), Array.getElem?_setIfInBounds_ne (by omega)]
    · rw [Array.getElem?_setIfInBounds_ne (by omega)]; simp [h3]
  · refine ⟨_, plain fun w h1 h2 => hw ⟨w, h1, h2⟩, by simp, ?_, by simp [hi], fun j a b => Or.inl ?_, fun q => absurd q hw⟩
    · rw [Array.getElem?_setIfInBounds_ne (by omega)]; simp [hi0]
    · rw [Array.getElem?_setIfInBounds_ne (by omega), Array.getElem?_setIfInBounds_ne (by omega)]
theorem store_two {L : Array Slot} {i : Nat} {v : Value} (hW : WFl L) (hi : i + 1 < L.size) (hv : v.category = 2) :
    ∃ L', storeLocals L i v = some L' ∧ L'.size = L.size ∧ WFl L' ∧ L'[i]? = some (.val v) ∧ L'[i + 1]? = some .second ∧ ∀ j, j ≠ i → j ≠ i + 1 → L'[j]? = L[j]? ∨ (j + 1 = i ∧ L[i]? = some .second) ∨ (j = i + 2 ∧ L[j]? = some .second) := by
  obtain ⟨A, a1, a2, a3, a4, a5⟩ := st_ph1 (v := v) hW hi
  have a6 : ∀ w : Value, A[i + 1]? = some (.val w) → w.category = 2 → L[i + 2]? = some .second := fun w h1 h2 => by
    rcases a4 with e | ⟨e, -⟩
    · rw [e] at h1; exact hW.2 _ _ h1 h2
    · rw [e] at h1; cases h1
  obtain ⟨L', b1, b2, b3, b4, b5, b6⟩ := st_ph2 (A := A) (i := i) (v := v) (by omega) hv (fun w h1 h2 => by have := (Array.getElem?_eq_some_iff.mp (a6 w h1 h2)).1; omega)
  have c : ∀ j, j ≠ i → j ≠ i + 1 → L'[j]? = L[j]? ∨ (j + 1 = i ∧ L[i]? = some .second ∧ L'[j]? = some .unset) ∨ (j = i + 2 ∧ L[j]? = some .second ∧ L'[j]? = some .unset) := fun j h1 h2 => by
    rcases b5 j h1 h2 with e | ⟨e1, e2, w, e3, e4⟩
    · rcases a3 j h1 h2 with r | ⟨r1, r2, r3⟩
      · exact Or.inl (e.trans r)
      · exact Or.inr (Or.inl ⟨r1, r2, e.trans r3⟩)
    · subst e1; exact Or.inr (Or.inr ⟨rfl, a6 w e3 e4, e2⟩)
  have cs : L[i]? = some .second → ∀ j, j + 1 = i → L'[j]? = some .unset := fun q j hj => by
    rcases b5 j (by omega) (by omega) with e | ⟨e1, -⟩
    · exact e.trans (a5 q j hj)
    · omega
  have c2 : L[i + 2]? = some .second → L'[i + 2]? = some .unset := fun q => by
    obtain ⟨j', w, z1, z2, z3⟩ := hW.1 _ q
    have : j' = i + 1 := by omega
    subst this
    rcases a4 with e | ⟨-, e⟩
    · exact b6 ⟨w, e.trans z2, z3⟩
    · rw [e] at z2; cases z2
  refine ⟨L', a1.trans b1, b2.trans a2, ⟨fun j hj => ?_, fun j w hj hw => ?_⟩, b3, b4, fun j h1 h2 => ?_⟩
  · by_cases e0 : j = i
    · subst e0; rw [b3] at hj; cases hj
    by_cases e1 : j = i + 1
    · exact ⟨i, v, e1, b3, hv⟩
    rcases c j e0 e1 with r | ⟨-, -, r⟩ | ⟨-, -, r⟩
    · rw [r] at hj
      obtain ⟨j', w, z1, z2, z3⟩ := hW.1 j hj
      refine ⟨j', w, z1, ?_, z3⟩
      have n0 : j' ≠ i := by omega
      by_cases n1 : j' = i + 1
      · have : j = i + 2 := by omega
        subst this
        rw [c2 hj] at r; rw [hj] at r; cases r
      rcases c j' n0 n1 with u | ⟨u, -, -⟩ | ⟨-, u, -⟩
      · exact u.trans z2
      · omega
      · rw [z2] at u; cases u
    · rw [r] at hj; cases hj
    · rw [r] at hj; cases hj
  · by_cases e0 : j = i
    · subst e0; exact b4
    by_cases e1 : j = i + 1
    · subst e1; rw [b4] at hj; cases hj
    rcases c j e0 e1 with r | ⟨-, -, r⟩ | ⟨-, -, r⟩
    · have hj' := hj
      rw [r] at hj
      have z := hW.2 j w hj hw
      by_cases n0 : j + 1 = i
      · subst n0; rw [cs z j rfl] at hj'; cases hj'
      by_cases n1 : j + 1 = i + 1
      · omega
      rcases c (j + 1) n0 n1 with u | ⟨u1, u2, -⟩ | ⟨u, -, -⟩
      · exact u.trans z
      · obtain ⟨j', w', y1, y2, y3⟩ := hW.1 i u2
        have : j' = j + 1 := by omega
        subst this; rw [z] at y2; cases y2
      · omega
    · rw [r] at hj; cases hj
    · rw [r] at hj; cases hj
  · rcases c j h1 h2 with r | ⟨r1, r2, -⟩ | ⟨r1, r2, -⟩
    · exact Or.inl r
    · exact Or.inr (Or.inl ⟨r1, r2⟩)
    · exact Or.inr (Or.inr ⟨r1, r2⟩)
theorem Fits.store2 {P : Pat} {L : Array Slot} {i : Nat} {v : Value} (h : Fits P L) (hi : i + 1 < L.size) (hv : v.category = 2) :
    ∃ L', storeLocals L i v = some L' ∧ L'.size = L.size ∧ Fits (ps2 P i v) L' := by
  obtain ⟨L', e1, e2, e3, e4, e4', e5⟩ := store_two h.2 hi hv
  refine ⟨L', e1, e2, fun j s hj => ?_, e3⟩
  rcases pget_pput _ _ _ _ _ hj with ⟨rfl, q⟩ | ⟨ne, q⟩
  · rw [e4']; exact q
  rcases pget_pput _ _ _ _ _ q with ⟨rfl, q'⟩ | ⟨ne', q'⟩
  · rw [e4]; exact q'
  obtain ⟨q1, q2⟩ := pk2_sub q'
  obtain ⟨q3, q4⟩ := pkp_sub q1
  have hL := h.1 j s q3
  rcases e5 j ne' ne with r | ⟨r1, r2⟩ | ⟨r1, r2⟩
  · rw [r]; exact hL
  · obtain ⟨j', w, z1, z2, z3⟩ := h.2.1 i r2
    have : j' = j := by omega
    subst this
    rw [hL] at z2; cases z2
    have := q4 r1 w rfl; omega
  · rw [hL] at r2; cases r2
    exact absurd rfl (q2 r1)
/- what a body does from a place on -/
def Runs (C : Ctx) (M : Bdy) (k n pc : Nat) (P : Pat) (S : List Value) (G : AH) (Q : Option Value → AH → Prop) : Prop :=
  Ok C → ∀ (p : Program) (e : Env) (s : State) (m : MethodId) (args : Array Value) (below : List Frame) (meth : Method) (c : Code) (T : State) (locs : List Loc) (L : Array Slot),
    p.tables.exec = Jvm.exec → c.code = M.2.1 → c.maxLocals = M.2.2.1 → meth.sig.returnType = M.2.2.2.1 → meth.name = M.1.name → s.vm.findClass M.1.cls = some m.cls → C.2.1.Warmed39 s.vm →
    Fits P L → L.size = M.2.2.1 → Stand p C.1 e M.2.2.2.2 s m args below meth c T locs k n → Rep C.2.1 C.2.2.1 T.heap G → Fr C.2.2.1 locs →
    ∃ (T' : State) (locs' : List Loc) (k' n' : Nat) (r : Option Value) (G' : AH), Stand p C.1 e M.2.2.2.2 s m args below meth c T' locs' k' n' ∧ k' ≤ M.2.2.2.2.cells ∧ n' ≤ M.2.2.2.2.slots ∧ Rep C.2.1 C.2.2.1 T'.heap G' ∧ Fr C.2.2.1 locs' ∧ Q r G' ∧
      (M.2.2.2.1 = none → r = none) ∧
      ∀ fs : List Frame, (∀ (f : JFrame) (acts : List Action), f.method = m → f.locked = none → f.entered = [] → (doReturn e (T'.setTop f) acts r).1 = T'.setFrames fs) → Steps p.tables e below (T.setTop (mkF m pc L S)) (T'.setFrames fs)
section Rules
variable {C : Ctx} {M : Bdy} {k n pc q : Nat} {P P' : Pat} {S S' : List Value} {G : AH} {Q : Option Value → AH → Prop}
/-- a step that leaves the heap alone -/
theorem zD {i : Instr} {len : Nat} (d : DAt M pc i len q) {pc' : Nat}
    (st : ∀ (p : Program) (e : Env) (s : State) (m : MethodId) (args : Array Value) (below : List Frame) (meth : Method) (c : Code) (T : State) (locs : List Loc) (L : Array Slot), Ok C → p.tables.exec = Jvm.exec → s.vm.findClass M.1.cls = some m.cls → C.2.1.Warmed39 s.vm → decode c.code pc = .ok (i, len) → Fits P L → L.size = M.2.2.1 → Rep C.2.1 C.2.2.1 T.heap G →
      Stand p C.1 e M.2.2.2.2 s m args below meth c T locs k n → ∃ L', Fits P' L' ∧ L'.size = M.2.2.1 ∧ ∀ t, Steps p.tables e below (T.setTop (mkF m pc' L' S')) t → Steps p.tables e below (T.setTop (mkF m pc L S)) t)
    (h : Runs C M k n pc' P' S' G Q) : Runs C M k n pc P S G Q := by
  intro hw p e s m args below meth c T locs L hx hby hml hret hnm hown hZ hP hsz X hR hF
  obtain ⟨L', f1, f2, f3⟩ := st p e s m args below meth c T locs L hw hx hown hZ (hb hby d.1) hP hsz hR X
  obtain ⟨T', locs', k', n', r, G', g1, g2, g3, g4, g5, g6, g7, g8⟩ := h hw p e s m args below meth c T locs L' hx hby hml hret hnm hown hZ f1 f2 X hR hF
  exact ⟨T', locs', k', n', r, G', g1, g2, g3, g4, g5, g6, g7, fun fs hr => f3 _ (g8 fs hr)⟩
/-- a step that keeps the locals and what the heap says -/
theorem zz {i : Instr} {len : Nat} (d : DAt M pc i len q)
    (st : ∀ (p : Program) (e : Env) (s : State) (m : MethodId) (args : Array Value) (below : List Frame) (meth : Method) (c : Code) (T : State) (locs : List Loc) (L : Array Slot), p.tables.exec = Jvm.exec → decode c.code pc = .ok (i, len) → Fits P L →
      Stand p C.1 e M.2.2.2.2 s m args below meth c T locs k n → ∀ t, Steps p.tables e below (T.setTop (mkF m (pc + len) L S')) t → Steps p.tables e below (T.setTop (mkF m pc L S)) t)
    (h : Runs C M k n q P S' G Q) : Runs C M k n pc P S G Q := by
  have hq := d.2
  subst hq
  exact zD d (fun p e s m args below meth c T locs L _ hx _ _ hd hP hsz _ X => ⟨L, hP, hsz, st p e s m args below meth c T locs L hx hd hP X⟩) h
theorem za {j : Fin 4} {v : Int32} (d : DAt M pc (.iload_n j) 1 q) (hl : pget P j.val = vi v) (h : Runs C M k n q P (.int v :: S) G Q) : Runs C M k n pc P S G Q :=
  zz d (fun p e s m args below meth c T locs L hx hd hP X t r => XS.iloadN (g := mkF m pc L S) X.here hx rfl hd (hP.1 _ _ hl) r) h
theorem zd {j : Nat} {v : Int32} (d : DAt M pc (.iload j) 2 q) (hl : pget P j = vi v) (h : Runs C M k n q P (.int v :: S) G Q) : Runs C M k n pc P S G Q :=
  zz d (fun p e s m args below meth c T locs L hx hd hP X t r => XS.iload (g := mkF m pc L S) X.here hx rfl hd (hP.1 _ _ hl) r) h
theorem Runs.lloadN {j : Fin 4} {v : Int64} (d : DAt M pc (.lload_n j) 1 q) (hl : pget P j.val = vl v) (h : Runs C M k n q P (.long v :: S) G Q) : Runs C M k n pc P S G Q :=
  zz d (fun p e s m args below meth c T locs L hx hd hP X t r => XS.lloadN (g := mkF m pc L S) X.here hx rfl hd (hP.1 _ _ hl) r) h
theorem Runs.lload {j : Nat} {v : Int64} (d : DAt M pc (.lload j) 2 q) (hl : pget P j = vl v) (h : Runs C M k n q P (.long v :: S) G Q) : Runs C M k n pc P S G Q :=
  zz d (fun p e s m args below meth c T locs L hx hd hP X t r => XS.lload (g := mkF m pc L S) X.here hx rfl hd (hP.1 _ _ hl) r) h
theorem zb {j : Fin 4} {v : Nat} (d : DAt M pc (.aload_n j) 1 q) (hl : pget P j.val = vr v) (h : Runs C M k n q P (.ref v :: S) G Q) : Runs C M k n pc P S G Q :=
  zz d (fun p e s m args below meth c T locs L hx hd hP X t r => XS.aloadN (g := mkF m pc L S) X.here hx rfl hd (hP.1 _ _ hl) rfl r) h
theorem Runs.aload {j : Nat} {v : Nat} (d : DAt M pc (.aload j) 2 q) (hl : pget P j = vr v) (h : Runs C M k n q P (.ref v :: S) G Q) : Runs C M k n pc P S G Q :=
  zz d (fun p e s m args below meth c T locs L hx hd hP X t r => XS.aload (g := mkF m pc L S) X.here hx rfl hd (hP.1 _ _ hl) rfl r) h
theorem zc {i : Int} {v : Int32} (d : DAt M pc (.iconst i) 1 q) (hv : Int32.ofInt i = v) (h : Runs C M k n q P (.int v :: S) G Q) : Runs C M k n pc P S G Q :=
  zz d (fun p e s m args below meth c T locs L hx hd hP X t r => XS.iconst (g := mkF m pc L S) X.here hx rfl hd (by rw [hv]; exact r)) h
theorem zj {i : Int} {v : Int32} (d : DAt M pc (.bipush i) 2 q) (hv : (Int8.ofInt i).toInt32 = v) (h : Runs C M k n q P (.int v :: S) G Q) : Runs C M k n pc P S G Q :=
  zz d (fun p e s m args below meth c T locs L hx hd hP X t r => XS.bipush (g := mkF m pc L S) X.here hx rfl hd (by rw [hv]; exact r)) h
theorem zC {i : Int} {v : Int32} (d : DAt M pc (.sipush i) 3 q) (hv : (Int16.ofInt i).toInt32 = v) (h : Runs C M k n q P (.int v :: S) G Q) : Runs C M k n pc P S G Q :=
  zz d (fun p e s m args below meth c T locs L hx hd hP X t r => XS.sipush (g := mkF m pc L S) X.here hx rfl hd (by rw [hv]; exact r)) h
theorem Runs.lconst {i : Fin 2} {v : Int64} (d : DAt M pc (.lconst i) 1 q) (hv : Int64.ofNat i = v) (h : Runs C M k n q P (.long v :: S) G Q) : Runs C M k n pc P S G Q :=
  zz d (fun p e s m args below meth c T locs L hx hd hP X t r => Jvm.Free.XT.lconstV (g := mkF m pc L S) X.here hx rfl v hd hv r) h
theorem Runs.ldc {i : Nat} {v : Int32} (d : DAt M pc (.ldc i) 2 q) (w : Jvm.Cond.constant M.1.cls i v ∈ tables_1) (h : Runs C M k n q P (.int v :: S) G Q) : Runs C M k n pc P S G Q := by
  have hq := d.2
  subst hq
  exact zD d (fun p e s m args below meth c T locs L hw hx hown hZ hd hP hsz _ X => ⟨L, hP, hsz, fun t r => X.ldcInt hx hown (mvT hZ (hw _ w)) (g := mkF m pc L S) rfl hd t r⟩) h
theorem Runs.ldc2 {i : Nat} {v : Int64} (d : DAt M pc (.ldc2_w i) 3 q) (w : Jvm.Cond.constantLong M.1.cls i v ∈ tables_1) (h : Runs C M k n q P (.long v :: S) G Q) : Runs C M k n pc P S G Q := by
  have hq := d.2
  subst hq
  exact zD d (fun p e s m args below meth c T locs L hw hx hown hZ hd hP hsz _ X => ⟨L, hP, hsz, fun t r => X.ldc2Long hx hown (mvT hZ (hw _ w)) (g := mkF m pc L S) rfl hd t r⟩) h
theorem zu {x y : Int32} (d : DAt M pc .iadd 1 q) (h : Runs C M k n q P (.int (x + y) :: S) G Q) : Runs C M k n pc P (.int y :: .int x :: S) G Q :=
  zz d (fun p e s m args below meth c T locs L hx hd hP X t r => XS.iadd (g := mkF m pc L (.int y :: .int x :: S)) X.here hx rfl hd rfl r) h
theorem Runs.isub {x y : Int32} (d : DAt M pc .isub 1 q) (h : Runs C M k n q P (.int (x - y) :: S) G Q) : Runs C M k n pc P (.int y :: .int x :: S) G Q :=
  zz d (fun p e s m args below meth c T locs L hx hd hP X t r => XS.isub (g := mkF m pc L (.int y :: .int x :: S)) X.here hx rfl hd rfl r) h
theorem zy {x y : Int32} (d : DAt M pc .imul 1 q) (h : Runs C M k n q P (.int (x * y) :: S) G Q) : Runs C M k n pc P (.int y :: .int x :: S) G Q :=
  zz d (fun p e s m args below meth c T locs L hx hd hP X t r => XS.imul (g := mkF m pc L (.int y :: .int x :: S)) X.here hx rfl hd rfl r) h
theorem zA {x y : Int32} (d : DAt M pc .iand 1 q) (h : Runs C M k n q P (.int (x &&& y) :: S) G Q) : Runs C M k n pc P (.int y :: .int x :: S) G Q :=
  zz d (fun p e s m args below meth c T locs L hx hd hP X t r => XS.iand (g := mkF m pc L (.int y :: .int x :: S)) X.here hx rfl hd rfl r) h
theorem Runs.ior {x y : Int32} (d : DAt M pc .ior 1 q) (h : Runs C M k n q P (.int (x ||| y) :: S) G Q) : Runs C M k n pc P (.int y :: .int x :: S) G Q :=
  zz d (fun p e s m args below meth c T locs L hx hd hP X t r => XS.ior (g := mkF m pc L (.int y :: .int x :: S)) X.here hx rfl hd rfl r) h
theorem Runs.ixor {x y : Int32} (d : DAt M pc .ixor 1 q) (h : Runs C M k n q P (.int (x ^^^ y) :: S) G Q) : Runs C M k n pc P (.int y :: .int x :: S) G Q :=
  zz d (fun p e s m args below meth c T locs L hx hd hP X t r => XS.ixor (g := mkF m pc L (.int y :: .int x :: S)) X.here hx rfl hd rfl r) h
theorem Runs.ladd {x y : Int64} (d : DAt M pc .ladd 1 q) (h : Runs C M k n q P (.long (x + y) :: S) G Q) : Runs C M k n pc P (.long y :: .long x :: S) G Q :=
  zz d (fun p e s m args below meth c T locs L hx hd hP X t r => XS.ladd (g := mkF m pc L (.long y :: .long x :: S)) X.here hx rfl hd rfl r) h
theorem Runs.lsub {x y : Int64} (d : DAt M pc .lsub 1 q) (h : Runs C M k n q P (.long (x - y) :: S) G Q) : Runs C M k n pc P (.long y :: .long x :: S) G Q :=
  zz d (fun p e s m args below meth c T locs L hx hd hP X t r => XS.lsub (g := mkF m pc L (.long y :: .long x :: S)) X.here hx rfl hd rfl r) h
theorem Runs.lmul {x y : Int64} (d : DAt M pc .lmul 1 q) (h : Runs C M k n q P (.long (x * y) :: S) G Q) : Runs C M k n pc P (.long y :: .long x :: S) G Q :=
  zz d (fun p e s m args below meth c T locs L hx hd hP X t r => XS.lmul (g := mkF m pc L (.long y :: .long x :: S)) X.here hx rfl hd rfl r) h
theorem Runs.land {x y : Int64} (d : DAt M pc .land 1 q) (h : Runs C M k n q P (.long (x &&& y) :: S) G Q) : Runs C M k n pc P (.long y :: .long x :: S) G Q :=
  zz d (fun p e s m args below meth c T locs L hx hd hP X t r => XS.land (g := mkF m pc L (.long y :: .long x :: S)) X.here hx rfl hd rfl r) h
theorem Runs.lor {x y : Int64} (d : DAt M pc .lor 1 q) (h : Runs C M k n q P (.long (x ||| y) :: S) G Q) : Runs C M k n pc P (.long y :: .long x :: S) G Q :=
  zz d (fun p e s m args below meth c T locs L hx hd hP X t r => XS.lor (g := mkF m pc L (.long y :: .long x :: S)) X.here hx rfl hd rfl r) h
theorem Runs.lxor {x y : Int64} (d : DAt M pc .lxor 1 q) (h : Runs C M k n q P (.long (x ^^^ y) :: S) G Q) : Runs C M k n pc P (.long y :: .long x :: S) G Q :=
  zz d (fun p e s m args below meth c T locs L hx hd hP X t r => XS.lxor (g := mkF m pc L (.long y :: .long x :: S)) X.here hx rfl hd rfl r) h
theorem Runs.ishl {x : Int32} {y : Int32} (d : DAt M pc .ishl 1 q) (h : Runs C M k n q P (.int (x <<< (y &&& 31)) :: S) G Q) : Runs C M k n pc P (.int y :: .int x :: S) G Q :=
  zz d (fun p e s m args below meth c T locs L hx hd hP X t r => XS.ishl (g := mkF m pc L (.int y :: .int x :: S)) X.here hx rfl hd rfl r) h
theorem Runs.ishr {x : Int32} {y : Int32} (d : DAt M pc .ishr 1 q) (h : Runs C M k n q P (.int (x >>> (y &&& 31)) :: S) G Q) : Runs C M k n pc P (.int y :: .int x :: S) G Q :=
  zz d (fun p e s m args below meth c T locs L hx hd hP X t r => XS.ishr (g := mkF m pc L (.int y :: .int x :: S)) X.here hx rfl hd rfl r) h
theorem Runs.iushr {x : Int32} {y : Int32} (d : DAt M pc .iushr 1 q) (h : Runs C M k n q P (.int ((x.toUInt32 >>> (y &&& 31).toUInt32).toInt32) :: S) G Q) : Runs C M k n pc P (.int y :: .int x :: S) G Q :=
  zz d (fun p e s m args below meth c T locs L hx hd hP X t r => XS.iushr (g := mkF m pc L (.int y :: .int x :: S)) X.here hx rfl hd rfl r) h
theorem Runs.lshl {x : Int64} {y : Int32} (d : DAt M pc .lshl 1 q) (h : Runs C M k n q P (.long (x <<< (y &&& 0x3f).toInt64) :: S) G Q) : Runs C M k n pc P (.int y :: .long x :: S) G Q :=
  zz d (fun p e s m args below meth c T locs L hx hd hP X t r => XS.lshl (g := mkF m pc L (.int y :: .long x :: S)) X.here hx rfl hd rfl r) h
theorem Runs.lshr {x : Int64} {y : Int32} (d : DAt M pc .lshr 1 q) (h : Runs C M k n q P (.long (x >>> (y &&& 0x3f).toInt64) :: S) G Q) : Runs C M k n pc P (.int y :: .long x :: S) G Q :=
  zz d (fun p e s m args below meth c T locs L hx hd hP X t r => XS.lshr (g := mkF m pc L (.int y :: .long x :: S)) X.here hx rfl hd rfl r) h
theorem Runs.lushr {x : Int64} {y : Int32} (d : DAt M pc .lushr 1 q) (h : Runs C M k n q P (.long ((x.toUInt64 >>> (y &&& 0x3f).toInt64.toUInt64).toInt64) :: S) G Q) : Runs C M k n pc P (.int y :: .long x :: S) G Q :=
  zz d (fun p e s m args below meth c T locs L hx hd hP X t r => XS.lushr (g := mkF m pc L (.int y :: .long x :: S)) X.here hx rfl hd rfl r) h
theorem Runs.ineg {x : Int32} (d : DAt M pc .ineg 1 q) (h : Runs C M k n q P (.int (-x) :: S) G Q) : Runs C M k n pc P (.int x :: S) G Q :=
  zz d (fun p e s m args below meth c T locs L hx hd hP X t r => XS.ineg (g := mkF m pc L (.int x :: S)) X.here hx rfl hd rfl r) h
theorem Runs.lneg {x : Int64} (d : DAt M pc .lneg 1 q) (h : Runs C M k n q P (.long (-x) :: S) G Q) : Runs C M k n pc P (.long x :: S) G Q :=
  zz d (fun p e s m args below meth c T locs L hx hd hP X t r => XS.lneg (g := mkF m pc L (.long x :: S)) X.here hx rfl hd rfl r) h
theorem Runs.i2l {x : Int32} (d : DAt M pc .i2l 1 q) (h : Runs C M k n q P (.long x.toInt64 :: S) G Q) : Runs C M k n pc P (.int x :: S) G Q :=
  zz d (fun p e s m args below meth c T locs L hx hd hP X t r => XS.i2l (g := mkF m pc L (.int x :: S)) X.here hx rfl hd rfl r) h
theorem Runs.l2i {x : Int64} (d : DAt M pc .l2i 1 q) (h : Runs C M k n q P (.int x.toInt32 :: S) G Q) : Runs C M k n pc P (.long x :: S) G Q :=
  zz d (fun p e s m args below meth c T locs L hx hd hP X t r => XS.l2i (g := mkF m pc L (.long x :: S)) X.here hx rfl hd rfl r) h
theorem Runs.lcmp {x y : Int64} (d : DAt M pc .lcmp 1 q) (h : Runs C M k n q P (.int (lcmpW x y) :: S) G Q) : Runs C M k n pc P (.long y :: .long x :: S) G Q :=
  zz d (fun p e s m args below meth c T locs L hx hd hP X t r => XS.lcmp (g := mkF m pc L (.long y :: .long x :: S)) X.here hx rfl hd rfl r) h
theorem Runs.idiv {x y : Int32} (d : DAt M pc .idiv 1 q) (hy : y ≠ 0) (h : Runs C M k n q P (.int (x / y) :: S) G Q) : Runs C M k n pc P (.int y :: .int x :: S) G Q :=
  zz d (fun p e s m args below meth c T locs L hx hd hP X t r => XS.idiv (g := mkF m pc L (.int y :: .int x :: S)) X.here hx rfl hd rfl hy r) h
theorem Runs.irem {x y : Int32} (d : DAt M pc .irem 1 q) (hy : y ≠ 0) (h : Runs C M k n q P (.int (x % y) :: S) G Q) : Runs C M k n pc P (.int y :: .int x :: S) G Q :=
  zz d (fun p e s m args below meth c T locs L hx hd hP X t r => iremM (g := mkF m pc L (.int y :: .int x :: S)) X hx rfl hd rfl hy r) h
theorem Runs.dup {x : Value} (d : DAt M pc .dup 1 q) (hc : x.category = 1) (h : Runs C M k n q P (x :: x :: S) G Q) : Runs C M k n pc P (x :: S) G Q :=
  zz d (fun p e s m args below meth c T locs L hx hd hP X t r => XS.dup (g := mkF m pc L (x :: S)) X.here hx rfl hd rfl hc r) h
theorem Runs.dup2 {x y : Value} (d : DAt M pc .dup2 1 q) (hc : x.category = 1) (hc' : y.category = 1) (h : Runs C M k n q P (x :: y :: x :: y :: S) G Q) : Runs C M k n pc P (x :: y :: S) G Q :=
  zz d (fun p e s m args below meth c T locs L hx hd hP X t r => Jvm.Free.XT.dup2 (g := mkF m pc L (x :: y :: S)) X.here hx rfl hd rfl hc hc' r) h
theorem Runs.pop {x : Value} (d : DAt M pc .pop 1 q) (hc : x.category = 1) (h : Runs C M k n q P S G Q) : Runs C M k n pc P (x :: S) G Q :=
  zz d (fun p e s m args below meth c T locs L hx hd hP X t r => XS.pop (g := mkF m pc L (x :: S)) X.here hx rfl hd rfl hc r) h
theorem zo {o : Int} {pc' : Nat} (d : DAt M pc (.goto o) 3 q) (ho : 0 ≤ (pc : Int) + o ∧ ((pc : Int) + o).toNat = pc') (h : Runs C M k n pc' P S G Q) : Runs C M k n pc P S G Q :=
  zD d (fun p e s m args below meth c T locs L hw hx hown hZ hd hP hsz _ X => ⟨L, hP, hsz, fun t r => XS.goto (g := mkF m pc L S) X.here hx rfl (pc0 := pc) rfl hd ho.1 ho.2 r⟩) h
theorem zk {cd : ClassFile.Cond} {x : Int32} {o : Int} {pc' : Nat} (d : DAt M pc (.ifCond cd o) 3 q) (hc : if_icmp.holds cd x 0 = true) (ho : 0 ≤ (pc : Int) + o ∧ ((pc : Int) + o).toNat = pc') (h : Runs C M k n pc' P S G Q) : Runs C M k n pc P (.int x :: S) G Q :=
  zD d (fun p e s m args below meth c T locs L hw hx hown hZ hd hP hsz _ X => ⟨L, hP, hsz, fun t r => XS.ifYes (g := mkF m pc L (.int x :: S)) X.here hx rfl (pc0 := pc) rfl hd rfl ((if0 _ _).trans hc) ho.1 ho.2 r⟩) h
theorem zl {cd : ClassFile.Cond} {x : Int32} {o : Int} (d : DAt M pc (.ifCond cd o) 3 q) (hc : if_icmp.holds cd x 0 = false) (h : Runs C M k n q P S G Q) : Runs C M k n pc P (.int x :: S) G Q :=
  zz d (fun p e s m args below meth c T locs L hx hd hP X t r => XS.ifNo (g := mkF m pc L (.int x :: S)) X.here hx rfl hd rfl ((if0 _ _).trans hc) r) h
theorem zf {cd : ClassFile.Cond} {x y : Int32} {o : Int} {pc' : Nat} (d : DAt M pc (.if_icmp cd o) 3 q) (hc : if_icmp.holds cd x y = true) (ho : 0 ≤ (pc : Int) + o ∧ ((pc : Int) + o).toNat = pc') (h : Runs C M k n pc' P S G Q) : Runs C M k n pc P (.int y :: .int x :: S) G Q :=
  zD d (fun p e s m args below meth c T locs L hw hx hown hZ hd hP hsz _ X => ⟨L, hP, hsz, fun t r => XS.icmpYes (g := mkF m pc L (.int y :: .int x :: S)) X.here hx rfl (pc0 := pc) rfl hd rfl hc ho.1 ho.2 r⟩) h
theorem zg {cd : ClassFile.Cond} {x y : Int32} {o : Int} (d : DAt M pc (.if_icmp cd o) 3 q) (hc : if_icmp.holds cd x y = false) (h : Runs C M k n q P S G Q) : Runs C M k n pc P (.int y :: .int x :: S) G Q :=
  zz d (fun p e s m args below meth c T locs L hx hd hP X t r => XS.icmpNo (g := mkF m pc L (.int y :: .int x :: S)) X.here hx rfl hd rfl hc r) h
theorem Runs.tswI {dflt low high : Int} {offs : Array Int} {len : Nat} {o : Int} {pc' : Nat} {i : Int32} (d : DAt M pc (.tableswitch dflt low high offs) len q) (hin : ¬ (i.toInt < low ∨ i.toInt > high)) (hoff : offs[(i.toInt - low).toNat]? = some o) (ho : 0 ≤ (pc : Int) + o ∧ ((pc : Int) + o).toNat = pc') (h : Runs C M k n pc' P S G Q) : Runs C M k n pc P (.int i :: S) G Q :=
  zD d (fun p e s m args below meth c T locs L hw hx hown hZ hd hP hsz _ X => ⟨L, hP, hsz, fun t r => XS.tswIn (g := mkF m pc L (.int i :: S)) X.here hx rfl (pc0 := pc) rfl hd rfl hin hoff ho.1 ho.2 r⟩) h
theorem Runs.tswO {dflt low high : Int} {offs : Array Int} {len : Nat} {pc' : Nat} {i : Int32} (d : DAt M pc (.tableswitch dflt low high offs) len q) (hout : i.toInt < low ∨ i.toInt > high) (ho : 0 ≤ (pc : Int) + dflt ∧ ((pc : Int) + dflt).toNat = pc') (h : Runs C M k n pc' P S G Q) : Runs C M k n pc P (.int i :: S) G Q :=
  zD d (fun p e s m args below meth c T locs L hw hx hown hZ hd hP hsz _ X => ⟨L, hP, hsz, fun t r => XS.tswOut (g := mkF m pc L (.int i :: S)) X.here hx rfl (pc0 := pc) rfl hd rfl hout ho.1 ho.2 r⟩) h
theorem zr {j : Fin 4} {x : Int32} (d : DAt M pc (.istore_n j) 1 q) (hi : j.val < M.2.2.1) (hP' : ps1 P j.val (.int x) = P') (h : Runs C M k n q P' S G Q) : Runs C M k n pc P (.int x :: S) G Q := by
  have hq := d.2
  subst hq hP'
  refine zD d (fun p e s m args below meth c T locs L hw hx hown hZ hd hP hsz _ X => ?_) h
  obtain ⟨L', e1, e2, e3⟩ := hP.store1 (i := j.val) (v := .int x) (by omega) rfl
  exact ⟨L', e3, e2.trans hsz, fun t r => XS.istoreN (g := mkF m pc L (.int x :: S)) X.here hx rfl hd rfl e1 r⟩
theorem zi {j : Nat} {x : Int32} (d : DAt M pc (.istore j) 2 q) (hi : j < M.2.2.1) (hP' : ps1 P j (.int x) = P') (h : Runs C M k n q P' S G Q) : Runs C M k n pc P (.int x :: S) G Q := by
  have hq := d.2
  subst hq hP'
  refine zD d (fun p e s m args below meth c T locs L hw hx hown hZ hd hP hsz _ X => ?_) h
  obtain ⟨L', e1, e2, e3⟩ := hP.store1 (i := j) (v := .int x) (by omega) rfl
  exact ⟨L', e3, e2.trans hsz, fun t r => XS.istore (g := mkF m pc L (.int x :: S)) X.here hx rfl hd rfl e1 r⟩
theorem Runs.astoreN {j : Fin 4} {x : Nat} (d : DAt M pc (.astore_n j) 1 q) (hi : j.val < M.2.2.1) (hP' : ps1 P j.val (.ref x) = P') (h : Runs C M k n q P' S G Q) : Runs C M k n pc P (.ref x :: S) G Q := by
  have hq := d.2
  subst hq hP'
  refine zD d (fun p e s m args below meth c T locs L hw hx hown hZ hd hP hsz _ X => ?_) h
  obtain ⟨L', e1, e2, e3⟩ := hP.store1 (i := j.val) (v := .ref x) (by omega) rfl
  exact ⟨L', e3, e2.trans hsz, fun t r => XS.astoreN (g := mkF m pc L (.ref x :: S)) X.here hx rfl hd rfl rfl e1 r⟩
theorem Runs.astore {j : Nat} {x : Nat} (d : DAt M pc (.astore j) 2 q) (hi : j < M.2.2.1) (hP' : ps1 P j (.ref x) = P') (h : Runs C M k n q P' S G Q) : Runs C M k n pc P (.ref x :: S) G Q := by
  have hq := d.2
  subst hq hP'
  refine zD d (fun p e s m args below meth c T locs L hw hx hown hZ hd hP hsz _ X => ?_) h
  obtain ⟨L', e1, e2, e3⟩ := hP.store1 (i := j) (v := .ref x) (by omega) rfl
  exact ⟨L', e3, e2.trans hsz, fun t r => XS.astore (g := mkF m pc L (.ref x :: S)) X.here hx rfl hd rfl rfl e1 r⟩
theorem Runs.lstoreN {j : Fin 4} {x : Int64} (d : DAt M pc (.lstore_n j) 1 q) (hi : j.val + 1 < M.2.2.1) (hP' : ps2 P j.val (.long x) = P') (h : Runs C M k n q P' S G Q) : Runs C M k n pc P (.long x :: S) G Q := by
  have hq := d.2
  subst hq hP'
  refine zD d (fun p e s m args below meth c T locs L hw hx hown hZ hd hP hsz _ X => ?_) h
  obtain ⟨L', e1, e2, e3⟩ := hP.store2 (i := j.val) (v := .long x) (by omega) rfl
  exact ⟨L', e3, e2.trans hsz, fun t r => XS.lstoreN (g := mkF m pc L (.long x :: S)) X.here hx rfl hd rfl e1 r⟩
theorem Runs.lstore {j : Nat} {x : Int64} (d : DAt M pc (.lstore j) 2 q) (hi : j + 1 < M.2.2.1) (hP' : ps2 P j (.long x) = P') (h : Runs C M k n q P' S G Q) : Runs C M k n pc P (.long x :: S) G Q := by
  have hq := d.2
  subst hq hP'
  refine zD d (fun p e s m args below meth c T locs L hw hx hown hZ hd hP hsz _ X => ?_) h
  obtain ⟨L', e1, e2, e3⟩ := hP.store2 (i := j) (v := .long x) (by omega) rfl
  exact ⟨L', e3, e2.trans hsz, fun t r => XS.lstore (g := mkF m pc L (.long x :: S)) X.here hx rfl hd rfl e1 r⟩
theorem zv {j : Nat} {cst : Int} {x v : Int32} (d : DAt M pc (.iinc j cst) 3 q) (hv : Int32.ofInt cst = v) (hl : pget P j = vi x) (hi : j < M.2.2.1) (hP' : ps1 P j (.int (x + v)) = P') (h : Runs C M k n q P' S G Q) : Runs C M k n pc P S G Q := by
  have hq := d.2
  subst hq hP' hv
  refine zD d (fun p e s m args below meth c T locs L hw hx hown hZ hd hP hsz _ X => ?_) h
  obtain ⟨L', e1, e2, e3⟩ := hP.store1 (i := j) (v := .int (x + Int32.ofInt cst)) (by omega) rfl
  exact ⟨L', e3, e2.trans hsz, fun t r => XS.iinc (g := mkF m pc L S) X.here hx rfl hd (hP.1 _ _ hl) e1 r⟩
/-- less is known of the locals -/
def psub : Pat → Pat → Prop
  | [], _ => True
  | none :: l, _ :: l' => psub l l'
  | some s :: l, y :: l' => y = some s ∧ psub l l'
  | none :: l, [] => psub l []
  | some _ :: _, [] => False
theorem psub_get : ∀ (P P' : Pat), psub P P' → ∀ i s, pget P i = some s → pget P' i = some s
  | [], _, _, i, s, h => by simp [pget] at h
  | none :: l, _ :: l', H, 0, s, h => by simp [pget] at h
  | none :: l, _ :: l', H, i + 1, s, h => psub_get l l' H i s h
  | some x :: l, y :: l', H, 0, s, h => by rw [show y = some x from H.1]; exact h
  | some x :: l, y :: l', H, i + 1, s, h => psub_get l l' H.2 i s h
  | none :: l, [], H, 0, s, h => by simp [pget] at h
  | none :: l, [], H, i + 1, s, h => by have := psub_get l [] H i s h; simp [pget] at this
  | some _ :: _, [], H, _, _, _ => H.elim
theorem Runs.weak (hP : psub P' P) (h : Runs C M k n pc P' S G Q) : Runs C M k n pc P S G Q := by
  intro hw p e s m args below meth c T locs L hx hby hml hret hnm hown hZ hf
  exact h hw p e s m args below meth c T locs L hx hby hml hret hnm hown hZ ⟨fun i s hi => hf.1 i s (psub_get _ _ hP i s hi), hf.2⟩
theorem Runs.swap {top : Nat} {x y : Nat × Nat × Rec} {H : List (Nat × Nat × Rec)} (h : Runs C M k n pc P S (top, y :: x :: H) Q) : Runs C M k n pc P S (top, x :: y :: H) Q := by
  intro hw p e s m args below meth c T locs L hx hby hml hret hnm hown hZ hf hsz X hR hF
  exact h hw p e s m args below meth c T locs L hx hby hml hret hnm hown hZ hf hsz X hR.swap hF
end Rules
/- the steps that touch the heap -/
section Made
variable {p : Program} {l : Launch} {e : Env} {R : Room} {s : State} {m : MethodId} {args : Array Value} {below : List Frame} {meth : Method} {c : Code} {T : State} {locs : List Loc} {cells slots : Nat} {Z : State} {a0 : Array Value}
theorem ext_push (h : Heap) (x : Cell) : Ext h (h.push x) := ⟨by simp, fun a c q => by rw [Array.getElem?_push_lt (Array.getElem?_eq_some_iff.mp q).1]; exact (Array.getElem?_eq_getElem _).symm.trans q⟩
/-- 'new', with the heap's size behind it -/
theorem new1 (X : Stand p l e R s m args below meth c T locs cells slots) (hx : p.tables.exec = Jvm.exec) (hZ : Z.Warmed39 s.vm) {own C : String} {index n : Nat} (hown : s.vm.findClass own = some m.cls) (w : (Jvm.Cond.classLink own index C).before a0 Z = true) (wi : (Jvm.Cond.instantiable C n).before a0 Z = true) (wz : (Jvm.Cond.initialized C).before a0 Z = true)
    {g : JFrame} (hg : g.method = m) (hd : decode c.code g.pc = .ok (.new index, 3)) (hc : cells + 1 ≤ R.cells) (hl : slots + n ≤ R.slots) :
    ∃ T', Stand p l e R s m args below meth c T' locs (cells + 1) (slots + n) ∧ T'.heap.size = T.heap.size + 1 ∧ Ext T.heap T'.heap ∧ Exa Z T'.heap T.heap.size C ∧ (∀ {O nm d : String} {ty : FieldType}, Laid Z a0 C O nm d → parseFieldDescriptor d = some ty → Fld Z T'.heap T.heap.size O nm d (defaultValue ty)) ∧
      ∀ target, Steps p.tables e below (T'.setTop { g with pc := g.pc + 3, stack := .ref T.heap.size :: g.stack }) target → Steps p.tables e below (T.setTop g) target := by
  obtain ⟨vm', cC, kC, h1, h2, h3, h4, X', st⟩ := X.newCold hx hown (mv hZ w) (mv hZ wi) (mv hZ wz) hg hd hc hl
  rw [hZ.alike.findClass] at h1
  obtain ⟨kZ, z1, -⟩ := Vm.findClass_spec h1
  obtain ⟨k', z2, z3⟩ := hZ.alike.2.2 _ _ z1
  have ek : kC.instanceTypes = kZ.instanceTypes := by rw [Option.some.inj (h2.symm.trans z2), z3]
  obtain ⟨cell, hcell⟩ : ∃ cell : Cell, cell = { cls := cC, slots := kC.instanceTypes.map defaultValue, vm := .none } := ⟨_, rfl⟩
  rw [← hcell] at X' st
  have hp : ((T.setVm vm').pushCell cell).heap = T.heap.push cell := rfl
  have at' : (T.heap.push cell)[T.heap.size]? = some cell := by simp
  refine ⟨_, X', by rw [hp]; simp, by rw [hp]; exact ext_push _ _, ?_, fun {O nm d ty} L ht => ?_, st⟩
  · rw [hp]; exact ⟨cell, kZ, at', by rw [hcell]; exact h1, by rw [hcell]; exact z1, by rw [hcell]; rfl, fun _ => by rw [hcell]; simp [ek]⟩
  · rw [hp]
    obtain ⟨c1, k1, cf, kf, i, f, a1, a2, a3, a4, a5, a6, -⟩ := L.spec
    cases h1.symm.trans a1
    cases z1.symm.trans a2
    refine ⟨cell, cf, kf, i, f, at', a3, a4, by rw [hcell]; simp, by rw [hcell]; rfl, by rw [hcell]; exact a5, ?_⟩
    rw [hcell]; simp [ek, a6, (State.fieldFound?_type a3 ht).2]
theorem newArr1 (X : Stand p l e R s m args below meth c T locs cells slots) (hx : p.tables.exec = Jvm.exec) (hZ : Z.Warmed39 s.vm) {aty : ArrayType} (w : (Jvm.Cond.arrayClass (newarray.typeOf aty)).before a0 Z = true) {g : JFrame} (hg : g.method = m) (hd : decode c.code g.pc = .ok (.newarray aty, 2)) {n : Int32} {rest : List Value} (hs : g.stack = .int n :: rest)
    (hn : ¬ n < 0) (hb : n.toNatClampNeg * 8 ≤ 536870912) (hc : cells + 1 ≤ R.cells) (hl : slots + n.toNatClampNeg ≤ R.slots) :
    ∃ T' cA, Stand p l e R s m args below meth c T' locs (cells + 1) (slots + n.toNatClampNeg) ∧ T'.heap.size = T.heap.size + 1 ∧ Ext T.heap T'.heap ∧ Arr Z T'.heap T.heap.size (newA cA (newarray.typeOf aty) n) (newarray.typeOf aty) ∧
      ∀ target, Steps p.tables e below (T'.setTop { g with pc := g.pc + 2, stack := .ref T.heap.size :: rest }) target → Steps p.tables e below (T.setTop g) target := by
  have hcb : componentBytes (newarray.typeOf aty) ≤ 8 := by cases aty <;> decide
  obtain ⟨cA, kA, comp, h1, h2, h3, X', st⟩ := X.newarrayPrim hx (mvA hZ w) hg hd hs hn (Nat.le_trans (Nat.mul_le_mul_left _ hcb) hb) hc hl
  rw [hZ.alike.findClass] at h1
  obtain ⟨kZ, z1, -⟩ := Vm.findClass_spec h1
  obtain ⟨k', z2, z3⟩ := hZ.alike.2.2 _ _ z1
  have ek : kA.kind = kZ.kind := by rw [Option.some.inj (h2.symm.trans z2), z3]
  have hp : (T.pushCell (newA cA (newarray.typeOf aty) n)).heap = T.heap.push (newA cA (newarray.typeOf aty) n) := rfl
  refine ⟨T.pushCell (newA cA (newarray.typeOf aty) n), cA, X', by rw [hp]; simp, by rw [hp]; exact ext_push _ _, ?_, st⟩
  rw [hp]
  exact ⟨by simp, ⟨by simp [newA], kZ, z1, comp, by rw [← ek]; exact h3⟩, by simp [newA]⟩
end Made
section Heap
variable {C : Ctx} {M : Bdy} {k n pc q : Nat} {P P' : Pat} {S S' : List Value} {G : AH} {Q : Option Value → AH → Prop} {top : Nat} {a : Nat} {qq j idx : Nat} {ob : Rec} {H : List (Nat × Nat × Rec)} {nm ds : String}
theorem zs (d : DAt M pc (.getfield idx) 3 q) (w : Jvm.Cond.fieldLink M.1.cls idx K.1 nm ds ∈ tables_1) (hk : K.2.1[j]? = some (nm, ds)) (h : Runs C M k n q P (.int (gI ob j) :: S) (top, (a, qq, ob) :: H) Q) : Runs C M k n pc P (.ref a :: S) (top, (a, qq, ob) :: H) Q := by
  intro hw p e s m args below meth c T locs L hx hby hml hret hnm hown hZ hf hsz X hR hF
  have hq := d.2
  subst hq
  obtain ⟨T1, X1, e1, st1⟩ := getF X hx hZ hown (host := "") (Or.inl (hw _ w)) Via.refl rfl (hR.objs.2.2.2.1 j _ hk) (g := mkF m pc L (.ref a :: S)) rfl rfl (hb hby d.1)
  obtain ⟨T', locs', k', n', r, G', g1, g2, g3, g4, g5, g6, g7, g8⟩ := h hw p e s m args below meth c T1 locs L hx hby hml hret hnm hown hZ hf hsz X1 (by rw [e1]; exact hR) hF
  exact ⟨T', locs', k', n', r, G', g1, g2, g3, g4, g5, g6, g7, fun fs hr => st1 _ (g8 fs hr)⟩
theorem ze {ty : FieldType} {len : Int32} (d : DAt M pc (.getfield idx) 3 q) (hk : K.2.2[j]? = some (nm, ty, len)) (w : Jvm.Cond.fieldLink M.1.cls idx K.1 nm (aD ty) ∈ tables_1) (hq : j < qq) (h : Runs C M k n q P (.ref (a + 1 + j) :: S) (top, (a, qq, ob) :: H) Q) : Runs C M k n pc P (.ref a :: S) (top, (a, qq, ob) :: H) Q := by
  intro hw p e s m args below meth c T locs L hx hby hml hret hnm hown hZ hf hsz X hR hF
  have hqq := d.2
  subst hqq
  obtain ⟨T1, X1, e1, st1⟩ := getF X hx hZ hown (host := "") (Or.inl (hw _ w)) Via.refl rfl (hR.objs.2.2.2.2.1 j _ hk hq).1 (g := mkF m pc L (.ref a :: S)) rfl rfl (hb hby d.1)
  obtain ⟨T', locs', k', n', r, G', g1, g2, g3, g4, g5, g6, g7, g8⟩ := h hw p e s m args below meth c T1 locs L hx hby hml hret hnm hown hZ hf hsz X1 (by rw [e1]; exact hR) hF
  exact ⟨T', locs', k', n', r, G', g1, g2, g3, g4, g5, g6, g7, fun fs hr => st1 _ (g8 fs hr)⟩
theorem lw_of {Z : State} {a0 : Array Value} {meth : Method} (hw : ∀ d ∈ tables_1, d.before a0 Z = true) {C O n d own : String} (h : Jvm.Cond.lays C O n d ∈ tables_1 ∨ Jvm.Cond.laysFinal C O n d ∈ tables_1) (hc : Jvm.Cond.lays C O n d ∈ tables_1 ∨ (own = O ∧ meth.name = "<init>")) : (Jvm.Cond.lays C O n d).before a0 Z = true ∨ ((Jvm.Cond.laysFinal C O n d).before a0 Z = true ∧ own = O ∧ meth.name = "<init>") := by
  rcases hc with hc | hc
  · exact Or.inl (hw _ hc)
  · exact h.imp (hw _) (fun u => ⟨hw _ u, hc⟩)
/-- a field that may be written here: not final, or in a constructor of its class -/
def Mine (M : Bdy) (nm ds : String) : Prop := Jvm.Cond.lays K.1 K.1 nm ds ∈ tables_1 ∨ (M.1.cls = K.1 ∧ M.1.name = "<init>")
theorem zB {x : Int32} (d : DAt M pc (.putfield idx) 3 q) (w : Jvm.Cond.fieldLink M.1.cls idx K.1 nm "I" ∈ tables_1) (hk : K.2.1[j]? = some (nm, "I")) (hm : Mine M nm "I") (h : Runs C M k n q P S (top, (a, qq, sI ob j x) :: H) Q) : Runs C M k n pc P (.int x :: .ref a :: S) (top, (a, qq, ob) :: H) Q := by
  intro hw p e s m args below meth c T locs L hx hby hml hret hnm hown hZ hf hsz X hR hF
  have hqq := d.2
  subst hqq
  obtain ⟨T1, h1, X1, e1, W1, st1⟩ := putF X hx hZ hown (host := "") (Or.inl (hw _ w)) Via.refl rfl (hR.objs.2.2.2.1 j _ hk) hR.objs.2.2.1 (lw_of hw ((All.mem kS (List.mem_of_getElem? hk)).1) (hm.imp id (fun u => ⟨u.1, hnm.trans u.2⟩))) (hw _ kI) (ty := .int) (by decide) rfl rfl (g := mkF m pc L (.int x :: .ref a :: S)) rfl rfl (hb hby d.1)
  obtain ⟨T', locs', k', n', r, G', g1, g2, g3, g4, g5, g6, g7, g8⟩ := h hw p e s m args below meth c T1 _ L hx hby hml hret hnm hown hZ hf hsz X1 (by rw [e1]; exact hR.putI hw hk W1) (Fr.snoc X1 hF hR.objs.1)
  exact ⟨T', locs', k', n', r, G', g1, g2, g3, g4, g5, g6, g7, fun fs hr => st1 _ (g8 fs hr)⟩
theorem Runs.putZ {x y : Int32} (d : DAt M pc (.putfield idx) 3 q) (w : Jvm.Cond.fieldLink M.1.cls idx K.1 nm "Z" ∈ tables_1) (hk : K.2.1[j]? = some (nm, "Z")) (hm : Mine M nm "Z") (hy : nar .boolean x = y) (h : Runs C M k n q P S (top, (a, qq, sI ob j y) :: H) Q) : Runs C M k n pc P (.int x :: .ref a :: S) (top, (a, qq, ob) :: H) Q := by
  subst hy
  intro hw p e s m args below meth c T locs L hx hby hml hret hnm hown hZ hf hsz X hR hF
  have hqq := d.2
  subst hqq
  obtain ⟨T1, h1, X1, e1, W1, st1⟩ := putFN X hx hZ hown (hw _ w) Via.refl rfl (hR.objs.2.2.2.1 j _ hk) hR.objs.2.2.1 (lw_of hw ((All.mem kS (List.mem_of_getElem? hk)).1) (hm.imp id (fun u => ⟨u.1, hnm.trans u.2⟩))) (hw _ kI) (ty := .boolean) (v' := .int (nar .boolean x)) (by decide) rfl (fits_nar_bool _) (g := mkF m pc L (.int x :: .ref a :: S)) rfl rfl (hb hby d.1)
  obtain ⟨T', locs', k', n', r, G', g1, g2, g3, g4, g5, g6, g7, g8⟩ := h hw p e s m args below meth c T1 _ L hx hby hml hret hnm hown hZ hf hsz X1 (by rw [e1]; exact hR.putI hw hk W1) (Fr.snoc X1 hF hR.objs.1)
  exact ⟨T', locs', k', n', r, G', g1, g2, g3, g4, g5, g6, g7, fun fs hr => st1 _ (g8 fs hr)⟩
theorem zh {i len : Int32} (d : DAt M pc .iaload 1 q) (hk : K.2.2[j]? = some (nm, .int, len)) (hq : j < qq) (hi : ¬ i < 0 ∧ i < len) (h : Runs C M k n q P (.int (gA ob j i) :: S) (top, (a, qq, ob) :: H) Q) : Runs C M k n pc P (.int i :: .ref (a + 1 + j) :: S) (top, (a, qq, ob) :: H) Q := by
  have hqq := d.2
  subst hqq
  refine zD d (fun p e s m args below meth c T locs L hw hx hown hZ hd hP hsz hR X => ⟨L, hP, hsz, fun t r => ?_⟩) h
  obtain ⟨cl, A, Sz, V⟩ := (hR.objs.2.2.2.2.1 j _ hk hq).2
  exact X.iaload hx (j := i) (v := .int (gA ob j i)) A.1 (State.isArrayOf_alike hZ.alike A.2.1) A.2.2 (inb_of Sz hi) (V i hi.1 hi.2) (g := mkF m pc L (.int i :: .ref (a + 1 + j) :: S)) rfl rfl hd _ r
theorem Runs.baloadA {i len : Int32} (d : DAt M pc .baload 1 q) (hk : K.2.2[j]? = some (nm, .boolean, len)) (hq : j < qq) (hi : ¬ i < 0 ∧ i < len) (h : Runs C M k n q P (.int (gA ob j i) :: S) (top, (a, qq, ob) :: H) Q) : Runs C M k n pc P (.int i :: .ref (a + 1 + j) :: S) (top, (a, qq, ob) :: H) Q := by
  have hqq := d.2
  subst hqq
  refine zD d (fun p e s m args below meth c T locs L hw hx hown hZ hd hP hsz hR X => ⟨L, hP, hsz, fun t r => ?_⟩) h
  obtain ⟨cl, A, Sz, V⟩ := (hR.objs.2.2.2.2.1 j _ hk hq).2
  exact X.baloadBooleans hx (j := i) (v := .int (gA ob j i)) A.1 (State.isArrayOf_alike hZ.alike A.2.1) A.2.2 (inb_of Sz hi) (V i hi.1 hi.2) (g := mkF m pc L (.int i :: .ref (a + 1 + j) :: S)) rfl rfl hd _ r
theorem Runs.laloadA {i len : Int32} (d : DAt M pc .laload 1 q) (hk : K.2.2[j]? = some (nm, .long, len)) (hq : j < qq) (hi : ¬ i < 0 ∧ i < len) (h : Runs C M k n q P (.long (gJ ob j i) :: S) (top, (a, qq, ob) :: H) Q) : Runs C M k n pc P (.int i :: .ref (a + 1 + j) :: S) (top, (a, qq, ob) :: H) Q := by
  have hqq := d.2
  subst hqq
  refine zD d (fun p e s m args below meth c T locs L hw hx hown hZ hd hP hsz hR X => ⟨L, hP, hsz, fun t r => ?_⟩) h
  obtain ⟨cl, A, Sz, V⟩ := (hR.objs.2.2.2.2.1 j _ hk hq).2
  exact X.laload hx (j := i) (v := .long (gJ ob j i)) A.1 (State.isArrayOf_alike hZ.alike A.2.1) A.2.2 (inb_of Sz hi) (V i hi.1 hi.2) (g := mkF m pc L (.int i :: .ref (a + 1 + j) :: S)) rfl rfl hd _ r
theorem zq {i x len : Int32} (d : DAt M pc .iastore 1 q) (hk : K.2.2[j]? = some (nm, .int, len)) (hq : j < qq) (hi : ¬ i < 0 ∧ i < len) (h : Runs C M k n q P S (top, (a, qq, sA ob j i x) :: H) Q) : Runs C M k n pc P (.int x :: .int i :: .ref (a + 1 + j) :: S) (top, (a, qq, ob) :: H) Q := by
  intro hw p e s m args below meth c T locs L hx hby hml hret hnm hown hZ hf hsz X hR hF
  have hqq := d.2
  subst hqq
  obtain ⟨cl, A, Sz, V⟩ := (hR.objs.2.2.2.2.1 j _ hk hq).2
  obtain ⟨T1, h1, X1, e1, W1, st1⟩ := stI X hx hZ rfl A (j := i) (x := x) (inb_of Sz hi) (g := mkF m pc L (.int x :: .int i :: .ref (a + 1 + j) :: S)) rfl rfl (hb hby d.1)
  obtain ⟨T', locs', k', n', r, G', g1, g2, g3, g4, g5, g6, g7, g8⟩ := h hw p e s m args below meth c T1 _ L hx hby hml hret hnm hown hZ hf hsz X1 (by rw [e1]; exact hR.putA hk hq (by simp) hi W1) (Fr.snoc X1 hF (by have := hR.objs.1; omega))
  exact ⟨T', locs', k', n', r, G', g1, g2, g3, g4, g5, g6, g7, fun fs hr => st1 _ (g8 fs hr)⟩
theorem Runs.bastoreA {i x len : Int32} (d : DAt M pc .bastore 1 q) (hk : K.2.2[j]? = some (nm, .boolean, len)) (hq : j < qq) (hi : ¬ i < 0 ∧ i < len) {y : Int32} (hy : nar .boolean x = y) (h : Runs C M k n q P S (top, (a, qq, sA ob j i y) :: H) Q) : Runs C M k n pc P (.int x :: .int i :: .ref (a + 1 + j) :: S) (top, (a, qq, ob) :: H) Q := by
  subst hy
  intro hw p e s m args below meth c T locs L hx hby hml hret hnm hown hZ hf hsz X hR hF
  have hqq := d.2
  subst hqq
  obtain ⟨cl, A, Sz, V⟩ := (hR.objs.2.2.2.2.1 j _ hk hq).2
  obtain ⟨T1, h1, X1, e1, W1, st1⟩ := stZ X hx hZ rfl A (j := i) (x := x) (inb_of Sz hi) (g := mkF m pc L (.int x :: .int i :: .ref (a + 1 + j) :: S)) rfl rfl (hb hby d.1)
  obtain ⟨T', locs', k', n', r, G', g1, g2, g3, g4, g5, g6, g7, g8⟩ := h hw p e s m args below meth c T1 _ L hx hby hml hret hnm hown hZ hf hsz X1 (by rw [e1]; exact hR.putA hk hq (by simp) hi W1) (Fr.snoc X1 hF (by have := hR.objs.1; omega))
  exact ⟨T', locs', k', n', r, G', g1, g2, g3, g4, g5, g6, g7, fun fs hr => st1 _ (g8 fs hr)⟩
theorem Runs.lastoreA {i len : Int32} {x : Int64} (d : DAt M pc .lastore 1 q) (hk : K.2.2[j]? = some (nm, .long, len)) (hq : j < qq) (hi : ¬ i < 0 ∧ i < len) (h : Runs C M k n q P S (top, (a, qq, sJ ob j i x) :: H) Q) : Runs C M k n pc P (.long x :: .int i :: .ref (a + 1 + j) :: S) (top, (a, qq, ob) :: H) Q := by
  intro hw p e s m args below meth c T locs L hx hby hml hret hnm hown hZ hf hsz X hR hF
  have hqq := d.2
  subst hqq
  obtain ⟨cl, A, Sz, V⟩ := (hR.objs.2.2.2.2.1 j _ hk hq).2
  obtain ⟨T1, h1, X1, e1, W1, st1⟩ := stJ X hx hZ rfl A (j := i) (x := x) (inb_of Sz hi) (g := mkF m pc L (.long x :: .int i :: .ref (a + 1 + j) :: S)) rfl rfl (hb hby d.1)
  obtain ⟨T', locs', k', n', r, G', g1, g2, g3, g4, g5, g6, g7, g8⟩ := h hw p e s m args below meth c T1 _ L hx hby hml hret hnm hown hZ hf hsz X1 (by rw [e1]; exact hR.putJ hk hq rfl hi W1) (Fr.snoc X1 hF (by have := hR.objs.1; omega))
  exact ⟨T', locs', k', n', r, G', g1, g2, g3, g4, g5, g6, g7, fun fs hr => st1 _ (g8 fs hr)⟩
/-- the script: an array that stood before the law began -/
def ScrF (C : Ctx) (sa : Nat) (z : Int32) (f : Int32 → Int32) : Prop := ∃ cl : Cell, Scr C.2.1 C.2.1.heap sa cl z ∧ f = atv cl
theorem Runs.lenS {sa : Nat} {z : Int32} {f : Int32 → Int32} (hs : ScrF C sa z f) (d : DAt M pc .arraylength 1 q) (h : Runs C M k n q P (.int z :: S) G Q) : Runs C M k n pc P (.ref sa :: S) G Q := by
  have hqq := d.2
  subst hqq
  refine zD d (fun p e s m args below meth c T locs L hw hx hown hZ hd hP hsz hR X => ⟨L, hP, hsz, fun t r => ?_⟩) h
  obtain ⟨cl, F, -⟩ := hs
  obtain ⟨A, Sz, N, V⟩ := F.ext hR.2.1.2
  exact X.arraylength hx A.1 (State.isArrayOf_alike hZ.alike A.2.1) (g := mkF m pc L (.ref sa :: S)) rfl rfl hd _ (by rw [len_of Sz N]; exact r)
theorem Runs.ialoadS {sa : Nat} {z i : Int32} {f : Int32 → Int32} (hs : ScrF C sa z f) (d : DAt M pc .iaload 1 q) (hi : ¬ i < 0 ∧ i < z) (h : Runs C M k n q P (.int (f i) :: S) G Q) : Runs C M k n pc P (.int i :: .ref sa :: S) G Q := by
  have hqq := d.2
  subst hqq
  refine zD d (fun p e s m args below meth c T locs L hw hx hown hZ hd hP hsz hR X => ⟨L, hP, hsz, fun t r => ?_⟩) h
  obtain ⟨cl, F, rfl⟩ := hs
  obtain ⟨A, Sz, N, V⟩ := F.ext hR.2.1.2
  exact X.iaload hx (j := i) (v := .int (atv cl i)) A.1 (State.isArrayOf_alike hZ.alike A.2.1) A.2.2 (inb_of Sz hi) (V i (inb_of Sz hi)) (g := mkF m pc L (.int i :: .ref sa :: S)) rfl rfl hd _ r
/- leaving -/
theorem zn {v : Int32} (d : DAt M pc .ireturn 1 q) (hret : M.2.2.2.1 = some .int) (hk : k ≤ M.2.2.2.2.cells ∧ n ≤ M.2.2.2.2.slots) (hQ : Q (some (.int v)) G) : Runs C M k n pc P (.int v :: S) G Q := by
  intro hw p e s m args below meth c T locs L hx hby hml hr0 hnm hown hZ hf hsz X hR hF
  exact ⟨T, locs, k, n, _, G, X, hk.1, hk.2, hR, hF, hQ, (fun u => by rw [hret] at u; cases u), fun fs hr => Jvm.RoadKit.retI X hx (hr0.trans hret) (hb hby d.1) hr⟩
theorem zw {v : Int32} (d : DAt M pc .ireturn 1 q) (hret : M.2.2.2.1 = some .boolean) (hk : k ≤ M.2.2.2.2.cells ∧ n ≤ M.2.2.2.2.slots) {y : Int32} (hy : nar .boolean v = y) (hQ : Q (some (.int y)) G) : Runs C M k n pc P (.int v :: S) G Q := by
  subst hy
  intro hw p e s m args below meth c T locs L hx hby hml hr0 hnm hown hZ hf hsz X hR hF
  exact ⟨T, locs, k, n, _, G, X, hk.1, hk.2, hR, hF, hQ, (fun u => by rw [hret] at u; cases u), fun fs hr => retN X hx (t := .boolean) (hr0.trans hret) (by simp) (hb hby d.1) hr⟩
theorem Runs.retJ {v : Int64} (d : DAt M pc .lreturn 1 q) (hret : M.2.2.2.1 = some .long) (hk : k ≤ M.2.2.2.2.cells ∧ n ≤ M.2.2.2.2.slots) (hQ : Q (some (.long v)) G) : Runs C M k n pc P (.long v :: []) G Q := by
  intro hw p e s m args below meth c T locs L hx hby hml hr0 hnm hown hZ hf hsz X hR hF
  exact ⟨T, locs, k, n, _, G, X, hk.1, hk.2, hR, hF, hQ, (fun u => by rw [hret] at u; cases u), fun fs hr => X.lreturnOut hx (hr0.trans hret) (hb hby d.1) hr⟩
theorem zt (d : DAt M pc .return_ 1 q) (hret : M.2.2.2.1 = none) (hk : k ≤ M.2.2.2.2.cells ∧ n ≤ M.2.2.2.2.slots) (hQ : Q none G) : Runs C M k n pc P [] G Q := by
  intro hw p e s m args below meth c T locs L hx hby hml hr0 hnm hown hZ hf hsz X hR hF
  exact ⟨T, locs, k, n, _, G, X, hk.1, hk.2, hR, hF, hQ, (fun _ => rfl), fun fs hr => X.returnOut hx (hr0.trans hret) (hb hby d.1) hr⟩
/- a new object, and the arrays that its constructor makes -/
theorem Runs.newK (d : DAt M pc (.new idx) 3 q) (w : Jvm.Cond.classLink M.1.cls idx K.1 ∈ tables_1) (hc : k + 1 ≤ M.2.2.2.2.cells ∧ n + kN ≤ M.2.2.2.2.slots) {k' n' : Nat} (hk' : k + 1 = k') (hn' : n + kN = n') {H : List (Nat × Nat × Rec)} (hd : ∀ x ∈ H, x.1 + x.2.1 < top) (h : Runs C M k' n' q P (.ref top :: S) (top + 1, (top, 0, zrec) :: H) Q) : Runs C M k n pc P S (top, H) Q := by
  subst hk' hn'
  intro hw p e s m args below meth c T locs L hx hby hml hr0 hnm hown hZ hf hsz X hR hF
  have hqq := d.2
  subst hqq
  obtain ⟨T2, X2, s2, E2, A2, D2, st2⟩ := new1 X hx hZ hown (hw _ w) (hw _ kI) (hw _ kZ) (g := mkF m pc L S) rfl (hb hby d.1) hc.1 hc.2
  have hs : T.heap.size = top := hR.1
  rw [hs] at A2 D2 st2 s2
  have hR2 : Rep C.2.1 C.2.2.1 T2.heap (top + 1, (top, 0, zrec) :: H) := by
    refine ⟨s2, hR.2.1.ext E2, fun x hx' => ?_, ?_⟩
    · rcases List.mem_cons.mp hx' with rfl | hx'
      · refine ⟨?_, by simp, A2, fun k nd hk => ?_, fun k t hk hq => by simp at hq, fun k t hk hq => ?_⟩
        · have := hR.2.1.2.1; rw [hR.2.1.1] at this; simp only; omega
        · rcases (All.mem kS (List.mem_of_getElem? hk)).2 with e | e
          · have := D2 (laidS hw hk) (ty := .int) (by rw [e]; decide); exact this
          · have := D2 (laidS hw hk) (ty := .boolean) (by rw [e]; decide); exact this
        · have := D2 (laidA hw hk) (pfA hk); exact this
      · obtain ⟨p1, p2, p3⟩ := hR.2.2.1 x hx'
        exact ⟨p1, by simp only at p2 ⊢; omega, p3.ext E2⟩
    · exact List.pairwise_cons.mpr ⟨fun y hy => Or.inr (hd y hy), hR.2.2.2⟩
  obtain ⟨T', locs', k', n', r, G', g1, g2, g3, g4, g5, g6, g7, g8⟩ := h hw p e s m args below meth c T2 _ L hx hby hml hr0 hnm hown hZ hf hsz X2 hR2 hF
  exact ⟨T', locs', k', n', r, G', g1, g2, g3, g4, g5, g6, g7, fun fs hr => st2 _ (g8 fs hr)⟩
/-- newarray and the putfield behind it: the next array of an object that is being made -/
theorem zx {aty : ArrayType} {ty : FieldType} {len : Int32} {q1 : Nat} (d : DAt M pc (.newarray aty) 2 q1) (d' : DAt M q1 (.putfield idx) 3 q) (hk : K.2.2[j]? = some (nm, ty, len)) (w : Jvm.Cond.fieldLink M.1.cls idx K.1 nm (aD ty) ∈ tables_1) (ht : newarray.typeOf aty = ty) (wa : Jvm.Cond.arrayClass ty ∈ tables_1) (hm : Mine M nm (aD ty))
    (htop : top = a + 1 + j) (hlen : ¬ len < 0 ∧ len.toNatClampNeg * 8 ≤ 536870912) (hc : k + 1 ≤ M.2.2.2.2.cells ∧ n + len.toNatClampNeg ≤ M.2.2.2.2.slots) (hz : (∀ i, ob.2.1 j i = 0) ∧ (∀ i, ob.2.2 j i = 0)) {j' top' k' n' : Nat} (hj' : j + 1 = j') (ht' : top + 1 = top') (hk' : k + 1 = k') (hn' : n + len.toNatClampNeg = n')
    (h : Runs C M k' n' q P S (top', (a, j', ob) :: H) Q) : Runs C M k n pc P (.int len :: .ref a :: S) (top, (a, j, ob) :: H) Q := by
  subst hj' ht' hk' hn'
  intro hw p e s m args below meth c T locs L hx hby hml hr0 hnm hown hZ hf hsz X hR hF
  have hqq := d.2
  have hqq' := d'.2
  subst hqq hqq' ht
  obtain ⟨T1, cA, X1, s1, E1, A1, st1⟩ := newArr1 X hx hZ (hw _ wa) (g := mkF m pc L (.int len :: .ref a :: S)) rfl (hb hby d.1) rfl hlen.1 hlen.2 hc.1 hc.2
  have hs : T.heap.size = top := hR.1
  rw [hs] at A1 st1 s1
  have O1 := hR.objs.2.2.ext E1
  obtain ⟨T2, h2, X2, e2, W2, st2⟩ := putF X1 hx hZ hown (host := "") (Or.inl (hw _ w)) Via.refl rfl (O1.2.2.2 j _ hk (Nat.le_refl _)) O1.1 (lw_of hw ((All.mem kA (List.mem_of_getElem? hk)).1) (hm.imp id (fun u => ⟨u.1, hnm.trans u.2⟩))) (hw _ kI) (ty := .array (newarray.typeOf aty)) (pfA hk) rfl rfl (g := mkF m (pc + 2) L (.ref top :: .ref a :: S)) rfl rfl (hb hby d'.1)
  have hts : (newarray.typeOf aty = .int ∨ newarray.typeOf aty = .boolean ∨ newarray.typeOf aty = .long) := (All.mem kA (List.mem_of_getElem? hk)).2.1
  have hA := arr_new A1 hts hz
  have hR2 : Rep C.2.1 C.2.2.1 T2.heap (top + 1, (a, j + 1, ob) :: H) := by rw [e2]; exact hR.addA hw E1 s1 htop hk hA W2
  obtain ⟨T', locs', k', n', r, G', g1, g2, g3, g4, g5, g6, g7, g8⟩ := h hw p e s m args below meth c T2 _ L hx hby hml hr0 hnm hown hZ hf hsz X2 hR2 (Fr.snoc X2 hF hR.objs.1)
  exact ⟨T', locs', k', n', r, G', g1, g2, g3, g4, g5, g6, g7, fun fs hr => st1 _ (st2 _ (g8 fs hr))⟩
theorem Runs.initO {W : Nat} (d : DAt M pc (.invokespecial idx) 3 q) (w1 : Jvm.Cond.methodLink M.1.cls idx Lib.objectInit ∈ tables_1) (w2 : Jvm.Cond.instanceMethod Lib.objectInit ∈ tables_1) (w3 : Jvm.Cond.code Lib.objectInit ⟨#[0xb1]⟩ 1 none ∈ tables_1) (hW : (S.map fun v => v.category).sum = W) (hc : 1 ≤ M.2.2.2.2.frames ∧ W + 12 ≤ M.2.2.2.2.locals) (h : Runs C M k n q P S G Q) : Runs C M k n pc P (.ref a :: S) G Q := by
  intro hw p e s m args below meth c T locs L hx hby hml hr0 hnm hown hZ hf hsz X hR hF
  have hqq := d.2
  subst hqq
  obtain ⟨T1, X1, e1, st1⟩ := Jvm.RoadKit.initO X hx hZ hown (hw _ w1) (hw _ w2) (hw _ w3) rfl (g := mkF m pc L (.ref a :: S)) rfl (by rw [hml]; exact hsz) rfl (hb hby d.1) hc.1 (W := W) (by show 2 * 0 + _ ≤ _; omega) hc.2
  obtain ⟨T', locs', k', n', r, G', g1, g2, g3, g4, g5, g6, g7, g8⟩ := h hw p e s m args below meth c T1 _ L hx hby hml hr0 hnm hown hZ hf hsz X1 (by rw [e1]; exact hR) hF
  exact ⟨T', locs', k', n', r, G', g1, g2, g3, g4, g5, g6, g7, fun fs hr => st1 _ (g8 fs hr)⟩
end Heap
/- a body's contract, and the calls that are paid by one -/
def Pays (C : Ctx) (N : Bdy) (as : List Value) (G : AH) (Q : Option Value → AH → Prop) : Prop :=
  Ok C → ∀ h0 : Heap, Rep C.2.1 C.2.2.1 h0 G → ∀ ws : List Jvm.Cond, MetFree C.1 N.1 (head1 (Jvm.Cond.code N.1 N.2.1 N.2.2.1 N.2.2.2.1 :: ws) N.2.2.2.2) (fun a U => a = as.toArray ∧ C.2.1.Warmed39 U.vm ∧ U.heap = h0) (fun _ _ _ _ _ => True)
    (fun _ U o U' => ∃ v L, o = .returned v ∧ (Fr C.2.2.1 L ∧ ∃ G', Rep C.2.1 C.2.2.1 U'.heap G' ∧ Q v G') ∧ FrameEnd U o U' L N.2.2.2.2.cells N.2.2.2.2.slots)
def lay : List Value → List Slot
  | [] => []
  | v :: l => if v.category = 2 then .val v :: .second :: lay l else .val v :: lay l
theorem lay_foldl (l : List Value) : ∀ acc : Array Slot, (l.foldl (fun acc v => if v.category = 2 then (acc.push (.val v)).push .second else acc.push (.val v)) acc).toList = acc.toList ++ lay l := by
  induction l with
  | nil => intro acc; simp [lay]
  | cons v l ih =>
    intro acc
    rw [List.foldl_cons, ih]
    by_cases h : v.category = 2 <;> simp [lay, h]
theorem args_lay (as : List Value) (ml : Nat) : argsToLocals as.toArray ml = (lay as ++ List.replicate (ml - (lay as).length) Slot.unset).toArray := by
  have h := lay_foldl as #[]
  apply Array.ext'
  simp only [argsToLocals, Array.toList_append, List.toList_toArray] at *
  rw [show (as.toArray.foldl (init := #[]) fun acc v => if v.category = 2 then (acc.push (Slot.val v)).push .second else acc.push (.val v)).toList = lay as by simpa using h]
  congr 1
  rw [← Array.length_toList, show (as.toArray.foldl (init := #[]) fun acc v => if v.category = 2 then (acc.push (Slot.val v)).push .second else acc.push (.val v)).toList = lay as by simpa using h]
  simp
def WFL (l : List Slot) : Prop := (∀ i : Nat, l[i]? = some .second → ∃ (j : Nat) (v : Value), i = j + 1 ∧ l[j]? = some (.val v) ∧ v.category = 2) ∧ (∀ (i : Nat) (v : Value), l[i]? = some (.val v) → v.category = 2 → l[i + 1]? = some .second)
theorem WFL.unset (n : Nat) : WFL (List.replicate n Slot.unset) := by
  refine ⟨fun i h => ?_, fun i v h => ?_⟩ <;> (rw [List.getElem?_replicate] at h; split at h <;> cases h)
theorem WFL.one {l : List Slot} {v : Value} (h : WFL l) (hv : v.category ≠ 2) : WFL (.val v :: l) := by
  refine ⟨fun i hi => ?_, fun i w hi hw => ?_⟩
  · cases i with
    | zero => simp at hi
    | succ i =>
      obtain ⟨j, w, e1, e2, e3⟩ := h.1 i (by simpa using hi)
      exact ⟨j + 1, w, by omega, by simpa using e2, e3⟩
  · cases i with
    | zero => simp at hi; subst hi; exact absurd hw hv
    | succ i => have := h.2 i w (by simpa using hi) hw; simpa using this
theorem WFL.two {l : List Slot} {v : Value} (h : WFL l) (hv : v.category = 2) : WFL (.val v :: .second :: l) := by
  refine ⟨fun i hi => ?_, fun i w hi hw => ?_⟩
  · match i, hi with
    | 0, hi => simp at hi
    | 1, hi => exact ⟨0, v, rfl, by simp, hv⟩
    | i + 2, hi =>
      obtain ⟨j, w, e1, e2, e3⟩ := h.1 i (by simpa using hi)
      exact ⟨j + 2, w, by omega, by simpa using e2, e3⟩
  · match i, hi with
    | 0, hi => simp
    | 1, hi => simp at hi
    | i + 2, hi => have := h.2 i w (by simpa using hi) hw; simpa using this
theorem WFL.lay (as : List Value) (n : Nat) : WFL (lay as ++ List.replicate n Slot.unset) := by
  induction as with
  | nil => exact WFL.unset n
  | cons v l ih =>
    by_cases h : v.category = 2
    · simpa [Jvm.Pilot.@@N@@.lay, h] using ih.two h
    · simpa [Jvm.Pilot.@@N@@.lay, h] using ih.one h
def pforget : List Bool → Pat → Pat
  | [], _ => []
  | _, [] => []
  | true :: ms, x :: l => x :: pforget ms l
  | false :: ms, _ :: l => none :: pforget ms l
theorem pforget_get : ∀ (ms : List Bool) (P : Pat) (i : Nat) (s : Slot), pget (pforget ms P) i = some s → pget P i = some s
  | [], _, i, s, h => by simp [pforget, pget] at h
  | _ :: _, [], i, s, h => by simp [pforget, pget] at h
  | true :: ms, x :: l, 0, s, h => h
  | true :: ms, x :: l, i + 1, s, h => pforget_get ms l i s h
  | false :: ms, x :: l, 0, s, h => by simp [pforget, pget] at h
  | false :: ms, x :: l, i + 1, s, h => pforget_get ms l i s h
section Calls
variable {C : Ctx} {M N : Bdy} {k n pc q : Nat} {P P' : Pat} {S S' : List Value} {G G1 : AH} {Q : Option Value → AH → Prop} {top : Nat} {a : Nat} {qq j idx W : Nat} {ob : Rec} {H : List (Nat × Nat × Rec)} {as : List Value}
theorem zp (ms : List Bool) (hP : pforget ms P = P') (h : Runs C M k n pc P' S G Q) : Runs C M k n pc P S G Q := by
  intro hw p e s m args below meth c T locs L hx hby hml hret hnm hown hZ hf
  subst hP
  exact h hw p e s m args below meth c T locs L hx hby hml hret hnm hown hZ ⟨fun i s hi => hf.1 i s (pforget_get _ _ i s hi), hf.2⟩
theorem Pays.of (hpl : plainName N.1.cls = true) (hml : (lay as).length ≤ N.2.2.1) (x : Nat) (hP : (lay as).map some ++ List.replicate x none = P) (h : Runs C N 0 0 0 P [] G Q) : Pays C N as G Q := by
  intro hw h0 hR ws
  refine MetFree.of_bodySF (plainFor_of_name hpl) hisR ?_
  intro p e s m args below meth c s₁ Bd hml0 hp hK
  obtain ⟨rfl, hZ, hh⟩ := hp
  have X0 : Stand p C.1 e N.2.2.2.2 s m as.toArray below meth c s₁ [] 0 0 := Stand.of_body Bd
  have e0 : s₁.heap = h0 := by rw [← hh, Bd.state]; rfl
  obtain ⟨L, hL⟩ : ∃ L : Array Slot, L = (lay as ++ List.replicate (N.2.2.1 - (lay as).length) Slot.unset).toArray := ⟨_, rfl⟩
  have hfit : Fits P L := by
    subst hP hL
    refine ⟨fun i s hi => ?_, ?_⟩
    · rw [pget_eq] at hi
      cases hq : (lay as)[i]? with
      | none =>
        rw [List.getElem?_append_right (by simpa using hq), List.getElem?_replicate] at hi
        split at hi <;> simp at hi
      | some y =>
        have hlt := (List.getElem?_eq_some_iff.mp hq).1
        rw [List.getElem?_append_left (by simpa using hlt), List.getElem?_map, hq] at hi
        have this : y = s := by simpa using hi
        simp only [List.getElem?_toArray]
        rw [List.getElem?_append_left hlt, hq, this]
    · have := WFL.lay as (N.2.2.1 - (lay as).length)
      refine ⟨fun i hi => ?_, fun i v hi hv => ?_⟩
      · rw [List.getElem?_toArray] at hi
        obtain ⟨j, v, e1, e2, e3⟩ := this.1 i hi
        exact ⟨j, v, e1, by rw [List.getElem?_toArray]; exact e2, e3⟩
      · rw [List.getElem?_toArray] at hi ⊢
        exact this.2 i v hi hv
  obtain ⟨T', locs', k', n', r, G', g1, g2, g3, g4, g5, g6, g7, g8⟩ := h hw p e s m as.toArray below meth c s₁ [] L Bd.exec Bd.bytes hml0 Bd.returns (name_of_methodNamed Bd.named Bd.method).1 (findClass_of_methodNamed Bd.named) hZ hfit (by rw [hL]; simp; omega) X0 (by rw [e0]; exact hR) (Fr.nil _)
  obtain ⟨fs, hr, hrun, hended, hW, hsame⟩ := g1.leave (v := r) (fun u => g7 (by rw [← Bd.returns]; exact u))
  refine ⟨_, _, ?_, hrun, hended, _, _, rfl, ⟨g5, G', ?_, g6⟩, ⟨_, rfl⟩, hW, hsame.mono g2 g3⟩
  · have ef : entryFrame m as.toArray N.2.2.1 = mkF m 0 L [] := by
      rw [hL, ← args_lay]; rfl
    rw [ef]; exact g8 fs hr
  · exact g4
abbrev room_al (M N : Bdy) (W k n : Nat) : Prop := N.2.2.2.2.frames + 1 ≤ M.2.2.2.2.frames ∧ W + (N.2.2.1 + 11) + N.2.2.2.2.locals ≤ M.2.2.2.2.locals ∧ k + N.2.2.2.2.cells ≤ M.2.2.2.2.cells ∧ n + N.2.2.2.2.slots ≤ M.2.2.2.2.slots
abbrev room_ok (M N : Bdy) (W : Nat) : Prop := N.2.2.2.2.frames + 1 ≤ M.2.2.2.2.frames ∧ W + (N.2.2.1 + 11) + N.2.2.2.2.locals ≤ M.2.2.2.2.locals ∧ N.2.2.2.2.cells = 0 ∧ N.2.2.2.2.slots = 0
abbrev full_ok (M : Bdy) (k n : Nat) : Prop := k ≤ M.2.2.2.2.cells ∧ n ≤ M.2.2.2.2.slots
theorem room_ok.al (h : room_ok M N W) (f : full_ok M k n) : room_al M N W k n := ⟨h.1, h.2.1, by rw [h.2.2.1]; exact f.1, by rw [h.2.2.2]; exact f.2⟩
abbrev code_w (N : Bdy) : Prop := Jvm.Cond.code N.1 N.2.1 N.2.2.1 N.2.2.2.1 ∈ tables_1 ∧ Jvm.Cond.initialized N.1.cls ∈ tables_1 ∧ (N.1.cls ≠ "java/lang/invoke/MethodHandle" ∧ N.1.cls ≠ "java/lang/invoke/VarHandle")
def arity (N : Bdy) (na : Nat) : Prop := ∃ ps r, parseMethodDescriptor N.1.desc = some ⟨ps, r⟩ ∧ na = ps.length
theorem arity.len {na : Nat} (h : arity N na) (e : as.length = na) : ∀ sig, parseMethodDescriptor N.1.desc = some sig → as.length = sig.parameters.length := by
  obtain ⟨ps, r, h1, h2⟩ := h
  exact lenOf h1 (e.trans h2)
theorem after_call {v : Option Value} {p : Program} {e : Env} {s : State} {m : MethodId} {args : Array Value} {below : List Frame} {meth : Method} {c : Code} {T T0 : State} {locs : List Loc} {L : Array Slot} {QN : Option Value → AH → Prop} {Lc : List Loc}
    (hw : Ok C) (hx : p.tables.exec = Jvm.exec) (hby : c.code = M.2.1) (hml : c.maxLocals = M.2.2.1) (hret : meth.sig.returnType = M.2.2.2.1) (hnm : meth.name = M.1.name) (hown : s.vm.findClass M.1.cls = some m.cls) (hZ : C.2.1.Warmed39 s.vm) (hf : Fits P L) (hsz : L.size = M.2.2.1) (hF : Fr C.2.2.1 locs)
    (X : Stand p C.1 e M.2.2.2.2 s m args below meth c T (locs ++ Lc) (k + N.2.2.2.2.cells) (n + N.2.2.2.2.slots)) (hQ : Fr C.2.2.1 Lc ∧ ∃ G', Rep C.2.1 C.2.2.1 T.heap G' ∧ QN v G')
    (h : ∀ v G', QN v G' → Runs C M (k + N.2.2.2.2.cells) (n + N.2.2.2.2.slots) (pc + 3) P (v.toList ++ S') G' Q)
    (st : ∀ t, Steps p.tables e below (T.setTop (mkF m (pc + 3) L (v.toList ++ S'))) t → Steps p.tables e below (T0.setTop (mkF m pc L S)) t) :
    ∃ (T' : State) (locs' : List Loc) (k' n' : Nat) (r : Option Value) (G' : AH), Stand p C.1 e M.2.2.2.2 s m args below meth c T' locs' k' n' ∧ k' ≤ M.2.2.2.2.cells ∧ n' ≤ M.2.2.2.2.slots ∧ Rep C.2.1 C.2.2.1 T'.heap G' ∧ Fr C.2.2.1 locs' ∧ Q r G' ∧
      (M.2.2.2.1 = none → r = none) ∧
      ∀ fs : List Frame, (∀ (f : JFrame) (acts : List Action), f.method = m → f.locked = none → f.entered = [] → (doReturn e (T'.setTop f) acts r).1 = T'.setFrames fs) → Steps p.tables e below (T0.setTop (mkF m pc L S)) (T'.setFrames fs) := by
  obtain ⟨f1, G', f2, f3⟩ := hQ
  obtain ⟨T', locs', k', n', r, G'', g1, g2, g3, g4, g5, g6, g7, g8⟩ := h v G' f3 hw p e s m args below meth c T _ L hx hby hml hret hnm hown hZ hf hsz X f2 (Fr.app hF f1)
  exact ⟨T', locs', k', n', r, G'', g1, g2, g3, g4, g5, g6, g7, fun fs hr => st _ (g8 fs hr)⟩
theorem Runs.callS {QN : Option Value → AH → Prop} (d : DAt M pc (.invokestatic idx) 3 q) (wl : Jvm.Cond.methodLink M.1.cls idx N.1 ∈ tables_1) (wt : Jvm.Cond.static N.1 ∈ tables_1) (wc : code_w N) (ar : arity N as.length) (hr0 : room_ok M N W) (hfull : full_ok M k n) (hS : S = as.reverse ++ S') (hW : (S'.map fun v => v.category).sum = W)
    (hN : Pays C N as G QN) (h : ∀ v G', QN v G' → Runs C M k n q P (v.toList ++ S') G' Q) : Runs C M k n pc P S G Q := by
  intro hw p e s m args below meth c T locs L hx hby hml hret hnm hown hZ hf hsz X hR hF
  have hq := d.2
  subst hq hS
  have hr := hr0.al hfull
  obtain ⟨_, _, ⟨T1, L1, k1, n1⟩, -, X1, ⟨Lc, hQ, l1, y1, z1⟩, st⟩ := Jvm.LawKit.callS X hx (y := N.1) hown (mvT hZ (hw _ wl)) (mvT hZ (hw _ wt)) (mvT hZ (hw _ wc.2.1)) (mvT hZ (hw _ wc.1)) wc.2.2 (backOf (W := W) (Q := fun v h L => Fr C.2.2.1 L ∧ ∃ G', Rep C.2.1 C.2.2.1 h G' ∧ QN v G') (hN hw T.heap hR []) hZ (hw _ wc.1) (hw _ wc.2.1) hr.1 hr.2.1) (g := mkF m pc L (as.reverse ++ S')) rfl (by rw [hml]; exact hsz) (argsL := as) (rest := S') (ar.len rfl) rfl (by show 2 * 0 + _ ≤ _; omega) (hb hby d.1) (fun _ _ => ⟨rfl, rfl, hr.2.2.1, hr.2.2.2⟩)
  dsimp only [Pt.U, Pt.locs, Pt.cells, Pt.slots] at X1 l1 y1 z1 st hQ
  subst l1 y1 z1
  exact after_call hw hx hby hml hret hnm hown hZ hf hsz hF X1 hQ (by rw [hr0.2.2.1, hr0.2.2.2]; exact h) (fun t u => st t u)
theorem Runs.callV {QN : Option Value → AH → Prop} (d : DAt M pc (.invokevirtual idx) 3 q) (wl : Jvm.Cond.methodLink M.1.cls idx N.1 ∈ tables_1) (wd : Jvm.Cond.declares N.1 ∈ tables_1) (wi : Jvm.Cond.instanceMethod N.1 ∈ tables_1) (ws : Jvm.Cond.selects K.1 N.1 N.1 ∈ tables_1) (wc : code_w N) (ar : arity N as.length) (hr0 : room_ok M N W) (hfull : full_ok M k n) (hS : S = as.reverse ++ .ref a :: S') (hW : (S'.map fun v => v.category).sum = W)
    (hN : Pays C N (.ref a :: as) (top, (a, qq, ob) :: H) QN) (h : ∀ v G', QN v G' → Runs C M k n q P (v.toList ++ S') G' Q) : Runs C M k n pc P S (top, (a, qq, ob) :: H) Q := by
  intro hw p e s m args below meth c T locs L hx hby hml hret hnm hown hZ hf hsz X hR hF
  have hq := d.2
  subst hq hS
  have hr := hr0.al hfull
  obtain ⟨cB, kB, u1, -, u3⟩ := isOf hZ rfl hR.objs.2.2.1
  obtain ⟨_, _, ⟨T1, L1, k1, n1⟩, -, X1, ⟨Lc, hQ, l1, y1, z1⟩, st⟩ := X.virtualBack hx (y := N.1) (z := N.1) hown (mvT hZ (hw _ wl)) (mvT hZ (hw _ wd)) (notFace_of_selects (args := #[]) (mvT hZ (hw _ ws))) (mvT hZ (hw _ ws)) (mvT hZ (hw _ wi)) wc.2.2 (backOf (W := W) (Q := fun v h L => Fr C.2.2.1 L ∧ ∃ G', Rep C.2.1 C.2.2.1 h G' ∧ QN v G') (hN hw T.heap hR []) hZ (hw _ wc.1) (hw _ wc.2.1) hr.1 hr.2.1) u1 u3 (g := mkF m pc L (as.reverse ++ .ref a :: S')) rfl (by rw [hml]; exact hsz) (Steps.refl _) (argsL := as) (rest := S') (ar.len rfl) rfl (by show 2 * 0 + _ ≤ _; omega) (hb hby d.1) (fun _ _ => ⟨rfl, rfl, hr.2.2.1, hr.2.2.2⟩)
  dsimp only [Pt.U, Pt.locs, Pt.cells, Pt.slots] at X1 l1 y1 z1 st hQ
  subst l1 y1 z1
  exact after_call hw hx hby hml hret hnm hown hZ hf hsz hF X1 hQ (by rw [hr0.2.2.1, hr0.2.2.2]; exact h) (fun t u => st.trans u)
theorem zm {QN : Option Value → AH → Prop} (d : DAt M pc (.invokevirtual idx) 3 q) (wl : Jvm.Cond.methodLink M.1.cls idx N.1 ∈ tables_1) (wi : Jvm.Cond.instanceMethod N.1 ∈ tables_1) (wp : Jvm.Cond.privateMethod N.1 ∈ tables_1) (wK : N.1.cls = K.1) (wc : code_w N) (ar : arity N as.length) (hr0 : room_ok M N W) (hfull : full_ok M k n) (hS : S = as.reverse ++ .ref a :: S') (hW : (S'.map fun v => v.category).sum = W)
    (hN : Pays C N (.ref a :: as) (top, (a, qq, ob) :: H) QN) (h : ∀ v G', QN v G' → Runs C M k n q P (v.toList ++ S') G' Q) : Runs C M k n pc P S (top, (a, qq, ob) :: H) Q := by
  intro hw p e s m args below meth c T locs L hx hby hml hret hnm hown hZ hf hsz X hR hF
  have hq := d.2
  subst hq hS
  have hr := hr0.al hfull
  obtain ⟨cl, u1, u2⟩ := hR.objs.2.2.1.cell
  have hpr : s.PrivateAt N.1 := Cond.privateMethod_at (mvP hZ (hw _ wp) (args := #[]))
  obtain ⟨c2, k2, i1, i2, i3, i4, -⟩ := Cond.instantiable_spec (mvT (args := args) hZ (hw _ kI))
  have hsel : (Jvm.Cond.selects N.1.cls N.1 N.1).before args s = true := Stand.selects_self_of_private (by rw [wK]; exact i1) i2 (by simp at i4; exact i4.1) hpr (mvT hZ (hw _ wi)) wc.2.2
  obtain ⟨_, _, ⟨T1, L1, k1, n1⟩, -, X1, ⟨Lc, hQ, l1, y1, z1⟩, st⟩ := X.privateBack hx (y := N.1) hown (mvT hZ (hw _ wl)) (mvT hZ (hw _ wi)) hsel hpr (mvT hZ (hw _ wc.1)) wc.2.2 (backOf (W := W) (Q := fun v h L => Fr C.2.2.1 L ∧ ∃ G', Rep C.2.1 C.2.2.1 h G' ∧ QN v G') (hN hw T.heap hR []) hZ (hw _ wc.1) (hw _ wc.2.1) hr.1 hr.2.1) (g := mkF m pc L (as.reverse ++ .ref a :: S')) rfl (by rw [hml]; exact hsz) (Steps.refl _) (a := a) u1 u2 (argsL := as) (rest := S') (ar.len rfl) rfl (by show 2 * 0 + _ ≤ _; omega) (hb hby d.1) (fun _ _ => ⟨rfl, rfl, hr.2.2.1, hr.2.2.2⟩)
  dsimp only [Pt.U, Pt.locs, Pt.cells, Pt.slots] at X1 l1 y1 z1 st hQ
  subst l1 y1 z1
  exact after_call hw hx hby hml hret hnm hown hZ hf hsz hF X1 hQ (by rw [hr0.2.2.1, hr0.2.2.2]; exact h) (fun t u => st.trans u)
theorem Runs.callI {QN : Option Value → AH → Prop} (d : DAt M pc (.invokespecial idx) 3 q) (hi : N.1.name = "<init>") (hn : N.2.2.2.1 = none) (wl : Jvm.Cond.methodLink M.1.cls idx N.1 ∈ tables_1) (wi : Jvm.Cond.instanceMethod N.1 ∈ tables_1) (wc : code_w N) (ar : arity N as.length) (hr : room_al M N W k n) (hS : S = as.reverse ++ .ref a :: S') (hW : (S'.map fun v => v.category).sum = W) {k' n' : Nat} (hk' : k + N.2.2.2.2.cells = k') (hn' : n + N.2.2.2.2.slots = n')
    (hN : Pays C N (.ref a :: as) G QN) (h : ∀ v G', QN v G' → Runs C M k' n' q P (v.toList ++ S') G' Q) : Runs C M k n pc P S G Q := by
  intro hw p e s m args below meth c T locs L hx hby hml hret hnm hown hZ hf hsz X hR hF
  have hq := d.2
  subst hq hS hk' hn'
  have wc1 := hw _ wc.1
  obtain ⟨_, _, ⟨T1, L1, k1, n1⟩, -, X1, ⟨Lc, hQ, l1, y1, z1⟩, st⟩ := X.specialBack hx (y := N.1) hi hown (mvT hZ (hw _ wl)) (mvT hZ (hw _ wi)) (bytes := N.2.1) (maxL := N.2.2.1) (by have := mvT (args := args) hZ wc1; rw [hn] at this; exact this) wc.2.2 (backOf (W := W) (Q := fun v h L => Fr C.2.2.1 L ∧ ∃ G', Rep C.2.1 C.2.2.1 h G' ∧ QN v G') (hN hw T.heap hR []) hZ wc1 (hw _ wc.2.1) hr.1 hr.2.1) (g := mkF m pc L (as.reverse ++ .ref a :: S')) rfl (by rw [hml]; exact hsz) (Steps.refl _) (a := a) (argsL := as) (rest := S') (ar.len rfl) rfl (by show 2 * 0 + _ ≤ _; omega) (hb hby d.1) (fun _ _ => ⟨rfl, rfl, hr.2.2.1, hr.2.2.2⟩)
  dsimp only [Pt.U, Pt.locs, Pt.cells, Pt.slots] at X1 l1 y1 z1 st hQ
  subst l1 y1 z1
  exact after_call hw hx hby hml hret hnm hown hZ hf hsz hF X1 hQ h (fun t u => st.trans u)
/-- the plain form of a contract: one answer, one heap -/
abbrev Ans (r : Option Value) (G1 : AH) : Option Value → AH → Prop := fun v G' => v = r ∧ G' = G1
theorem ans1 {x : Value} {k n : Nat} (h : Runs C M k n pc P (x :: S) G1 Q) : ∀ v G', Ans (some x) G1 v G' → Runs C M k n pc P (v.toList ++ S) G' Q := by
  rintro v G' ⟨rfl, rfl⟩; exact h
theorem ans0 {k n : Nat} (h : Runs C M k n pc P S G1 Q) : ∀ v G', Ans none G1 v G' → Runs C M k n pc P (v.toList ++ S) G' Q := by
  rintro v G' ⟨rfl, rfl⟩; exact h
end Calls
theorem pnK : plainName "QueryRewriter" = true := by first | (simp [plainName, overriddenIn]; done) | decide +kernel
theorem pnL : plainName "QueryRewriterL3" = true := by first | (simp [plainName, overriddenIn]; done) | decide +kernel
theorem w0 : (Jvm.Cond.classLink "QueryRewriterL3" (7 : Nat) "QueryRewriter") ∈ tables_1 := mem1 0 rfl
theorem w3 : (Jvm.Cond.methodLink "QueryRewriterL3" (9 : Nat) ({ cls := "QueryRewriter", name := "<init>", desc := "(II)V" } : Jvm.MethodName)) ∈ tables_1 := mem1 3 rfl
theorem w4 : (Jvm.Cond.instanceMethod ({ cls := "QueryRewriter", name := "<init>", desc := "(II)V" } : Jvm.MethodName)) ∈ tables_1 := mem1 4 rfl
theorem w6 : (Jvm.Cond.methodLink "QueryRewriter" (1 : Nat) ({ cls := "java/lang/Object", name := "<init>", desc := "()V" } : Jvm.MethodName)) ∈ tables_1 := mem1 6 rfl
theorem w7 : (Jvm.Cond.instanceMethod ({ cls := "java/lang/Object", name := "<init>", desc := "()V" } : Jvm.MethodName)) ∈ tables_1 := mem1 7 rfl
theorem w8 : (Jvm.Cond.code ({ cls := "java/lang/Object", name := "<init>", desc := "()V" } : Jvm.MethodName) object_method_1_code (1 : Nat) (Option.none : Option Jvm.ClassFile.FieldType)) ∈ tables_1 := mem1 8 rfl
theorem w9 : (Jvm.Cond.fieldLink "QueryRewriter" (7 : Nat) "QueryRewriter" "tyScan" "I") ∈ tables_1 := mem1 9 rfl
theorem w11 : (Jvm.Cond.fieldLink "QueryRewriter" (13 : Nat) "QueryRewriter" "tySelect" "I") ∈ tables_1 := mem1 11 rfl
theorem w13 : (Jvm.Cond.fieldLink "QueryRewriter" (16 : Nat) "QueryRewriter" "tyProject" "I") ∈ tables_1 := mem1 13 rfl
theorem w15 : (Jvm.Cond.fieldLink "QueryRewriter" (19 : Nat) "QueryRewriter" "tyJoin" "I") ∈ tables_1 := mem1 15 rfl
theorem w17 : (Jvm.Cond.fieldLink "QueryRewriter" (22 : Nat) "QueryRewriter" "tyView" "I") ∈ tables_1 := mem1 17 rfl
theorem w19 : (Jvm.Cond.fieldLink "QueryRewriter" (25 : Nat) "QueryRewriter" "plScan" "I") ∈ tables_1 := mem1 19 rfl
theorem w21 : (Jvm.Cond.fieldLink "QueryRewriter" (28 : Nat) "QueryRewriter" "plJoin" "I") ∈ tables_1 := mem1 21 rfl
theorem w23 : (Jvm.Cond.arrayClass Jvm.ClassFile.FieldType.int) ∈ tables_1 := mem1 23 rfl
theorem w24 : (Jvm.Cond.fieldLink "QueryRewriter" (31 : Nat) "QueryRewriter" "tCols" "[I") ∈ tables_1 := mem1 24 rfl
theorem w25 : (Jvm.Cond.lays "QueryRewriter" "QueryRewriter" "tCols" "[I") ∈ tables_1 := mem1 25 rfl
theorem w26 : (Jvm.Cond.fieldLink "QueryRewriter" (35 : Nat) "QueryRewriter" "tRows" "[I") ∈ tables_1 := mem1 26 rfl
theorem w27 : (Jvm.Cond.lays "QueryRewriter" "QueryRewriter" "tRows" "[I") ∈ tables_1 := mem1 27 rfl
theorem w28 : (Jvm.Cond.fieldLink "QueryRewriter" (38 : Nat) "QueryRewriter" "tCells" "[I") ∈ tables_1 := mem1 28 rfl
theorem w29 : (Jvm.Cond.lays "QueryRewriter" "QueryRewriter" "tCells" "[I") ∈ tables_1 := mem1 29 rfl
theorem w30 : (Jvm.Cond.fieldLink "QueryRewriter" (41 : Nat) "QueryRewriter" "pOp" "[I") ∈ tables_1 := mem1 30 rfl
theorem w31 : (Jvm.Cond.lays "QueryRewriter" "QueryRewriter" "pOp" "[I") ∈ tables_1 := mem1 31 rfl
theorem w32 : (Jvm.Cond.fieldLink "QueryRewriter" (44 : Nat) "QueryRewriter" "pA" "[I") ∈ tables_1 := mem1 32 rfl
theorem w33 : (Jvm.Cond.lays "QueryRewriter" "QueryRewriter" "pA" "[I") ∈ tables_1 := mem1 33 rfl
theorem w34 : (Jvm.Cond.fieldLink "QueryRewriter" (47 : Nat) "QueryRewriter" "pB" "[I") ∈ tables_1 := mem1 34 rfl
theorem w35 : (Jvm.Cond.lays "QueryRewriter" "QueryRewriter" "pB" "[I") ∈ tables_1 := mem1 35 rfl
theorem w36 : (Jvm.Cond.fieldLink "QueryRewriter" (50 : Nat) "QueryRewriter" "pFl" "[I") ∈ tables_1 := mem1 36 rfl
theorem w37 : (Jvm.Cond.lays "QueryRewriter" "QueryRewriter" "pFl" "[I") ∈ tables_1 := mem1 37 rfl
theorem w38 : (Jvm.Cond.fieldLink "QueryRewriter" (53 : Nat) "QueryRewriter" "nType" "[I") ∈ tables_1 := mem1 38 rfl
theorem w39 : (Jvm.Cond.lays "QueryRewriter" "QueryRewriter" "nType" "[I") ∈ tables_1 := mem1 39 rfl
theorem w40 : (Jvm.Cond.fieldLink "QueryRewriter" (56 : Nat) "QueryRewriter" "nWidth" "[I") ∈ tables_1 := mem1 40 rfl
theorem w41 : (Jvm.Cond.lays "QueryRewriter" "QueryRewriter" "nWidth" "[I") ∈ tables_1 := mem1 41 rfl
theorem w42 : (Jvm.Cond.fieldLink "QueryRewriter" (59 : Nat) "QueryRewriter" "nX" "[I") ∈ tables_1 := mem1 42 rfl
theorem w43 : (Jvm.Cond.lays "QueryRewriter" "QueryRewriter" "nX" "[I") ∈ tables_1 := mem1 43 rfl
theorem w44 : (Jvm.Cond.fieldLink "QueryRewriter" (62 : Nat) "QueryRewriter" "nY" "[I") ∈ tables_1 := mem1 44 rfl
theorem w45 : (Jvm.Cond.lays "QueryRewriter" "QueryRewriter" "nY" "[I") ∈ tables_1 := mem1 45 rfl
theorem w46 : (Jvm.Cond.fieldLink "QueryRewriter" (65 : Nat) "QueryRewriter" "nKind" "[I") ∈ tables_1 := mem1 46 rfl
theorem w47 : (Jvm.Cond.lays "QueryRewriter" "QueryRewriter" "nKind" "[I") ∈ tables_1 := mem1 47 rfl
theorem w48 : (Jvm.Cond.fieldLink "QueryRewriter" (68 : Nat) "QueryRewriter" "nPacked" "[I") ∈ tables_1 := mem1 48 rfl
theorem w49 : (Jvm.Cond.lays "QueryRewriter" "QueryRewriter" "nPacked" "[I") ∈ tables_1 := mem1 49 rfl
theorem w50 : (Jvm.Cond.fieldLink "QueryRewriter" (71 : Nat) "QueryRewriter" "nAtStart" "[I") ∈ tables_1 := mem1 50 rfl
theorem w51 : (Jvm.Cond.lays "QueryRewriter" "QueryRewriter" "nAtStart" "[I") ∈ tables_1 := mem1 51 rfl
theorem w52 : (Jvm.Cond.fieldLink "QueryRewriter" (74 : Nat) "QueryRewriter" "nAtCnt" "[I") ∈ tables_1 := mem1 52 rfl
theorem w53 : (Jvm.Cond.lays "QueryRewriter" "QueryRewriter" "nAtCnt" "[I") ∈ tables_1 := mem1 53 rfl
theorem w54 : (Jvm.Cond.fieldLink "QueryRewriter" (77 : Nat) "QueryRewriter" "aOp" "[I") ∈ tables_1 := mem1 54 rfl
theorem w55 : (Jvm.Cond.lays "QueryRewriter" "QueryRewriter" "aOp" "[I") ∈ tables_1 := mem1 55 rfl
theorem w56 : (Jvm.Cond.fieldLink "QueryRewriter" (80 : Nat) "QueryRewriter" "aA" "[I") ∈ tables_1 := mem1 56 rfl
theorem w57 : (Jvm.Cond.lays "QueryRewriter" "QueryRewriter" "aA" "[I") ∈ tables_1 := mem1 57 rfl
theorem w58 : (Jvm.Cond.fieldLink "QueryRewriter" (83 : Nat) "QueryRewriter" "aB" "[I") ∈ tables_1 := mem1 58 rfl
theorem w59 : (Jvm.Cond.lays "QueryRewriter" "QueryRewriter" "aB" "[I") ∈ tables_1 := mem1 59 rfl
theorem w60 : (Jvm.Cond.fieldLink "QueryRewriter" (86 : Nat) "QueryRewriter" "aFl" "[I") ∈ tables_1 := mem1 60 rfl
theorem w61 : (Jvm.Cond.lays "QueryRewriter" "QueryRewriter" "aFl" "[I") ∈ tables_1 := mem1 61 rfl
theorem w62 : (Jvm.Cond.fieldLink "QueryRewriter" (89 : Nat) "QueryRewriter" "viewNode" "[I") ∈ tables_1 := mem1 62 rfl
theorem w63 : (Jvm.Cond.lays "QueryRewriter" "QueryRewriter" "viewNode" "[I") ∈ tables_1 := mem1 63 rfl
theorem w64 : (Jvm.Cond.fieldLink "QueryRewriter" (92 : Nat) "QueryRewriter" "weight" "[I") ∈ tables_1 := mem1 64 rfl
theorem w65 : (Jvm.Cond.lays "QueryRewriter" "QueryRewriter" "weight" "[I") ∈ tables_1 := mem1 65 rfl
theorem w66 : (Jvm.Cond.arrayClass Jvm.ClassFile.FieldType.boolean) ∈ tables_1 := mem1 66 rfl
theorem w67 : (Jvm.Cond.fieldLink "QueryRewriter" (95 : Nat) "QueryRewriter" "reach" "[Z") ∈ tables_1 := mem1 67 rfl
theorem w68 : (Jvm.Cond.lays "QueryRewriter" "QueryRewriter" "reach" "[Z") ∈ tables_1 := mem1 68 rfl
theorem w69 : (Jvm.Cond.fieldLink "QueryRewriter" (99 : Nat) "QueryRewriter" "bag" "[I") ∈ tables_1 := mem1 69 rfl
theorem w70 : (Jvm.Cond.lays "QueryRewriter" "QueryRewriter" "bag" "[I") ∈ tables_1 := mem1 70 rfl
theorem w71 : (Jvm.Cond.fieldLink "QueryRewriter" (102 : Nat) "QueryRewriter" "bagCnt" "[I") ∈ tables_1 := mem1 71 rfl
theorem w72 : (Jvm.Cond.lays "QueryRewriter" "QueryRewriter" "bagCnt" "[I") ∈ tables_1 := mem1 72 rfl
theorem w73 : (Jvm.Cond.fieldLink "QueryRewriter" (105 : Nat) "QueryRewriter" "rowBuf" "[I") ∈ tables_1 := mem1 73 rfl
theorem w74 : (Jvm.Cond.lays "QueryRewriter" "QueryRewriter" "rowBuf" "[I") ∈ tables_1 := mem1 74 rfl
theorem w75 : (Jvm.Cond.fieldLink "QueryRewriter" (108 : Nat) "QueryRewriter" "res" "[I") ∈ tables_1 := mem1 75 rfl
theorem w76 : (Jvm.Cond.lays "QueryRewriter" "QueryRewriter" "res" "[I") ∈ tables_1 := mem1 76 rfl
theorem w77 : (Jvm.Cond.fieldLink "QueryRewriter" (111 : Nat) "QueryRewriter" "plType" "[I") ∈ tables_1 := mem1 77 rfl
theorem w78 : (Jvm.Cond.lays "QueryRewriter" "QueryRewriter" "plType" "[I") ∈ tables_1 := mem1 78 rfl
theorem w79 : (Jvm.Cond.fieldLink "QueryRewriter" (114 : Nat) "QueryRewriter" "plTable" "[I") ∈ tables_1 := mem1 79 rfl
theorem w80 : (Jvm.Cond.lays "QueryRewriter" "QueryRewriter" "plTable" "[I") ∈ tables_1 := mem1 80 rfl
theorem w81 : (Jvm.Cond.fieldLink "QueryRewriter" (117 : Nat) "QueryRewriter" "plLeft" "[I") ∈ tables_1 := mem1 81 rfl
theorem w82 : (Jvm.Cond.lays "QueryRewriter" "QueryRewriter" "plLeft" "[I") ∈ tables_1 := mem1 82 rfl
theorem w83 : (Jvm.Cond.fieldLink "QueryRewriter" (120 : Nat) "QueryRewriter" "plRight" "[I") ∈ tables_1 := mem1 83 rfl
theorem w84 : (Jvm.Cond.lays "QueryRewriter" "QueryRewriter" "plRight" "[I") ∈ tables_1 := mem1 84 rfl
theorem w85 : (Jvm.Cond.fieldLink "QueryRewriter" (123 : Nat) "QueryRewriter" "plKind" "[I") ∈ tables_1 := mem1 85 rfl
theorem w86 : (Jvm.Cond.lays "QueryRewriter" "QueryRewriter" "plKind" "[I") ∈ tables_1 := mem1 86 rfl
theorem w87 : (Jvm.Cond.fieldLink "QueryRewriter" (126 : Nat) "QueryRewriter" "plLen" "[I") ∈ tables_1 := mem1 87 rfl
theorem w88 : (Jvm.Cond.lays "QueryRewriter" "QueryRewriter" "plLen" "[I") ∈ tables_1 := mem1 88 rfl
theorem w89 : (Jvm.Cond.fieldLink "QueryRewriter" (129 : Nat) "QueryRewriter" "plMap" "[I") ∈ tables_1 := mem1 89 rfl
theorem w90 : (Jvm.Cond.lays "QueryRewriter" "QueryRewriter" "plMap" "[I") ∈ tables_1 := mem1 90 rfl
theorem w91 : (Jvm.Cond.fieldLink "QueryRewriter" (132 : Nat) "QueryRewriter" "needMask" "[I") ∈ tables_1 := mem1 91 rfl
theorem w92 : (Jvm.Cond.lays "QueryRewriter" "QueryRewriter" "needMask" "[I") ∈ tables_1 := mem1 92 rfl
theorem w93 : (Jvm.Cond.fieldLink "QueryRewriter" (135 : Nat) "QueryRewriter" "plEmpty" "[Z") ∈ tables_1 := mem1 93 rfl
theorem w94 : (Jvm.Cond.lays "QueryRewriter" "QueryRewriter" "plEmpty" "[Z") ∈ tables_1 := mem1 94 rfl
theorem w95 : (Jvm.Cond.fieldLink "QueryRewriter" (138 : Nat) "QueryRewriter" "head" "[I") ∈ tables_1 := mem1 95 rfl
theorem w96 : (Jvm.Cond.lays "QueryRewriter" "QueryRewriter" "head" "[I") ∈ tables_1 := mem1 96 rfl
theorem w97 : (Jvm.Cond.fieldLink "QueryRewriter" (141 : Nat) "QueryRewriter" "qOp" "[I") ∈ tables_1 := mem1 97 rfl
theorem w98 : (Jvm.Cond.lays "QueryRewriter" "QueryRewriter" "qOp" "[I") ∈ tables_1 := mem1 98 rfl
theorem w99 : (Jvm.Cond.fieldLink "QueryRewriter" (144 : Nat) "QueryRewriter" "qA" "[I") ∈ tables_1 := mem1 99 rfl
theorem w100 : (Jvm.Cond.lays "QueryRewriter" "QueryRewriter" "qA" "[I") ∈ tables_1 := mem1 100 rfl
theorem w101 : (Jvm.Cond.fieldLink "QueryRewriter" (147 : Nat) "QueryRewriter" "qB" "[I") ∈ tables_1 := mem1 101 rfl
theorem w102 : (Jvm.Cond.lays "QueryRewriter" "QueryRewriter" "qB" "[I") ∈ tables_1 := mem1 102 rfl
theorem w103 : (Jvm.Cond.fieldLink "QueryRewriter" (150 : Nat) "QueryRewriter" "qFl" "[I") ∈ tables_1 := mem1 103 rfl
theorem w104 : (Jvm.Cond.lays "QueryRewriter" "QueryRewriter" "qFl" "[I") ∈ tables_1 := mem1 104 rfl
theorem w105 : (Jvm.Cond.fieldLink "QueryRewriter" (153 : Nat) "QueryRewriter" "qNext" "[I") ∈ tables_1 := mem1 105 rfl
theorem w106 : (Jvm.Cond.lays "QueryRewriter" "QueryRewriter" "qNext" "[I") ∈ tables_1 := mem1 106 rfl
theorem w107 : (Jvm.Cond.fieldLink "QueryRewriter" (156 : Nat) "QueryRewriter" "stNode" "[I") ∈ tables_1 := mem1 107 rfl
theorem w108 : (Jvm.Cond.lays "QueryRewriter" "QueryRewriter" "stNode" "[I") ∈ tables_1 := mem1 108 rfl
theorem w109 : (Jvm.Cond.fieldLink "QueryRewriter" (159 : Nat) "QueryRewriter" "stPhase" "[I") ∈ tables_1 := mem1 109 rfl
theorem w110 : (Jvm.Cond.lays "QueryRewriter" "QueryRewriter" "stPhase" "[I") ∈ tables_1 := mem1 110 rfl
theorem w111 : (Jvm.Cond.fieldLink "QueryRewriter" (162 : Nat) "QueryRewriter" "resStack" "[I") ∈ tables_1 := mem1 111 rfl
theorem w112 : (Jvm.Cond.lays "QueryRewriter" "QueryRewriter" "resStack" "[I") ∈ tables_1 := mem1 112 rfl
theorem w113 : (Jvm.Cond.fieldLink "QueryRewriter" (165 : Nat) "QueryRewriter" "tmpMap" "[I") ∈ tables_1 := mem1 113 rfl
theorem w114 : (Jvm.Cond.lays "QueryRewriter" "QueryRewriter" "tmpMap" "[I") ∈ tables_1 := mem1 114 rfl
theorem w115 : (Jvm.Cond.methodLink "QueryRewriter" (168 : Nat) ({ cls := "QueryRewriter", name := "clamp", desc := "(III)I" } : Jvm.MethodName)) ∈ tables_1 := mem1 115 rfl
theorem w116 : (Jvm.Cond.instanceMethod ({ cls := "QueryRewriter", name := "clamp", desc := "(III)I" } : Jvm.MethodName)) ∈ tables_1 := mem1 116 rfl
theorem w117 : (Jvm.Cond.privateMethod ({ cls := "QueryRewriter", name := "clamp", desc := "(III)I" } : Jvm.MethodName)) ∈ tables_1 := mem1 117 rfl
theorem w119 : (Jvm.Cond.fieldLink "QueryRewriter" (172 : Nat) "QueryRewriter" "rowCap" "I") ∈ tables_1 := mem1 119 rfl
theorem w120 : (Jvm.Cond.lays "QueryRewriter" "QueryRewriter" "rowCap" "I") ∈ tables_1 := mem1 120 rfl
theorem w121 : (Jvm.Cond.fieldLink "QueryRewriter" (175 : Nat) "QueryRewriter" "weightLimit" "I") ∈ tables_1 := mem1 121 rfl
theorem w122 : (Jvm.Cond.lays "QueryRewriter" "QueryRewriter" "weightLimit" "I") ∈ tables_1 := mem1 122 rfl
theorem w123 : (Jvm.Cond.methodLink "QueryRewriterL3" (12 : Nat) ({ cls := "QueryRewriter", name := "createTable", desc := "(II)Z" } : Jvm.MethodName)) ∈ tables_1 := mem1 123 rfl
theorem w124 : (Jvm.Cond.declares ({ cls := "QueryRewriter", name := "createTable", desc := "(II)Z" } : Jvm.MethodName)) ∈ tables_1 := mem1 124 rfl
theorem w125 : (Jvm.Cond.instanceMethod ({ cls := "QueryRewriter", name := "createTable", desc := "(II)Z" } : Jvm.MethodName)) ∈ tables_1 := mem1 125 rfl
theorem w126 : (Jvm.Cond.selects "QueryRewriter" ({ cls := "QueryRewriter", name := "createTable", desc := "(II)Z" } : Jvm.MethodName) ({ cls := "QueryRewriter", name := "createTable", desc := "(II)Z" } : Jvm.MethodName)) ∈ tables_1 := mem1 126 rfl
theorem w128 : (Jvm.Cond.methodLink "QueryRewriterL3" (16 : Nat) ({ cls := "QueryRewriter", name := "insert", desc := "(IIII)I" } : Jvm.MethodName)) ∈ tables_1 := mem1 128 rfl
theorem w129 : (Jvm.Cond.declares ({ cls := "QueryRewriter", name := "insert", desc := "(IIII)I" } : Jvm.MethodName)) ∈ tables_1 := mem1 129 rfl
theorem w130 : (Jvm.Cond.instanceMethod ({ cls := "QueryRewriter", name := "insert", desc := "(IIII)I" } : Jvm.MethodName)) ∈ tables_1 := mem1 130 rfl
theorem w131 : (Jvm.Cond.selects "QueryRewriter" ({ cls := "QueryRewriter", name := "insert", desc := "(IIII)I" } : Jvm.MethodName) ({ cls := "QueryRewriter", name := "insert", desc := "(IIII)I" } : Jvm.MethodName)) ∈ tables_1 := mem1 131 rfl
theorem w133 : (Jvm.Cond.methodLink "QueryRewriter" (178 : Nat) ({ cls := "QueryRewriter", name := "tableExists", desc := "(I)Z" } : Jvm.MethodName)) ∈ tables_1 := mem1 133 rfl
theorem w134 : (Jvm.Cond.instanceMethod ({ cls := "QueryRewriter", name := "tableExists", desc := "(I)Z" } : Jvm.MethodName)) ∈ tables_1 := mem1 134 rfl
theorem w135 : (Jvm.Cond.privateMethod ({ cls := "QueryRewriter", name := "tableExists", desc := "(I)Z" } : Jvm.MethodName)) ∈ tables_1 := mem1 135 rfl
theorem w137 : (Jvm.Cond.methodLink "QueryRewriterL3" (20 : Nat) ({ cls := "QueryRewriter", name := "scan", desc := "(I)I" } : Jvm.MethodName)) ∈ tables_1 := mem1 137 rfl
theorem w138 : (Jvm.Cond.declares ({ cls := "QueryRewriter", name := "scan", desc := "(I)I" } : Jvm.MethodName)) ∈ tables_1 := mem1 138 rfl
theorem w139 : (Jvm.Cond.instanceMethod ({ cls := "QueryRewriter", name := "scan", desc := "(I)I" } : Jvm.MethodName)) ∈ tables_1 := mem1 139 rfl
theorem w140 : (Jvm.Cond.selects "QueryRewriter" ({ cls := "QueryRewriter", name := "scan", desc := "(I)I" } : Jvm.MethodName) ({ cls := "QueryRewriter", name := "scan", desc := "(I)I" } : Jvm.MethodName)) ∈ tables_1 := mem1 140 rfl
theorem w142 : (Jvm.Cond.fieldLink "QueryRewriter" (188 : Nat) "QueryRewriter" "nodeN" "I") ∈ tables_1 := mem1 142 rfl
theorem w143 : (Jvm.Cond.lays "QueryRewriter" "QueryRewriter" "nodeN" "I") ∈ tables_1 := mem1 143 rfl
theorem w144 : (Jvm.Cond.methodLink "QueryRewriter" (191 : Nat) ({ cls := "QueryRewriter", name := "newNode", desc := "(IIIII)I" } : Jvm.MethodName)) ∈ tables_1 := mem1 144 rfl
theorem w145 : (Jvm.Cond.instanceMethod ({ cls := "QueryRewriter", name := "newNode", desc := "(IIIII)I" } : Jvm.MethodName)) ∈ tables_1 := mem1 145 rfl
theorem w146 : (Jvm.Cond.privateMethod ({ cls := "QueryRewriter", name := "newNode", desc := "(IIIII)I" } : Jvm.MethodName)) ∈ tables_1 := mem1 146 rfl
theorem w148 : (Jvm.Cond.fieldLink "QueryRewriter" (185 : Nat) "QueryRewriter" "atomN" "I") ∈ tables_1 := mem1 148 rfl
theorem w149 : (Jvm.Cond.lays "QueryRewriter" "QueryRewriter" "atomN" "I") ∈ tables_1 := mem1 149 rfl
theorem w150 : (Jvm.Cond.methodLink "QueryRewriterL3" (24 : Nat) ({ cls := "QueryRewriter", name := "atom", desc := "(IIII)I" } : Jvm.MethodName)) ∈ tables_1 := mem1 150 rfl
theorem w151 : (Jvm.Cond.declares ({ cls := "QueryRewriter", name := "atom", desc := "(IIII)I" } : Jvm.MethodName)) ∈ tables_1 := mem1 151 rfl
theorem w152 : (Jvm.Cond.instanceMethod ({ cls := "QueryRewriter", name := "atom", desc := "(IIII)I" } : Jvm.MethodName)) ∈ tables_1 := mem1 152 rfl
theorem w153 : (Jvm.Cond.selects "QueryRewriter" ({ cls := "QueryRewriter", name := "atom", desc := "(IIII)I" } : Jvm.MethodName) ({ cls := "QueryRewriter", name := "atom", desc := "(IIII)I" } : Jvm.MethodName)) ∈ tables_1 := mem1 153 rfl
theorem w155 : (Jvm.Cond.fieldLink "QueryRewriter" (182 : Nat) "QueryRewriter" "pendN" "I") ∈ tables_1 := mem1 155 rfl
theorem w156 : (Jvm.Cond.lays "QueryRewriter" "QueryRewriter" "pendN" "I") ∈ tables_1 := mem1 156 rfl
theorem w157 : (Jvm.Cond.methodLink "QueryRewriterL3" (27 : Nat) ({ cls := "QueryRewriter", name := "join", desc := "(III)I" } : Jvm.MethodName)) ∈ tables_1 := mem1 157 rfl
theorem w158 : (Jvm.Cond.declares ({ cls := "QueryRewriter", name := "join", desc := "(III)I" } : Jvm.MethodName)) ∈ tables_1 := mem1 158 rfl
theorem w159 : (Jvm.Cond.instanceMethod ({ cls := "QueryRewriter", name := "join", desc := "(III)I" } : Jvm.MethodName)) ∈ tables_1 := mem1 159 rfl
theorem w160 : (Jvm.Cond.selects "QueryRewriter" ({ cls := "QueryRewriter", name := "join", desc := "(III)I" } : Jvm.MethodName) ({ cls := "QueryRewriter", name := "join", desc := "(III)I" } : Jvm.MethodName)) ∈ tables_1 := mem1 160 rfl
theorem w162 : (Jvm.Cond.methodLink "QueryRewriter" (195 : Nat) ({ cls := "QueryRewriter", name := "nodeExists", desc := "(I)Z" } : Jvm.MethodName)) ∈ tables_1 := mem1 162 rfl
theorem w163 : (Jvm.Cond.instanceMethod ({ cls := "QueryRewriter", name := "nodeExists", desc := "(I)Z" } : Jvm.MethodName)) ∈ tables_1 := mem1 163 rfl
theorem w164 : (Jvm.Cond.privateMethod ({ cls := "QueryRewriter", name := "nodeExists", desc := "(I)Z" } : Jvm.MethodName)) ∈ tables_1 := mem1 164 rfl
theorem w166 : (Jvm.Cond.methodLink "QueryRewriter" (198 : Nat) ({ cls := "QueryRewriter", name := "pendingFits", desc := "(I)Z" } : Jvm.MethodName)) ∈ tables_1 := mem1 166 rfl
theorem w167 : (Jvm.Cond.instanceMethod ({ cls := "QueryRewriter", name := "pendingFits", desc := "(I)Z" } : Jvm.MethodName)) ∈ tables_1 := mem1 167 rfl
theorem w168 : (Jvm.Cond.privateMethod ({ cls := "QueryRewriter", name := "pendingFits", desc := "(I)Z" } : Jvm.MethodName)) ∈ tables_1 := mem1 168 rfl
theorem w170 : (Jvm.Cond.methodLink "QueryRewriter" (201 : Nat) ({ cls := "QueryRewriter", name := "takePending", desc := "(I)V" } : Jvm.MethodName)) ∈ tables_1 := mem1 170 rfl
theorem w171 : (Jvm.Cond.instanceMethod ({ cls := "QueryRewriter", name := "takePending", desc := "(I)V" } : Jvm.MethodName)) ∈ tables_1 := mem1 171 rfl
theorem w172 : (Jvm.Cond.privateMethod ({ cls := "QueryRewriter", name := "takePending", desc := "(I)V" } : Jvm.MethodName)) ∈ tables_1 := mem1 172 rfl
theorem w174 : (Jvm.Cond.methodLink "QueryRewriterL3" (31 : Nat) ({ cls := "QueryRewriter", name := "select", desc := "(I)I" } : Jvm.MethodName)) ∈ tables_1 := mem1 174 rfl
theorem w175 : (Jvm.Cond.declares ({ cls := "QueryRewriter", name := "select", desc := "(I)I" } : Jvm.MethodName)) ∈ tables_1 := mem1 175 rfl
theorem w176 : (Jvm.Cond.instanceMethod ({ cls := "QueryRewriter", name := "select", desc := "(I)I" } : Jvm.MethodName)) ∈ tables_1 := mem1 176 rfl
theorem w177 : (Jvm.Cond.selects "QueryRewriter" ({ cls := "QueryRewriter", name := "select", desc := "(I)I" } : Jvm.MethodName) ({ cls := "QueryRewriter", name := "select", desc := "(I)I" } : Jvm.MethodName)) ∈ tables_1 := mem1 177 rfl
theorem w179 : (Jvm.Cond.methodLink "QueryRewriterL3" (34 : Nat) ({ cls := "QueryRewriter", name := "query", desc := "(II)I" } : Jvm.MethodName)) ∈ tables_1 := mem1 179 rfl
theorem w180 : (Jvm.Cond.declares ({ cls := "QueryRewriter", name := "query", desc := "(II)I" } : Jvm.MethodName)) ∈ tables_1 := mem1 180 rfl
theorem w181 : (Jvm.Cond.instanceMethod ({ cls := "QueryRewriter", name := "query", desc := "(II)I" } : Jvm.MethodName)) ∈ tables_1 := mem1 181 rfl
theorem w182 : (Jvm.Cond.selects "QueryRewriter" ({ cls := "QueryRewriter", name := "query", desc := "(II)I" } : Jvm.MethodName) ({ cls := "QueryRewriter", name := "query", desc := "(II)I" } : Jvm.MethodName)) ∈ tables_1 := mem1 182 rfl
theorem w184 : (Jvm.Cond.methodLink "QueryRewriter" (205 : Nat) ({ cls := "QueryRewriter", name := "computeWeights", desc := "()V" } : Jvm.MethodName)) ∈ tables_1 := mem1 184 rfl
theorem w185 : (Jvm.Cond.instanceMethod ({ cls := "QueryRewriter", name := "computeWeights", desc := "()V" } : Jvm.MethodName)) ∈ tables_1 := mem1 185 rfl
theorem w186 : (Jvm.Cond.privateMethod ({ cls := "QueryRewriter", name := "computeWeights", desc := "()V" } : Jvm.MethodName)) ∈ tables_1 := mem1 186 rfl
theorem w188 : (Jvm.Cond.methodLink "QueryRewriter" (225 : Nat) ({ cls := "QueryRewriter", name := "satMul", desc := "(II)I" } : Jvm.MethodName)) ∈ tables_1 := mem1 188 rfl
theorem w189 : (Jvm.Cond.instanceMethod ({ cls := "QueryRewriter", name := "satMul", desc := "(II)I" } : Jvm.MethodName)) ∈ tables_1 := mem1 189 rfl
theorem w190 : (Jvm.Cond.privateMethod ({ cls := "QueryRewriter", name := "satMul", desc := "(II)I" } : Jvm.MethodName)) ∈ tables_1 := mem1 190 rfl
theorem w192 : (Jvm.Cond.methodLink "QueryRewriter" (208 : Nat) ({ cls := "QueryRewriter", name := "runRewritten", desc := "(I)I" } : Jvm.MethodName)) ∈ tables_1 := mem1 192 rfl
theorem w193 : (Jvm.Cond.instanceMethod ({ cls := "QueryRewriter", name := "runRewritten", desc := "(I)I" } : Jvm.MethodName)) ∈ tables_1 := mem1 193 rfl
theorem w194 : (Jvm.Cond.privateMethod ({ cls := "QueryRewriter", name := "runRewritten", desc := "(I)I" } : Jvm.MethodName)) ∈ tables_1 := mem1 194 rfl
theorem w196 : (Jvm.Cond.methodLink "QueryRewriter" (285 : Nat) ({ cls := "QueryRewriter", name := "buildPlan", desc := "(I)Z" } : Jvm.MethodName)) ∈ tables_1 := mem1 196 rfl
theorem w197 : (Jvm.Cond.instanceMethod ({ cls := "QueryRewriter", name := "buildPlan", desc := "(I)Z" } : Jvm.MethodName)) ∈ tables_1 := mem1 197 rfl
theorem w198 : (Jvm.Cond.privateMethod ({ cls := "QueryRewriter", name := "buildPlan", desc := "(I)Z" } : Jvm.MethodName)) ∈ tables_1 := mem1 198 rfl
theorem w200 : (Jvm.Cond.fieldLink "QueryRewriter" (288 : Nat) "QueryRewriter" "planN" "I") ∈ tables_1 := mem1 200 rfl
theorem w201 : (Jvm.Cond.lays "QueryRewriter" "QueryRewriter" "planN" "I") ∈ tables_1 := mem1 201 rfl
theorem w202 : (Jvm.Cond.fieldLink "QueryRewriter" (300 : Nat) "QueryRewriter" "qN" "I") ∈ tables_1 := mem1 202 rfl
theorem w203 : (Jvm.Cond.lays "QueryRewriter" "QueryRewriter" "qN" "I") ∈ tables_1 := mem1 203 rfl
theorem w204 : (Jvm.Cond.fieldLink "QueryRewriter" (303 : Nat) "QueryRewriter" "sp" "I") ∈ tables_1 := mem1 204 rfl
theorem w205 : (Jvm.Cond.lays "QueryRewriter" "QueryRewriter" "sp" "I") ∈ tables_1 := mem1 205 rfl
theorem w206 : (Jvm.Cond.fieldLink "QueryRewriter" (306 : Nat) "QueryRewriter" "rsp" "I") ∈ tables_1 := mem1 206 rfl
theorem w207 : (Jvm.Cond.lays "QueryRewriter" "QueryRewriter" "rsp" "I") ∈ tables_1 := mem1 207 rfl
theorem w208 : (Jvm.Cond.fieldLink "QueryRewriter" (309 : Nat) "QueryRewriter" "buildFail" "Z") ∈ tables_1 := mem1 208 rfl
theorem w209 : (Jvm.Cond.lays "QueryRewriter" "QueryRewriter" "buildFail" "Z") ∈ tables_1 := mem1 209 rfl
theorem w210 : (Jvm.Cond.methodLink "QueryRewriter" (313 : Nat) ({ cls := "QueryRewriter", name := "pushNode", desc := "(I)V" } : Jvm.MethodName)) ∈ tables_1 := mem1 210 rfl
theorem w211 : (Jvm.Cond.instanceMethod ({ cls := "QueryRewriter", name := "pushNode", desc := "(I)V" } : Jvm.MethodName)) ∈ tables_1 := mem1 211 rfl
theorem w212 : (Jvm.Cond.privateMethod ({ cls := "QueryRewriter", name := "pushNode", desc := "(I)V" } : Jvm.MethodName)) ∈ tables_1 := mem1 212 rfl
theorem w214 : (Jvm.Cond.methodLink "QueryRewriter" (316 : Nat) ({ cls := "QueryRewriter", name := "buildStep", desc := "()V" } : Jvm.MethodName)) ∈ tables_1 := mem1 214 rfl
theorem w215 : (Jvm.Cond.instanceMethod ({ cls := "QueryRewriter", name := "buildStep", desc := "()V" } : Jvm.MethodName)) ∈ tables_1 := mem1 215 rfl
theorem w216 : (Jvm.Cond.privateMethod ({ cls := "QueryRewriter", name := "buildStep", desc := "()V" } : Jvm.MethodName)) ∈ tables_1 := mem1 216 rfl
theorem w218 : (Jvm.Cond.methodLink "QueryRewriter" (325 : Nat) ({ cls := "QueryRewriter", name := "joinStep", desc := "(II)V" } : Jvm.MethodName)) ∈ tables_1 := mem1 218 rfl
theorem w219 : (Jvm.Cond.instanceMethod ({ cls := "QueryRewriter", name := "joinStep", desc := "(II)V" } : Jvm.MethodName)) ∈ tables_1 := mem1 219 rfl
theorem w220 : (Jvm.Cond.privateMethod ({ cls := "QueryRewriter", name := "joinStep", desc := "(II)V" } : Jvm.MethodName)) ∈ tables_1 := mem1 220 rfl
theorem w222 : (Jvm.Cond.methodLink "QueryRewriter" (319 : Nat) ({ cls := "QueryRewriter", name := "newScanPlan", desc := "(I)I" } : Jvm.MethodName)) ∈ tables_1 := mem1 222 rfl
theorem w223 : (Jvm.Cond.instanceMethod ({ cls := "QueryRewriter", name := "newScanPlan", desc := "(I)I" } : Jvm.MethodName)) ∈ tables_1 := mem1 223 rfl
theorem w224 : (Jvm.Cond.privateMethod ({ cls := "QueryRewriter", name := "newScanPlan", desc := "(I)I" } : Jvm.MethodName)) ∈ tables_1 := mem1 224 rfl
theorem w226 : (Jvm.Cond.methodLink "QueryRewriter" (337 : Nat) ({ cls := "QueryRewriter", name := "initPlan", desc := "(III)V" } : Jvm.MethodName)) ∈ tables_1 := mem1 226 rfl
theorem w227 : (Jvm.Cond.instanceMethod ({ cls := "QueryRewriter", name := "initPlan", desc := "(III)V" } : Jvm.MethodName)) ∈ tables_1 := mem1 227 rfl
theorem w228 : (Jvm.Cond.privateMethod ({ cls := "QueryRewriter", name := "initPlan", desc := "(III)V" } : Jvm.MethodName)) ∈ tables_1 := mem1 228 rfl
theorem w230 : (Jvm.Cond.methodLink "QueryRewriter" (322 : Nat) ({ cls := "QueryRewriter", name := "pushResult", desc := "(I)V" } : Jvm.MethodName)) ∈ tables_1 := mem1 230 rfl
theorem w231 : (Jvm.Cond.instanceMethod ({ cls := "QueryRewriter", name := "pushResult", desc := "(I)V" } : Jvm.MethodName)) ∈ tables_1 := mem1 231 rfl
theorem w232 : (Jvm.Cond.privateMethod ({ cls := "QueryRewriter", name := "pushResult", desc := "(I)V" } : Jvm.MethodName)) ∈ tables_1 := mem1 232 rfl
theorem w234 : (Jvm.Cond.methodLink "QueryRewriter" (334 : Nat) ({ cls := "QueryRewriter", name := "newJoinPlan", desc := "(III)I" } : Jvm.MethodName)) ∈ tables_1 := mem1 234 rfl
theorem w235 : (Jvm.Cond.instanceMethod ({ cls := "QueryRewriter", name := "newJoinPlan", desc := "(III)I" } : Jvm.MethodName)) ∈ tables_1 := mem1 235 rfl
theorem w236 : (Jvm.Cond.privateMethod ({ cls := "QueryRewriter", name := "newJoinPlan", desc := "(III)I" } : Jvm.MethodName)) ∈ tables_1 := mem1 236 rfl
theorem w238 : (Jvm.Cond.methodLink "QueryRewriter" (341 : Nat) ({ cls := "QueryRewriter", name := "copyAtom", desc := "(I)I" } : Jvm.MethodName)) ∈ tables_1 := mem1 238 rfl
theorem w239 : (Jvm.Cond.instanceMethod ({ cls := "QueryRewriter", name := "copyAtom", desc := "(I)I" } : Jvm.MethodName)) ∈ tables_1 := mem1 239 rfl
theorem w240 : (Jvm.Cond.privateMethod ({ cls := "QueryRewriter", name := "copyAtom", desc := "(I)I" } : Jvm.MethodName)) ∈ tables_1 := mem1 240 rfl
theorem w242 : (Jvm.Cond.methodLink "QueryRewriter" (344 : Nat) ({ cls := "QueryRewriter", name := "prepend", desc := "(II)V" } : Jvm.MethodName)) ∈ tables_1 := mem1 242 rfl
theorem w243 : (Jvm.Cond.instanceMethod ({ cls := "QueryRewriter", name := "prepend", desc := "(II)V" } : Jvm.MethodName)) ∈ tables_1 := mem1 243 rfl
theorem w244 : (Jvm.Cond.privateMethod ({ cls := "QueryRewriter", name := "prepend", desc := "(II)V" } : Jvm.MethodName)) ∈ tables_1 := mem1 244 rfl
theorem w246 : (Jvm.Cond.methodLink "QueryRewriter" (328 : Nat) ({ cls := "QueryRewriter", name := "applySelect", desc := "(II)V" } : Jvm.MethodName)) ∈ tables_1 := mem1 246 rfl
theorem w247 : (Jvm.Cond.instanceMethod ({ cls := "QueryRewriter", name := "applySelect", desc := "(II)V" } : Jvm.MethodName)) ∈ tables_1 := mem1 247 rfl
theorem w248 : (Jvm.Cond.privateMethod ({ cls := "QueryRewriter", name := "applySelect", desc := "(II)V" } : Jvm.MethodName)) ∈ tables_1 := mem1 248 rfl
theorem w250 : (Jvm.Cond.methodLink "QueryRewriter" (347 : Nat) ({ cls := "QueryRewriter", name := "substitute", desc := "(III)V" } : Jvm.MethodName)) ∈ tables_1 := mem1 250 rfl
theorem w251 : (Jvm.Cond.instanceMethod ({ cls := "QueryRewriter", name := "substitute", desc := "(III)V" } : Jvm.MethodName)) ∈ tables_1 := mem1 251 rfl
theorem w252 : (Jvm.Cond.privateMethod ({ cls := "QueryRewriter", name := "substitute", desc := "(III)V" } : Jvm.MethodName)) ∈ tables_1 := mem1 252 rfl
theorem w254 : (Jvm.Cond.methodLink "QueryRewriter" (350 : Nat) ({ cls := "QueryRewriter", name := "mapCol", desc := "(II)I" } : Jvm.MethodName)) ∈ tables_1 := mem1 254 rfl
theorem w255 : (Jvm.Cond.instanceMethod ({ cls := "QueryRewriter", name := "mapCol", desc := "(II)I" } : Jvm.MethodName)) ∈ tables_1 := mem1 255 rfl
theorem w256 : (Jvm.Cond.privateMethod ({ cls := "QueryRewriter", name := "mapCol", desc := "(II)I" } : Jvm.MethodName)) ∈ tables_1 := mem1 256 rfl
theorem w258 : (Jvm.Cond.methodLink "QueryRewriter" (291 : Nat) ({ cls := "QueryRewriter", name := "pushdownAll", desc := "()V" } : Jvm.MethodName)) ∈ tables_1 := mem1 258 rfl
theorem w259 : (Jvm.Cond.instanceMethod ({ cls := "QueryRewriter", name := "pushdownAll", desc := "()V" } : Jvm.MethodName)) ∈ tables_1 := mem1 259 rfl
theorem w260 : (Jvm.Cond.privateMethod ({ cls := "QueryRewriter", name := "pushdownAll", desc := "()V" } : Jvm.MethodName)) ∈ tables_1 := mem1 260 rfl
theorem w262 : (Jvm.Cond.methodLink "QueryRewriter" (357 : Nat) ({ cls := "QueryRewriter", name := "pushJoin", desc := "(I)V" } : Jvm.MethodName)) ∈ tables_1 := mem1 262 rfl
theorem w263 : (Jvm.Cond.instanceMethod ({ cls := "QueryRewriter", name := "pushJoin", desc := "(I)V" } : Jvm.MethodName)) ∈ tables_1 := mem1 263 rfl
theorem w264 : (Jvm.Cond.privateMethod ({ cls := "QueryRewriter", name := "pushJoin", desc := "(I)V" } : Jvm.MethodName)) ∈ tables_1 := mem1 264 rfl
theorem w266 : (Jvm.Cond.methodLink "QueryRewriter" (353 : Nat) ({ cls := "QueryRewriter", name := "foldList", desc := "(IZ)V" } : Jvm.MethodName)) ∈ tables_1 := mem1 266 rfl
theorem w267 : (Jvm.Cond.instanceMethod ({ cls := "QueryRewriter", name := "foldList", desc := "(IZ)V" } : Jvm.MethodName)) ∈ tables_1 := mem1 267 rfl
theorem w268 : (Jvm.Cond.privateMethod ({ cls := "QueryRewriter", name := "foldList", desc := "(IZ)V" } : Jvm.MethodName)) ∈ tables_1 := mem1 268 rfl
theorem w270 : (Jvm.Cond.methodLink "QueryRewriter" (360 : Nat) ({ cls := "QueryRewriter", name := "constTruth", desc := "(I)I" } : Jvm.MethodName)) ∈ tables_1 := mem1 270 rfl
theorem w271 : (Jvm.Cond.instanceMethod ({ cls := "QueryRewriter", name := "constTruth", desc := "(I)I" } : Jvm.MethodName)) ∈ tables_1 := mem1 271 rfl
theorem w272 : (Jvm.Cond.privateMethod ({ cls := "QueryRewriter", name := "constTruth", desc := "(I)I" } : Jvm.MethodName)) ∈ tables_1 := mem1 272 rfl
theorem w274 : (Jvm.Cond.methodLink "QueryRewriter" (363 : Nat) ({ cls := "QueryRewriter", name := "listRejectsRight", desc := "(II)Z" } : Jvm.MethodName)) ∈ tables_1 := mem1 274 rfl
theorem w275 : (Jvm.Cond.instanceMethod ({ cls := "QueryRewriter", name := "listRejectsRight", desc := "(II)Z" } : Jvm.MethodName)) ∈ tables_1 := mem1 275 rfl
theorem w276 : (Jvm.Cond.privateMethod ({ cls := "QueryRewriter", name := "listRejectsRight", desc := "(II)Z" } : Jvm.MethodName)) ∈ tables_1 := mem1 276 rfl
theorem w278 : (Jvm.Cond.methodLink "QueryRewriter" (373 : Nat) ({ cls := "QueryRewriter", name := "sideOf", desc := "(II)I" } : Jvm.MethodName)) ∈ tables_1 := mem1 278 rfl
theorem w279 : (Jvm.Cond.instanceMethod ({ cls := "QueryRewriter", name := "sideOf", desc := "(II)I" } : Jvm.MethodName)) ∈ tables_1 := mem1 279 rfl
theorem w280 : (Jvm.Cond.privateMethod ({ cls := "QueryRewriter", name := "sideOf", desc := "(II)I" } : Jvm.MethodName)) ∈ tables_1 := mem1 280 rfl
theorem w282 : (Jvm.Cond.methodLink "QueryRewriter" (369 : Nat) ({ cls := "QueryRewriter", name := "distribute", desc := "(IIIZ)V" } : Jvm.MethodName)) ∈ tables_1 := mem1 282 rfl
theorem w283 : (Jvm.Cond.instanceMethod ({ cls := "QueryRewriter", name := "distribute", desc := "(IIIZ)V" } : Jvm.MethodName)) ∈ tables_1 := mem1 283 rfl
theorem w284 : (Jvm.Cond.privateMethod ({ cls := "QueryRewriter", name := "distribute", desc := "(IIIZ)V" } : Jvm.MethodName)) ∈ tables_1 := mem1 284 rfl
theorem w286 : (Jvm.Cond.methodLink "QueryRewriter" (294 : Nat) ({ cls := "QueryRewriter", name := "pruneAll", desc := "(I)V" } : Jvm.MethodName)) ∈ tables_1 := mem1 286 rfl
theorem w287 : (Jvm.Cond.instanceMethod ({ cls := "QueryRewriter", name := "pruneAll", desc := "(I)V" } : Jvm.MethodName)) ∈ tables_1 := mem1 287 rfl
theorem w288 : (Jvm.Cond.privateMethod ({ cls := "QueryRewriter", name := "pruneAll", desc := "(I)V" } : Jvm.MethodName)) ∈ tables_1 := mem1 288 rfl
theorem w290 : (Jvm.Cond.methodLink "QueryRewriter" (376 : Nat) ({ cls := "QueryRewriter", name := "compactMap", desc := "(II)V" } : Jvm.MethodName)) ∈ tables_1 := mem1 290 rfl
theorem w291 : (Jvm.Cond.instanceMethod ({ cls := "QueryRewriter", name := "compactMap", desc := "(II)V" } : Jvm.MethodName)) ∈ tables_1 := mem1 291 rfl
theorem w292 : (Jvm.Cond.privateMethod ({ cls := "QueryRewriter", name := "compactMap", desc := "(II)V" } : Jvm.MethodName)) ∈ tables_1 := mem1 292 rfl
theorem w294 : (Jvm.Cond.methodLink "QueryRewriter" (379 : Nat) ({ cls := "QueryRewriter", name := "pruneJoinInputs", desc := "(I)V" } : Jvm.MethodName)) ∈ tables_1 := mem1 294 rfl
theorem w295 : (Jvm.Cond.instanceMethod ({ cls := "QueryRewriter", name := "pruneJoinInputs", desc := "(I)V" } : Jvm.MethodName)) ∈ tables_1 := mem1 295 rfl
theorem w296 : (Jvm.Cond.privateMethod ({ cls := "QueryRewriter", name := "pruneJoinInputs", desc := "(I)V" } : Jvm.MethodName)) ∈ tables_1 := mem1 296 rfl
theorem w298 : (Jvm.Cond.methodLink "QueryRewriter" (382 : Nat) ({ cls := "QueryRewriter", name := "usedMapMask", desc := "(I)I" } : Jvm.MethodName)) ∈ tables_1 := mem1 298 rfl
theorem w299 : (Jvm.Cond.instanceMethod ({ cls := "QueryRewriter", name := "usedMapMask", desc := "(I)I" } : Jvm.MethodName)) ∈ tables_1 := mem1 299 rfl
theorem w300 : (Jvm.Cond.privateMethod ({ cls := "QueryRewriter", name := "usedMapMask", desc := "(I)I" } : Jvm.MethodName)) ∈ tables_1 := mem1 300 rfl
theorem w302 : (Jvm.Cond.methodLink "QueryRewriter" (385 : Nat) ({ cls := "QueryRewriter", name := "usedListMask", desc := "(I)I" } : Jvm.MethodName)) ∈ tables_1 := mem1 302 rfl
theorem w303 : (Jvm.Cond.instanceMethod ({ cls := "QueryRewriter", name := "usedListMask", desc := "(I)I" } : Jvm.MethodName)) ∈ tables_1 := mem1 303 rfl
theorem w304 : (Jvm.Cond.privateMethod ({ cls := "QueryRewriter", name := "usedListMask", desc := "(I)I" } : Jvm.MethodName)) ∈ tables_1 := mem1 304 rfl
theorem w306 : (Jvm.Cond.methodLink "QueryRewriter" (388 : Nat) ({ cls := "QueryRewriter", name := "renumberMap", desc := "(IIII)V" } : Jvm.MethodName)) ∈ tables_1 := mem1 306 rfl
theorem w307 : (Jvm.Cond.instanceMethod ({ cls := "QueryRewriter", name := "renumberMap", desc := "(IIII)V" } : Jvm.MethodName)) ∈ tables_1 := mem1 307 rfl
theorem w308 : (Jvm.Cond.privateMethod ({ cls := "QueryRewriter", name := "renumberMap", desc := "(IIII)V" } : Jvm.MethodName)) ∈ tables_1 := mem1 308 rfl
theorem w310 : (Jvm.Cond.methodLink "QueryRewriter" (397 : Nat) ({ cls := "QueryRewriter", name := "newCol", desc := "(IIII)I" } : Jvm.MethodName)) ∈ tables_1 := mem1 310 rfl
theorem w311 : (Jvm.Cond.instanceMethod ({ cls := "QueryRewriter", name := "newCol", desc := "(IIII)I" } : Jvm.MethodName)) ∈ tables_1 := mem1 311 rfl
theorem w312 : (Jvm.Cond.privateMethod ({ cls := "QueryRewriter", name := "newCol", desc := "(IIII)I" } : Jvm.MethodName)) ∈ tables_1 := mem1 312 rfl
theorem w314 : (Jvm.Cond.methodLink "QueryRewriter" (394 : Nat) ({ cls := "QueryRewriter", name := "popcount", desc := "(I)I" } : Jvm.MethodName)) ∈ tables_1 := mem1 314 rfl
theorem w315 : (Jvm.Cond.instanceMethod ({ cls := "QueryRewriter", name := "popcount", desc := "(I)I" } : Jvm.MethodName)) ∈ tables_1 := mem1 315 rfl
theorem w316 : (Jvm.Cond.privateMethod ({ cls := "QueryRewriter", name := "popcount", desc := "(I)I" } : Jvm.MethodName)) ∈ tables_1 := mem1 316 rfl
theorem w318 : (Jvm.Cond.methodLink "QueryRewriter" (391 : Nat) ({ cls := "QueryRewriter", name := "renumberList", desc := "(IIII)V" } : Jvm.MethodName)) ∈ tables_1 := mem1 318 rfl
theorem w319 : (Jvm.Cond.instanceMethod ({ cls := "QueryRewriter", name := "renumberList", desc := "(IIII)V" } : Jvm.MethodName)) ∈ tables_1 := mem1 319 rfl
theorem w320 : (Jvm.Cond.privateMethod ({ cls := "QueryRewriter", name := "renumberList", desc := "(IIII)V" } : Jvm.MethodName)) ∈ tables_1 := mem1 320 rfl
theorem w322 : (Jvm.Cond.methodLink "QueryRewriter" (297 : Nat) ({ cls := "QueryRewriter", name := "evalPlanAll", desc := "()V" } : Jvm.MethodName)) ∈ tables_1 := mem1 322 rfl
theorem w323 : (Jvm.Cond.instanceMethod ({ cls := "QueryRewriter", name := "evalPlanAll", desc := "()V" } : Jvm.MethodName)) ∈ tables_1 := mem1 323 rfl
theorem w324 : (Jvm.Cond.privateMethod ({ cls := "QueryRewriter", name := "evalPlanAll", desc := "()V" } : Jvm.MethodName)) ∈ tables_1 := mem1 324 rfl
theorem w326 : (Jvm.Cond.methodLink "QueryRewriter" (401 : Nat) ({ cls := "QueryRewriter", name := "evalPlanScan", desc := "(I)V" } : Jvm.MethodName)) ∈ tables_1 := mem1 326 rfl
theorem w327 : (Jvm.Cond.instanceMethod ({ cls := "QueryRewriter", name := "evalPlanScan", desc := "(I)V" } : Jvm.MethodName)) ∈ tables_1 := mem1 327 rfl
theorem w328 : (Jvm.Cond.privateMethod ({ cls := "QueryRewriter", name := "evalPlanScan", desc := "(I)V" } : Jvm.MethodName)) ∈ tables_1 := mem1 328 rfl
theorem w330 : (Jvm.Cond.methodLink "QueryRewriter" (407 : Nat) ({ cls := "QueryRewriter", name := "loadTableRow", desc := "(II)V" } : Jvm.MethodName)) ∈ tables_1 := mem1 330 rfl
theorem w331 : (Jvm.Cond.instanceMethod ({ cls := "QueryRewriter", name := "loadTableRow", desc := "(II)V" } : Jvm.MethodName)) ∈ tables_1 := mem1 331 rfl
theorem w332 : (Jvm.Cond.privateMethod ({ cls := "QueryRewriter", name := "loadTableRow", desc := "(II)V" } : Jvm.MethodName)) ∈ tables_1 := mem1 332 rfl
theorem w334 : (Jvm.Cond.methodLink "QueryRewriter" (410 : Nat) ({ cls := "QueryRewriter", name := "listHolds", desc := "(I)Z" } : Jvm.MethodName)) ∈ tables_1 := mem1 334 rfl
theorem w335 : (Jvm.Cond.instanceMethod ({ cls := "QueryRewriter", name := "listHolds", desc := "(I)Z" } : Jvm.MethodName)) ∈ tables_1 := mem1 335 rfl
theorem w336 : (Jvm.Cond.privateMethod ({ cls := "QueryRewriter", name := "listHolds", desc := "(I)Z" } : Jvm.MethodName)) ∈ tables_1 := mem1 336 rfl
theorem w338 : (Jvm.Cond.methodLink "QueryRewriter" (247 : Nat) ({ cls := "QueryRewriter", name := "evalAtom", desc := "(IIII)Z" } : Jvm.MethodName)) ∈ tables_1 := mem1 338 rfl
theorem w339 : (Jvm.Cond.instanceMethod ({ cls := "QueryRewriter", name := "evalAtom", desc := "(IIII)Z" } : Jvm.MethodName)) ∈ tables_1 := mem1 339 rfl
theorem w340 : (Jvm.Cond.privateMethod ({ cls := "QueryRewriter", name := "evalAtom", desc := "(IIII)Z" } : Jvm.MethodName)) ∈ tables_1 := mem1 340 rfl
theorem w342 : (Jvm.Cond.methodLink "QueryRewriter" (240 : Nat) ({ cls := "QueryRewriter", name := "cell", desc := "(I)I" } : Jvm.MethodName)) ∈ tables_1 := mem1 342 rfl
theorem w343 : (Jvm.Cond.instanceMethod ({ cls := "QueryRewriter", name := "cell", desc := "(I)I" } : Jvm.MethodName)) ∈ tables_1 := mem1 343 rfl
theorem w344 : (Jvm.Cond.privateMethod ({ cls := "QueryRewriter", name := "cell", desc := "(I)I" } : Jvm.MethodName)) ∈ tables_1 := mem1 344 rfl
theorem w346 : (Jvm.Cond.constant "QueryRewriter" (239 : Nat) (-2147483648 : Int32)) ∈ tables_1 := mem1 346 rfl
theorem w347 : (Jvm.Cond.methodLink "QueryRewriter" (243 : Nat) ({ cls := "QueryRewriter", name := "compare", desc := "(III)Z" } : Jvm.MethodName)) ∈ tables_1 := mem1 347 rfl
theorem w348 : (Jvm.Cond.instanceMethod ({ cls := "QueryRewriter", name := "compare", desc := "(III)Z" } : Jvm.MethodName)) ∈ tables_1 := mem1 348 rfl
theorem w349 : (Jvm.Cond.privateMethod ({ cls := "QueryRewriter", name := "compare", desc := "(III)Z" } : Jvm.MethodName)) ∈ tables_1 := mem1 349 rfl
theorem w351 : (Jvm.Cond.methodLink "QueryRewriter" (413 : Nat) ({ cls := "QueryRewriter", name := "emitMapped", desc := "(II)I" } : Jvm.MethodName)) ∈ tables_1 := mem1 351 rfl
theorem w352 : (Jvm.Cond.instanceMethod ({ cls := "QueryRewriter", name := "emitMapped", desc := "(II)I" } : Jvm.MethodName)) ∈ tables_1 := mem1 352 rfl
theorem w353 : (Jvm.Cond.privateMethod ({ cls := "QueryRewriter", name := "emitMapped", desc := "(II)I" } : Jvm.MethodName)) ∈ tables_1 := mem1 353 rfl
theorem w355 : (Jvm.Cond.methodLink "QueryRewriter" (404 : Nat) ({ cls := "QueryRewriter", name := "evalPlanJoin", desc := "(I)V" } : Jvm.MethodName)) ∈ tables_1 := mem1 355 rfl
theorem w356 : (Jvm.Cond.instanceMethod ({ cls := "QueryRewriter", name := "evalPlanJoin", desc := "(I)V" } : Jvm.MethodName)) ∈ tables_1 := mem1 356 rfl
theorem w357 : (Jvm.Cond.privateMethod ({ cls := "QueryRewriter", name := "evalPlanJoin", desc := "(I)V" } : Jvm.MethodName)) ∈ tables_1 := mem1 357 rfl
theorem w359 : (Jvm.Cond.methodLink "QueryRewriter" (272 : Nat) ({ cls := "QueryRewriter", name := "loadRow", desc := "(IIII)V" } : Jvm.MethodName)) ∈ tables_1 := mem1 359 rfl
theorem w360 : (Jvm.Cond.instanceMethod ({ cls := "QueryRewriter", name := "loadRow", desc := "(IIII)V" } : Jvm.MethodName)) ∈ tables_1 := mem1 360 rfl
theorem w361 : (Jvm.Cond.privateMethod ({ cls := "QueryRewriter", name := "loadRow", desc := "(IIII)V" } : Jvm.MethodName)) ∈ tables_1 := mem1 361 rfl
theorem w363 : (Jvm.Cond.methodLink "QueryRewriter" (282 : Nat) ({ cls := "QueryRewriter", name := "fillNull", desc := "(II)V" } : Jvm.MethodName)) ∈ tables_1 := mem1 363 rfl
theorem w364 : (Jvm.Cond.instanceMethod ({ cls := "QueryRewriter", name := "fillNull", desc := "(II)V" } : Jvm.MethodName)) ∈ tables_1 := mem1 364 rfl
theorem w365 : (Jvm.Cond.privateMethod ({ cls := "QueryRewriter", name := "fillNull", desc := "(II)V" } : Jvm.MethodName)) ∈ tables_1 := mem1 365 rfl
theorem w367 : (Jvm.Cond.methodLink "QueryRewriter" (416 : Nat) ({ cls := "QueryRewriter", name := "emitFiltered", desc := "(II)I" } : Jvm.MethodName)) ∈ tables_1 := mem1 367 rfl
theorem w368 : (Jvm.Cond.instanceMethod ({ cls := "QueryRewriter", name := "emitFiltered", desc := "(II)I" } : Jvm.MethodName)) ∈ tables_1 := mem1 368 rfl
theorem w369 : (Jvm.Cond.privateMethod ({ cls := "QueryRewriter", name := "emitFiltered", desc := "(II)I" } : Jvm.MethodName)) ∈ tables_1 := mem1 369 rfl
theorem w371 : (Jvm.Cond.methodLink "QueryRewriter" (215 : Nat) ({ cls := "QueryRewriter", name := "storeResult", desc := "(II)I" } : Jvm.MethodName)) ∈ tables_1 := mem1 371 rfl
theorem w372 : (Jvm.Cond.instanceMethod ({ cls := "QueryRewriter", name := "storeResult", desc := "(II)I" } : Jvm.MethodName)) ∈ tables_1 := mem1 372 rfl
theorem w373 : (Jvm.Cond.privateMethod ({ cls := "QueryRewriter", name := "storeResult", desc := "(II)I" } : Jvm.MethodName)) ∈ tables_1 := mem1 373 rfl
theorem w375 : (Jvm.Cond.fieldLink "QueryRewriter" (219 : Nat) "QueryRewriter" "resW" "I") ∈ tables_1 := mem1 375 rfl
theorem w376 : (Jvm.Cond.lays "QueryRewriter" "QueryRewriter" "resW" "I") ∈ tables_1 := mem1 376 rfl
theorem w377 : (Jvm.Cond.fieldLink "QueryRewriter" (222 : Nat) "QueryRewriter" "resN" "I") ∈ tables_1 := mem1 377 rfl
theorem w378 : (Jvm.Cond.lays "QueryRewriter" "QueryRewriter" "resN" "I") ∈ tables_1 := mem1 378 rfl
theorem w379 : (Jvm.Cond.methodLink "QueryRewriter" (228 : Nat) ({ cls := "QueryRewriter", name := "sortResult", desc := "()V" } : Jvm.MethodName)) ∈ tables_1 := mem1 379 rfl
theorem w380 : (Jvm.Cond.instanceMethod ({ cls := "QueryRewriter", name := "sortResult", desc := "()V" } : Jvm.MethodName)) ∈ tables_1 := mem1 380 rfl
theorem w381 : (Jvm.Cond.privateMethod ({ cls := "QueryRewriter", name := "sortResult", desc := "()V" } : Jvm.MethodName)) ∈ tables_1 := mem1 381 rfl
theorem w383 : (Jvm.Cond.constant "QueryRewriterL3" (38 : Nat) (-2147483648 : Int32)) ∈ tables_1 := mem1 383 rfl
theorem w384 : (Jvm.Cond.methodLink "QueryRewriterL3" (39 : Nat) ({ cls := "QueryRewriter", name := "resultWidth", desc := "()I" } : Jvm.MethodName)) ∈ tables_1 := mem1 384 rfl
theorem w385 : (Jvm.Cond.declares ({ cls := "QueryRewriter", name := "resultWidth", desc := "()I" } : Jvm.MethodName)) ∈ tables_1 := mem1 385 rfl
theorem w386 : (Jvm.Cond.instanceMethod ({ cls := "QueryRewriter", name := "resultWidth", desc := "()I" } : Jvm.MethodName)) ∈ tables_1 := mem1 386 rfl
theorem w387 : (Jvm.Cond.selects "QueryRewriter" ({ cls := "QueryRewriter", name := "resultWidth", desc := "()I" } : Jvm.MethodName) ({ cls := "QueryRewriter", name := "resultWidth", desc := "()I" } : Jvm.MethodName)) ∈ tables_1 := mem1 387 rfl
theorem w389 : (Jvm.Cond.methodLink "QueryRewriterL3" (43 : Nat) ({ cls := "QueryRewriter", name := "resultCell", desc := "(II)I" } : Jvm.MethodName)) ∈ tables_1 := mem1 389 rfl
theorem w390 : (Jvm.Cond.declares ({ cls := "QueryRewriter", name := "resultCell", desc := "(II)I" } : Jvm.MethodName)) ∈ tables_1 := mem1 390 rfl
theorem w391 : (Jvm.Cond.instanceMethod ({ cls := "QueryRewriter", name := "resultCell", desc := "(II)I" } : Jvm.MethodName)) ∈ tables_1 := mem1 391 rfl
theorem w392 : (Jvm.Cond.selects "QueryRewriter" ({ cls := "QueryRewriter", name := "resultCell", desc := "(II)I" } : Jvm.MethodName) ({ cls := "QueryRewriter", name := "resultCell", desc := "(II)I" } : Jvm.MethodName)) ∈ tables_1 := mem1 392 rfl
theorem w394 : (Jvm.Cond.methodLink "QueryRewriter" (231 : Nat) ({ cls := "QueryRewriter", name := "rowLess", desc := "(II)Z" } : Jvm.MethodName)) ∈ tables_1 := mem1 394 rfl
theorem w395 : (Jvm.Cond.instanceMethod ({ cls := "QueryRewriter", name := "rowLess", desc := "(II)Z" } : Jvm.MethodName)) ∈ tables_1 := mem1 395 rfl
theorem w396 : (Jvm.Cond.privateMethod ({ cls := "QueryRewriter", name := "rowLess", desc := "(II)Z" } : Jvm.MethodName)) ∈ tables_1 := mem1 396 rfl
theorem w398 : (Jvm.Cond.methodLink "QueryRewriter" (235 : Nat) ({ cls := "QueryRewriter", name := "swapRows", desc := "(II)V" } : Jvm.MethodName)) ∈ tables_1 := mem1 398 rfl
theorem w399 : (Jvm.Cond.instanceMethod ({ cls := "QueryRewriter", name := "swapRows", desc := "(II)V" } : Jvm.MethodName)) ∈ tables_1 := mem1 399 rfl
theorem w400 : (Jvm.Cond.privateMethod ({ cls := "QueryRewriter", name := "swapRows", desc := "(II)V" } : Jvm.MethodName)) ∈ tables_1 := mem1 400 rfl
theorem fS_0 : K.2.1[0]? = some ("tyScan", "I") := rfl
theorem fS_1 : K.2.1[1]? = some ("tySelect", "I") := rfl
theorem fS_2 : K.2.1[2]? = some ("tyProject", "I") := rfl
theorem fS_3 : K.2.1[3]? = some ("tyJoin", "I") := rfl
theorem fS_4 : K.2.1[4]? = some ("tyView", "I") := rfl
theorem fS_5 : K.2.1[5]? = some ("plScan", "I") := rfl
theorem fS_6 : K.2.1[6]? = some ("plJoin", "I") := rfl
theorem fS_7 : K.2.1[7]? = some ("rowCap", "I") := rfl
theorem fS_8 : K.2.1[8]? = some ("weightLimit", "I") := rfl
theorem fS_9 : K.2.1[9]? = some ("pendN", "I") := rfl
theorem fS_10 : K.2.1[10]? = some ("nodeN", "I") := rfl
theorem fS_11 : K.2.1[11]? = some ("atomN", "I") := rfl
theorem fS_12 : K.2.1[12]? = some ("resW", "I") := rfl
theorem fS_13 : K.2.1[13]? = some ("resN", "I") := rfl
theorem fS_14 : K.2.1[14]? = some ("planN", "I") := rfl
theorem fS_15 : K.2.1[15]? = some ("qN", "I") := rfl
theorem fS_16 : K.2.1[16]? = some ("sp", "I") := rfl
theorem fS_17 : K.2.1[17]? = some ("rsp", "I") := rfl
theorem fS_18 : K.2.1[18]? = some ("buildFail", "Z") := rfl
theorem fA_0 : K.2.2[0]? = some ("tCols", .int, (4 : Int32)) := rfl
theorem fA_1 : K.2.2[1]? = some ("tRows", .int, (4 : Int32)) := rfl
theorem fA_2 : K.2.2[2]? = some ("tCells", .int, (96 : Int32)) := rfl
theorem fA_3 : K.2.2[3]? = some ("pOp", .int, (4 : Int32)) := rfl
theorem fA_4 : K.2.2[4]? = some ("pA", .int, (4 : Int32)) := rfl
theorem fA_5 : K.2.2[5]? = some ("pB", .int, (4 : Int32)) := rfl
theorem fA_6 : K.2.2[6]? = some ("pFl", .int, (4 : Int32)) := rfl
theorem fA_7 : K.2.2[7]? = some ("nType", .int, (32 : Int32)) := rfl
theorem fA_8 : K.2.2[8]? = some ("nWidth", .int, (32 : Int32)) := rfl
theorem fA_9 : K.2.2[9]? = some ("nX", .int, (32 : Int32)) := rfl
theorem fA_10 : K.2.2[10]? = some ("nY", .int, (32 : Int32)) := rfl
theorem fA_11 : K.2.2[11]? = some ("nKind", .int, (32 : Int32)) := rfl
theorem fA_12 : K.2.2[12]? = some ("nPacked", .int, (32 : Int32)) := rfl
theorem fA_13 : K.2.2[13]? = some ("nAtStart", .int, (32 : Int32)) := rfl
theorem fA_14 : K.2.2[14]? = some ("nAtCnt", .int, (32 : Int32)) := rfl
theorem fA_15 : K.2.2[15]? = some ("aOp", .int, (64 : Int32)) := rfl
theorem fA_16 : K.2.2[16]? = some ("aA", .int, (64 : Int32)) := rfl
theorem fA_17 : K.2.2[17]? = some ("aB", .int, (64 : Int32)) := rfl
theorem fA_18 : K.2.2[18]? = some ("aFl", .int, (64 : Int32)) := rfl
theorem fA_19 : K.2.2[19]? = some ("viewNode", .int, (8 : Int32)) := rfl
theorem fA_20 : K.2.2[20]? = some ("weight", .int, (32 : Int32)) := rfl
theorem fA_21 : K.2.2[21]? = some ("reach", .boolean, (32 : Int32)) := rfl
theorem fA_22 : K.2.2[22]? = some ("bag", .int, (16384 : Int32)) := rfl
theorem fA_23 : K.2.2[23]? = some ("bagCnt", .int, (32 : Int32)) := rfl
theorem fA_24 : K.2.2[24]? = some ("rowBuf", .int, (16 : Int32)) := rfl
theorem fA_25 : K.2.2[25]? = some ("res", .int, (512 : Int32)) := rfl
theorem fA_26 : K.2.2[26]? = some ("plType", .int, (16 : Int32)) := rfl
theorem fA_27 : K.2.2[27]? = some ("plTable", .int, (16 : Int32)) := rfl
theorem fA_28 : K.2.2[28]? = some ("plLeft", .int, (16 : Int32)) := rfl
theorem fA_29 : K.2.2[29]? = some ("plRight", .int, (16 : Int32)) := rfl
theorem fA_30 : K.2.2[30]? = some ("plKind", .int, (16 : Int32)) := rfl
theorem fA_31 : K.2.2[31]? = some ("plLen", .int, (16 : Int32)) := rfl
theorem fA_32 : K.2.2[32]? = some ("plMap", .int, (128 : Int32)) := rfl
theorem fA_33 : K.2.2[33]? = some ("needMask", .int, (16 : Int32)) := rfl
theorem fA_34 : K.2.2[34]? = some ("plEmpty", .boolean, (16 : Int32)) := rfl
theorem fA_35 : K.2.2[35]? = some ("head", .int, (32 : Int32)) := rfl
theorem fA_36 : K.2.2[36]? = some ("qOp", .int, (512 : Int32)) := rfl
theorem fA_37 : K.2.2[37]? = some ("qA", .int, (512 : Int32)) := rfl
theorem fA_38 : K.2.2[38]? = some ("qB", .int, (512 : Int32)) := rfl
theorem fA_39 : K.2.2[39]? = some ("qFl", .int, (512 : Int32)) := rfl
theorem fA_40 : K.2.2[40]? = some ("qNext", .int, (512 : Int32)) := rfl
theorem fA_41 : K.2.2[41]? = some ("stNode", .int, (64 : Int32)) := rfl
theorem fA_42 : K.2.2[42]? = some ("stPhase", .int, (64 : Int32)) := rfl
theorem fA_43 : K.2.2[43]? = some ("resStack", .int, (64 : Int32)) := rfl
theorem fA_44 : K.2.2[44]? = some ("tmpMap", .int, (8 : Int32)) := rfl
theorem cb_m3 : (Int8.ofInt (-3)).toInt32 = (-3 : Int32) := by decide
theorem cb_m2 : (Int8.ofInt (-2)).toInt32 = (-2 : Int32) := by decide
theorem cb_6 : (Int8.ofInt 6).toInt32 = (6 : Int32) := by decide
theorem cb_7 : (Int8.ofInt 7).toInt32 = (7 : Int32) := by decide
theorem cb_8 : (Int8.ofInt 8).toInt32 = (8 : Int32) := by decide
theorem cb_16 : (Int8.ofInt 16).toInt32 = (16 : Int32) := by decide
theorem cb_24 : (Int8.ofInt 24).toInt32 = (24 : Int32) := by decide
theorem cb_31 : (Int8.ofInt 31).toInt32 = (31 : Int32) := by decide
theorem cb_32 : (Int8.ofInt 32).toInt32 = (32 : Int32) := by decide
theorem cb_64 : (Int8.ofInt 64).toInt32 = (64 : Int32) := by decide
theorem cb_96 : (Int8.ofInt 96).toInt32 = (96 : Int32) := by decide
theorem ci_m1 : Int32.ofInt (-1) = (-1 : Int32) := by decide
theorem ci_0 : Int32.ofInt 0 = (0 : Int32) := by decide
theorem ci_1 : Int32.ofInt 1 = (1 : Int32) := by decide
theorem ci_2 : Int32.ofInt 2 = (2 : Int32) := by decide
theorem ci_3 : Int32.ofInt 3 = (3 : Int32) := by decide
theorem ci_4 : Int32.ofInt 4 = (4 : Int32) := by decide
theorem ci_5 : Int32.ofInt 5 = (5 : Int32) := by decide
theorem cs_128 : (Int16.ofInt 128).toInt32 = (128 : Int32) := by decide
theorem cs_512 : (Int16.ofInt 512).toInt32 = (512 : Int32) := by decide
theorem cs_1000 : (Int16.ofInt 1000).toInt32 = (1000 : Int32) := by decide
theorem cs_4096 : (Int16.ofInt 4096).toInt32 = (4096 : Int32) := by decide
theorem cs_16384 : (Int16.ofInt 16384).toInt32 = (16384 : Int32) := by decide
def B2 : Bdy := ((⟨"QueryRewriter", "clamp", "(III)I"⟩ : MethodName), prog_1_method_2_code, 4, (some .int), ({ frames := 0, cells := 0, slots := 0, locals := 0 } : Room))
theorem d2_0 : DAt B2 0 (.iload_n 1) 1 1 := by decide +kernel
theorem d2_1 : DAt B2 1 (.iload_n 2) 1 2 := by decide +kernel
theorem d2_2 : DAt B2 2 (.if_icmp .ge 5) 3 5 := by decide +kernel
theorem d2_5 : DAt B2 5 (.iload_n 2) 1 6 := by decide +kernel
theorem d2_6 : DAt B2 6 (.ireturn) 1 7 := by decide +kernel
theorem d2_7 : DAt B2 7 (.iload_n 1) 1 8 := by decide +kernel
theorem d2_8 : DAt B2 8 (.iload_n 3) 1 9 := by decide +kernel
theorem d2_9 : DAt B2 9 (.if_icmp .le 5) 3 12 := by decide +kernel
theorem d2_12 : DAt B2 12 (.iload_n 3) 1 13 := by decide +kernel
theorem d2_13 : DAt B2 13 (.ireturn) 1 14 := by decide +kernel
theorem d2_14 : DAt B2 14 (.iload_n 1) 1 15 := by decide +kernel
theorem d2_15 : DAt B2 15 (.ireturn) 1 16 := by decide +kernel
def B1 : Bdy := ((⟨"QueryRewriter", "<init>", "(II)V"⟩ : MethodName), prog_1_method_1_code, 3, none, ({ frames := 1, cells := 45, slots := 20696, locals := 16 } : Room))
theorem d1_0 : DAt B1 0 (.aload_n 0) 1 1 := by decide +kernel
theorem d1_1 : DAt B1 1 (.invokespecial 1) 3 4 := by decide +kernel
theorem d1_4 : DAt B1 4 (.aload_n 0) 1 5 := by decide +kernel
theorem d1_5 : DAt B1 5 (.iconst 0) 1 6 := by decide +kernel
theorem d1_6 : DAt B1 6 (.putfield 7) 3 9 := by decide +kernel
theorem d1_9 : DAt B1 9 (.aload_n 0) 1 10 := by decide +kernel
theorem d1_10 : DAt B1 10 (.iconst 1) 1 11 := by decide +kernel
theorem d1_11 : DAt B1 11 (.putfield 13) 3 14 := by decide +kernel
theorem d1_14 : DAt B1 14 (.aload_n 0) 1 15 := by decide +kernel
theorem d1_15 : DAt B1 15 (.iconst 2) 1 16 := by decide +kernel
theorem d1_16 : DAt B1 16 (.putfield 16) 3 19 := by decide +kernel
theorem d1_19 : DAt B1 19 (.aload_n 0) 1 20 := by decide +kernel
theorem d1_20 : DAt B1 20 (.iconst 3) 1 21 := by decide +kernel
theorem d1_21 : DAt B1 21 (.putfield 19) 3 24 := by decide +kernel
theorem d1_24 : DAt B1 24 (.aload_n 0) 1 25 := by decide +kernel
theorem d1_25 : DAt B1 25 (.iconst 4) 1 26 := by decide +kernel
theorem d1_26 : DAt B1 26 (.putfield 22) 3 29 := by decide +kernel
theorem d1_29 : DAt B1 29 (.aload_n 0) 1 30 := by decide +kernel
theorem d1_30 : DAt B1 30 (.iconst 0) 1 31 := by decide +kernel
theorem d1_31 : DAt B1 31 (.putfield 25) 3 34 := by decide +kernel
theorem d1_34 : DAt B1 34 (.aload_n 0) 1 35 := by decide +kernel
theorem d1_35 : DAt B1 35 (.iconst 1) 1 36 := by decide +kernel
theorem d1_36 : DAt B1 36 (.putfield 28) 3 39 := by decide +kernel
theorem d1_39 : DAt B1 39 (.aload_n 0) 1 40 := by decide +kernel
theorem d1_40 : DAt B1 40 (.iconst 4) 1 41 := by decide +kernel
theorem d1_41 : DAt B1 41 (.newarray .int) 2 43 := by decide +kernel
theorem d1_43 : DAt B1 43 (.putfield 31) 3 46 := by decide +kernel
theorem d1_46 : DAt B1 46 (.aload_n 0) 1 47 := by decide +kernel
theorem d1_47 : DAt B1 47 (.iconst 4) 1 48 := by decide +kernel
theorem d1_48 : DAt B1 48 (.newarray .int) 2 50 := by decide +kernel
theorem d1_50 : DAt B1 50 (.putfield 35) 3 53 := by decide +kernel
theorem d1_53 : DAt B1 53 (.aload_n 0) 1 54 := by decide +kernel
theorem d1_54 : DAt B1 54 (.bipush 96) 2 56 := by decide +kernel
theorem d1_56 : DAt B1 56 (.newarray .int) 2 58 := by decide +kernel
theorem d1_58 : DAt B1 58 (.putfield 38) 3 61 := by decide +kernel
theorem d1_61 : DAt B1 61 (.aload_n 0) 1 62 := by decide +kernel
theorem d1_62 : DAt B1 62 (.iconst 4) 1 63 := by decide +kernel
theorem d1_63 : DAt B1 63 (.newarray .int) 2 65 := by decide +kernel
theorem d1_65 : DAt B1 65 (.putfield 41) 3 68 := by decide +kernel
theorem d1_68 : DAt B1 68 (.aload_n 0) 1 69 := by decide +kernel
theorem d1_69 : DAt B1 69 (.iconst 4) 1 70 := by decide +kernel
theorem d1_70 : DAt B1 70 (.newarray .int) 2 72 := by decide +kernel
theorem d1_72 : DAt B1 72 (.putfield 44) 3 75 := by decide +kernel
theorem d1_75 : DAt B1 75 (.aload_n 0) 1 76 := by decide +kernel
theorem d1_76 : DAt B1 76 (.iconst 4) 1 77 := by decide +kernel
theorem d1_77 : DAt B1 77 (.newarray .int) 2 79 := by decide +kernel
theorem d1_79 : DAt B1 79 (.putfield 47) 3 82 := by decide +kernel
theorem d1_82 : DAt B1 82 (.aload_n 0) 1 83 := by decide +kernel
theorem d1_83 : DAt B1 83 (.iconst 4) 1 84 := by decide +kernel
theorem d1_84 : DAt B1 84 (.newarray .int) 2 86 := by decide +kernel
theorem d1_86 : DAt B1 86 (.putfield 50) 3 89 := by decide +kernel
theorem d1_89 : DAt B1 89 (.aload_n 0) 1 90 := by decide +kernel
theorem d1_90 : DAt B1 90 (.bipush 32) 2 92 := by decide +kernel
theorem d1_92 : DAt B1 92 (.newarray .int) 2 94 := by decide +kernel
theorem d1_94 : DAt B1 94 (.putfield 53) 3 97 := by decide +kernel
theorem d1_97 : DAt B1 97 (.aload_n 0) 1 98 := by decide +kernel
theorem d1_98 : DAt B1 98 (.bipush 32) 2 100 := by decide +kernel
theorem d1_100 : DAt B1 100 (.newarray .int) 2 102 := by decide +kernel
theorem d1_102 : DAt B1 102 (.putfield 56) 3 105 := by decide +kernel
theorem d1_105 : DAt B1 105 (.aload_n 0) 1 106 := by decide +kernel
theorem d1_106 : DAt B1 106 (.bipush 32) 2 108 := by decide +kernel
theorem d1_108 : DAt B1 108 (.newarray .int) 2 110 := by decide +kernel
theorem d1_110 : DAt B1 110 (.putfield 59) 3 113 := by decide +kernel
theorem d1_113 : DAt B1 113 (.aload_n 0) 1 114 := by decide +kernel
theorem d1_114 : DAt B1 114 (.bipush 32) 2 116 := by decide +kernel
theorem d1_116 : DAt B1 116 (.newarray .int) 2 118 := by decide +kernel
theorem d1_118 : DAt B1 118 (.putfield 62) 3 121 := by decide +kernel
theorem d1_121 : DAt B1 121 (.aload_n 0) 1 122 := by decide +kernel
theorem d1_122 : DAt B1 122 (.bipush 32) 2 124 := by decide +kernel
theorem d1_124 : DAt B1 124 (.newarray .int) 2 126 := by decide +kernel
theorem d1_126 : DAt B1 126 (.putfield 65) 3 129 := by decide +kernel
theorem d1_129 : DAt B1 129 (.aload_n 0) 1 130 := by decide +kernel
theorem d1_130 : DAt B1 130 (.bipush 32) 2 132 := by decide +kernel
theorem d1_132 : DAt B1 132 (.newarray .int) 2 134 := by decide +kernel
theorem d1_134 : DAt B1 134 (.putfield 68) 3 137 := by decide +kernel
theorem d1_137 : DAt B1 137 (.aload_n 0) 1 138 := by decide +kernel
theorem d1_138 : DAt B1 138 (.bipush 32) 2 140 := by decide +kernel
theorem d1_140 : DAt B1 140 (.newarray .int) 2 142 := by decide +kernel
theorem d1_142 : DAt B1 142 (.putfield 71) 3 145 := by decide +kernel
theorem d1_145 : DAt B1 145 (.aload_n 0) 1 146 := by decide +kernel
theorem d1_146 : DAt B1 146 (.bipush 32) 2 148 := by decide +kernel
theorem d1_148 : DAt B1 148 (.newarray .int) 2 150 := by decide +kernel
theorem d1_150 : DAt B1 150 (.putfield 74) 3 153 := by decide +kernel
theorem d1_153 : DAt B1 153 (.aload_n 0) 1 154 := by decide +kernel
theorem d1_154 : DAt B1 154 (.bipush 64) 2 156 := by decide +kernel
theorem d1_156 : DAt B1 156 (.newarray .int) 2 158 := by decide +kernel
theorem d1_158 : DAt B1 158 (.putfield 77) 3 161 := by decide +kernel
theorem d1_161 : DAt B1 161 (.aload_n 0) 1 162 := by decide +kernel
theorem d1_162 : DAt B1 162 (.bipush 64) 2 164 := by decide +kernel
theorem d1_164 : DAt B1 164 (.newarray .int) 2 166 := by decide +kernel
theorem d1_166 : DAt B1 166 (.putfield 80) 3 169 := by decide +kernel
theorem d1_169 : DAt B1 169 (.aload_n 0) 1 170 := by decide +kernel
theorem d1_170 : DAt B1 170 (.bipush 64) 2 172 := by decide +kernel
theorem d1_172 : DAt B1 172 (.newarray .int) 2 174 := by decide +kernel
theorem d1_174 : DAt B1 174 (.putfield 83) 3 177 := by decide +kernel
theorem d1_177 : DAt B1 177 (.aload_n 0) 1 178 := by decide +kernel
theorem d1_178 : DAt B1 178 (.bipush 64) 2 180 := by decide +kernel
theorem d1_180 : DAt B1 180 (.newarray .int) 2 182 := by decide +kernel
theorem d1_182 : DAt B1 182 (.putfield 86) 3 185 := by decide +kernel
theorem d1_185 : DAt B1 185 (.aload_n 0) 1 186 := by decide +kernel
theorem d1_186 : DAt B1 186 (.bipush 8) 2 188 := by decide +kernel
theorem d1_188 : DAt B1 188 (.newarray .int) 2 190 := by decide +kernel
theorem d1_190 : DAt B1 190 (.putfield 89) 3 193 := by decide +kernel
theorem d1_193 : DAt B1 193 (.aload_n 0) 1 194 := by decide +kernel
theorem d1_194 : DAt B1 194 (.bipush 32) 2 196 := by decide +kernel
theorem d1_196 : DAt B1 196 (.newarray .int) 2 198 := by decide +kernel
theorem d1_198 : DAt B1 198 (.putfield 92) 3 201 := by decide +kernel
theorem d1_201 : DAt B1 201 (.aload_n 0) 1 202 := by decide +kernel
theorem d1_202 : DAt B1 202 (.bipush 32) 2 204 := by decide +kernel
theorem d1_204 : DAt B1 204 (.newarray .boolean) 2 206 := by decide +kernel
theorem d1_206 : DAt B1 206 (.putfield 95) 3 209 := by decide +kernel
theorem d1_209 : DAt B1 209 (.aload_n 0) 1 210 := by decide +kernel
theorem d1_210 : DAt B1 210 (.sipush 16384) 3 213 := by decide +kernel
theorem d1_213 : DAt B1 213 (.newarray .int) 2 215 := by decide +kernel
theorem d1_215 : DAt B1 215 (.putfield 99) 3 218 := by decide +kernel
theorem d1_218 : DAt B1 218 (.aload_n 0) 1 219 := by decide +kernel
theorem d1_219 : DAt B1 219 (.bipush 32) 2 221 := by decide +kernel
theorem d1_221 : DAt B1 221 (.newarray .int) 2 223 := by decide +kernel
theorem d1_223 : DAt B1 223 (.putfield 102) 3 226 := by decide +kernel
theorem d1_226 : DAt B1 226 (.aload_n 0) 1 227 := by decide +kernel
theorem d1_227 : DAt B1 227 (.bipush 16) 2 229 := by decide +kernel
theorem d1_229 : DAt B1 229 (.newarray .int) 2 231 := by decide +kernel
theorem d1_231 : DAt B1 231 (.putfield 105) 3 234 := by decide +kernel
theorem d1_234 : DAt B1 234 (.aload_n 0) 1 235 := by decide +kernel
theorem d1_235 : DAt B1 235 (.sipush 512) 3 238 := by decide +kernel
theorem d1_238 : DAt B1 238 (.newarray .int) 2 240 := by decide +kernel
theorem d1_240 : DAt B1 240 (.putfield 108) 3 243 := by decide +kernel
theorem d1_243 : DAt B1 243 (.aload_n 0) 1 244 := by decide +kernel
theorem d1_244 : DAt B1 244 (.bipush 16) 2 246 := by decide +kernel
theorem d1_246 : DAt B1 246 (.newarray .int) 2 248 := by decide +kernel
theorem d1_248 : DAt B1 248 (.putfield 111) 3 251 := by decide +kernel
theorem d1_251 : DAt B1 251 (.aload_n 0) 1 252 := by decide +kernel
theorem d1_252 : DAt B1 252 (.bipush 16) 2 254 := by decide +kernel
theorem d1_254 : DAt B1 254 (.newarray .int) 2 256 := by decide +kernel
theorem d1_256 : DAt B1 256 (.putfield 114) 3 259 := by decide +kernel
theorem d1_259 : DAt B1 259 (.aload_n 0) 1 260 := by decide +kernel
theorem d1_260 : DAt B1 260 (.bipush 16) 2 262 := by decide +kernel
theorem d1_262 : DAt B1 262 (.newarray .int) 2 264 := by decide +kernel
theorem d1_264 : DAt B1 264 (.putfield 117) 3 267 := by decide +kernel
theorem d1_267 : DAt B1 267 (.aload_n 0) 1 268 := by decide +kernel
theorem d1_268 : DAt B1 268 (.bipush 16) 2 270 := by decide +kernel
theorem d1_270 : DAt B1 270 (.newarray .int) 2 272 := by decide +kernel
theorem d1_272 : DAt B1 272 (.putfield 120) 3 275 := by decide +kernel
theorem d1_275 : DAt B1 275 (.aload_n 0) 1 276 := by decide +kernel
theorem d1_276 : DAt B1 276 (.bipush 16) 2 278 := by decide +kernel
theorem d1_278 : DAt B1 278 (.newarray .int) 2 280 := by decide +kernel
theorem d1_280 : DAt B1 280 (.putfield 123) 3 283 := by decide +kernel
theorem d1_283 : DAt B1 283 (.aload_n 0) 1 284 := by decide +kernel
theorem d1_284 : DAt B1 284 (.bipush 16) 2 286 := by decide +kernel
theorem d1_286 : DAt B1 286 (.newarray .int) 2 288 := by decide +kernel
theorem d1_288 : DAt B1 288 (.putfield 126) 3 291 := by decide +kernel
theorem d1_291 : DAt B1 291 (.aload_n 0) 1 292 := by decide +kernel
theorem d1_292 : DAt B1 292 (.sipush 128) 3 295 := by decide +kernel
theorem d1_295 : DAt B1 295 (.newarray .int) 2 297 := by decide +kernel
theorem d1_297 : DAt B1 297 (.putfield 129) 3 300 := by decide +kernel
theorem d1_300 : DAt B1 300 (.aload_n 0) 1 301 := by decide +kernel
theorem d1_301 : DAt B1 301 (.bipush 16) 2 303 := by decide +kernel
theorem d1_303 : DAt B1 303 (.newarray .int) 2 305 := by decide +kernel
theorem d1_305 : DAt B1 305 (.putfield 132) 3 308 := by decide +kernel
theorem d1_308 : DAt B1 308 (.aload_n 0) 1 309 := by decide +kernel
theorem d1_309 : DAt B1 309 (.bipush 16) 2 311 := by decide +kernel
theorem d1_311 : DAt B1 311 (.newarray .boolean) 2 313 := by decide +kernel
theorem d1_313 : DAt B1 313 (.putfield 135) 3 316 := by decide +kernel
theorem d1_316 : DAt B1 316 (.aload_n 0) 1 317 := by decide +kernel
theorem d1_317 : DAt B1 317 (.bipush 32) 2 319 := by decide +kernel
theorem d1_319 : DAt B1 319 (.newarray .int) 2 321 := by decide +kernel
theorem d1_321 : DAt B1 321 (.putfield 138) 3 324 := by decide +kernel
theorem d1_324 : DAt B1 324 (.aload_n 0) 1 325 := by decide +kernel
theorem d1_325 : DAt B1 325 (.sipush 512) 3 328 := by decide +kernel
theorem d1_328 : DAt B1 328 (.newarray .int) 2 330 := by decide +kernel
theorem d1_330 : DAt B1 330 (.putfield 141) 3 333 := by decide +kernel
theorem d1_333 : DAt B1 333 (.aload_n 0) 1 334 := by decide +kernel
theorem d1_334 : DAt B1 334 (.sipush 512) 3 337 := by decide +kernel
theorem d1_337 : DAt B1 337 (.newarray .int) 2 339 := by decide +kernel
theorem d1_339 : DAt B1 339 (.putfield 144) 3 342 := by decide +kernel
theorem d1_342 : DAt B1 342 (.aload_n 0) 1 343 := by decide +kernel
theorem d1_343 : DAt B1 343 (.sipush 512) 3 346 := by decide +kernel
theorem d1_346 : DAt B1 346 (.newarray .int) 2 348 := by decide +kernel
theorem d1_348 : DAt B1 348 (.putfield 147) 3 351 := by decide +kernel
theorem d1_351 : DAt B1 351 (.aload_n 0) 1 352 := by decide +kernel
theorem d1_352 : DAt B1 352 (.sipush 512) 3 355 := by decide +kernel
theorem d1_355 : DAt B1 355 (.newarray .int) 2 357 := by decide +kernel
theorem d1_357 : DAt B1 357 (.putfield 150) 3 360 := by decide +kernel
theorem d1_360 : DAt B1 360 (.aload_n 0) 1 361 := by decide +kernel
theorem d1_361 : DAt B1 361 (.sipush 512) 3 364 := by decide +kernel
theorem d1_364 : DAt B1 364 (.newarray .int) 2 366 := by decide +kernel
theorem d1_366 : DAt B1 366 (.putfield 153) 3 369 := by decide +kernel
theorem d1_369 : DAt B1 369 (.aload_n 0) 1 370 := by decide +kernel
theorem d1_370 : DAt B1 370 (.bipush 64) 2 372 := by decide +kernel
theorem d1_372 : DAt B1 372 (.newarray .int) 2 374 := by decide +kernel
theorem d1_374 : DAt B1 374 (.putfield 156) 3 377 := by decide +kernel
theorem d1_377 : DAt B1 377 (.aload_n 0) 1 378 := by decide +kernel
theorem d1_378 : DAt B1 378 (.bipush 64) 2 380 := by decide +kernel
theorem d1_380 : DAt B1 380 (.newarray .int) 2 382 := by decide +kernel
theorem d1_382 : DAt B1 382 (.putfield 159) 3 385 := by decide +kernel
theorem d1_385 : DAt B1 385 (.aload_n 0) 1 386 := by decide +kernel
theorem d1_386 : DAt B1 386 (.bipush 64) 2 388 := by decide +kernel
theorem d1_388 : DAt B1 388 (.newarray .int) 2 390 := by decide +kernel
theorem d1_390 : DAt B1 390 (.putfield 162) 3 393 := by decide +kernel
theorem d1_393 : DAt B1 393 (.aload_n 0) 1 394 := by decide +kernel
theorem d1_394 : DAt B1 394 (.bipush 8) 2 396 := by decide +kernel
theorem d1_396 : DAt B1 396 (.newarray .int) 2 398 := by decide +kernel
theorem d1_398 : DAt B1 398 (.putfield 165) 3 401 := by decide +kernel
theorem d1_401 : DAt B1 401 (.aload_n 0) 1 402 := by decide +kernel
theorem d1_402 : DAt B1 402 (.aload_n 0) 1 403 := by decide +kernel
theorem d1_403 : DAt B1 403 (.iload_n 1) 1 404 := by decide +kernel
theorem d1_404 : DAt B1 404 (.iconst 1) 1 405 := by decide +kernel
theorem d1_405 : DAt B1 405 (.bipush 8) 2 407 := by decide +kernel
theorem d1_407 : DAt B1 407 (.invokevirtual 168) 3 410 := by decide +kernel
theorem d1_410 : DAt B1 410 (.putfield 172) 3 413 := by decide +kernel
theorem d1_413 : DAt B1 413 (.aload_n 0) 1 414 := by decide +kernel
theorem d1_414 : DAt B1 414 (.aload_n 0) 1 415 := by decide +kernel
theorem d1_415 : DAt B1 415 (.iload_n 2) 1 416 := by decide +kernel
theorem d1_416 : DAt B1 416 (.bipush 16) 2 418 := by decide +kernel
theorem d1_418 : DAt B1 418 (.bipush 64) 2 420 := by decide +kernel
theorem d1_420 : DAt B1 420 (.invokevirtual 168) 3 423 := by decide +kernel
theorem d1_423 : DAt B1 423 (.putfield 175) 3 426 := by decide +kernel
theorem d1_426 : DAt B1 426 (.return_) 1 427 := by decide +kernel
def B3 : Bdy := ((⟨"QueryRewriter", "createTable", "(II)Z"⟩ : MethodName), prog_1_method_3_code, 3, (some .boolean), ({ frames := 0, cells := 0, slots := 0, locals := 0 } : Room))
theorem d3_0 : DAt B3 0 (.iload_n 1) 1 1 := by decide +kernel
theorem d3_1 : DAt B3 1 (.ifCond .lt 18) 3 4 := by decide +kernel
theorem d3_4 : DAt B3 4 (.iload_n 1) 1 5 := by decide +kernel
theorem d3_5 : DAt B3 5 (.iconst 4) 1 6 := by decide +kernel
theorem d3_6 : DAt B3 6 (.if_icmp .ge 13) 3 9 := by decide +kernel
theorem d3_9 : DAt B3 9 (.iload_n 2) 1 10 := by decide +kernel
theorem d3_10 : DAt B3 10 (.iconst 1) 1 11 := by decide +kernel
theorem d3_11 : DAt B3 11 (.if_icmp .lt 8) 3 14 := by decide +kernel
theorem d3_14 : DAt B3 14 (.iload_n 2) 1 15 := by decide +kernel
theorem d3_15 : DAt B3 15 (.iconst 3) 1 16 := by decide +kernel
theorem d3_16 : DAt B3 16 (.if_icmp .le 5) 3 19 := by decide +kernel
theorem d3_19 : DAt B3 19 (.iconst 0) 1 20 := by decide +kernel
theorem d3_20 : DAt B3 20 (.ireturn) 1 21 := by decide +kernel
theorem d3_21 : DAt B3 21 (.aload_n 0) 1 22 := by decide +kernel
theorem d3_22 : DAt B3 22 (.getfield 31) 3 25 := by decide +kernel
theorem d3_25 : DAt B3 25 (.iload_n 1) 1 26 := by decide +kernel
theorem d3_26 : DAt B3 26 (.iaload) 1 27 := by decide +kernel
theorem d3_27 : DAt B3 27 (.ifCond .eq 5) 3 30 := by decide +kernel
theorem d3_30 : DAt B3 30 (.iconst 0) 1 31 := by decide +kernel
theorem d3_31 : DAt B3 31 (.ireturn) 1 32 := by decide +kernel
theorem d3_32 : DAt B3 32 (.aload_n 0) 1 33 := by decide +kernel
theorem d3_33 : DAt B3 33 (.getfield 31) 3 36 := by decide +kernel
theorem d3_36 : DAt B3 36 (.iload_n 1) 1 37 := by decide +kernel
theorem d3_37 : DAt B3 37 (.iload_n 2) 1 38 := by decide +kernel
theorem d3_38 : DAt B3 38 (.iastore) 1 39 := by decide +kernel
theorem d3_39 : DAt B3 39 (.aload_n 0) 1 40 := by decide +kernel
theorem d3_40 : DAt B3 40 (.getfield 35) 3 43 := by decide +kernel
theorem d3_43 : DAt B3 43 (.iload_n 1) 1 44 := by decide +kernel
theorem d3_44 : DAt B3 44 (.iconst 0) 1 45 := by decide +kernel
theorem d3_45 : DAt B3 45 (.iastore) 1 46 := by decide +kernel
theorem d3_46 : DAt B3 46 (.iconst 1) 1 47 := by decide +kernel
theorem d3_47 : DAt B3 47 (.ireturn) 1 48 := by decide +kernel
def B5 : Bdy := ((⟨"QueryRewriter", "tableExists", "(I)Z"⟩ : MethodName), prog_1_method_4_code, 2, (some .boolean), ({ frames := 0, cells := 0, slots := 0, locals := 0 } : Room))
theorem d5_0 : DAt B5 0 (.iload_n 1) 1 1 := by decide +kernel
theorem d5_1 : DAt B5 1 (.ifCond .lt 21) 3 4 := by decide +kernel
theorem d5_4 : DAt B5 4 (.iload_n 1) 1 5 := by decide +kernel
theorem d5_5 : DAt B5 5 (.iconst 4) 1 6 := by decide +kernel
theorem d5_6 : DAt B5 6 (.if_icmp .ge 16) 3 9 := by decide +kernel
theorem d5_9 : DAt B5 9 (.aload_n 0) 1 10 := by decide +kernel
theorem d5_10 : DAt B5 10 (.getfield 31) 3 13 := by decide +kernel
theorem d5_13 : DAt B5 13 (.iload_n 1) 1 14 := by decide +kernel
theorem d5_14 : DAt B5 14 (.iaload) 1 15 := by decide +kernel
theorem d5_15 : DAt B5 15 (.ifCond .eq 7) 3 18 := by decide +kernel
theorem d5_18 : DAt B5 18 (.iconst 1) 1 19 := by decide +kernel
theorem d5_19 : DAt B5 19 (.goto 4) 3 22 := by decide +kernel
theorem d5_22 : DAt B5 22 (.iconst 0) 1 23 := by decide +kernel
theorem d5_23 : DAt B5 23 (.ireturn) 1 24 := by decide +kernel
def B4 : Bdy := ((⟨"QueryRewriter", "insert", "(IIII)I"⟩ : MethodName), prog_1_method_5_code, 7, (some .int), ({ frames := 1, cells := 0, slots := 0, locals := 13 } : Room))
theorem d4_0 : DAt B4 0 (.aload_n 0) 1 1 := by decide +kernel
theorem d4_1 : DAt B4 1 (.iload_n 1) 1 2 := by decide +kernel
theorem d4_2 : DAt B4 2 (.invokevirtual 178) 3 5 := by decide +kernel
theorem d4_5 : DAt B4 5 (.ifCond .ne 5) 3 8 := by decide +kernel
theorem d4_8 : DAt B4 8 (.iconst (-1)) 1 9 := by decide +kernel
theorem d4_9 : DAt B4 9 (.ireturn) 1 10 := by decide +kernel
theorem d4_10 : DAt B4 10 (.aload_n 0) 1 11 := by decide +kernel
theorem d4_11 : DAt B4 11 (.getfield 35) 3 14 := by decide +kernel
theorem d4_14 : DAt B4 14 (.iload_n 1) 1 15 := by decide +kernel
theorem d4_15 : DAt B4 15 (.iaload) 1 16 := by decide +kernel
theorem d4_16 : DAt B4 16 (.istore 5) 2 18 := by decide +kernel
theorem d4_18 : DAt B4 18 (.iload 5) 2 20 := by decide +kernel
theorem d4_20 : DAt B4 20 (.aload_n 0) 1 21 := by decide +kernel
theorem d4_21 : DAt B4 21 (.getfield 172) 3 24 := by decide +kernel
theorem d4_24 : DAt B4 24 (.if_icmp .ge 10) 3 27 := by decide +kernel
theorem d4_27 : DAt B4 27 (.iload 5) 2 29 := by decide +kernel
theorem d4_29 : DAt B4 29 (.bipush 8) 2 31 := by decide +kernel
theorem d4_31 : DAt B4 31 (.if_icmp .lt 6) 3 34 := by decide +kernel
theorem d4_34 : DAt B4 34 (.bipush (-2)) 2 36 := by decide +kernel
theorem d4_36 : DAt B4 36 (.ireturn) 1 37 := by decide +kernel
theorem d4_37 : DAt B4 37 (.iload_n 1) 1 38 := by decide +kernel
theorem d4_38 : DAt B4 38 (.bipush 24) 2 40 := by decide +kernel
theorem d4_40 : DAt B4 40 (.imul) 1 41 := by decide +kernel
theorem d4_41 : DAt B4 41 (.iload 5) 2 43 := by decide +kernel
theorem d4_43 : DAt B4 43 (.iconst 3) 1 44 := by decide +kernel
theorem d4_44 : DAt B4 44 (.imul) 1 45 := by decide +kernel
theorem d4_45 : DAt B4 45 (.iadd) 1 46 := by decide +kernel
theorem d4_46 : DAt B4 46 (.istore 6) 2 48 := by decide +kernel
theorem d4_48 : DAt B4 48 (.aload_n 0) 1 49 := by decide +kernel
theorem d4_49 : DAt B4 49 (.getfield 38) 3 52 := by decide +kernel
theorem d4_52 : DAt B4 52 (.iload 6) 2 54 := by decide +kernel
theorem d4_54 : DAt B4 54 (.iload_n 2) 1 55 := by decide +kernel
theorem d4_55 : DAt B4 55 (.iastore) 1 56 := by decide +kernel
theorem d4_56 : DAt B4 56 (.aload_n 0) 1 57 := by decide +kernel
theorem d4_57 : DAt B4 57 (.getfield 38) 3 60 := by decide +kernel
theorem d4_60 : DAt B4 60 (.iload 6) 2 62 := by decide +kernel
theorem d4_62 : DAt B4 62 (.iconst 1) 1 63 := by decide +kernel
theorem d4_63 : DAt B4 63 (.iadd) 1 64 := by decide +kernel
theorem d4_64 : DAt B4 64 (.iload_n 3) 1 65 := by decide +kernel
theorem d4_65 : DAt B4 65 (.iastore) 1 66 := by decide +kernel
theorem d4_66 : DAt B4 66 (.aload_n 0) 1 67 := by decide +kernel
theorem d4_67 : DAt B4 67 (.getfield 38) 3 70 := by decide +kernel
theorem d4_70 : DAt B4 70 (.iload 6) 2 72 := by decide +kernel
theorem d4_72 : DAt B4 72 (.iconst 2) 1 73 := by decide +kernel
theorem d4_73 : DAt B4 73 (.iadd) 1 74 := by decide +kernel
theorem d4_74 : DAt B4 74 (.iload 4) 2 76 := by decide +kernel
theorem d4_76 : DAt B4 76 (.iastore) 1 77 := by decide +kernel
theorem d4_77 : DAt B4 77 (.aload_n 0) 1 78 := by decide +kernel
theorem d4_78 : DAt B4 78 (.getfield 35) 3 81 := by decide +kernel
theorem d4_81 : DAt B4 81 (.iload_n 1) 1 82 := by decide +kernel
theorem d4_82 : DAt B4 82 (.iload 5) 2 84 := by decide +kernel
theorem d4_84 : DAt B4 84 (.iconst 1) 1 85 := by decide +kernel
theorem d4_85 : DAt B4 85 (.iadd) 1 86 := by decide +kernel
theorem d4_86 : DAt B4 86 (.iastore) 1 87 := by decide +kernel
theorem d4_87 : DAt B4 87 (.iload 5) 2 89 := by decide +kernel
theorem d4_89 : DAt B4 89 (.ireturn) 1 90 := by decide +kernel
def B7 : Bdy := ((⟨"QueryRewriter", "newNode", "(IIIII)I"⟩ : MethodName), prog_1_method_13_code, 7, (some .int), ({ frames := 0, cells := 0, slots := 0, locals := 0 } : Room))
theorem d7_0 : DAt B7 0 (.aload_n 0) 1 1 := by decide +kernel
theorem d7_1 : DAt B7 1 (.getfield 188) 3 4 := by decide +kernel
theorem d7_4 : DAt B7 4 (.bipush 32) 2 6 := by decide +kernel
theorem d7_6 : DAt B7 6 (.if_icmp .lt 6) 3 9 := by decide +kernel
theorem d7_9 : DAt B7 9 (.bipush (-2)) 2 11 := by decide +kernel
theorem d7_11 : DAt B7 11 (.ireturn) 1 12 := by decide +kernel
theorem d7_12 : DAt B7 12 (.aload_n 0) 1 13 := by decide +kernel
theorem d7_13 : DAt B7 13 (.getfield 188) 3 16 := by decide +kernel
theorem d7_16 : DAt B7 16 (.istore 6) 2 18 := by decide +kernel
theorem d7_18 : DAt B7 18 (.aload_n 0) 1 19 := by decide +kernel
theorem d7_19 : DAt B7 19 (.getfield 53) 3 22 := by decide +kernel
theorem d7_22 : DAt B7 22 (.iload 6) 2 24 := by decide +kernel
theorem d7_24 : DAt B7 24 (.iload_n 1) 1 25 := by decide +kernel
theorem d7_25 : DAt B7 25 (.iastore) 1 26 := by decide +kernel
theorem d7_26 : DAt B7 26 (.aload_n 0) 1 27 := by decide +kernel
theorem d7_27 : DAt B7 27 (.getfield 56) 3 30 := by decide +kernel
theorem d7_30 : DAt B7 30 (.iload 6) 2 32 := by decide +kernel
theorem d7_32 : DAt B7 32 (.iload_n 2) 1 33 := by decide +kernel
theorem d7_33 : DAt B7 33 (.iastore) 1 34 := by decide +kernel
theorem d7_34 : DAt B7 34 (.aload_n 0) 1 35 := by decide +kernel
theorem d7_35 : DAt B7 35 (.getfield 59) 3 38 := by decide +kernel
theorem d7_38 : DAt B7 38 (.iload 6) 2 40 := by decide +kernel
theorem d7_40 : DAt B7 40 (.iload_n 3) 1 41 := by decide +kernel
theorem d7_41 : DAt B7 41 (.iastore) 1 42 := by decide +kernel
theorem d7_42 : DAt B7 42 (.aload_n 0) 1 43 := by decide +kernel
theorem d7_43 : DAt B7 43 (.getfield 62) 3 46 := by decide +kernel
theorem d7_46 : DAt B7 46 (.iload 6) 2 48 := by decide +kernel
theorem d7_48 : DAt B7 48 (.iload 4) 2 50 := by decide +kernel
theorem d7_50 : DAt B7 50 (.iastore) 1 51 := by decide +kernel
theorem d7_51 : DAt B7 51 (.aload_n 0) 1 52 := by decide +kernel
theorem d7_52 : DAt B7 52 (.getfield 65) 3 55 := by decide +kernel
theorem d7_55 : DAt B7 55 (.iload 6) 2 57 := by decide +kernel
theorem d7_57 : DAt B7 57 (.iload 5) 2 59 := by decide +kernel
theorem d7_59 : DAt B7 59 (.iastore) 1 60 := by decide +kernel
theorem d7_60 : DAt B7 60 (.aload_n 0) 1 61 := by decide +kernel
theorem d7_61 : DAt B7 61 (.getfield 68) 3 64 := by decide +kernel
theorem d7_64 : DAt B7 64 (.iload 6) 2 66 := by decide +kernel
theorem d7_66 : DAt B7 66 (.iconst 0) 1 67 := by decide +kernel
theorem d7_67 : DAt B7 67 (.iastore) 1 68 := by decide +kernel
theorem d7_68 : DAt B7 68 (.aload_n 0) 1 69 := by decide +kernel
theorem d7_69 : DAt B7 69 (.getfield 71) 3 72 := by decide +kernel
theorem d7_72 : DAt B7 72 (.iload 6) 2 74 := by decide +kernel
theorem d7_74 : DAt B7 74 (.aload_n 0) 1 75 := by decide +kernel
theorem d7_75 : DAt B7 75 (.getfield 185) 3 78 := by decide +kernel
theorem d7_78 : DAt B7 78 (.iastore) 1 79 := by decide +kernel
theorem d7_79 : DAt B7 79 (.aload_n 0) 1 80 := by decide +kernel
theorem d7_80 : DAt B7 80 (.getfield 74) 3 83 := by decide +kernel
theorem d7_83 : DAt B7 83 (.iload 6) 2 85 := by decide +kernel
theorem d7_85 : DAt B7 85 (.iconst 0) 1 86 := by decide +kernel
theorem d7_86 : DAt B7 86 (.iastore) 1 87 := by decide +kernel
theorem d7_87 : DAt B7 87 (.aload_n 0) 1 88 := by decide +kernel
theorem d7_88 : DAt B7 88 (.dup) 1 89 := by decide +kernel
theorem d7_89 : DAt B7 89 (.getfield 188) 3 92 := by decide +kernel
theorem d7_92 : DAt B7 92 (.iconst 1) 1 93 := by decide +kernel
theorem d7_93 : DAt B7 93 (.iadd) 1 94 := by decide +kernel
theorem d7_94 : DAt B7 94 (.putfield 188) 3 97 := by decide +kernel
theorem d7_97 : DAt B7 97 (.iload 6) 2 99 := by decide +kernel
theorem d7_99 : DAt B7 99 (.ireturn) 1 100 := by decide +kernel
def B6 : Bdy := ((⟨"QueryRewriter", "scan", "(I)I"⟩ : MethodName), prog_1_method_14_code, 2, (some .int), ({ frames := 1, cells := 0, slots := 0, locals := 18 } : Room))
theorem d6_0 : DAt B6 0 (.aload_n 0) 1 1 := by decide +kernel
theorem d6_1 : DAt B6 1 (.iload_n 1) 1 2 := by decide +kernel
theorem d6_2 : DAt B6 2 (.invokevirtual 178) 3 5 := by decide +kernel
theorem d6_5 : DAt B6 5 (.ifCond .ne 5) 3 8 := by decide +kernel
theorem d6_8 : DAt B6 8 (.iconst (-1)) 1 9 := by decide +kernel
theorem d6_9 : DAt B6 9 (.ireturn) 1 10 := by decide +kernel
theorem d6_10 : DAt B6 10 (.aload_n 0) 1 11 := by decide +kernel
theorem d6_11 : DAt B6 11 (.getfield 188) 3 14 := by decide +kernel
theorem d6_14 : DAt B6 14 (.bipush 32) 2 16 := by decide +kernel
theorem d6_16 : DAt B6 16 (.if_icmp .lt 6) 3 19 := by decide +kernel
theorem d6_19 : DAt B6 19 (.bipush (-2)) 2 21 := by decide +kernel
theorem d6_21 : DAt B6 21 (.ireturn) 1 22 := by decide +kernel
theorem d6_22 : DAt B6 22 (.aload_n 0) 1 23 := by decide +kernel
theorem d6_23 : DAt B6 23 (.iconst 0) 1 24 := by decide +kernel
theorem d6_24 : DAt B6 24 (.aload_n 0) 1 25 := by decide +kernel
theorem d6_25 : DAt B6 25 (.getfield 31) 3 28 := by decide +kernel
theorem d6_28 : DAt B6 28 (.iload_n 1) 1 29 := by decide +kernel
theorem d6_29 : DAt B6 29 (.iaload) 1 30 := by decide +kernel
theorem d6_30 : DAt B6 30 (.iload_n 1) 1 31 := by decide +kernel
theorem d6_31 : DAt B6 31 (.iconst 0) 1 32 := by decide +kernel
theorem d6_32 : DAt B6 32 (.iconst 0) 1 33 := by decide +kernel
theorem d6_33 : DAt B6 33 (.invokevirtual 191) 3 36 := by decide +kernel
theorem d6_36 : DAt B6 36 (.ireturn) 1 37 := by decide +kernel
def B8 : Bdy := ((⟨"QueryRewriter", "atom", "(IIII)I"⟩ : MethodName), prog_1_method_8_code, 7, (some .int), ({ frames := 0, cells := 0, slots := 0, locals := 0 } : Room))
theorem d8_0 : DAt B8 0 (.iload_n 1) 1 1 := by decide +kernel
theorem d8_1 : DAt B8 1 (.ifCond .lt 20) 3 4 := by decide +kernel
theorem d8_4 : DAt B8 4 (.iload_n 1) 1 5 := by decide +kernel
theorem d8_5 : DAt B8 5 (.bipush 7) 2 7 := by decide +kernel
theorem d8_7 : DAt B8 7 (.if_icmp .gt 14) 3 10 := by decide +kernel
theorem d8_10 : DAt B8 10 (.iload 4) 2 12 := by decide +kernel
theorem d8_12 : DAt B8 12 (.ifCond .lt 9) 3 15 := by decide +kernel
theorem d8_15 : DAt B8 15 (.iload 4) 2 17 := by decide +kernel
theorem d8_17 : DAt B8 17 (.iconst 3) 1 18 := by decide +kernel
theorem d8_18 : DAt B8 18 (.if_icmp .le 5) 3 21 := by decide +kernel
theorem d8_21 : DAt B8 21 (.iconst (-1)) 1 22 := by decide +kernel
theorem d8_22 : DAt B8 22 (.ireturn) 1 23 := by decide +kernel
theorem d8_23 : DAt B8 23 (.iload 4) 2 25 := by decide +kernel
theorem d8_25 : DAt B8 25 (.iconst 1) 1 26 := by decide +kernel
theorem d8_26 : DAt B8 26 (.iand) 1 27 := by decide +kernel
theorem d8_27 : DAt B8 27 (.ifCond .eq 15) 3 30 := by decide +kernel
theorem d8_30 : DAt B8 30 (.iload_n 2) 1 31 := by decide +kernel
theorem d8_31 : DAt B8 31 (.ifCond .lt 9) 3 34 := by decide +kernel
theorem d8_34 : DAt B8 34 (.iload_n 2) 1 35 := by decide +kernel
theorem d8_35 : DAt B8 35 (.bipush 7) 2 37 := by decide +kernel
theorem d8_37 : DAt B8 37 (.if_icmp .le 5) 3 40 := by decide +kernel
theorem d8_40 : DAt B8 40 (.iconst (-1)) 1 41 := by decide +kernel
theorem d8_41 : DAt B8 41 (.ireturn) 1 42 := by decide +kernel
theorem d8_42 : DAt B8 42 (.iload_n 1) 1 43 := by decide +kernel
theorem d8_43 : DAt B8 43 (.iconst 5) 1 44 := by decide +kernel
theorem d8_44 : DAt B8 44 (.if_icmp .gt 22) 3 47 := by decide +kernel
theorem d8_47 : DAt B8 47 (.iload 4) 2 49 := by decide +kernel
theorem d8_49 : DAt B8 49 (.iconst 2) 1 50 := by decide +kernel
theorem d8_50 : DAt B8 50 (.iand) 1 51 := by decide +kernel
theorem d8_51 : DAt B8 51 (.ifCond .eq 15) 3 54 := by decide +kernel
theorem d8_54 : DAt B8 54 (.iload_n 3) 1 55 := by decide +kernel
theorem d8_55 : DAt B8 55 (.ifCond .lt 9) 3 58 := by decide +kernel
theorem d8_58 : DAt B8 58 (.iload_n 3) 1 59 := by decide +kernel
theorem d8_59 : DAt B8 59 (.bipush 7) 2 61 := by decide +kernel
theorem d8_61 : DAt B8 61 (.if_icmp .le 5) 3 64 := by decide +kernel
theorem d8_64 : DAt B8 64 (.iconst (-1)) 1 65 := by decide +kernel
theorem d8_65 : DAt B8 65 (.ireturn) 1 66 := by decide +kernel
theorem d8_66 : DAt B8 66 (.aload_n 0) 1 67 := by decide +kernel
theorem d8_67 : DAt B8 67 (.getfield 182) 3 70 := by decide +kernel
theorem d8_70 : DAt B8 70 (.iconst 4) 1 71 := by decide +kernel
theorem d8_71 : DAt B8 71 (.if_icmp .lt 6) 3 74 := by decide +kernel
theorem d8_74 : DAt B8 74 (.bipush (-2)) 2 76 := by decide +kernel
theorem d8_76 : DAt B8 76 (.ireturn) 1 77 := by decide +kernel
theorem d8_77 : DAt B8 77 (.iload 4) 2 79 := by decide +kernel
theorem d8_79 : DAt B8 79 (.istore 5) 2 81 := by decide +kernel
theorem d8_81 : DAt B8 81 (.iload_n 3) 1 82 := by decide +kernel
theorem d8_82 : DAt B8 82 (.istore 6) 2 84 := by decide +kernel
theorem d8_84 : DAt B8 84 (.iload_n 1) 1 85 := by decide +kernel
theorem d8_85 : DAt B8 85 (.bipush 6) 2 87 := by decide +kernel
theorem d8_87 : DAt B8 87 (.if_icmp .lt 12) 3 90 := by decide +kernel
theorem d8_90 : DAt B8 90 (.iload 4) 2 92 := by decide +kernel
theorem d8_92 : DAt B8 92 (.iconst 1) 1 93 := by decide +kernel
theorem d8_93 : DAt B8 93 (.iand) 1 94 := by decide +kernel
theorem d8_94 : DAt B8 94 (.istore 5) 2 96 := by decide +kernel
theorem d8_96 : DAt B8 96 (.iconst 0) 1 97 := by decide +kernel
theorem d8_97 : DAt B8 97 (.istore 6) 2 99 := by decide +kernel
theorem d8_99 : DAt B8 99 (.aload_n 0) 1 100 := by decide +kernel
theorem d8_100 : DAt B8 100 (.getfield 41) 3 103 := by decide +kernel
theorem d8_103 : DAt B8 103 (.aload_n 0) 1 104 := by decide +kernel
theorem d8_104 : DAt B8 104 (.getfield 182) 3 107 := by decide +kernel
theorem d8_107 : DAt B8 107 (.iload_n 1) 1 108 := by decide +kernel
theorem d8_108 : DAt B8 108 (.iastore) 1 109 := by decide +kernel
theorem d8_109 : DAt B8 109 (.aload_n 0) 1 110 := by decide +kernel
theorem d8_110 : DAt B8 110 (.getfield 44) 3 113 := by decide +kernel
theorem d8_113 : DAt B8 113 (.aload_n 0) 1 114 := by decide +kernel
theorem d8_114 : DAt B8 114 (.getfield 182) 3 117 := by decide +kernel
theorem d8_117 : DAt B8 117 (.iload_n 2) 1 118 := by decide +kernel
theorem d8_118 : DAt B8 118 (.iastore) 1 119 := by decide +kernel
theorem d8_119 : DAt B8 119 (.aload_n 0) 1 120 := by decide +kernel
theorem d8_120 : DAt B8 120 (.getfield 47) 3 123 := by decide +kernel
theorem d8_123 : DAt B8 123 (.aload_n 0) 1 124 := by decide +kernel
theorem d8_124 : DAt B8 124 (.getfield 182) 3 127 := by decide +kernel
theorem d8_127 : DAt B8 127 (.iload 6) 2 129 := by decide +kernel
theorem d8_129 : DAt B8 129 (.iastore) 1 130 := by decide +kernel
theorem d8_130 : DAt B8 130 (.aload_n 0) 1 131 := by decide +kernel
theorem d8_131 : DAt B8 131 (.getfield 50) 3 134 := by decide +kernel
theorem d8_134 : DAt B8 134 (.aload_n 0) 1 135 := by decide +kernel
theorem d8_135 : DAt B8 135 (.getfield 182) 3 138 := by decide +kernel
theorem d8_138 : DAt B8 138 (.iload 5) 2 140 := by decide +kernel
theorem d8_140 : DAt B8 140 (.iastore) 1 141 := by decide +kernel
theorem d8_141 : DAt B8 141 (.aload_n 0) 1 142 := by decide +kernel
theorem d8_142 : DAt B8 142 (.dup) 1 143 := by decide +kernel
theorem d8_143 : DAt B8 143 (.getfield 182) 3 146 := by decide +kernel
theorem d8_146 : DAt B8 146 (.iconst 1) 1 147 := by decide +kernel
theorem d8_147 : DAt B8 147 (.iadd) 1 148 := by decide +kernel
theorem d8_148 : DAt B8 148 (.putfield 182) 3 151 := by decide +kernel
theorem d8_151 : DAt B8 151 (.aload_n 0) 1 152 := by decide +kernel
theorem d8_152 : DAt B8 152 (.getfield 182) 3 155 := by decide +kernel
theorem d8_155 : DAt B8 155 (.ireturn) 1 156 := by decide +kernel
def B10 : Bdy := ((⟨"QueryRewriter", "nodeExists", "(I)Z"⟩ : MethodName), prog_1_method_12_code, 2, (some .boolean), ({ frames := 0, cells := 0, slots := 0, locals := 0 } : Room))
theorem d10_0 : DAt B10 0 (.iload_n 1) 1 1 := by decide +kernel
theorem d10_1 : DAt B10 1 (.ifCond .lt 15) 3 4 := by decide +kernel
theorem d10_4 : DAt B10 4 (.iload_n 1) 1 5 := by decide +kernel
theorem d10_5 : DAt B10 5 (.aload_n 0) 1 6 := by decide +kernel
theorem d10_6 : DAt B10 6 (.getfield 188) 3 9 := by decide +kernel
theorem d10_9 : DAt B10 9 (.if_icmp .ge 7) 3 12 := by decide +kernel
theorem d10_12 : DAt B10 12 (.iconst 1) 1 13 := by decide +kernel
theorem d10_13 : DAt B10 13 (.goto 4) 3 16 := by decide +kernel
theorem d10_16 : DAt B10 16 (.iconst 0) 1 17 := by decide +kernel
theorem d10_17 : DAt B10 17 (.ireturn) 1 18 := by decide +kernel
def B11 : Bdy := ((⟨"QueryRewriter", "pendingFits", "(I)Z"⟩ : MethodName), prog_1_method_10_code, 3, (some .boolean), ({ frames := 0, cells := 0, slots := 0, locals := 0 } : Room))
theorem d11_0 : DAt B11 0 (.iconst 0) 1 1 := by decide +kernel
theorem d11_1 : DAt B11 1 (.istore_n 2) 1 2 := by decide +kernel
theorem d11_2 : DAt B11 2 (.iload_n 2) 1 3 := by decide +kernel
theorem d11_3 : DAt B11 3 (.aload_n 0) 1 4 := by decide +kernel
theorem d11_4 : DAt B11 4 (.getfield 182) 3 7 := by decide +kernel
theorem d11_7 : DAt B11 7 (.if_icmp .ge 60) 3 10 := by decide +kernel
theorem d11_10 : DAt B11 10 (.iload_n 2) 1 11 := by decide +kernel
theorem d11_11 : DAt B11 11 (.iconst 4) 1 12 := by decide +kernel
theorem d11_12 : DAt B11 12 (.if_icmp .ge 55) 3 15 := by decide +kernel
theorem d11_15 : DAt B11 15 (.aload_n 0) 1 16 := by decide +kernel
theorem d11_16 : DAt B11 16 (.getfield 50) 3 19 := by decide +kernel
theorem d11_19 : DAt B11 19 (.iload_n 2) 1 20 := by decide +kernel
theorem d11_20 : DAt B11 20 (.iaload) 1 21 := by decide +kernel
theorem d11_21 : DAt B11 21 (.iconst 1) 1 22 := by decide +kernel
theorem d11_22 : DAt B11 22 (.iand) 1 23 := by decide +kernel
theorem d11_23 : DAt B11 23 (.ifCond .eq 15) 3 26 := by decide +kernel
theorem d11_26 : DAt B11 26 (.aload_n 0) 1 27 := by decide +kernel
theorem d11_27 : DAt B11 27 (.getfield 44) 3 30 := by decide +kernel
theorem d11_30 : DAt B11 30 (.iload_n 2) 1 31 := by decide +kernel
theorem d11_31 : DAt B11 31 (.iaload) 1 32 := by decide +kernel
theorem d11_32 : DAt B11 32 (.iload_n 1) 1 33 := by decide +kernel
theorem d11_33 : DAt B11 33 (.if_icmp .lt 5) 3 36 := by decide +kernel
theorem d11_36 : DAt B11 36 (.iconst 0) 1 37 := by decide +kernel
theorem d11_37 : DAt B11 37 (.ireturn) 1 38 := by decide +kernel
theorem d11_38 : DAt B11 38 (.aload_n 0) 1 39 := by decide +kernel
theorem d11_39 : DAt B11 39 (.getfield 50) 3 42 := by decide +kernel
theorem d11_42 : DAt B11 42 (.iload_n 2) 1 43 := by decide +kernel
theorem d11_43 : DAt B11 43 (.iaload) 1 44 := by decide +kernel
theorem d11_44 : DAt B11 44 (.iconst 2) 1 45 := by decide +kernel
theorem d11_45 : DAt B11 45 (.iand) 1 46 := by decide +kernel
theorem d11_46 : DAt B11 46 (.ifCond .eq 15) 3 49 := by decide +kernel
theorem d11_49 : DAt B11 49 (.aload_n 0) 1 50 := by decide +kernel
theorem d11_50 : DAt B11 50 (.getfield 47) 3 53 := by decide +kernel
theorem d11_53 : DAt B11 53 (.iload_n 2) 1 54 := by decide +kernel
theorem d11_54 : DAt B11 54 (.iaload) 1 55 := by decide +kernel
theorem d11_55 : DAt B11 55 (.iload_n 1) 1 56 := by decide +kernel
theorem d11_56 : DAt B11 56 (.if_icmp .lt 5) 3 59 := by decide +kernel
theorem d11_59 : DAt B11 59 (.iconst 0) 1 60 := by decide +kernel
theorem d11_60 : DAt B11 60 (.ireturn) 1 61 := by decide +kernel
theorem d11_61 : DAt B11 61 (.iinc 2 1) 3 64 := by decide +kernel
theorem d11_64 : DAt B11 64 (.goto (-62)) 3 67 := by decide +kernel
theorem d11_67 : DAt B11 67 (.iconst 1) 1 68 := by decide +kernel
theorem d11_68 : DAt B11 68 (.ireturn) 1 69 := by decide +kernel
def B12 : Bdy := ((⟨"QueryRewriter", "takePending", "(I)V"⟩ : MethodName), prog_1_method_11_code, 4, none, ({ frames := 0, cells := 0, slots := 0, locals := 0 } : Room))
theorem d12_0 : DAt B12 0 (.aload_n 0) 1 1 := by decide +kernel
theorem d12_1 : DAt B12 1 (.getfield 71) 3 4 := by decide +kernel
theorem d12_4 : DAt B12 4 (.iload_n 1) 1 5 := by decide +kernel
theorem d12_5 : DAt B12 5 (.aload_n 0) 1 6 := by decide +kernel
theorem d12_6 : DAt B12 6 (.getfield 185) 3 9 := by decide +kernel
theorem d12_9 : DAt B12 9 (.iastore) 1 10 := by decide +kernel
theorem d12_10 : DAt B12 10 (.iconst 0) 1 11 := by decide +kernel
theorem d12_11 : DAt B12 11 (.istore_n 2) 1 12 := by decide +kernel
theorem d12_12 : DAt B12 12 (.iconst 0) 1 13 := by decide +kernel
theorem d12_13 : DAt B12 13 (.istore_n 3) 1 14 := by decide +kernel
theorem d12_14 : DAt B12 14 (.iload_n 3) 1 15 := by decide +kernel
theorem d12_15 : DAt B12 15 (.aload_n 0) 1 16 := by decide +kernel
theorem d12_16 : DAt B12 16 (.getfield 182) 3 19 := by decide +kernel
theorem d12_19 : DAt B12 19 (.if_icmp .ge 96) 3 22 := by decide +kernel
theorem d12_22 : DAt B12 22 (.iload_n 3) 1 23 := by decide +kernel
theorem d12_23 : DAt B12 23 (.iconst 4) 1 24 := by decide +kernel
theorem d12_24 : DAt B12 24 (.if_icmp .ge 91) 3 27 := by decide +kernel
theorem d12_27 : DAt B12 27 (.aload_n 0) 1 28 := by decide +kernel
theorem d12_28 : DAt B12 28 (.getfield 185) 3 31 := by decide +kernel
theorem d12_31 : DAt B12 31 (.bipush 64) 2 33 := by decide +kernel
theorem d12_33 : DAt B12 33 (.if_icmp .ge 82) 3 36 := by decide +kernel
theorem d12_36 : DAt B12 36 (.aload_n 0) 1 37 := by decide +kernel
theorem d12_37 : DAt B12 37 (.getfield 77) 3 40 := by decide +kernel
theorem d12_40 : DAt B12 40 (.aload_n 0) 1 41 := by decide +kernel
theorem d12_41 : DAt B12 41 (.getfield 185) 3 44 := by decide +kernel
theorem d12_44 : DAt B12 44 (.aload_n 0) 1 45 := by decide +kernel
theorem d12_45 : DAt B12 45 (.getfield 41) 3 48 := by decide +kernel
theorem d12_48 : DAt B12 48 (.iload_n 3) 1 49 := by decide +kernel
theorem d12_49 : DAt B12 49 (.iaload) 1 50 := by decide +kernel
theorem d12_50 : DAt B12 50 (.iastore) 1 51 := by decide +kernel
theorem d12_51 : DAt B12 51 (.aload_n 0) 1 52 := by decide +kernel
theorem d12_52 : DAt B12 52 (.getfield 80) 3 55 := by decide +kernel
theorem d12_55 : DAt B12 55 (.aload_n 0) 1 56 := by decide +kernel
theorem d12_56 : DAt B12 56 (.getfield 185) 3 59 := by decide +kernel
theorem d12_59 : DAt B12 59 (.aload_n 0) 1 60 := by decide +kernel
theorem d12_60 : DAt B12 60 (.getfield 44) 3 63 := by decide +kernel
theorem d12_63 : DAt B12 63 (.iload_n 3) 1 64 := by decide +kernel
theorem d12_64 : DAt B12 64 (.iaload) 1 65 := by decide +kernel
theorem d12_65 : DAt B12 65 (.iastore) 1 66 := by decide +kernel
theorem d12_66 : DAt B12 66 (.aload_n 0) 1 67 := by decide +kernel
theorem d12_67 : DAt B12 67 (.getfield 83) 3 70 := by decide +kernel
theorem d12_70 : DAt B12 70 (.aload_n 0) 1 71 := by decide +kernel
theorem d12_71 : DAt B12 71 (.getfield 185) 3 74 := by decide +kernel
theorem d12_74 : DAt B12 74 (.aload_n 0) 1 75 := by decide +kernel
theorem d12_75 : DAt B12 75 (.getfield 47) 3 78 := by decide +kernel
theorem d12_78 : DAt B12 78 (.iload_n 3) 1 79 := by decide +kernel
theorem d12_79 : DAt B12 79 (.iaload) 1 80 := by decide +kernel
theorem d12_80 : DAt B12 80 (.iastore) 1 81 := by decide +kernel
theorem d12_81 : DAt B12 81 (.aload_n 0) 1 82 := by decide +kernel
theorem d12_82 : DAt B12 82 (.getfield 86) 3 85 := by decide +kernel
theorem d12_85 : DAt B12 85 (.aload_n 0) 1 86 := by decide +kernel
theorem d12_86 : DAt B12 86 (.getfield 185) 3 89 := by decide +kernel
theorem d12_89 : DAt B12 89 (.aload_n 0) 1 90 := by decide +kernel
theorem d12_90 : DAt B12 90 (.getfield 50) 3 93 := by decide +kernel
theorem d12_93 : DAt B12 93 (.iload_n 3) 1 94 := by decide +kernel
theorem d12_94 : DAt B12 94 (.iaload) 1 95 := by decide +kernel
theorem d12_95 : DAt B12 95 (.iastore) 1 96 := by decide +kernel
theorem d12_96 : DAt B12 96 (.aload_n 0) 1 97 := by decide +kernel
theorem d12_97 : DAt B12 97 (.dup) 1 98 := by decide +kernel
theorem d12_98 : DAt B12 98 (.getfield 185) 3 101 := by decide +kernel
theorem d12_101 : DAt B12 101 (.iconst 1) 1 102 := by decide +kernel
theorem d12_102 : DAt B12 102 (.iadd) 1 103 := by decide +kernel
theorem d12_103 : DAt B12 103 (.putfield 185) 3 106 := by decide +kernel
theorem d12_106 : DAt B12 106 (.iinc 2 1) 3 109 := by decide +kernel
theorem d12_109 : DAt B12 109 (.iinc 3 1) 3 112 := by decide +kernel
theorem d12_112 : DAt B12 112 (.goto (-98)) 3 115 := by decide +kernel
theorem d12_115 : DAt B12 115 (.aload_n 0) 1 116 := by decide +kernel
theorem d12_116 : DAt B12 116 (.getfield 74) 3 119 := by decide +kernel
theorem d12_119 : DAt B12 119 (.iload_n 1) 1 120 := by decide +kernel
theorem d12_120 : DAt B12 120 (.iload_n 2) 1 121 := by decide +kernel
theorem d12_121 : DAt B12 121 (.iastore) 1 122 := by decide +kernel
theorem d12_122 : DAt B12 122 (.aload_n 0) 1 123 := by decide +kernel
theorem d12_123 : DAt B12 123 (.iconst 0) 1 124 := by decide +kernel
theorem d12_124 : DAt B12 124 (.putfield 182) 3 127 := by decide +kernel
theorem d12_127 : DAt B12 127 (.return_) 1 128 := by decide +kernel
def B9 : Bdy := ((⟨"QueryRewriter", "join", "(III)I"⟩ : MethodName), prog_1_method_17_code, 6, (some .int), ({ frames := 1, cells := 0, slots := 0, locals := 18 } : Room))
theorem d9_0 : DAt B9 0 (.aload_n 0) 1 1 := by decide +kernel
theorem d9_1 : DAt B9 1 (.iload_n 1) 1 2 := by decide +kernel
theorem d9_2 : DAt B9 2 (.invokevirtual 195) 3 5 := by decide +kernel
theorem d9_5 : DAt B9 5 (.ifCond .eq 20) 3 8 := by decide +kernel
theorem d9_8 : DAt B9 8 (.aload_n 0) 1 9 := by decide +kernel
theorem d9_9 : DAt B9 9 (.iload_n 2) 1 10 := by decide +kernel
theorem d9_10 : DAt B9 10 (.invokevirtual 195) 3 13 := by decide +kernel
theorem d9_13 : DAt B9 13 (.ifCond .eq 12) 3 16 := by decide +kernel
theorem d9_16 : DAt B9 16 (.iload_n 3) 1 17 := by decide +kernel
theorem d9_17 : DAt B9 17 (.ifCond .lt 8) 3 20 := by decide +kernel
theorem d9_20 : DAt B9 20 (.iload_n 3) 1 21 := by decide +kernel
theorem d9_21 : DAt B9 21 (.iconst 1) 1 22 := by decide +kernel
theorem d9_22 : DAt B9 22 (.if_icmp .le 5) 3 25 := by decide +kernel
theorem d9_25 : DAt B9 25 (.iconst (-1)) 1 26 := by decide +kernel
theorem d9_26 : DAt B9 26 (.ireturn) 1 27 := by decide +kernel
theorem d9_27 : DAt B9 27 (.aload_n 0) 1 28 := by decide +kernel
theorem d9_28 : DAt B9 28 (.getfield 56) 3 31 := by decide +kernel
theorem d9_31 : DAt B9 31 (.iload_n 1) 1 32 := by decide +kernel
theorem d9_32 : DAt B9 32 (.iaload) 1 33 := by decide +kernel
theorem d9_33 : DAt B9 33 (.aload_n 0) 1 34 := by decide +kernel
theorem d9_34 : DAt B9 34 (.getfield 56) 3 37 := by decide +kernel
theorem d9_37 : DAt B9 37 (.iload_n 2) 1 38 := by decide +kernel
theorem d9_38 : DAt B9 38 (.iaload) 1 39 := by decide +kernel
theorem d9_39 : DAt B9 39 (.iadd) 1 40 := by decide +kernel
theorem d9_40 : DAt B9 40 (.istore 4) 2 42 := by decide +kernel
theorem d9_42 : DAt B9 42 (.iload 4) 2 44 := by decide +kernel
theorem d9_44 : DAt B9 44 (.bipush 8) 2 46 := by decide +kernel
theorem d9_46 : DAt B9 46 (.if_icmp .le 5) 3 49 := by decide +kernel
theorem d9_49 : DAt B9 49 (.iconst (-1)) 1 50 := by decide +kernel
theorem d9_50 : DAt B9 50 (.ireturn) 1 51 := by decide +kernel
theorem d9_51 : DAt B9 51 (.aload_n 0) 1 52 := by decide +kernel
theorem d9_52 : DAt B9 52 (.iload 4) 2 54 := by decide +kernel
theorem d9_54 : DAt B9 54 (.invokevirtual 198) 3 57 := by decide +kernel
theorem d9_57 : DAt B9 57 (.ifCond .ne 5) 3 60 := by decide +kernel
theorem d9_60 : DAt B9 60 (.iconst (-1)) 1 61 := by decide +kernel
theorem d9_61 : DAt B9 61 (.ireturn) 1 62 := by decide +kernel
theorem d9_62 : DAt B9 62 (.aload_n 0) 1 63 := by decide +kernel
theorem d9_63 : DAt B9 63 (.getfield 188) 3 66 := by decide +kernel
theorem d9_66 : DAt B9 66 (.bipush 32) 2 68 := by decide +kernel
theorem d9_68 : DAt B9 68 (.if_icmp .lt 6) 3 71 := by decide +kernel
theorem d9_71 : DAt B9 71 (.bipush (-2)) 2 73 := by decide +kernel
theorem d9_73 : DAt B9 73 (.ireturn) 1 74 := by decide +kernel
theorem d9_74 : DAt B9 74 (.aload_n 0) 1 75 := by decide +kernel
theorem d9_75 : DAt B9 75 (.getfield 185) 3 78 := by decide +kernel
theorem d9_78 : DAt B9 78 (.aload_n 0) 1 79 := by decide +kernel
theorem d9_79 : DAt B9 79 (.getfield 182) 3 82 := by decide +kernel
theorem d9_82 : DAt B9 82 (.iadd) 1 83 := by decide +kernel
theorem d9_83 : DAt B9 83 (.bipush 64) 2 85 := by decide +kernel
theorem d9_85 : DAt B9 85 (.if_icmp .le 6) 3 88 := by decide +kernel
theorem d9_88 : DAt B9 88 (.bipush (-2)) 2 90 := by decide +kernel
theorem d9_90 : DAt B9 90 (.ireturn) 1 91 := by decide +kernel
theorem d9_91 : DAt B9 91 (.aload_n 0) 1 92 := by decide +kernel
theorem d9_92 : DAt B9 92 (.iconst 3) 1 93 := by decide +kernel
theorem d9_93 : DAt B9 93 (.iload 4) 2 95 := by decide +kernel
theorem d9_95 : DAt B9 95 (.iload_n 1) 1 96 := by decide +kernel
theorem d9_96 : DAt B9 96 (.iload_n 2) 1 97 := by decide +kernel
theorem d9_97 : DAt B9 97 (.iload_n 3) 1 98 := by decide +kernel
theorem d9_98 : DAt B9 98 (.invokevirtual 191) 3 101 := by decide +kernel
theorem d9_101 : DAt B9 101 (.istore 5) 2 103 := by decide +kernel
theorem d9_103 : DAt B9 103 (.iload 5) 2 105 := by decide +kernel
theorem d9_105 : DAt B9 105 (.ifCond .lt 9) 3 108 := by decide +kernel
theorem d9_108 : DAt B9 108 (.aload_n 0) 1 109 := by decide +kernel
theorem d9_109 : DAt B9 109 (.iload 5) 2 111 := by decide +kernel
theorem d9_111 : DAt B9 111 (.invokevirtual 201) 3 114 := by decide +kernel
theorem d9_114 : DAt B9 114 (.iload 5) 2 116 := by decide +kernel
theorem d9_116 : DAt B9 116 (.ireturn) 1 117 := by decide +kernel
def B13 : Bdy := ((⟨"QueryRewriter", "select", "(I)I"⟩ : MethodName), prog_1_method_15_code, 3, (some .int), ({ frames := 1, cells := 0, slots := 0, locals := 18 } : Room))
theorem d13_0 : DAt B13 0 (.aload_n 0) 1 1 := by decide +kernel
theorem d13_1 : DAt B13 1 (.iload_n 1) 1 2 := by decide +kernel
theorem d13_2 : DAt B13 2 (.invokevirtual 195) 3 5 := by decide +kernel
theorem d13_5 : DAt B13 5 (.ifCond .ne 5) 3 8 := by decide +kernel
theorem d13_8 : DAt B13 8 (.iconst (-1)) 1 9 := by decide +kernel
theorem d13_9 : DAt B13 9 (.ireturn) 1 10 := by decide +kernel
theorem d13_10 : DAt B13 10 (.aload_n 0) 1 11 := by decide +kernel
theorem d13_11 : DAt B13 11 (.aload_n 0) 1 12 := by decide +kernel
theorem d13_12 : DAt B13 12 (.getfield 56) 3 15 := by decide +kernel
theorem d13_15 : DAt B13 15 (.iload_n 1) 1 16 := by decide +kernel
theorem d13_16 : DAt B13 16 (.iaload) 1 17 := by decide +kernel
theorem d13_17 : DAt B13 17 (.invokevirtual 198) 3 20 := by decide +kernel
theorem d13_20 : DAt B13 20 (.ifCond .ne 5) 3 23 := by decide +kernel
theorem d13_23 : DAt B13 23 (.iconst (-1)) 1 24 := by decide +kernel
theorem d13_24 : DAt B13 24 (.ireturn) 1 25 := by decide +kernel
theorem d13_25 : DAt B13 25 (.aload_n 0) 1 26 := by decide +kernel
theorem d13_26 : DAt B13 26 (.getfield 188) 3 29 := by decide +kernel
theorem d13_29 : DAt B13 29 (.bipush 32) 2 31 := by decide +kernel
theorem d13_31 : DAt B13 31 (.if_icmp .lt 6) 3 34 := by decide +kernel
theorem d13_34 : DAt B13 34 (.bipush (-2)) 2 36 := by decide +kernel
theorem d13_36 : DAt B13 36 (.ireturn) 1 37 := by decide +kernel
theorem d13_37 : DAt B13 37 (.aload_n 0) 1 38 := by decide +kernel
theorem d13_38 : DAt B13 38 (.getfield 185) 3 41 := by decide +kernel
theorem d13_41 : DAt B13 41 (.aload_n 0) 1 42 := by decide +kernel
theorem d13_42 : DAt B13 42 (.getfield 182) 3 45 := by decide +kernel
theorem d13_45 : DAt B13 45 (.iadd) 1 46 := by decide +kernel
theorem d13_46 : DAt B13 46 (.bipush 64) 2 48 := by decide +kernel
theorem d13_48 : DAt B13 48 (.if_icmp .le 6) 3 51 := by decide +kernel
theorem d13_51 : DAt B13 51 (.bipush (-2)) 2 53 := by decide +kernel
theorem d13_53 : DAt B13 53 (.ireturn) 1 54 := by decide +kernel
theorem d13_54 : DAt B13 54 (.aload_n 0) 1 55 := by decide +kernel
theorem d13_55 : DAt B13 55 (.iconst 1) 1 56 := by decide +kernel
theorem d13_56 : DAt B13 56 (.aload_n 0) 1 57 := by decide +kernel
theorem d13_57 : DAt B13 57 (.getfield 56) 3 60 := by decide +kernel
theorem d13_60 : DAt B13 60 (.iload_n 1) 1 61 := by decide +kernel
theorem d13_61 : DAt B13 61 (.iaload) 1 62 := by decide +kernel
theorem d13_62 : DAt B13 62 (.iload_n 1) 1 63 := by decide +kernel
theorem d13_63 : DAt B13 63 (.iconst 0) 1 64 := by decide +kernel
theorem d13_64 : DAt B13 64 (.iconst 0) 1 65 := by decide +kernel
theorem d13_65 : DAt B13 65 (.invokevirtual 191) 3 68 := by decide +kernel
theorem d13_68 : DAt B13 68 (.istore_n 2) 1 69 := by decide +kernel
theorem d13_69 : DAt B13 69 (.iload_n 2) 1 70 := by decide +kernel
theorem d13_70 : DAt B13 70 (.ifCond .lt 8) 3 73 := by decide +kernel
theorem d13_73 : DAt B13 73 (.aload_n 0) 1 74 := by decide +kernel
theorem d13_74 : DAt B13 74 (.iload_n 2) 1 75 := by decide +kernel
theorem d13_75 : DAt B13 75 (.invokevirtual 201) 3 78 := by decide +kernel
theorem d13_78 : DAt B13 78 (.iload_n 2) 1 79 := by decide +kernel
theorem d13_79 : DAt B13 79 (.ireturn) 1 80 := by decide +kernel
def B16 : Bdy := ((⟨"QueryRewriter", "satMul", "(II)I"⟩ : MethodName), prog_1_method_25_code, 4, (some .int), ({ frames := 0, cells := 0, slots := 0, locals := 0 } : Room))
theorem d16_0 : DAt B16 0 (.iload_n 1) 1 1 := by decide +kernel
theorem d16_1 : DAt B16 1 (.iload_n 2) 1 2 := by decide +kernel
theorem d16_2 : DAt B16 2 (.imul) 1 3 := by decide +kernel
theorem d16_3 : DAt B16 3 (.istore_n 3) 1 4 := by decide +kernel
theorem d16_4 : DAt B16 4 (.iload_n 3) 1 5 := by decide +kernel
theorem d16_5 : DAt B16 5 (.sipush 1000) 3 8 := by decide +kernel
theorem d16_8 : DAt B16 8 (.if_icmp .le 7) 3 11 := by decide +kernel
theorem d16_11 : DAt B16 11 (.sipush 1000) 3 14 := by decide +kernel
theorem d16_14 : DAt B16 14 (.ireturn) 1 15 := by decide +kernel
theorem d16_15 : DAt B16 15 (.iload_n 3) 1 16 := by decide +kernel
theorem d16_16 : DAt B16 16 (.ireturn) 1 17 := by decide +kernel
def B15 : Bdy := ((⟨"QueryRewriter", "computeWeights", "()V"⟩ : MethodName), prog_1_method_24_code, 4, none, ({ frames := 1, cells := 0, slots := 0, locals := 15 } : Room))
theorem d15_0 : DAt B15 0 (.iconst 0) 1 1 := by decide +kernel
theorem d15_1 : DAt B15 1 (.istore_n 1) 1 2 := by decide +kernel
theorem d15_2 : DAt B15 2 (.iload_n 1) 1 3 := by decide +kernel
theorem d15_3 : DAt B15 3 (.aload_n 0) 1 4 := by decide +kernel
theorem d15_4 : DAt B15 4 (.getfield 188) 3 7 := by decide +kernel
theorem d15_7 : DAt B15 7 (.if_icmp .ge 113) 3 10 := by decide +kernel
theorem d15_10 : DAt B15 10 (.iload_n 1) 1 11 := by decide +kernel
theorem d15_11 : DAt B15 11 (.bipush 32) 2 13 := by decide +kernel
theorem d15_13 : DAt B15 13 (.if_icmp .ge 107) 3 16 := by decide +kernel
theorem d15_16 : DAt B15 16 (.aload_n 0) 1 17 := by decide +kernel
theorem d15_17 : DAt B15 17 (.getfield 53) 3 20 := by decide +kernel
theorem d15_20 : DAt B15 20 (.iload_n 1) 1 21 := by decide +kernel
theorem d15_21 : DAt B15 21 (.iaload) 1 22 := by decide +kernel
theorem d15_22 : DAt B15 22 (.istore_n 2) 1 23 := by decide +kernel
theorem d15_23 : DAt B15 23 (.iload_n 2) 1 24 := by decide +kernel
theorem d15_24 : DAt B15 24 (.ifCond .ne 27) 3 27 := by decide +kernel
theorem d15_27 : DAt B15 27 (.aload_n 0) 1 28 := by decide +kernel
theorem d15_28 : DAt B15 28 (.getfield 35) 3 31 := by decide +kernel
theorem d15_31 : DAt B15 31 (.aload_n 0) 1 32 := by decide +kernel
theorem d15_32 : DAt B15 32 (.getfield 59) 3 35 := by decide +kernel
theorem d15_35 : DAt B15 35 (.iload_n 1) 1 36 := by decide +kernel
theorem d15_36 : DAt B15 36 (.iaload) 1 37 := by decide +kernel
theorem d15_37 : DAt B15 37 (.iconst 3) 1 38 := by decide +kernel
theorem d15_38 : DAt B15 38 (.iand) 1 39 := by decide +kernel
theorem d15_39 : DAt B15 39 (.iaload) 1 40 := by decide +kernel
theorem d15_40 : DAt B15 40 (.istore_n 3) 1 41 := by decide +kernel
theorem d15_41 : DAt B15 41 (.iload_n 3) 1 42 := by decide +kernel
theorem d15_42 : DAt B15 42 (.iconst 2) 1 43 := by decide +kernel
theorem d15_43 : DAt B15 43 (.if_icmp .ge 64) 3 46 := by decide +kernel
theorem d15_46 : DAt B15 46 (.iconst 2) 1 47 := by decide +kernel
theorem d15_47 : DAt B15 47 (.istore_n 3) 1 48 := by decide +kernel
theorem d15_48 : DAt B15 48 (.goto 59) 3 51 := by decide +kernel
theorem d15_51 : DAt B15 51 (.iload_n 2) 1 52 := by decide +kernel
theorem d15_52 : DAt B15 52 (.iconst 3) 1 53 := by decide +kernel
theorem d15_53 : DAt B15 53 (.if_icmp .ne 39) 3 56 := by decide +kernel
theorem d15_56 : DAt B15 56 (.aload_n 0) 1 57 := by decide +kernel
theorem d15_57 : DAt B15 57 (.aload_n 0) 1 58 := by decide +kernel
theorem d15_58 : DAt B15 58 (.getfield 92) 3 61 := by decide +kernel
theorem d15_61 : DAt B15 61 (.aload_n 0) 1 62 := by decide +kernel
theorem d15_62 : DAt B15 62 (.getfield 59) 3 65 := by decide +kernel
theorem d15_65 : DAt B15 65 (.iload_n 1) 1 66 := by decide +kernel
theorem d15_66 : DAt B15 66 (.iaload) 1 67 := by decide +kernel
theorem d15_67 : DAt B15 67 (.bipush 31) 2 69 := by decide +kernel
theorem d15_69 : DAt B15 69 (.iand) 1 70 := by decide +kernel
theorem d15_70 : DAt B15 70 (.iaload) 1 71 := by decide +kernel
theorem d15_71 : DAt B15 71 (.aload_n 0) 1 72 := by decide +kernel
theorem d15_72 : DAt B15 72 (.getfield 92) 3 75 := by decide +kernel
theorem d15_75 : DAt B15 75 (.aload_n 0) 1 76 := by decide +kernel
theorem d15_76 : DAt B15 76 (.getfield 62) 3 79 := by decide +kernel
theorem d15_79 : DAt B15 79 (.iload_n 1) 1 80 := by decide +kernel
theorem d15_80 : DAt B15 80 (.iaload) 1 81 := by decide +kernel
theorem d15_81 : DAt B15 81 (.bipush 31) 2 83 := by decide +kernel
theorem d15_83 : DAt B15 83 (.iand) 1 84 := by decide +kernel
theorem d15_84 : DAt B15 84 (.iaload) 1 85 := by decide +kernel
theorem d15_85 : DAt B15 85 (.invokevirtual 225) 3 88 := by decide +kernel
theorem d15_88 : DAt B15 88 (.istore_n 3) 1 89 := by decide +kernel
theorem d15_89 : DAt B15 89 (.goto 18) 3 92 := by decide +kernel
theorem d15_92 : DAt B15 92 (.aload_n 0) 1 93 := by decide +kernel
theorem d15_93 : DAt B15 93 (.getfield 92) 3 96 := by decide +kernel
theorem d15_96 : DAt B15 96 (.aload_n 0) 1 97 := by decide +kernel
theorem d15_97 : DAt B15 97 (.getfield 59) 3 100 := by decide +kernel
theorem d15_100 : DAt B15 100 (.iload_n 1) 1 101 := by decide +kernel
theorem d15_101 : DAt B15 101 (.iaload) 1 102 := by decide +kernel
theorem d15_102 : DAt B15 102 (.bipush 31) 2 104 := by decide +kernel
theorem d15_104 : DAt B15 104 (.iand) 1 105 := by decide +kernel
theorem d15_105 : DAt B15 105 (.iaload) 1 106 := by decide +kernel
theorem d15_106 : DAt B15 106 (.istore_n 3) 1 107 := by decide +kernel
theorem d15_107 : DAt B15 107 (.aload_n 0) 1 108 := by decide +kernel
theorem d15_108 : DAt B15 108 (.getfield 92) 3 111 := by decide +kernel
theorem d15_111 : DAt B15 111 (.iload_n 1) 1 112 := by decide +kernel
theorem d15_112 : DAt B15 112 (.iload_n 3) 1 113 := by decide +kernel
theorem d15_113 : DAt B15 113 (.iastore) 1 114 := by decide +kernel
theorem d15_114 : DAt B15 114 (.iinc 1 1) 3 117 := by decide +kernel
theorem d15_117 : DAt B15 117 (.goto (-115)) 3 120 := by decide +kernel
theorem d15_120 : DAt B15 120 (.return_) 1 121 := by decide +kernel
def B19 : Bdy := ((⟨"QueryRewriter", "pushNode", "(I)V"⟩ : MethodName), prog_1_method_48_code, 2, none, ({ frames := 0, cells := 0, slots := 0, locals := 0 } : Room))
theorem d19_0 : DAt B19 0 (.aload_n 0) 1 1 := by decide +kernel
theorem d19_1 : DAt B19 1 (.getfield 303) 3 4 := by decide +kernel
theorem d19_4 : DAt B19 4 (.bipush 64) 2 6 := by decide +kernel
theorem d19_6 : DAt B19 6 (.if_icmp .ge 13) 3 9 := by decide +kernel
theorem d19_9 : DAt B19 9 (.iload_n 1) 1 10 := by decide +kernel
theorem d19_10 : DAt B19 10 (.ifCond .lt 9) 3 13 := by decide +kernel
theorem d19_13 : DAt B19 13 (.iload_n 1) 1 14 := by decide +kernel
theorem d19_14 : DAt B19 14 (.bipush 32) 2 16 := by decide +kernel
theorem d19_16 : DAt B19 16 (.if_icmp .lt 9) 3 19 := by decide +kernel
theorem d19_19 : DAt B19 19 (.aload_n 0) 1 20 := by decide +kernel
theorem d19_20 : DAt B19 20 (.iconst 1) 1 21 := by decide +kernel
theorem d19_21 : DAt B19 21 (.putfield 309) 3 24 := by decide +kernel
theorem d19_24 : DAt B19 24 (.return_) 1 25 := by decide +kernel
theorem d19_25 : DAt B19 25 (.aload_n 0) 1 26 := by decide +kernel
theorem d19_26 : DAt B19 26 (.getfield 156) 3 29 := by decide +kernel
theorem d19_29 : DAt B19 29 (.aload_n 0) 1 30 := by decide +kernel
theorem d19_30 : DAt B19 30 (.getfield 303) 3 33 := by decide +kernel
theorem d19_33 : DAt B19 33 (.iload_n 1) 1 34 := by decide +kernel
theorem d19_34 : DAt B19 34 (.iastore) 1 35 := by decide +kernel
theorem d19_35 : DAt B19 35 (.aload_n 0) 1 36 := by decide +kernel
theorem d19_36 : DAt B19 36 (.getfield 159) 3 39 := by decide +kernel
theorem d19_39 : DAt B19 39 (.aload_n 0) 1 40 := by decide +kernel
theorem d19_40 : DAt B19 40 (.getfield 303) 3 43 := by decide +kernel
theorem d19_43 : DAt B19 43 (.iconst 0) 1 44 := by decide +kernel
theorem d19_44 : DAt B19 44 (.iastore) 1 45 := by decide +kernel
theorem d19_45 : DAt B19 45 (.aload_n 0) 1 46 := by decide +kernel
theorem d19_46 : DAt B19 46 (.dup) 1 47 := by decide +kernel
theorem d19_47 : DAt B19 47 (.getfield 303) 3 50 := by decide +kernel
theorem d19_50 : DAt B19 50 (.iconst 1) 1 51 := by decide +kernel
theorem d19_51 : DAt B19 51 (.iadd) 1 52 := by decide +kernel
theorem d19_52 : DAt B19 52 (.putfield 303) 3 55 := by decide +kernel
theorem d19_55 : DAt B19 55 (.return_) 1 56 := by decide +kernel
def B23 : Bdy := ((⟨"QueryRewriter", "initPlan", "(III)V"⟩ : MethodName), prog_1_method_52_code, 5, none, ({ frames := 0, cells := 0, slots := 0, locals := 0 } : Room))
theorem d23_0 : DAt B23 0 (.aload_n 0) 1 1 := by decide +kernel
theorem d23_1 : DAt B23 1 (.getfield 111) 3 4 := by decide +kernel
theorem d23_4 : DAt B23 4 (.iload_n 1) 1 5 := by decide +kernel
theorem d23_5 : DAt B23 5 (.iload_n 2) 1 6 := by decide +kernel
theorem d23_6 : DAt B23 6 (.iastore) 1 7 := by decide +kernel
theorem d23_7 : DAt B23 7 (.aload_n 0) 1 8 := by decide +kernel
theorem d23_8 : DAt B23 8 (.getfield 126) 3 11 := by decide +kernel
theorem d23_11 : DAt B23 11 (.iload_n 1) 1 12 := by decide +kernel
theorem d23_12 : DAt B23 12 (.iload_n 3) 1 13 := by decide +kernel
theorem d23_13 : DAt B23 13 (.iastore) 1 14 := by decide +kernel
theorem d23_14 : DAt B23 14 (.iconst 0) 1 15 := by decide +kernel
theorem d23_15 : DAt B23 15 (.istore 4) 2 17 := by decide +kernel
theorem d23_17 : DAt B23 17 (.iload 4) 2 19 := by decide +kernel
theorem d23_19 : DAt B23 19 (.iload_n 3) 1 20 := by decide +kernel
theorem d23_20 : DAt B23 20 (.if_icmp .ge 30) 3 23 := by decide +kernel
theorem d23_23 : DAt B23 23 (.iload 4) 2 25 := by decide +kernel
theorem d23_25 : DAt B23 25 (.bipush 8) 2 27 := by decide +kernel
theorem d23_27 : DAt B23 27 (.if_icmp .ge 23) 3 30 := by decide +kernel
theorem d23_30 : DAt B23 30 (.aload_n 0) 1 31 := by decide +kernel
theorem d23_31 : DAt B23 31 (.getfield 129) 3 34 := by decide +kernel
theorem d23_34 : DAt B23 34 (.iload_n 1) 1 35 := by decide +kernel
theorem d23_35 : DAt B23 35 (.bipush 8) 2 37 := by decide +kernel
theorem d23_37 : DAt B23 37 (.imul) 1 38 := by decide +kernel
theorem d23_38 : DAt B23 38 (.iload 4) 2 40 := by decide +kernel
theorem d23_40 : DAt B23 40 (.iadd) 1 41 := by decide +kernel
theorem d23_41 : DAt B23 41 (.iload 4) 2 43 := by decide +kernel
theorem d23_43 : DAt B23 43 (.iastore) 1 44 := by decide +kernel
theorem d23_44 : DAt B23 44 (.iinc 4 1) 3 47 := by decide +kernel
theorem d23_47 : DAt B23 47 (.goto (-30)) 3 50 := by decide +kernel
theorem d23_50 : DAt B23 50 (.aload_n 0) 1 51 := by decide +kernel
theorem d23_51 : DAt B23 51 (.getfield 138) 3 54 := by decide +kernel
theorem d23_54 : DAt B23 54 (.iconst 2) 1 55 := by decide +kernel
theorem d23_55 : DAt B23 55 (.iload_n 1) 1 56 := by decide +kernel
theorem d23_56 : DAt B23 56 (.imul) 1 57 := by decide +kernel
theorem d23_57 : DAt B23 57 (.iconst (-1)) 1 58 := by decide +kernel
theorem d23_58 : DAt B23 58 (.iastore) 1 59 := by decide +kernel
theorem d23_59 : DAt B23 59 (.aload_n 0) 1 60 := by decide +kernel
theorem d23_60 : DAt B23 60 (.getfield 138) 3 63 := by decide +kernel
theorem d23_63 : DAt B23 63 (.iconst 2) 1 64 := by decide +kernel
theorem d23_64 : DAt B23 64 (.iload_n 1) 1 65 := by decide +kernel
theorem d23_65 : DAt B23 65 (.imul) 1 66 := by decide +kernel
theorem d23_66 : DAt B23 66 (.iconst 1) 1 67 := by decide +kernel
theorem d23_67 : DAt B23 67 (.iadd) 1 68 := by decide +kernel
theorem d23_68 : DAt B23 68 (.iconst (-1)) 1 69 := by decide +kernel
theorem d23_69 : DAt B23 69 (.iastore) 1 70 := by decide +kernel
theorem d23_70 : DAt B23 70 (.aload_n 0) 1 71 := by decide +kernel
theorem d23_71 : DAt B23 71 (.getfield 135) 3 74 := by decide +kernel
theorem d23_74 : DAt B23 74 (.iload_n 1) 1 75 := by decide +kernel
theorem d23_75 : DAt B23 75 (.iconst 0) 1 76 := by decide +kernel
theorem d23_76 : DAt B23 76 (.bastore) 1 77 := by decide +kernel
theorem d23_77 : DAt B23 77 (.aload_n 0) 1 78 := by decide +kernel
theorem d23_78 : DAt B23 78 (.getfield 123) 3 81 := by decide +kernel
theorem d23_81 : DAt B23 81 (.iload_n 1) 1 82 := by decide +kernel
theorem d23_82 : DAt B23 82 (.iconst 0) 1 83 := by decide +kernel
theorem d23_83 : DAt B23 83 (.iastore) 1 84 := by decide +kernel
theorem d23_84 : DAt B23 84 (.aload_n 0) 1 85 := by decide +kernel
theorem d23_85 : DAt B23 85 (.getfield 114) 3 88 := by decide +kernel
theorem d23_88 : DAt B23 88 (.iload_n 1) 1 89 := by decide +kernel
theorem d23_89 : DAt B23 89 (.iconst 0) 1 90 := by decide +kernel
theorem d23_90 : DAt B23 90 (.iastore) 1 91 := by decide +kernel
theorem d23_91 : DAt B23 91 (.aload_n 0) 1 92 := by decide +kernel
theorem d23_92 : DAt B23 92 (.getfield 117) 3 95 := by decide +kernel
theorem d23_95 : DAt B23 95 (.iload_n 1) 1 96 := by decide +kernel
theorem d23_96 : DAt B23 96 (.iconst 0) 1 97 := by decide +kernel
theorem d23_97 : DAt B23 97 (.iastore) 1 98 := by decide +kernel
theorem d23_98 : DAt B23 98 (.aload_n 0) 1 99 := by decide +kernel
theorem d23_99 : DAt B23 99 (.getfield 120) 3 102 := by decide +kernel
theorem d23_102 : DAt B23 102 (.iload_n 1) 1 103 := by decide +kernel
theorem d23_103 : DAt B23 103 (.iconst 0) 1 104 := by decide +kernel
theorem d23_104 : DAt B23 104 (.iastore) 1 105 := by decide +kernel
theorem d23_105 : DAt B23 105 (.aload_n 0) 1 106 := by decide +kernel
theorem d23_106 : DAt B23 106 (.getfield 132) 3 109 := by decide +kernel
theorem d23_109 : DAt B23 109 (.iload_n 1) 1 110 := by decide +kernel
theorem d23_110 : DAt B23 110 (.iconst 0) 1 111 := by decide +kernel
theorem d23_111 : DAt B23 111 (.iastore) 1 112 := by decide +kernel
theorem d23_112 : DAt B23 112 (.return_) 1 113 := by decide +kernel
def B22 : Bdy := ((⟨"QueryRewriter", "newScanPlan", "(I)I"⟩ : MethodName), prog_1_method_53_code, 3, (some .int), ({ frames := 1, cells := 0, slots := 0, locals := 16 } : Room))
theorem d22_0 : DAt B22 0 (.aload_n 0) 1 1 := by decide +kernel
theorem d22_1 : DAt B22 1 (.getfield 288) 3 4 := by decide +kernel
theorem d22_4 : DAt B22 4 (.bipush 16) 2 6 := by decide +kernel
theorem d22_6 : DAt B22 6 (.if_icmp .lt 5) 3 9 := by decide +kernel
theorem d22_9 : DAt B22 9 (.iconst (-1)) 1 10 := by decide +kernel
theorem d22_10 : DAt B22 10 (.ireturn) 1 11 := by decide +kernel
theorem d22_11 : DAt B22 11 (.aload_n 0) 1 12 := by decide +kernel
theorem d22_12 : DAt B22 12 (.getfield 288) 3 15 := by decide +kernel
theorem d22_15 : DAt B22 15 (.istore_n 2) 1 16 := by decide +kernel
theorem d22_16 : DAt B22 16 (.aload_n 0) 1 17 := by decide +kernel
theorem d22_17 : DAt B22 17 (.dup) 1 18 := by decide +kernel
theorem d22_18 : DAt B22 18 (.getfield 288) 3 21 := by decide +kernel
theorem d22_21 : DAt B22 21 (.iconst 1) 1 22 := by decide +kernel
theorem d22_22 : DAt B22 22 (.iadd) 1 23 := by decide +kernel
theorem d22_23 : DAt B22 23 (.putfield 288) 3 26 := by decide +kernel
theorem d22_26 : DAt B22 26 (.aload_n 0) 1 27 := by decide +kernel
theorem d22_27 : DAt B22 27 (.iload_n 2) 1 28 := by decide +kernel
theorem d22_28 : DAt B22 28 (.iconst 0) 1 29 := by decide +kernel
theorem d22_29 : DAt B22 29 (.aload_n 0) 1 30 := by decide +kernel
theorem d22_30 : DAt B22 30 (.getfield 31) 3 33 := by decide +kernel
theorem d22_33 : DAt B22 33 (.iload_n 1) 1 34 := by decide +kernel
theorem d22_34 : DAt B22 34 (.iaload) 1 35 := by decide +kernel
theorem d22_35 : DAt B22 35 (.invokevirtual 337) 3 38 := by decide +kernel
theorem d22_38 : DAt B22 38 (.aload_n 0) 1 39 := by decide +kernel
theorem d22_39 : DAt B22 39 (.getfield 114) 3 42 := by decide +kernel
theorem d22_42 : DAt B22 42 (.iload_n 2) 1 43 := by decide +kernel
theorem d22_43 : DAt B22 43 (.iload_n 1) 1 44 := by decide +kernel
theorem d22_44 : DAt B22 44 (.iastore) 1 45 := by decide +kernel
theorem d22_45 : DAt B22 45 (.iload_n 2) 1 46 := by decide +kernel
theorem d22_46 : DAt B22 46 (.ireturn) 1 47 := by decide +kernel
def B24 : Bdy := ((⟨"QueryRewriter", "pushResult", "(I)V"⟩ : MethodName), prog_1_method_49_code, 2, none, ({ frames := 0, cells := 0, slots := 0, locals := 0 } : Room))
theorem d24_0 : DAt B24 0 (.iload_n 1) 1 1 := by decide +kernel
theorem d24_1 : DAt B24 1 (.ifCond .lt 12) 3 4 := by decide +kernel
theorem d24_4 : DAt B24 4 (.aload_n 0) 1 5 := by decide +kernel
theorem d24_5 : DAt B24 5 (.getfield 306) 3 8 := by decide +kernel
theorem d24_8 : DAt B24 8 (.bipush 64) 2 10 := by decide +kernel
theorem d24_10 : DAt B24 10 (.if_icmp .lt 9) 3 13 := by decide +kernel
theorem d24_13 : DAt B24 13 (.aload_n 0) 1 14 := by decide +kernel
theorem d24_14 : DAt B24 14 (.iconst 1) 1 15 := by decide +kernel
theorem d24_15 : DAt B24 15 (.putfield 309) 3 18 := by decide +kernel
theorem d24_18 : DAt B24 18 (.return_) 1 19 := by decide +kernel
theorem d24_19 : DAt B24 19 (.aload_n 0) 1 20 := by decide +kernel
theorem d24_20 : DAt B24 20 (.getfield 162) 3 23 := by decide +kernel
theorem d24_23 : DAt B24 23 (.aload_n 0) 1 24 := by decide +kernel
theorem d24_24 : DAt B24 24 (.getfield 306) 3 27 := by decide +kernel
theorem d24_27 : DAt B24 27 (.iload_n 1) 1 28 := by decide +kernel
theorem d24_28 : DAt B24 28 (.iastore) 1 29 := by decide +kernel
theorem d24_29 : DAt B24 29 (.aload_n 0) 1 30 := by decide +kernel
theorem d24_30 : DAt B24 30 (.dup) 1 31 := by decide +kernel
theorem d24_31 : DAt B24 31 (.getfield 306) 3 34 := by decide +kernel
theorem d24_34 : DAt B24 34 (.iconst 1) 1 35 := by decide +kernel
theorem d24_35 : DAt B24 35 (.iadd) 1 36 := by decide +kernel
theorem d24_36 : DAt B24 36 (.putfield 306) 3 39 := by decide +kernel
theorem d24_39 : DAt B24 39 (.return_) 1 40 := by decide +kernel
def B26 : Bdy := ((⟨"QueryRewriter", "copyAtom", "(I)I"⟩ : MethodName), prog_1_method_55_code, 3, (some .int), ({ frames := 0, cells := 0, slots := 0, locals := 0 } : Room))
theorem d26_0 : DAt B26 0 (.aload_n 0) 1 1 := by decide +kernel
theorem d26_1 : DAt B26 1 (.getfield 300) 3 4 := by decide +kernel
theorem d26_4 : DAt B26 4 (.sipush 512) 3 7 := by decide +kernel
theorem d26_7 : DAt B26 7 (.if_icmp .ge 13) 3 10 := by decide +kernel
theorem d26_10 : DAt B26 10 (.iload_n 1) 1 11 := by decide +kernel
theorem d26_11 : DAt B26 11 (.ifCond .lt 9) 3 14 := by decide +kernel
theorem d26_14 : DAt B26 14 (.iload_n 1) 1 15 := by decide +kernel
theorem d26_15 : DAt B26 15 (.bipush 64) 2 17 := by decide +kernel
theorem d26_17 : DAt B26 17 (.if_icmp .lt 5) 3 20 := by decide +kernel
theorem d26_20 : DAt B26 20 (.iconst (-1)) 1 21 := by decide +kernel
theorem d26_21 : DAt B26 21 (.ireturn) 1 22 := by decide +kernel
theorem d26_22 : DAt B26 22 (.aload_n 0) 1 23 := by decide +kernel
theorem d26_23 : DAt B26 23 (.getfield 300) 3 26 := by decide +kernel
theorem d26_26 : DAt B26 26 (.istore_n 2) 1 27 := by decide +kernel
theorem d26_27 : DAt B26 27 (.aload_n 0) 1 28 := by decide +kernel
theorem d26_28 : DAt B26 28 (.dup) 1 29 := by decide +kernel
theorem d26_29 : DAt B26 29 (.getfield 300) 3 32 := by decide +kernel
theorem d26_32 : DAt B26 32 (.iconst 1) 1 33 := by decide +kernel
theorem d26_33 : DAt B26 33 (.iadd) 1 34 := by decide +kernel
theorem d26_34 : DAt B26 34 (.putfield 300) 3 37 := by decide +kernel
theorem d26_37 : DAt B26 37 (.aload_n 0) 1 38 := by decide +kernel
theorem d26_38 : DAt B26 38 (.getfield 141) 3 41 := by decide +kernel
theorem d26_41 : DAt B26 41 (.iload_n 2) 1 42 := by decide +kernel
theorem d26_42 : DAt B26 42 (.aload_n 0) 1 43 := by decide +kernel
theorem d26_43 : DAt B26 43 (.getfield 77) 3 46 := by decide +kernel
theorem d26_46 : DAt B26 46 (.iload_n 1) 1 47 := by decide +kernel
theorem d26_47 : DAt B26 47 (.iaload) 1 48 := by decide +kernel
theorem d26_48 : DAt B26 48 (.iastore) 1 49 := by decide +kernel
theorem d26_49 : DAt B26 49 (.aload_n 0) 1 50 := by decide +kernel
theorem d26_50 : DAt B26 50 (.getfield 144) 3 53 := by decide +kernel
theorem d26_53 : DAt B26 53 (.iload_n 2) 1 54 := by decide +kernel
theorem d26_54 : DAt B26 54 (.aload_n 0) 1 55 := by decide +kernel
theorem d26_55 : DAt B26 55 (.getfield 80) 3 58 := by decide +kernel
theorem d26_58 : DAt B26 58 (.iload_n 1) 1 59 := by decide +kernel
theorem d26_59 : DAt B26 59 (.iaload) 1 60 := by decide +kernel
theorem d26_60 : DAt B26 60 (.iastore) 1 61 := by decide +kernel
theorem d26_61 : DAt B26 61 (.aload_n 0) 1 62 := by decide +kernel
theorem d26_62 : DAt B26 62 (.getfield 147) 3 65 := by decide +kernel
theorem d26_65 : DAt B26 65 (.iload_n 2) 1 66 := by decide +kernel
theorem d26_66 : DAt B26 66 (.aload_n 0) 1 67 := by decide +kernel
theorem d26_67 : DAt B26 67 (.getfield 83) 3 70 := by decide +kernel
theorem d26_70 : DAt B26 70 (.iload_n 1) 1 71 := by decide +kernel
theorem d26_71 : DAt B26 71 (.iaload) 1 72 := by decide +kernel
theorem d26_72 : DAt B26 72 (.iastore) 1 73 := by decide +kernel
theorem d26_73 : DAt B26 73 (.aload_n 0) 1 74 := by decide +kernel
theorem d26_74 : DAt B26 74 (.getfield 150) 3 77 := by decide +kernel
theorem d26_77 : DAt B26 77 (.iload_n 2) 1 78 := by decide +kernel
theorem d26_78 : DAt B26 78 (.aload_n 0) 1 79 := by decide +kernel
theorem d26_79 : DAt B26 79 (.getfield 86) 3 82 := by decide +kernel
theorem d26_82 : DAt B26 82 (.iload_n 1) 1 83 := by decide +kernel
theorem d26_83 : DAt B26 83 (.iaload) 1 84 := by decide +kernel
theorem d26_84 : DAt B26 84 (.iastore) 1 85 := by decide +kernel
theorem d26_85 : DAt B26 85 (.aload_n 0) 1 86 := by decide +kernel
theorem d26_86 : DAt B26 86 (.getfield 153) 3 89 := by decide +kernel
theorem d26_89 : DAt B26 89 (.iload_n 2) 1 90 := by decide +kernel
theorem d26_90 : DAt B26 90 (.iconst (-1)) 1 91 := by decide +kernel
theorem d26_91 : DAt B26 91 (.iastore) 1 92 := by decide +kernel
theorem d26_92 : DAt B26 92 (.iload_n 2) 1 93 := by decide +kernel
theorem d26_93 : DAt B26 93 (.ireturn) 1 94 := by decide +kernel
def B27 : Bdy := ((⟨"QueryRewriter", "prepend", "(II)V"⟩ : MethodName), prog_1_method_60_code, 3, none, ({ frames := 0, cells := 0, slots := 0, locals := 0 } : Room))
theorem d27_0 : DAt B27 0 (.iload_n 1) 1 1 := by decide +kernel
theorem d27_1 : DAt B27 1 (.ifCond .lt 20) 3 4 := by decide +kernel
theorem d27_4 : DAt B27 4 (.iload_n 1) 1 5 := by decide +kernel
theorem d27_5 : DAt B27 5 (.bipush 32) 2 7 := by decide +kernel
theorem d27_7 : DAt B27 7 (.if_icmp .ge 14) 3 10 := by decide +kernel
theorem d27_10 : DAt B27 10 (.iload_n 2) 1 11 := by decide +kernel
theorem d27_11 : DAt B27 11 (.ifCond .lt 10) 3 14 := by decide +kernel
theorem d27_14 : DAt B27 14 (.iload_n 2) 1 15 := by decide +kernel
theorem d27_15 : DAt B27 15 (.sipush 512) 3 18 := by decide +kernel
theorem d27_18 : DAt B27 18 (.if_icmp .lt 4) 3 21 := by decide +kernel
theorem d27_21 : DAt B27 21 (.return_) 1 22 := by decide +kernel
theorem d27_22 : DAt B27 22 (.aload_n 0) 1 23 := by decide +kernel
theorem d27_23 : DAt B27 23 (.getfield 153) 3 26 := by decide +kernel
theorem d27_26 : DAt B27 26 (.iload_n 2) 1 27 := by decide +kernel
theorem d27_27 : DAt B27 27 (.aload_n 0) 1 28 := by decide +kernel
theorem d27_28 : DAt B27 28 (.getfield 138) 3 31 := by decide +kernel
theorem d27_31 : DAt B27 31 (.iload_n 1) 1 32 := by decide +kernel
theorem d27_32 : DAt B27 32 (.iaload) 1 33 := by decide +kernel
theorem d27_33 : DAt B27 33 (.iastore) 1 34 := by decide +kernel
theorem d27_34 : DAt B27 34 (.aload_n 0) 1 35 := by decide +kernel
theorem d27_35 : DAt B27 35 (.getfield 138) 3 38 := by decide +kernel
theorem d27_38 : DAt B27 38 (.iload_n 1) 1 39 := by decide +kernel
theorem d27_39 : DAt B27 39 (.iload_n 2) 1 40 := by decide +kernel
theorem d27_40 : DAt B27 40 (.iastore) 1 41 := by decide +kernel
theorem d27_41 : DAt B27 41 (.return_) 1 42 := by decide +kernel
def B25 : Bdy := ((⟨"QueryRewriter", "newJoinPlan", "(III)I"⟩ : MethodName), prog_1_method_54_code, 8, (some .int), ({ frames := 1, cells := 0, slots := 0, locals := 16 } : Room))
theorem d25_0 : DAt B25 0 (.aload_n 0) 1 1 := by decide +kernel
theorem d25_1 : DAt B25 1 (.getfield 126) 3 4 := by decide +kernel
theorem d25_4 : DAt B25 4 (.iload_n 1) 1 5 := by decide +kernel
theorem d25_5 : DAt B25 5 (.iaload) 1 6 := by decide +kernel
theorem d25_6 : DAt B25 6 (.aload_n 0) 1 7 := by decide +kernel
theorem d25_7 : DAt B25 7 (.getfield 126) 3 10 := by decide +kernel
theorem d25_10 : DAt B25 10 (.iload_n 2) 1 11 := by decide +kernel
theorem d25_11 : DAt B25 11 (.iaload) 1 12 := by decide +kernel
theorem d25_12 : DAt B25 12 (.iadd) 1 13 := by decide +kernel
theorem d25_13 : DAt B25 13 (.istore 4) 2 15 := by decide +kernel
theorem d25_15 : DAt B25 15 (.aload_n 0) 1 16 := by decide +kernel
theorem d25_16 : DAt B25 16 (.getfield 288) 3 19 := by decide +kernel
theorem d25_19 : DAt B25 19 (.bipush 16) 2 21 := by decide +kernel
theorem d25_21 : DAt B25 21 (.if_icmp .ge 10) 3 24 := by decide +kernel
theorem d25_24 : DAt B25 24 (.iload 4) 2 26 := by decide +kernel
theorem d25_26 : DAt B25 26 (.bipush 8) 2 28 := by decide +kernel
theorem d25_28 : DAt B25 28 (.if_icmp .le 5) 3 31 := by decide +kernel
theorem d25_31 : DAt B25 31 (.iconst (-1)) 1 32 := by decide +kernel
theorem d25_32 : DAt B25 32 (.ireturn) 1 33 := by decide +kernel
theorem d25_33 : DAt B25 33 (.aload_n 0) 1 34 := by decide +kernel
theorem d25_34 : DAt B25 34 (.getfield 288) 3 37 := by decide +kernel
theorem d25_37 : DAt B25 37 (.istore 5) 2 39 := by decide +kernel
theorem d25_39 : DAt B25 39 (.aload_n 0) 1 40 := by decide +kernel
theorem d25_40 : DAt B25 40 (.dup) 1 41 := by decide +kernel
theorem d25_41 : DAt B25 41 (.getfield 288) 3 44 := by decide +kernel
theorem d25_44 : DAt B25 44 (.iconst 1) 1 45 := by decide +kernel
theorem d25_45 : DAt B25 45 (.iadd) 1 46 := by decide +kernel
theorem d25_46 : DAt B25 46 (.putfield 288) 3 49 := by decide +kernel
theorem d25_49 : DAt B25 49 (.aload_n 0) 1 50 := by decide +kernel
theorem d25_50 : DAt B25 50 (.iload 5) 2 52 := by decide +kernel
theorem d25_52 : DAt B25 52 (.iconst 1) 1 53 := by decide +kernel
theorem d25_53 : DAt B25 53 (.iload 4) 2 55 := by decide +kernel
theorem d25_55 : DAt B25 55 (.invokevirtual 337) 3 58 := by decide +kernel
theorem d25_58 : DAt B25 58 (.aload_n 0) 1 59 := by decide +kernel
theorem d25_59 : DAt B25 59 (.getfield 117) 3 62 := by decide +kernel
theorem d25_62 : DAt B25 62 (.iload 5) 2 64 := by decide +kernel
theorem d25_64 : DAt B25 64 (.iload_n 1) 1 65 := by decide +kernel
theorem d25_65 : DAt B25 65 (.iastore) 1 66 := by decide +kernel
theorem d25_66 : DAt B25 66 (.aload_n 0) 1 67 := by decide +kernel
theorem d25_67 : DAt B25 67 (.getfield 120) 3 70 := by decide +kernel
theorem d25_70 : DAt B25 70 (.iload 5) 2 72 := by decide +kernel
theorem d25_72 : DAt B25 72 (.iload_n 2) 1 73 := by decide +kernel
theorem d25_73 : DAt B25 73 (.iastore) 1 74 := by decide +kernel
theorem d25_74 : DAt B25 74 (.aload_n 0) 1 75 := by decide +kernel
theorem d25_75 : DAt B25 75 (.getfield 123) 3 78 := by decide +kernel
theorem d25_78 : DAt B25 78 (.iload 5) 2 80 := by decide +kernel
theorem d25_80 : DAt B25 80 (.aload_n 0) 1 81 := by decide +kernel
theorem d25_81 : DAt B25 81 (.getfield 65) 3 84 := by decide +kernel
theorem d25_84 : DAt B25 84 (.iload_n 3) 1 85 := by decide +kernel
theorem d25_85 : DAt B25 85 (.iaload) 1 86 := by decide +kernel
theorem d25_86 : DAt B25 86 (.iastore) 1 87 := by decide +kernel
theorem d25_87 : DAt B25 87 (.iconst 0) 1 88 := by decide +kernel
theorem d25_88 : DAt B25 88 (.istore 6) 2 90 := by decide +kernel
theorem d25_90 : DAt B25 90 (.iload 6) 2 92 := by decide +kernel
theorem d25_92 : DAt B25 92 (.aload_n 0) 1 93 := by decide +kernel
theorem d25_93 : DAt B25 93 (.getfield 74) 3 96 := by decide +kernel
theorem d25_96 : DAt B25 96 (.iload_n 3) 1 97 := by decide +kernel
theorem d25_97 : DAt B25 97 (.iaload) 1 98 := by decide +kernel
theorem d25_98 : DAt B25 98 (.if_icmp .ge 50) 3 101 := by decide +kernel
theorem d25_101 : DAt B25 101 (.iload 6) 2 103 := by decide +kernel
theorem d25_103 : DAt B25 103 (.bipush 64) 2 105 := by decide +kernel
theorem d25_105 : DAt B25 105 (.if_icmp .ge 43) 3 108 := by decide +kernel
theorem d25_108 : DAt B25 108 (.aload_n 0) 1 109 := by decide +kernel
theorem d25_109 : DAt B25 109 (.aload_n 0) 1 110 := by decide +kernel
theorem d25_110 : DAt B25 110 (.getfield 71) 3 113 := by decide +kernel
theorem d25_113 : DAt B25 113 (.iload_n 3) 1 114 := by decide +kernel
theorem d25_114 : DAt B25 114 (.iaload) 1 115 := by decide +kernel
theorem d25_115 : DAt B25 115 (.iload 6) 2 117 := by decide +kernel
theorem d25_117 : DAt B25 117 (.iadd) 1 118 := by decide +kernel
theorem d25_118 : DAt B25 118 (.invokevirtual 341) 3 121 := by decide +kernel
theorem d25_121 : DAt B25 121 (.istore 7) 2 123 := by decide +kernel
theorem d25_123 : DAt B25 123 (.iload 7) 2 125 := by decide +kernel
theorem d25_125 : DAt B25 125 (.ifCond .ge 5) 3 128 := by decide +kernel
theorem d25_128 : DAt B25 128 (.iconst (-1)) 1 129 := by decide +kernel
theorem d25_129 : DAt B25 129 (.ireturn) 1 130 := by decide +kernel
theorem d25_130 : DAt B25 130 (.aload_n 0) 1 131 := by decide +kernel
theorem d25_131 : DAt B25 131 (.iconst 2) 1 132 := by decide +kernel
theorem d25_132 : DAt B25 132 (.iload 5) 2 134 := by decide +kernel
theorem d25_134 : DAt B25 134 (.imul) 1 135 := by decide +kernel
theorem d25_135 : DAt B25 135 (.iconst 1) 1 136 := by decide +kernel
theorem d25_136 : DAt B25 136 (.iadd) 1 137 := by decide +kernel
theorem d25_137 : DAt B25 137 (.iload 7) 2 139 := by decide +kernel
theorem d25_139 : DAt B25 139 (.invokevirtual 344) 3 142 := by decide +kernel
theorem d25_142 : DAt B25 142 (.iinc 6 1) 3 145 := by decide +kernel
theorem d25_145 : DAt B25 145 (.goto (-55)) 3 148 := by decide +kernel
theorem d25_148 : DAt B25 148 (.iload 5) 2 150 := by decide +kernel
theorem d25_150 : DAt B25 150 (.ireturn) 1 151 := by decide +kernel
def B21 : Bdy := ((⟨"QueryRewriter", "joinStep", "(II)V"⟩ : MethodName), prog_1_method_51_code, 7, none, ({ frames := 2, cells := 0, slots := 0, locals := 35 } : Room))
theorem d21_0 : DAt B21 0 (.aload_n 0) 1 1 := by decide +kernel
theorem d21_1 : DAt B21 1 (.getfield 159) 3 4 := by decide +kernel
theorem d21_4 : DAt B21 4 (.iload_n 1) 1 5 := by decide +kernel
theorem d21_5 : DAt B21 5 (.iaload) 1 6 := by decide +kernel
theorem d21_6 : DAt B21 6 (.istore_n 3) 1 7 := by decide +kernel
theorem d21_7 : DAt B21 7 (.iload_n 3) 1 8 := by decide +kernel
theorem d21_8 : DAt B21 8 (.ifCond .ne 21) 3 11 := by decide +kernel
theorem d21_11 : DAt B21 11 (.aload_n 0) 1 12 := by decide +kernel
theorem d21_12 : DAt B21 12 (.getfield 159) 3 15 := by decide +kernel
theorem d21_15 : DAt B21 15 (.iload_n 1) 1 16 := by decide +kernel
theorem d21_16 : DAt B21 16 (.iconst 1) 1 17 := by decide +kernel
theorem d21_17 : DAt B21 17 (.iastore) 1 18 := by decide +kernel
theorem d21_18 : DAt B21 18 (.aload_n 0) 1 19 := by decide +kernel
theorem d21_19 : DAt B21 19 (.aload_n 0) 1 20 := by decide +kernel
theorem d21_20 : DAt B21 20 (.getfield 59) 3 23 := by decide +kernel
theorem d21_23 : DAt B21 23 (.iload_n 2) 1 24 := by decide +kernel
theorem d21_24 : DAt B21 24 (.iaload) 1 25 := by decide +kernel
theorem d21_25 : DAt B21 25 (.invokevirtual 313) 3 28 := by decide +kernel
theorem d21_28 : DAt B21 28 (.return_) 1 29 := by decide +kernel
theorem d21_29 : DAt B21 29 (.iload_n 3) 1 30 := by decide +kernel
theorem d21_30 : DAt B21 30 (.iconst 1) 1 31 := by decide +kernel
theorem d21_31 : DAt B21 31 (.if_icmp .ne 21) 3 34 := by decide +kernel
theorem d21_34 : DAt B21 34 (.aload_n 0) 1 35 := by decide +kernel
theorem d21_35 : DAt B21 35 (.getfield 159) 3 38 := by decide +kernel
theorem d21_38 : DAt B21 38 (.iload_n 1) 1 39 := by decide +kernel
theorem d21_39 : DAt B21 39 (.iconst 2) 1 40 := by decide +kernel
theorem d21_40 : DAt B21 40 (.iastore) 1 41 := by decide +kernel
theorem d21_41 : DAt B21 41 (.aload_n 0) 1 42 := by decide +kernel
theorem d21_42 : DAt B21 42 (.aload_n 0) 1 43 := by decide +kernel
theorem d21_43 : DAt B21 43 (.getfield 62) 3 46 := by decide +kernel
theorem d21_46 : DAt B21 46 (.iload_n 2) 1 47 := by decide +kernel
theorem d21_47 : DAt B21 47 (.iaload) 1 48 := by decide +kernel
theorem d21_48 : DAt B21 48 (.invokevirtual 313) 3 51 := by decide +kernel
theorem d21_51 : DAt B21 51 (.return_) 1 52 := by decide +kernel
theorem d21_52 : DAt B21 52 (.aload_n 0) 1 53 := by decide +kernel
theorem d21_53 : DAt B21 53 (.iload_n 1) 1 54 := by decide +kernel
theorem d21_54 : DAt B21 54 (.putfield 303) 3 57 := by decide +kernel
theorem d21_57 : DAt B21 57 (.aload_n 0) 1 58 := by decide +kernel
theorem d21_58 : DAt B21 58 (.getfield 306) 3 61 := by decide +kernel
theorem d21_61 : DAt B21 61 (.iconst 2) 1 62 := by decide +kernel
theorem d21_62 : DAt B21 62 (.if_icmp .ge 9) 3 65 := by decide +kernel
theorem d21_65 : DAt B21 65 (.aload_n 0) 1 66 := by decide +kernel
theorem d21_66 : DAt B21 66 (.iconst 1) 1 67 := by decide +kernel
theorem d21_67 : DAt B21 67 (.putfield 309) 3 70 := by decide +kernel
theorem d21_70 : DAt B21 70 (.return_) 1 71 := by decide +kernel
theorem d21_71 : DAt B21 71 (.aload_n 0) 1 72 := by decide +kernel
theorem d21_72 : DAt B21 72 (.getfield 162) 3 75 := by decide +kernel
theorem d21_75 : DAt B21 75 (.aload_n 0) 1 76 := by decide +kernel
theorem d21_76 : DAt B21 76 (.getfield 306) 3 79 := by decide +kernel
theorem d21_79 : DAt B21 79 (.iconst 1) 1 80 := by decide +kernel
theorem d21_80 : DAt B21 80 (.isub) 1 81 := by decide +kernel
theorem d21_81 : DAt B21 81 (.iaload) 1 82 := by decide +kernel
theorem d21_82 : DAt B21 82 (.istore 4) 2 84 := by decide +kernel
theorem d21_84 : DAt B21 84 (.aload_n 0) 1 85 := by decide +kernel
theorem d21_85 : DAt B21 85 (.getfield 162) 3 88 := by decide +kernel
theorem d21_88 : DAt B21 88 (.aload_n 0) 1 89 := by decide +kernel
theorem d21_89 : DAt B21 89 (.getfield 306) 3 92 := by decide +kernel
theorem d21_92 : DAt B21 92 (.iconst 2) 1 93 := by decide +kernel
theorem d21_93 : DAt B21 93 (.isub) 1 94 := by decide +kernel
theorem d21_94 : DAt B21 94 (.iaload) 1 95 := by decide +kernel
theorem d21_95 : DAt B21 95 (.istore 5) 2 97 := by decide +kernel
theorem d21_97 : DAt B21 97 (.aload_n 0) 1 98 := by decide +kernel
theorem d21_98 : DAt B21 98 (.dup) 1 99 := by decide +kernel
theorem d21_99 : DAt B21 99 (.getfield 306) 3 102 := by decide +kernel
theorem d21_102 : DAt B21 102 (.iconst 2) 1 103 := by decide +kernel
theorem d21_103 : DAt B21 103 (.isub) 1 104 := by decide +kernel
theorem d21_104 : DAt B21 104 (.putfield 306) 3 107 := by decide +kernel
theorem d21_107 : DAt B21 107 (.aload_n 0) 1 108 := by decide +kernel
theorem d21_108 : DAt B21 108 (.iload 5) 2 110 := by decide +kernel
theorem d21_110 : DAt B21 110 (.iload 4) 2 112 := by decide +kernel
theorem d21_112 : DAt B21 112 (.iload_n 2) 1 113 := by decide +kernel
theorem d21_113 : DAt B21 113 (.invokevirtual 334) 3 116 := by decide +kernel
theorem d21_116 : DAt B21 116 (.istore 6) 2 118 := by decide +kernel
theorem d21_118 : DAt B21 118 (.aload_n 0) 1 119 := by decide +kernel
theorem d21_119 : DAt B21 119 (.iload 6) 2 121 := by decide +kernel
theorem d21_121 : DAt B21 121 (.invokevirtual 322) 3 124 := by decide +kernel
theorem d21_124 : DAt B21 124 (.return_) 1 125 := by decide +kernel
def B30 : Bdy := ((⟨"QueryRewriter", "mapCol", "(II)I"⟩ : MethodName), prog_1_method_58_code, 3, (some .int), ({ frames := 0, cells := 0, slots := 0, locals := 0 } : Room))
theorem d30_0 : DAt B30 0 (.iload_n 2) 1 1 := by decide +kernel
theorem d30_1 : DAt B30 1 (.ifCond .lt 19) 3 4 := by decide +kernel
theorem d30_4 : DAt B30 4 (.iload_n 2) 1 5 := by decide +kernel
theorem d30_5 : DAt B30 5 (.aload_n 0) 1 6 := by decide +kernel
theorem d30_6 : DAt B30 6 (.getfield 126) 3 9 := by decide +kernel
theorem d30_9 : DAt B30 9 (.iload_n 1) 1 10 := by decide +kernel
theorem d30_10 : DAt B30 10 (.iaload) 1 11 := by decide +kernel
theorem d30_11 : DAt B30 11 (.if_icmp .ge 9) 3 14 := by decide +kernel
theorem d30_14 : DAt B30 14 (.iload_n 2) 1 15 := by decide +kernel
theorem d30_15 : DAt B30 15 (.bipush 8) 2 17 := by decide +kernel
theorem d30_17 : DAt B30 17 (.if_icmp .lt 5) 3 20 := by decide +kernel
theorem d30_20 : DAt B30 20 (.iconst 0) 1 21 := by decide +kernel
theorem d30_21 : DAt B30 21 (.ireturn) 1 22 := by decide +kernel
theorem d30_22 : DAt B30 22 (.aload_n 0) 1 23 := by decide +kernel
theorem d30_23 : DAt B30 23 (.getfield 129) 3 26 := by decide +kernel
theorem d30_26 : DAt B30 26 (.iload_n 1) 1 27 := by decide +kernel
theorem d30_27 : DAt B30 27 (.bipush 8) 2 29 := by decide +kernel
theorem d30_29 : DAt B30 29 (.imul) 1 30 := by decide +kernel
theorem d30_30 : DAt B30 30 (.iload_n 2) 1 31 := by decide +kernel
theorem d30_31 : DAt B30 31 (.iadd) 1 32 := by decide +kernel
theorem d30_32 : DAt B30 32 (.iaload) 1 33 := by decide +kernel
theorem d30_33 : DAt B30 33 (.ireturn) 1 34 := by decide +kernel
def B29 : Bdy := ((⟨"QueryRewriter", "substitute", "(III)V"⟩ : MethodName), prog_1_method_59_code, 4, none, ({ frames := 1, cells := 0, slots := 0, locals := 16 } : Room))
theorem d29_0 : DAt B29 0 (.aload_n 0) 1 1 := by decide +kernel
theorem d29_1 : DAt B29 1 (.getfield 150) 3 4 := by decide +kernel
theorem d29_4 : DAt B29 4 (.iload_n 1) 1 5 := by decide +kernel
theorem d29_5 : DAt B29 5 (.iaload) 1 6 := by decide +kernel
theorem d29_6 : DAt B29 6 (.iconst 1) 1 7 := by decide +kernel
theorem d29_7 : DAt B29 7 (.iand) 1 8 := by decide +kernel
theorem d29_8 : DAt B29 8 (.ifCond .eq 22) 3 11 := by decide +kernel
theorem d29_11 : DAt B29 11 (.aload_n 0) 1 12 := by decide +kernel
theorem d29_12 : DAt B29 12 (.getfield 144) 3 15 := by decide +kernel
theorem d29_15 : DAt B29 15 (.iload_n 1) 1 16 := by decide +kernel
theorem d29_16 : DAt B29 16 (.aload_n 0) 1 17 := by decide +kernel
theorem d29_17 : DAt B29 17 (.iload_n 2) 1 18 := by decide +kernel
theorem d29_18 : DAt B29 18 (.aload_n 0) 1 19 := by decide +kernel
theorem d29_19 : DAt B29 19 (.getfield 144) 3 22 := by decide +kernel
theorem d29_22 : DAt B29 22 (.iload_n 1) 1 23 := by decide +kernel
theorem d29_23 : DAt B29 23 (.iaload) 1 24 := by decide +kernel
theorem d29_24 : DAt B29 24 (.iload_n 3) 1 25 := by decide +kernel
theorem d29_25 : DAt B29 25 (.isub) 1 26 := by decide +kernel
theorem d29_26 : DAt B29 26 (.invokevirtual 350) 3 29 := by decide +kernel
theorem d29_29 : DAt B29 29 (.iastore) 1 30 := by decide +kernel
theorem d29_30 : DAt B29 30 (.aload_n 0) 1 31 := by decide +kernel
theorem d29_31 : DAt B29 31 (.getfield 150) 3 34 := by decide +kernel
theorem d29_34 : DAt B29 34 (.iload_n 1) 1 35 := by decide +kernel
theorem d29_35 : DAt B29 35 (.iaload) 1 36 := by decide +kernel
theorem d29_36 : DAt B29 36 (.iconst 2) 1 37 := by decide +kernel
theorem d29_37 : DAt B29 37 (.iand) 1 38 := by decide +kernel
theorem d29_38 : DAt B29 38 (.ifCond .eq 22) 3 41 := by decide +kernel
theorem d29_41 : DAt B29 41 (.aload_n 0) 1 42 := by decide +kernel
theorem d29_42 : DAt B29 42 (.getfield 147) 3 45 := by decide +kernel
theorem d29_45 : DAt B29 45 (.iload_n 1) 1 46 := by decide +kernel
theorem d29_46 : DAt B29 46 (.aload_n 0) 1 47 := by decide +kernel
theorem d29_47 : DAt B29 47 (.iload_n 2) 1 48 := by decide +kernel
theorem d29_48 : DAt B29 48 (.aload_n 0) 1 49 := by decide +kernel
theorem d29_49 : DAt B29 49 (.getfield 147) 3 52 := by decide +kernel
theorem d29_52 : DAt B29 52 (.iload_n 1) 1 53 := by decide +kernel
theorem d29_53 : DAt B29 53 (.iaload) 1 54 := by decide +kernel
theorem d29_54 : DAt B29 54 (.iload_n 3) 1 55 := by decide +kernel
theorem d29_55 : DAt B29 55 (.isub) 1 56 := by decide +kernel
theorem d29_56 : DAt B29 56 (.invokevirtual 350) 3 59 := by decide +kernel
theorem d29_59 : DAt B29 59 (.iastore) 1 60 := by decide +kernel
theorem d29_60 : DAt B29 60 (.return_) 1 61 := by decide +kernel
def B28 : Bdy := ((⟨"QueryRewriter", "applySelect", "(II)V"⟩ : MethodName), prog_1_method_56_code, 5, none, ({ frames := 2, cells := 0, slots := 0, locals := 31 } : Room))
theorem d28_0 : DAt B28 0 (.iconst 0) 1 1 := by decide +kernel
theorem d28_1 : DAt B28 1 (.istore_n 3) 1 2 := by decide +kernel
theorem d28_2 : DAt B28 2 (.iload_n 3) 1 3 := by decide +kernel
theorem d28_3 : DAt B28 3 (.aload_n 0) 1 4 := by decide +kernel
theorem d28_4 : DAt B28 4 (.getfield 74) 3 7 := by decide +kernel
theorem d28_7 : DAt B28 7 (.iload_n 2) 1 8 := by decide +kernel
theorem d28_8 : DAt B28 8 (.iaload) 1 9 := by decide +kernel
theorem d28_9 : DAt B28 9 (.if_icmp .ge 57) 3 12 := by decide +kernel
theorem d28_12 : DAt B28 12 (.iload_n 3) 1 13 := by decide +kernel
theorem d28_13 : DAt B28 13 (.bipush 64) 2 15 := by decide +kernel
theorem d28_15 : DAt B28 15 (.if_icmp .ge 51) 3 18 := by decide +kernel
theorem d28_18 : DAt B28 18 (.aload_n 0) 1 19 := by decide +kernel
theorem d28_19 : DAt B28 19 (.aload_n 0) 1 20 := by decide +kernel
theorem d28_20 : DAt B28 20 (.getfield 71) 3 23 := by decide +kernel
theorem d28_23 : DAt B28 23 (.iload_n 2) 1 24 := by decide +kernel
theorem d28_24 : DAt B28 24 (.iaload) 1 25 := by decide +kernel
theorem d28_25 : DAt B28 25 (.iload_n 3) 1 26 := by decide +kernel
theorem d28_26 : DAt B28 26 (.iadd) 1 27 := by decide +kernel
theorem d28_27 : DAt B28 27 (.invokevirtual 341) 3 30 := by decide +kernel
theorem d28_30 : DAt B28 30 (.istore 4) 2 32 := by decide +kernel
theorem d28_32 : DAt B28 32 (.iload 4) 2 34 := by decide +kernel
theorem d28_34 : DAt B28 34 (.ifCond .ge 9) 3 37 := by decide +kernel
theorem d28_37 : DAt B28 37 (.aload_n 0) 1 38 := by decide +kernel
theorem d28_38 : DAt B28 38 (.iconst 1) 1 39 := by decide +kernel
theorem d28_39 : DAt B28 39 (.putfield 309) 3 42 := by decide +kernel
theorem d28_42 : DAt B28 42 (.return_) 1 43 := by decide +kernel
theorem d28_43 : DAt B28 43 (.aload_n 0) 1 44 := by decide +kernel
theorem d28_44 : DAt B28 44 (.iload 4) 2 46 := by decide +kernel
theorem d28_46 : DAt B28 46 (.iload_n 1) 1 47 := by decide +kernel
theorem d28_47 : DAt B28 47 (.iconst 0) 1 48 := by decide +kernel
theorem d28_48 : DAt B28 48 (.invokevirtual 347) 3 51 := by decide +kernel
theorem d28_51 : DAt B28 51 (.aload_n 0) 1 52 := by decide +kernel
theorem d28_52 : DAt B28 52 (.iconst 2) 1 53 := by decide +kernel
theorem d28_53 : DAt B28 53 (.iload_n 1) 1 54 := by decide +kernel
theorem d28_54 : DAt B28 54 (.imul) 1 55 := by decide +kernel
theorem d28_55 : DAt B28 55 (.iload 4) 2 57 := by decide +kernel
theorem d28_57 : DAt B28 57 (.invokevirtual 344) 3 60 := by decide +kernel
theorem d28_60 : DAt B28 60 (.iinc 3 1) 3 63 := by decide +kernel
theorem d28_63 : DAt B28 63 (.goto (-61)) 3 66 := by decide +kernel
theorem d28_66 : DAt B28 66 (.return_) 1 67 := by decide +kernel
def B20 : Bdy := ((⟨"QueryRewriter", "buildStep", "()V"⟩ : MethodName), prog_1_method_50_code, 5, none, ({ frames := 3, cells := 0, slots := 0, locals := 53 } : Room))
theorem d20_0 : DAt B20 0 (.aload_n 0) 1 1 := by decide +kernel
theorem d20_1 : DAt B20 1 (.getfield 303) 3 4 := by decide +kernel
theorem d20_4 : DAt B20 4 (.iconst 1) 1 5 := by decide +kernel
theorem d20_5 : DAt B20 5 (.isub) 1 6 := by decide +kernel
theorem d20_6 : DAt B20 6 (.istore_n 1) 1 7 := by decide +kernel
theorem d20_7 : DAt B20 7 (.aload_n 0) 1 8 := by decide +kernel
theorem d20_8 : DAt B20 8 (.getfield 156) 3 11 := by decide +kernel
theorem d20_11 : DAt B20 11 (.iload_n 1) 1 12 := by decide +kernel
theorem d20_12 : DAt B20 12 (.iaload) 1 13 := by decide +kernel
theorem d20_13 : DAt B20 13 (.istore_n 2) 1 14 := by decide +kernel
theorem d20_14 : DAt B20 14 (.aload_n 0) 1 15 := by decide +kernel
theorem d20_15 : DAt B20 15 (.getfield 53) 3 18 := by decide +kernel
theorem d20_18 : DAt B20 18 (.iload_n 2) 1 19 := by decide +kernel
theorem d20_19 : DAt B20 19 (.iaload) 1 20 := by decide +kernel
theorem d20_20 : DAt B20 20 (.istore_n 3) 1 21 := by decide +kernel
theorem d20_21 : DAt B20 21 (.iload_n 3) 1 22 := by decide +kernel
theorem d20_22 : DAt B20 22 (.ifCond .ne 29) 3 25 := by decide +kernel
theorem d20_25 : DAt B20 25 (.aload_n 0) 1 26 := by decide +kernel
theorem d20_26 : DAt B20 26 (.iload_n 1) 1 27 := by decide +kernel
theorem d20_27 : DAt B20 27 (.putfield 303) 3 30 := by decide +kernel
theorem d20_30 : DAt B20 30 (.aload_n 0) 1 31 := by decide +kernel
theorem d20_31 : DAt B20 31 (.aload_n 0) 1 32 := by decide +kernel
theorem d20_32 : DAt B20 32 (.getfield 59) 3 35 := by decide +kernel
theorem d20_35 : DAt B20 35 (.iload_n 2) 1 36 := by decide +kernel
theorem d20_36 : DAt B20 36 (.iaload) 1 37 := by decide +kernel
theorem d20_37 : DAt B20 37 (.iconst 3) 1 38 := by decide +kernel
theorem d20_38 : DAt B20 38 (.iand) 1 39 := by decide +kernel
theorem d20_39 : DAt B20 39 (.invokevirtual 319) 3 42 := by decide +kernel
theorem d20_42 : DAt B20 42 (.istore 4) 2 44 := by decide +kernel
theorem d20_44 : DAt B20 44 (.aload_n 0) 1 45 := by decide +kernel
theorem d20_45 : DAt B20 45 (.iload 4) 2 47 := by decide +kernel
theorem d20_47 : DAt B20 47 (.invokevirtual 322) 3 50 := by decide +kernel
theorem d20_50 : DAt B20 50 (.return_) 1 51 := by decide +kernel
theorem d20_51 : DAt B20 51 (.iload_n 3) 1 52 := by decide +kernel
theorem d20_52 : DAt B20 52 (.iconst 3) 1 53 := by decide +kernel
theorem d20_53 : DAt B20 53 (.if_icmp .ne 10) 3 56 := by decide +kernel
theorem d20_56 : DAt B20 56 (.aload_n 0) 1 57 := by decide +kernel
theorem d20_57 : DAt B20 57 (.iload_n 1) 1 58 := by decide +kernel
theorem d20_58 : DAt B20 58 (.iload_n 2) 1 59 := by decide +kernel
theorem d20_59 : DAt B20 59 (.invokevirtual 325) 3 62 := by decide +kernel
theorem d20_62 : DAt B20 62 (.return_) 1 63 := by decide +kernel
theorem d20_63 : DAt B20 63 (.aload_n 0) 1 64 := by decide +kernel
theorem d20_64 : DAt B20 64 (.getfield 159) 3 67 := by decide +kernel
theorem d20_67 : DAt B20 67 (.iload_n 1) 1 68 := by decide +kernel
theorem d20_68 : DAt B20 68 (.iaload) 1 69 := by decide +kernel
theorem d20_69 : DAt B20 69 (.ifCond .ne 21) 3 72 := by decide +kernel
theorem d20_72 : DAt B20 72 (.aload_n 0) 1 73 := by decide +kernel
theorem d20_73 : DAt B20 73 (.getfield 159) 3 76 := by decide +kernel
theorem d20_76 : DAt B20 76 (.iload_n 1) 1 77 := by decide +kernel
theorem d20_77 : DAt B20 77 (.iconst 1) 1 78 := by decide +kernel
theorem d20_78 : DAt B20 78 (.iastore) 1 79 := by decide +kernel
theorem d20_79 : DAt B20 79 (.aload_n 0) 1 80 := by decide +kernel
theorem d20_80 : DAt B20 80 (.aload_n 0) 1 81 := by decide +kernel
theorem d20_81 : DAt B20 81 (.getfield 59) 3 84 := by decide +kernel
theorem d20_84 : DAt B20 84 (.iload_n 2) 1 85 := by decide +kernel
theorem d20_85 : DAt B20 85 (.iaload) 1 86 := by decide +kernel
theorem d20_86 : DAt B20 86 (.invokevirtual 313) 3 89 := by decide +kernel
theorem d20_89 : DAt B20 89 (.return_) 1 90 := by decide +kernel
theorem d20_90 : DAt B20 90 (.aload_n 0) 1 91 := by decide +kernel
theorem d20_91 : DAt B20 91 (.iload_n 1) 1 92 := by decide +kernel
theorem d20_92 : DAt B20 92 (.putfield 303) 3 95 := by decide +kernel
theorem d20_95 : DAt B20 95 (.aload_n 0) 1 96 := by decide +kernel
theorem d20_96 : DAt B20 96 (.getfield 306) 3 99 := by decide +kernel
theorem d20_99 : DAt B20 99 (.ifCond .gt 9) 3 102 := by decide +kernel
theorem d20_102 : DAt B20 102 (.aload_n 0) 1 103 := by decide +kernel
theorem d20_103 : DAt B20 103 (.iconst 1) 1 104 := by decide +kernel
theorem d20_104 : DAt B20 104 (.putfield 309) 3 107 := by decide +kernel
theorem d20_107 : DAt B20 107 (.return_) 1 108 := by decide +kernel
theorem d20_108 : DAt B20 108 (.aload_n 0) 1 109 := by decide +kernel
theorem d20_109 : DAt B20 109 (.getfield 162) 3 112 := by decide +kernel
theorem d20_112 : DAt B20 112 (.aload_n 0) 1 113 := by decide +kernel
theorem d20_113 : DAt B20 113 (.getfield 306) 3 116 := by decide +kernel
theorem d20_116 : DAt B20 116 (.iconst 1) 1 117 := by decide +kernel
theorem d20_117 : DAt B20 117 (.isub) 1 118 := by decide +kernel
theorem d20_118 : DAt B20 118 (.iaload) 1 119 := by decide +kernel
theorem d20_119 : DAt B20 119 (.istore 4) 2 121 := by decide +kernel
theorem d20_121 : DAt B20 121 (.iload_n 3) 1 122 := by decide +kernel
theorem d20_122 : DAt B20 122 (.iconst 1) 1 123 := by decide +kernel
theorem d20_123 : DAt B20 123 (.if_icmp .ne 13) 3 126 := by decide +kernel
theorem d20_126 : DAt B20 126 (.aload_n 0) 1 127 := by decide +kernel
theorem d20_127 : DAt B20 127 (.iload 4) 2 129 := by decide +kernel
theorem d20_129 : DAt B20 129 (.iload_n 2) 1 130 := by decide +kernel
theorem d20_130 : DAt B20 130 (.invokevirtual 328) 3 133 := by decide +kernel
theorem d20_133 : DAt B20 133 (.goto 15) 3 136 := by decide +kernel
theorem d20_136 : DAt B20 136 (.iload_n 3) 1 137 := by decide +kernel
theorem d20_137 : DAt B20 137 (.iconst 2) 1 138 := by decide +kernel
theorem d20_138 : DAt B20 138 (.if_icmp .ne 10) 3 141 := by decide +kernel
theorem d20_141 : DAt B20 141 (.aload_n 0) 1 142 := by decide +kernel
theorem d20_142 : DAt B20 142 (.iload 4) 2 144 := by decide +kernel
theorem d20_144 : DAt B20 144 (.iload_n 2) 1 145 := by decide +kernel
theorem d20_148 : DAt B20 148 (.return_) 1 149 := by decide +kernel
def B18 : Bdy := ((⟨"QueryRewriter", "buildPlan", "(I)Z"⟩ : MethodName), prog_1_method_47_code, 3, (some .boolean), ({ frames := 4, cells := 0, slots := 0, locals := 69 } : Room))
theorem d18_0 : DAt B18 0 (.aload_n 0) 1 1 := by decide +kernel
theorem d18_1 : DAt B18 1 (.iconst 0) 1 2 := by decide +kernel
theorem d18_2 : DAt B18 2 (.putfield 288) 3 5 := by decide +kernel
theorem d18_5 : DAt B18 5 (.aload_n 0) 1 6 := by decide +kernel
theorem d18_6 : DAt B18 6 (.iconst 0) 1 7 := by decide +kernel
theorem d18_7 : DAt B18 7 (.putfield 300) 3 10 := by decide +kernel
theorem d18_10 : DAt B18 10 (.aload_n 0) 1 11 := by decide +kernel
theorem d18_11 : DAt B18 11 (.iconst 0) 1 12 := by decide +kernel
theorem d18_12 : DAt B18 12 (.putfield 303) 3 15 := by decide +kernel
theorem d18_15 : DAt B18 15 (.aload_n 0) 1 16 := by decide +kernel
theorem d18_16 : DAt B18 16 (.iconst 0) 1 17 := by decide +kernel
theorem d18_17 : DAt B18 17 (.putfield 306) 3 20 := by decide +kernel
theorem d18_20 : DAt B18 20 (.aload_n 0) 1 21 := by decide +kernel
theorem d18_21 : DAt B18 21 (.iconst 0) 1 22 := by decide +kernel
theorem d18_22 : DAt B18 22 (.putfield 309) 3 25 := by decide +kernel
theorem d18_25 : DAt B18 25 (.aload_n 0) 1 26 := by decide +kernel
theorem d18_26 : DAt B18 26 (.iload_n 1) 1 27 := by decide +kernel
theorem d18_27 : DAt B18 27 (.invokevirtual 313) 3 30 := by decide +kernel
theorem d18_30 : DAt B18 30 (.iconst 0) 1 31 := by decide +kernel
theorem d18_31 : DAt B18 31 (.istore_n 2) 1 32 := by decide +kernel
theorem d18_32 : DAt B18 32 (.iload_n 2) 1 33 := by decide +kernel
theorem d18_33 : DAt B18 33 (.sipush 4096) 3 36 := by decide +kernel
theorem d18_36 : DAt B18 36 (.if_icmp .ge 27) 3 39 := by decide +kernel
theorem d18_39 : DAt B18 39 (.aload_n 0) 1 40 := by decide +kernel
theorem d18_40 : DAt B18 40 (.getfield 303) 3 43 := by decide +kernel
theorem d18_43 : DAt B18 43 (.ifCond .le 20) 3 46 := by decide +kernel
theorem d18_46 : DAt B18 46 (.aload_n 0) 1 47 := by decide +kernel
theorem d18_47 : DAt B18 47 (.getfield 309) 3 50 := by decide +kernel
theorem d18_50 : DAt B18 50 (.ifCond .ne 13) 3 53 := by decide +kernel
theorem d18_53 : DAt B18 53 (.aload_n 0) 1 54 := by decide +kernel
theorem d18_54 : DAt B18 54 (.invokevirtual 316) 3 57 := by decide +kernel
theorem d18_57 : DAt B18 57 (.iinc 2 1) 3 60 := by decide +kernel
theorem d18_60 : DAt B18 60 (.goto (-28)) 3 63 := by decide +kernel
theorem d18_63 : DAt B18 63 (.aload_n 0) 1 64 := by decide +kernel
theorem d18_64 : DAt B18 64 (.getfield 309) 3 67 := by decide +kernel
theorem d18_67 : DAt B18 67 (.ifCond .ne 29) 3 70 := by decide +kernel
theorem d18_70 : DAt B18 70 (.aload_n 0) 1 71 := by decide +kernel
theorem d18_71 : DAt B18 71 (.getfield 303) 3 74 := by decide +kernel
theorem d18_74 : DAt B18 74 (.ifCond .ne 22) 3 77 := by decide +kernel
theorem d18_77 : DAt B18 77 (.aload_n 0) 1 78 := by decide +kernel
theorem d18_78 : DAt B18 78 (.getfield 306) 3 81 := by decide +kernel
theorem d18_81 : DAt B18 81 (.iconst 1) 1 82 := by decide +kernel
theorem d18_82 : DAt B18 82 (.if_icmp .ne 14) 3 85 := by decide +kernel
theorem d18_85 : DAt B18 85 (.aload_n 0) 1 86 := by decide +kernel
theorem d18_86 : DAt B18 86 (.getfield 288) 3 89 := by decide +kernel
theorem d18_89 : DAt B18 89 (.ifCond .le 7) 3 92 := by decide +kernel
theorem d18_92 : DAt B18 92 (.iconst 1) 1 93 := by decide +kernel
theorem d18_93 : DAt B18 93 (.goto 4) 3 96 := by decide +kernel
theorem d18_96 : DAt B18 96 (.iconst 0) 1 97 := by decide +kernel
theorem d18_97 : DAt B18 97 (.ireturn) 1 98 := by decide +kernel
def B52 : Bdy := ((⟨"QueryRewriter", "cell", "(I)I"⟩ : MethodName), prog_1_method_30_code, 2, (some .int), ({ frames := 0, cells := 0, slots := 0, locals := 0 } : Room))
theorem d52_0 : DAt B52 0 (.iload_n 1) 1 1 := by decide +kernel
theorem d52_1 : DAt B52 1 (.ifCond .lt 9) 3 4 := by decide +kernel
theorem d52_4 : DAt B52 4 (.iload_n 1) 1 5 := by decide +kernel
theorem d52_5 : DAt B52 5 (.bipush 16) 2 7 := by decide +kernel
theorem d52_7 : DAt B52 7 (.if_icmp .lt 6) 3 10 := by decide +kernel
theorem d52_10 : DAt B52 10 (.ldc 239) 2 12 := by decide +kernel
theorem d52_12 : DAt B52 12 (.ireturn) 1 13 := by decide +kernel
theorem d52_13 : DAt B52 13 (.aload_n 0) 1 14 := by decide +kernel
theorem d52_14 : DAt B52 14 (.getfield 105) 3 17 := by decide +kernel
theorem d52_17 : DAt B52 17 (.iload_n 1) 1 18 := by decide +kernel
theorem d52_18 : DAt B52 18 (.iaload) 1 19 := by decide +kernel
theorem d52_19 : DAt B52 19 (.ireturn) 1 20 := by decide +kernel
def B53 : Bdy := ((⟨"QueryRewriter", "compare", "(III)Z"⟩ : MethodName), prog_1_method_32_code, 4, (some .boolean), ({ frames := 0, cells := 0, slots := 0, locals := 0 } : Room))
theorem d53_0 : DAt B53 0 (.iload_n 1) 1 1 := by decide +kernel
theorem d53_1 : DAt B53 1 (.ifCond .ne 14) 3 4 := by decide +kernel
theorem d53_4 : DAt B53 4 (.iload_n 2) 1 5 := by decide +kernel
theorem d53_5 : DAt B53 5 (.iload_n 3) 1 6 := by decide +kernel
theorem d53_6 : DAt B53 6 (.if_icmp .ne 7) 3 9 := by decide +kernel
theorem d53_9 : DAt B53 9 (.iconst 1) 1 10 := by decide +kernel
theorem d53_10 : DAt B53 10 (.goto 4) 3 13 := by decide +kernel
theorem d53_13 : DAt B53 13 (.iconst 0) 1 14 := by decide +kernel
theorem d53_14 : DAt B53 14 (.ireturn) 1 15 := by decide +kernel
theorem d53_15 : DAt B53 15 (.iload_n 1) 1 16 := by decide +kernel
theorem d53_16 : DAt B53 16 (.iconst 1) 1 17 := by decide +kernel
theorem d53_17 : DAt B53 17 (.if_icmp .ne 14) 3 20 := by decide +kernel
theorem d53_20 : DAt B53 20 (.iload_n 2) 1 21 := by decide +kernel
theorem d53_21 : DAt B53 21 (.iload_n 3) 1 22 := by decide +kernel
theorem d53_22 : DAt B53 22 (.if_icmp .eq 7) 3 25 := by decide +kernel
theorem d53_25 : DAt B53 25 (.iconst 1) 1 26 := by decide +kernel
theorem d53_26 : DAt B53 26 (.goto 4) 3 29 := by decide +kernel
theorem d53_29 : DAt B53 29 (.iconst 0) 1 30 := by decide +kernel
theorem d53_30 : DAt B53 30 (.ireturn) 1 31 := by decide +kernel
theorem d53_31 : DAt B53 31 (.iload_n 1) 1 32 := by decide +kernel
theorem d53_32 : DAt B53 32 (.iconst 2) 1 33 := by decide +kernel
theorem d53_33 : DAt B53 33 (.if_icmp .ne 14) 3 36 := by decide +kernel
theorem d53_36 : DAt B53 36 (.iload_n 2) 1 37 := by decide +kernel
theorem d53_37 : DAt B53 37 (.iload_n 3) 1 38 := by decide +kernel
theorem d53_38 : DAt B53 38 (.if_icmp .ge 7) 3 41 := by decide +kernel
theorem d53_41 : DAt B53 41 (.iconst 1) 1 42 := by decide +kernel
theorem d53_42 : DAt B53 42 (.goto 4) 3 45 := by decide +kernel
theorem d53_45 : DAt B53 45 (.iconst 0) 1 46 := by decide +kernel
theorem d53_46 : DAt B53 46 (.ireturn) 1 47 := by decide +kernel
theorem d53_47 : DAt B53 47 (.iload_n 1) 1 48 := by decide +kernel
theorem d53_48 : DAt B53 48 (.iconst 3) 1 49 := by decide +kernel
theorem d53_49 : DAt B53 49 (.if_icmp .ne 14) 3 52 := by decide +kernel
theorem d53_52 : DAt B53 52 (.iload_n 2) 1 53 := by decide +kernel
theorem d53_53 : DAt B53 53 (.iload_n 3) 1 54 := by decide +kernel
theorem d53_54 : DAt B53 54 (.if_icmp .gt 7) 3 57 := by decide +kernel
theorem d53_57 : DAt B53 57 (.iconst 1) 1 58 := by decide +kernel
theorem d53_58 : DAt B53 58 (.goto 4) 3 61 := by decide +kernel
theorem d53_61 : DAt B53 61 (.iconst 0) 1 62 := by decide +kernel
theorem d53_62 : DAt B53 62 (.ireturn) 1 63 := by decide +kernel
theorem d53_63 : DAt B53 63 (.iload_n 1) 1 64 := by decide +kernel
theorem d53_64 : DAt B53 64 (.iconst 4) 1 65 := by decide +kernel
theorem d53_65 : DAt B53 65 (.if_icmp .ne 14) 3 68 := by decide +kernel
theorem d53_68 : DAt B53 68 (.iload_n 2) 1 69 := by decide +kernel
theorem d53_69 : DAt B53 69 (.iload_n 3) 1 70 := by decide +kernel
theorem d53_70 : DAt B53 70 (.if_icmp .le 7) 3 73 := by decide +kernel
theorem d53_73 : DAt B53 73 (.iconst 1) 1 74 := by decide +kernel
theorem d53_74 : DAt B53 74 (.goto 4) 3 77 := by decide +kernel
theorem d53_77 : DAt B53 77 (.iconst 0) 1 78 := by decide +kernel
theorem d53_78 : DAt B53 78 (.ireturn) 1 79 := by decide +kernel
theorem d53_79 : DAt B53 79 (.iload_n 2) 1 80 := by decide +kernel
theorem d53_80 : DAt B53 80 (.iload_n 3) 1 81 := by decide +kernel
theorem d53_81 : DAt B53 81 (.if_icmp .lt 7) 3 84 := by decide +kernel
theorem d53_84 : DAt B53 84 (.iconst 1) 1 85 := by decide +kernel
theorem d53_85 : DAt B53 85 (.goto 4) 3 88 := by decide +kernel
theorem d53_88 : DAt B53 88 (.iconst 0) 1 89 := by decide +kernel
theorem d53_89 : DAt B53 89 (.ireturn) 1 90 := by decide +kernel
def B51 : Bdy := ((⟨"QueryRewriter", "evalAtom", "(IIII)Z"⟩ : MethodName), prog_1_method_31_code, 7, (some .boolean), ({ frames := 1, cells := 0, slots := 0, locals := 15 } : Room))
theorem d51_0 : DAt B51 0 (.iload_n 2) 1 1 := by decide +kernel
theorem d51_1 : DAt B51 1 (.istore 5) 2 3 := by decide +kernel
theorem d51_3 : DAt B51 3 (.iload 4) 2 5 := by decide +kernel
theorem d51_5 : DAt B51 5 (.iconst 1) 1 6 := by decide +kernel
theorem d51_6 : DAt B51 6 (.iand) 1 7 := by decide +kernel
theorem d51_7 : DAt B51 7 (.ifCond .eq 10) 3 10 := by decide +kernel
theorem d51_10 : DAt B51 10 (.aload_n 0) 1 11 := by decide +kernel
theorem d51_11 : DAt B51 11 (.iload_n 2) 1 12 := by decide +kernel
theorem d51_12 : DAt B51 12 (.invokevirtual 240) 3 15 := by decide +kernel
theorem d51_15 : DAt B51 15 (.istore 5) 2 17 := by decide +kernel
theorem d51_17 : DAt B51 17 (.iload_n 1) 1 18 := by decide +kernel
theorem d51_18 : DAt B51 18 (.bipush 6) 2 20 := by decide +kernel
theorem d51_20 : DAt B51 20 (.if_icmp .ne 16) 3 23 := by decide +kernel
theorem d51_23 : DAt B51 23 (.iload 5) 2 25 := by decide +kernel
theorem d51_25 : DAt B51 25 (.ldc 239) 2 27 := by decide +kernel
theorem d51_27 : DAt B51 27 (.if_icmp .ne 7) 3 30 := by decide +kernel
theorem d51_30 : DAt B51 30 (.iconst 1) 1 31 := by decide +kernel
theorem d51_31 : DAt B51 31 (.goto 4) 3 34 := by decide +kernel
theorem d51_34 : DAt B51 34 (.iconst 0) 1 35 := by decide +kernel
theorem d51_35 : DAt B51 35 (.ireturn) 1 36 := by decide +kernel
theorem d51_36 : DAt B51 36 (.iload_n 1) 1 37 := by decide +kernel
theorem d51_37 : DAt B51 37 (.bipush 7) 2 39 := by decide +kernel
theorem d51_39 : DAt B51 39 (.if_icmp .ne 16) 3 42 := by decide +kernel
theorem d51_42 : DAt B51 42 (.iload 5) 2 44 := by decide +kernel
theorem d51_44 : DAt B51 44 (.ldc 239) 2 46 := by decide +kernel
theorem d51_46 : DAt B51 46 (.if_icmp .eq 7) 3 49 := by decide +kernel
theorem d51_49 : DAt B51 49 (.iconst 1) 1 50 := by decide +kernel
theorem d51_50 : DAt B51 50 (.goto 4) 3 53 := by decide +kernel
theorem d51_53 : DAt B51 53 (.iconst 0) 1 54 := by decide +kernel
theorem d51_54 : DAt B51 54 (.ireturn) 1 55 := by decide +kernel
theorem d51_55 : DAt B51 55 (.iload_n 3) 1 56 := by decide +kernel
theorem d51_56 : DAt B51 56 (.istore 6) 2 58 := by decide +kernel
theorem d51_58 : DAt B51 58 (.iload 4) 2 60 := by decide +kernel
theorem d51_60 : DAt B51 60 (.iconst 2) 1 61 := by decide +kernel
theorem d51_61 : DAt B51 61 (.iand) 1 62 := by decide +kernel
theorem d51_62 : DAt B51 62 (.ifCond .eq 10) 3 65 := by decide +kernel
theorem d51_65 : DAt B51 65 (.aload_n 0) 1 66 := by decide +kernel
theorem d51_66 : DAt B51 66 (.iload_n 3) 1 67 := by decide +kernel
theorem d51_67 : DAt B51 67 (.invokevirtual 240) 3 70 := by decide +kernel
theorem d51_70 : DAt B51 70 (.istore 6) 2 72 := by decide +kernel
theorem d51_72 : DAt B51 72 (.iload 5) 2 74 := by decide +kernel
theorem d51_74 : DAt B51 74 (.ldc 239) 2 76 := by decide +kernel
theorem d51_76 : DAt B51 76 (.if_icmp .eq 10) 3 79 := by decide +kernel
theorem d51_79 : DAt B51 79 (.iload 6) 2 81 := by decide +kernel
theorem d51_81 : DAt B51 81 (.ldc 239) 2 83 := by decide +kernel
theorem d51_83 : DAt B51 83 (.if_icmp .ne 5) 3 86 := by decide +kernel
theorem d51_86 : DAt B51 86 (.iconst 0) 1 87 := by decide +kernel
theorem d51_87 : DAt B51 87 (.ireturn) 1 88 := by decide +kernel
theorem d51_88 : DAt B51 88 (.aload_n 0) 1 89 := by decide +kernel
theorem d51_89 : DAt B51 89 (.iload_n 1) 1 90 := by decide +kernel
theorem d51_90 : DAt B51 90 (.iload 5) 2 92 := by decide +kernel
theorem d51_92 : DAt B51 92 (.iload 6) 2 94 := by decide +kernel
theorem d51_94 : DAt B51 94 (.invokevirtual 243) 3 97 := by decide +kernel
theorem d51_97 : DAt B51 97 (.ireturn) 1 98 := by decide +kernel
def B34 : Bdy := ((⟨"QueryRewriter", "constTruth", "(I)I"⟩ : MethodName), prog_1_method_62_code, 2, (some .int), ({ frames := 2, cells := 0, slots := 0, locals := 33 } : Room))
theorem d34_0 : DAt B34 0 (.aload_n 0) 1 1 := by decide +kernel
theorem d34_1 : DAt B34 1 (.getfield 150) 3 4 := by decide +kernel
theorem d34_4 : DAt B34 4 (.iload_n 1) 1 5 := by decide +kernel
theorem d34_5 : DAt B34 5 (.iaload) 1 6 := by decide +kernel
theorem d34_6 : DAt B34 6 (.iconst 1) 1 7 := by decide +kernel
theorem d34_7 : DAt B34 7 (.iand) 1 8 := by decide +kernel
theorem d34_8 : DAt B34 8 (.ifCond .ne 14) 3 11 := by decide +kernel
theorem d34_11 : DAt B34 11 (.aload_n 0) 1 12 := by decide +kernel
theorem d34_12 : DAt B34 12 (.getfield 150) 3 15 := by decide +kernel
theorem d34_15 : DAt B34 15 (.iload_n 1) 1 16 := by decide +kernel
theorem d34_16 : DAt B34 16 (.iaload) 1 17 := by decide +kernel
theorem d34_17 : DAt B34 17 (.iconst 2) 1 18 := by decide +kernel
theorem d34_18 : DAt B34 18 (.iand) 1 19 := by decide +kernel
theorem d34_19 : DAt B34 19 (.ifCond .eq 5) 3 22 := by decide +kernel
theorem d34_22 : DAt B34 22 (.iconst (-1)) 1 23 := by decide +kernel
theorem d34_23 : DAt B34 23 (.ireturn) 1 24 := by decide +kernel
theorem d34_24 : DAt B34 24 (.aload_n 0) 1 25 := by decide +kernel
theorem d34_25 : DAt B34 25 (.aload_n 0) 1 26 := by decide +kernel
theorem d34_26 : DAt B34 26 (.getfield 141) 3 29 := by decide +kernel
theorem d34_29 : DAt B34 29 (.iload_n 1) 1 30 := by decide +kernel
theorem d34_30 : DAt B34 30 (.iaload) 1 31 := by decide +kernel
theorem d34_31 : DAt B34 31 (.aload_n 0) 1 32 := by decide +kernel
theorem d34_32 : DAt B34 32 (.getfield 144) 3 35 := by decide +kernel
theorem d34_35 : DAt B34 35 (.iload_n 1) 1 36 := by decide +kernel
theorem d34_36 : DAt B34 36 (.iaload) 1 37 := by decide +kernel
theorem d34_37 : DAt B34 37 (.aload_n 0) 1 38 := by decide +kernel
theorem d34_38 : DAt B34 38 (.getfield 147) 3 41 := by decide +kernel
theorem d34_41 : DAt B34 41 (.iload_n 1) 1 42 := by decide +kernel
theorem d34_42 : DAt B34 42 (.iaload) 1 43 := by decide +kernel
theorem d34_43 : DAt B34 43 (.aload_n 0) 1 44 := by decide +kernel
theorem d34_44 : DAt B34 44 (.getfield 150) 3 47 := by decide +kernel
theorem d34_47 : DAt B34 47 (.iload_n 1) 1 48 := by decide +kernel
theorem d34_48 : DAt B34 48 (.iaload) 1 49 := by decide +kernel
theorem d34_49 : DAt B34 49 (.invokevirtual 247) 3 52 := by decide +kernel
theorem d34_52 : DAt B34 52 (.ifCond .eq 5) 3 55 := by decide +kernel
theorem d34_55 : DAt B34 55 (.iconst 1) 1 56 := by decide +kernel
theorem d34_56 : DAt B34 56 (.ireturn) 1 57 := by decide +kernel
theorem d34_57 : DAt B34 57 (.iconst 0) 1 58 := by decide +kernel
theorem d34_58 : DAt B34 58 (.ireturn) 1 59 := by decide +kernel
def B33 : Bdy := ((⟨"QueryRewriter", "foldList", "(IZ)V"⟩ : MethodName), prog_1_method_63_code, 7, none, ({ frames := 3, cells := 0, slots := 0, locals := 46 } : Room))
theorem d33_0 : DAt B33 0 (.aload_n 0) 1 1 := by decide +kernel
theorem d33_1 : DAt B33 1 (.getfield 138) 3 4 := by decide +kernel
theorem d33_4 : DAt B33 4 (.iload_n 1) 1 5 := by decide +kernel
theorem d33_5 : DAt B33 5 (.iaload) 1 6 := by decide +kernel
theorem d33_6 : DAt B33 6 (.istore_n 3) 1 7 := by decide +kernel
theorem d33_7 : DAt B33 7 (.aload_n 0) 1 8 := by decide +kernel
theorem d33_8 : DAt B33 8 (.getfield 138) 3 11 := by decide +kernel
theorem d33_11 : DAt B33 11 (.iload_n 1) 1 12 := by decide +kernel
theorem d33_12 : DAt B33 12 (.iconst (-1)) 1 13 := by decide +kernel
theorem d33_13 : DAt B33 13 (.iastore) 1 14 := by decide +kernel
theorem d33_14 : DAt B33 14 (.iconst 0) 1 15 := by decide +kernel
theorem d33_15 : DAt B33 15 (.istore 4) 2 17 := by decide +kernel
theorem d33_17 : DAt B33 17 (.iload 4) 2 19 := by decide +kernel
theorem d33_19 : DAt B33 19 (.sipush 512) 3 22 := by decide +kernel
theorem d33_22 : DAt B33 22 (.if_icmp .ge 75) 3 25 := by decide +kernel
theorem d33_25 : DAt B33 25 (.iload_n 3) 1 26 := by decide +kernel
theorem d33_26 : DAt B33 26 (.ifCond .lt 71) 3 29 := by decide +kernel
theorem d33_29 : DAt B33 29 (.iload_n 3) 1 30 := by decide +kernel
theorem d33_30 : DAt B33 30 (.sipush 512) 3 33 := by decide +kernel
theorem d33_33 : DAt B33 33 (.if_icmp .ge 64) 3 36 := by decide +kernel
theorem d33_36 : DAt B33 36 (.aload_n 0) 1 37 := by decide +kernel
theorem d33_37 : DAt B33 37 (.getfield 153) 3 40 := by decide +kernel
theorem d33_40 : DAt B33 40 (.iload_n 3) 1 41 := by decide +kernel
theorem d33_41 : DAt B33 41 (.iaload) 1 42 := by decide +kernel
theorem d33_42 : DAt B33 42 (.istore 5) 2 44 := by decide +kernel
theorem d33_44 : DAt B33 44 (.aload_n 0) 1 45 := by decide +kernel
theorem d33_45 : DAt B33 45 (.iload_n 3) 1 46 := by decide +kernel
theorem d33_46 : DAt B33 46 (.invokevirtual 360) 3 49 := by decide +kernel
theorem d33_49 : DAt B33 49 (.istore 6) 2 51 := by decide +kernel
theorem d33_51 : DAt B33 51 (.iload 6) 2 53 := by decide +kernel
theorem d33_53 : DAt B33 53 (.ifCond .lt 12) 3 56 := by decide +kernel
theorem d33_56 : DAt B33 56 (.iload 6) 2 58 := by decide +kernel
theorem d33_58 : DAt B33 58 (.ifCond .ne 16) 3 61 := by decide +kernel
theorem d33_61 : DAt B33 61 (.iload_n 2) 1 62 := by decide +kernel
theorem d33_62 : DAt B33 62 (.ifCond .eq 12) 3 65 := by decide +kernel
theorem d33_65 : DAt B33 65 (.aload_n 0) 1 66 := by decide +kernel
theorem d33_66 : DAt B33 66 (.iload_n 1) 1 67 := by decide +kernel
theorem d33_67 : DAt B33 67 (.iload_n 3) 1 68 := by decide +kernel
theorem d33_68 : DAt B33 68 (.invokevirtual 344) 3 71 := by decide +kernel
theorem d33_71 : DAt B33 71 (.goto 17) 3 74 := by decide +kernel
theorem d33_74 : DAt B33 74 (.iload 6) 2 76 := by decide +kernel
theorem d33_76 : DAt B33 76 (.ifCond .ne 12) 3 79 := by decide +kernel
theorem d33_79 : DAt B33 79 (.aload_n 0) 1 80 := by decide +kernel
theorem d33_80 : DAt B33 80 (.getfield 135) 3 83 := by decide +kernel
theorem d33_83 : DAt B33 83 (.iload_n 1) 1 84 := by decide +kernel
theorem d33_84 : DAt B33 84 (.iconst 1) 1 85 := by decide +kernel
theorem d33_85 : DAt B33 85 (.ishr) 1 86 := by decide +kernel
theorem d33_86 : DAt B33 86 (.iconst 1) 1 87 := by decide +kernel
theorem d33_87 : DAt B33 87 (.bastore) 1 88 := by decide +kernel
theorem d33_88 : DAt B33 88 (.iload 5) 2 90 := by decide +kernel
theorem d33_90 : DAt B33 90 (.istore_n 3) 1 91 := by decide +kernel
theorem d33_91 : DAt B33 91 (.iinc 4 1) 3 94 := by decide +kernel
theorem d33_94 : DAt B33 94 (.goto (-77)) 3 97 := by decide +kernel
theorem d33_97 : DAt B33 97 (.return_) 1 98 := by decide +kernel
def B36 : Bdy := ((⟨"QueryRewriter", "sideOf", "(II)I"⟩ : MethodName), prog_1_method_65_code, 4, (some .int), ({ frames := 0, cells := 0, slots := 0, locals := 0 } : Room))
theorem d36_0 : DAt B36 0 (.iconst 0) 1 1 := by decide +kernel
theorem d36_1 : DAt B36 1 (.istore_n 3) 1 2 := by decide +kernel
theorem d36_2 : DAt B36 2 (.aload_n 0) 1 3 := by decide +kernel
theorem d36_3 : DAt B36 3 (.getfield 150) 3 6 := by decide +kernel
theorem d36_6 : DAt B36 6 (.iload_n 1) 1 7 := by decide +kernel
theorem d36_7 : DAt B36 7 (.iaload) 1 8 := by decide +kernel
theorem d36_8 : DAt B36 8 (.iconst 1) 1 9 := by decide +kernel
theorem d36_9 : DAt B36 9 (.iand) 1 10 := by decide +kernel
theorem d36_10 : DAt B36 10 (.ifCond .eq 21) 3 13 := by decide +kernel
theorem d36_13 : DAt B36 13 (.iload_n 3) 1 14 := by decide +kernel
theorem d36_14 : DAt B36 14 (.aload_n 0) 1 15 := by decide +kernel
theorem d36_15 : DAt B36 15 (.getfield 144) 3 18 := by decide +kernel
theorem d36_18 : DAt B36 18 (.iload_n 1) 1 19 := by decide +kernel
theorem d36_19 : DAt B36 19 (.iaload) 1 20 := by decide +kernel
theorem d36_20 : DAt B36 20 (.iload_n 2) 1 21 := by decide +kernel
theorem d36_21 : DAt B36 21 (.if_icmp .ge 7) 3 24 := by decide +kernel
theorem d36_24 : DAt B36 24 (.iconst 1) 1 25 := by decide +kernel
theorem d36_25 : DAt B36 25 (.goto 4) 3 28 := by decide +kernel
theorem d36_28 : DAt B36 28 (.iconst 2) 1 29 := by decide +kernel
theorem d36_29 : DAt B36 29 (.ior) 1 30 := by decide +kernel
theorem d36_30 : DAt B36 30 (.istore_n 3) 1 31 := by decide +kernel
theorem d36_31 : DAt B36 31 (.aload_n 0) 1 32 := by decide +kernel
theorem d36_32 : DAt B36 32 (.getfield 150) 3 35 := by decide +kernel
theorem d36_35 : DAt B36 35 (.iload_n 1) 1 36 := by decide +kernel
theorem d36_36 : DAt B36 36 (.iaload) 1 37 := by decide +kernel
theorem d36_37 : DAt B36 37 (.iconst 2) 1 38 := by decide +kernel
theorem d36_38 : DAt B36 38 (.iand) 1 39 := by decide +kernel
theorem d36_39 : DAt B36 39 (.ifCond .eq 21) 3 42 := by decide +kernel
theorem d36_42 : DAt B36 42 (.iload_n 3) 1 43 := by decide +kernel
theorem d36_43 : DAt B36 43 (.aload_n 0) 1 44 := by decide +kernel
theorem d36_44 : DAt B36 44 (.getfield 147) 3 47 := by decide +kernel
theorem d36_47 : DAt B36 47 (.iload_n 1) 1 48 := by decide +kernel
theorem d36_48 : DAt B36 48 (.iaload) 1 49 := by decide +kernel
theorem d36_49 : DAt B36 49 (.iload_n 2) 1 50 := by decide +kernel
theorem d36_50 : DAt B36 50 (.if_icmp .ge 7) 3 53 := by decide +kernel
theorem d36_53 : DAt B36 53 (.iconst 1) 1 54 := by decide +kernel
theorem d36_54 : DAt B36 54 (.goto 4) 3 57 := by decide +kernel
theorem d36_57 : DAt B36 57 (.iconst 2) 1 58 := by decide +kernel
theorem d36_58 : DAt B36 58 (.ior) 1 59 := by decide +kernel
theorem d36_59 : DAt B36 59 (.istore_n 3) 1 60 := by decide +kernel
theorem d36_60 : DAt B36 60 (.iload_n 3) 1 61 := by decide +kernel
theorem d36_61 : DAt B36 61 (.ireturn) 1 62 := by decide +kernel
def B35 : Bdy := ((⟨"QueryRewriter", "listRejectsRight", "(II)Z"⟩ : MethodName), prog_1_method_66_code, 6, (some .boolean), ({ frames := 1, cells := 0, slots := 0, locals := 15 } : Room))
theorem d35_0 : DAt B35 0 (.aload_n 0) 1 1 := by decide +kernel
theorem d35_1 : DAt B35 1 (.getfield 138) 3 4 := by decide +kernel
theorem d35_4 : DAt B35 4 (.iload_n 1) 1 5 := by decide +kernel
theorem d35_5 : DAt B35 5 (.iaload) 1 6 := by decide +kernel
theorem d35_6 : DAt B35 6 (.istore_n 3) 1 7 := by decide +kernel
theorem d35_7 : DAt B35 7 (.iconst 0) 1 8 := by decide +kernel
theorem d35_8 : DAt B35 8 (.istore 4) 2 10 := by decide +kernel
theorem d35_10 : DAt B35 10 (.iload 4) 2 12 := by decide +kernel
theorem d35_12 : DAt B35 12 (.sipush 512) 3 15 := by decide +kernel
theorem d35_15 : DAt B35 15 (.if_icmp .ge 55) 3 18 := by decide +kernel
theorem d35_18 : DAt B35 18 (.iload_n 3) 1 19 := by decide +kernel
theorem d35_19 : DAt B35 19 (.ifCond .lt 51) 3 22 := by decide +kernel
theorem d35_22 : DAt B35 22 (.iload_n 3) 1 23 := by decide +kernel
theorem d35_23 : DAt B35 23 (.sipush 512) 3 26 := by decide +kernel
theorem d35_26 : DAt B35 26 (.if_icmp .ge 44) 3 29 := by decide +kernel
theorem d35_29 : DAt B35 29 (.aload_n 0) 1 30 := by decide +kernel
theorem d35_30 : DAt B35 30 (.iload_n 3) 1 31 := by decide +kernel
theorem d35_31 : DAt B35 31 (.iload_n 2) 1 32 := by decide +kernel
theorem d35_32 : DAt B35 32 (.invokevirtual 373) 3 35 := by decide +kernel
theorem d35_35 : DAt B35 35 (.istore 5) 2 37 := by decide +kernel
theorem d35_37 : DAt B35 37 (.iload 5) 2 39 := by decide +kernel
theorem d35_39 : DAt B35 39 (.iconst 2) 1 40 := by decide +kernel
theorem d35_40 : DAt B35 40 (.iand) 1 41 := by decide +kernel
theorem d35_41 : DAt B35 41 (.ifCond .eq 16) 3 44 := by decide +kernel
theorem d35_44 : DAt B35 44 (.aload_n 0) 1 45 := by decide +kernel
theorem d35_45 : DAt B35 45 (.getfield 141) 3 48 := by decide +kernel
theorem d35_48 : DAt B35 48 (.iload_n 3) 1 49 := by decide +kernel
theorem d35_49 : DAt B35 49 (.iaload) 1 50 := by decide +kernel
theorem d35_50 : DAt B35 50 (.bipush 6) 2 52 := by decide +kernel
theorem d35_52 : DAt B35 52 (.if_icmp .eq 5) 3 55 := by decide +kernel
theorem d35_55 : DAt B35 55 (.iconst 1) 1 56 := by decide +kernel
theorem d35_56 : DAt B35 56 (.ireturn) 1 57 := by decide +kernel
theorem d35_57 : DAt B35 57 (.aload_n 0) 1 58 := by decide +kernel
theorem d35_58 : DAt B35 58 (.getfield 153) 3 61 := by decide +kernel
theorem d35_61 : DAt B35 61 (.iload_n 3) 1 62 := by decide +kernel
theorem d35_62 : DAt B35 62 (.iaload) 1 63 := by decide +kernel
theorem d35_63 : DAt B35 63 (.istore_n 3) 1 64 := by decide +kernel
theorem d35_64 : DAt B35 64 (.iinc 4 1) 3 67 := by decide +kernel
theorem d35_67 : DAt B35 67 (.goto (-57)) 3 70 := by decide +kernel
theorem d35_70 : DAt B35 70 (.iconst 0) 1 71 := by decide +kernel
theorem d35_71 : DAt B35 71 (.ireturn) 1 72 := by decide +kernel
def B37 : Bdy := ((⟨"QueryRewriter", "distribute", "(IIIZ)V"⟩ : MethodName), prog_1_method_68_code, 12, none, ({ frames := 2, cells := 0, slots := 0, locals := 31 } : Room))
theorem d37_0 : DAt B37 0 (.iload_n 2) 1 1 := by decide +kernel
theorem d37_1 : DAt B37 1 (.iconst 1) 1 2 := by decide +kernel
theorem d37_2 : DAt B37 2 (.iand) 1 3 := by decide +kernel
theorem d37_3 : DAt B37 3 (.ifCond .ne 7) 3 6 := by decide +kernel
theorem d37_6 : DAt B37 6 (.iconst 1) 1 7 := by decide +kernel
theorem d37_7 : DAt B37 7 (.goto 4) 3 10 := by decide +kernel
theorem d37_10 : DAt B37 10 (.iconst 0) 1 11 := by decide +kernel
theorem d37_11 : DAt B37 11 (.istore 5) 2 13 := by decide +kernel
theorem d37_13 : DAt B37 13 (.aload_n 0) 1 14 := by decide +kernel
theorem d37_14 : DAt B37 14 (.getfield 117) 3 17 := by decide +kernel
theorem d37_17 : DAt B37 17 (.iload_n 1) 1 18 := by decide +kernel
theorem d37_18 : DAt B37 18 (.iaload) 1 19 := by decide +kernel
theorem d37_19 : DAt B37 19 (.istore 6) 2 21 := by decide +kernel
theorem d37_21 : DAt B37 21 (.aload_n 0) 1 22 := by decide +kernel
theorem d37_22 : DAt B37 22 (.getfield 120) 3 25 := by decide +kernel
theorem d37_25 : DAt B37 25 (.iload_n 1) 1 26 := by decide +kernel
theorem d37_26 : DAt B37 26 (.iaload) 1 27 := by decide +kernel
theorem d37_27 : DAt B37 27 (.istore 7) 2 29 := by decide +kernel
theorem d37_29 : DAt B37 29 (.aload_n 0) 1 30 := by decide +kernel
theorem d37_30 : DAt B37 30 (.getfield 138) 3 33 := by decide +kernel
theorem d37_33 : DAt B37 33 (.iload_n 2) 1 34 := by decide +kernel
theorem d37_34 : DAt B37 34 (.iaload) 1 35 := by decide +kernel
theorem d37_35 : DAt B37 35 (.istore 8) 2 37 := by decide +kernel
theorem d37_37 : DAt B37 37 (.aload_n 0) 1 38 := by decide +kernel
theorem d37_38 : DAt B37 38 (.getfield 138) 3 41 := by decide +kernel
theorem d37_41 : DAt B37 41 (.iload_n 2) 1 42 := by decide +kernel
theorem d37_42 : DAt B37 42 (.iconst (-1)) 1 43 := by decide +kernel
theorem d37_43 : DAt B37 43 (.iastore) 1 44 := by decide +kernel
theorem d37_44 : DAt B37 44 (.iconst 0) 1 45 := by decide +kernel
theorem d37_45 : DAt B37 45 (.istore 9) 2 47 := by decide +kernel
theorem d37_47 : DAt B37 47 (.iload 9) 2 49 := by decide +kernel
theorem d37_49 : DAt B37 49 (.sipush 512) 3 52 := by decide +kernel
theorem d37_52 : DAt B37 52 (.if_icmp .ge 127) 3 55 := by decide +kernel
theorem d37_55 : DAt B37 55 (.iload 8) 2 57 := by decide +kernel
theorem d37_57 : DAt B37 57 (.ifCond .lt 122) 3 60 := by decide +kernel
theorem d37_60 : DAt B37 60 (.iload 8) 2 62 := by decide +kernel
theorem d37_62 : DAt B37 62 (.sipush 512) 3 65 := by decide +kernel
theorem d37_65 : DAt B37 65 (.if_icmp .ge 114) 3 68 := by decide +kernel
theorem d37_68 : DAt B37 68 (.aload_n 0) 1 69 := by decide +kernel
theorem d37_69 : DAt B37 69 (.getfield 153) 3 72 := by decide +kernel
theorem d37_72 : DAt B37 72 (.iload 8) 2 74 := by decide +kernel
theorem d37_74 : DAt B37 74 (.iaload) 1 75 := by decide +kernel
theorem d37_75 : DAt B37 75 (.istore 10) 2 77 := by decide +kernel
theorem d37_77 : DAt B37 77 (.aload_n 0) 1 78 := by decide +kernel
theorem d37_78 : DAt B37 78 (.iload 8) 2 80 := by decide +kernel
theorem d37_80 : DAt B37 80 (.iload_n 3) 1 81 := by decide +kernel
theorem d37_81 : DAt B37 81 (.invokevirtual 373) 3 84 := by decide +kernel
theorem d37_84 : DAt B37 84 (.istore 11) 2 86 := by decide +kernel
theorem d37_86 : DAt B37 86 (.iload 11) 2 88 := by decide +kernel
theorem d37_88 : DAt B37 88 (.iconst 1) 1 89 := by decide +kernel
theorem d37_89 : DAt B37 89 (.if_icmp .ne 35) 3 92 := by decide +kernel
theorem d37_92 : DAt B37 92 (.iload 4) 2 94 := by decide +kernel
theorem d37_94 : DAt B37 94 (.ifCond .ne 8) 3 97 := by decide +kernel
theorem d37_97 : DAt B37 97 (.iload 5) 2 99 := by decide +kernel
theorem d37_99 : DAt B37 99 (.ifCond .eq 25) 3 102 := by decide +kernel
theorem d37_102 : DAt B37 102 (.aload_n 0) 1 103 := by decide +kernel
theorem d37_103 : DAt B37 103 (.iload 8) 2 105 := by decide +kernel
theorem d37_105 : DAt B37 105 (.iload 6) 2 107 := by decide +kernel
theorem d37_107 : DAt B37 107 (.iconst 0) 1 108 := by decide +kernel
theorem d37_108 : DAt B37 108 (.invokevirtual 347) 3 111 := by decide +kernel
theorem d37_111 : DAt B37 111 (.aload_n 0) 1 112 := by decide +kernel
theorem d37_112 : DAt B37 112 (.iconst 2) 1 113 := by decide +kernel
theorem d37_113 : DAt B37 113 (.iload 6) 2 115 := by decide +kernel
theorem d37_115 : DAt B37 115 (.imul) 1 116 := by decide +kernel
theorem d37_116 : DAt B37 116 (.iload 8) 2 118 := by decide +kernel
theorem d37_118 : DAt B37 118 (.invokevirtual 344) 3 121 := by decide +kernel
theorem d37_121 : DAt B37 121 (.goto 48) 3 124 := by decide +kernel
theorem d37_124 : DAt B37 124 (.iload 11) 2 126 := by decide +kernel
theorem d37_126 : DAt B37 126 (.iconst 2) 1 127 := by decide +kernel
theorem d37_127 : DAt B37 127 (.if_icmp .ne 35) 3 130 := by decide +kernel
theorem d37_130 : DAt B37 130 (.iload 4) 2 132 := by decide +kernel
theorem d37_132 : DAt B37 132 (.ifCond .ne 8) 3 135 := by decide +kernel
theorem d37_135 : DAt B37 135 (.iload 5) 2 137 := by decide +kernel
theorem d37_137 : DAt B37 137 (.ifCond .ne 25) 3 140 := by decide +kernel
theorem d37_140 : DAt B37 140 (.aload_n 0) 1 141 := by decide +kernel
theorem d37_141 : DAt B37 141 (.iload 8) 2 143 := by decide +kernel
theorem d37_143 : DAt B37 143 (.iload 7) 2 145 := by decide +kernel
theorem d37_145 : DAt B37 145 (.iload_n 3) 1 146 := by decide +kernel
theorem d37_146 : DAt B37 146 (.invokevirtual 347) 3 149 := by decide +kernel
theorem d37_149 : DAt B37 149 (.aload_n 0) 1 150 := by decide +kernel
theorem d37_150 : DAt B37 150 (.iconst 2) 1 151 := by decide +kernel
theorem d37_151 : DAt B37 151 (.iload 7) 2 153 := by decide +kernel
theorem d37_153 : DAt B37 153 (.imul) 1 154 := by decide +kernel
theorem d37_154 : DAt B37 154 (.iload 8) 2 156 := by decide +kernel
theorem d37_156 : DAt B37 156 (.invokevirtual 344) 3 159 := by decide +kernel
theorem d37_159 : DAt B37 159 (.goto 10) 3 162 := by decide +kernel
theorem d37_162 : DAt B37 162 (.aload_n 0) 1 163 := by decide +kernel
theorem d37_163 : DAt B37 163 (.iload_n 2) 1 164 := by decide +kernel
theorem d37_164 : DAt B37 164 (.iload 8) 2 166 := by decide +kernel
theorem d37_166 : DAt B37 166 (.invokevirtual 344) 3 169 := by decide +kernel
theorem d37_169 : DAt B37 169 (.iload 10) 2 171 := by decide +kernel
theorem d37_171 : DAt B37 171 (.istore 8) 2 173 := by decide +kernel
theorem d37_173 : DAt B37 173 (.iinc 9 1) 3 176 := by decide +kernel
theorem d37_176 : DAt B37 176 (.goto (-129)) 3 179 := by decide +kernel
theorem d37_179 : DAt B37 179 (.return_) 1 180 := by decide +kernel
def B32 : Bdy := ((⟨"QueryRewriter", "pushJoin", "(I)V"⟩ : MethodName), prog_1_method_64_code, 6, none, ({ frames := 4, cells := 0, slots := 0, locals := 64 } : Room))
theorem d32_0 : DAt B32 0 (.iconst 2) 1 1 := by decide +kernel
theorem d32_1 : DAt B32 1 (.iload_n 1) 1 2 := by decide +kernel
theorem d32_2 : DAt B32 2 (.imul) 1 3 := by decide +kernel
theorem d32_3 : DAt B32 3 (.istore_n 2) 1 4 := by decide +kernel
theorem d32_4 : DAt B32 4 (.iload_n 2) 1 5 := by decide +kernel
theorem d32_5 : DAt B32 5 (.iconst 1) 1 6 := by decide +kernel
theorem d32_6 : DAt B32 6 (.iadd) 1 7 := by decide +kernel
theorem d32_7 : DAt B32 7 (.istore_n 3) 1 8 := by decide +kernel
theorem d32_8 : DAt B32 8 (.aload_n 0) 1 9 := by decide +kernel
theorem d32_9 : DAt B32 9 (.iload_n 2) 1 10 := by decide +kernel
theorem d32_10 : DAt B32 10 (.iconst 0) 1 11 := by decide +kernel
theorem d32_11 : DAt B32 11 (.invokevirtual 353) 3 14 := by decide +kernel
theorem d32_14 : DAt B32 14 (.aload_n 0) 1 15 := by decide +kernel
theorem d32_15 : DAt B32 15 (.getfield 123) 3 18 := by decide +kernel
theorem d32_18 : DAt B32 18 (.iload_n 1) 1 19 := by decide +kernel
theorem d32_19 : DAt B32 19 (.iaload) 1 20 := by decide +kernel
theorem d32_20 : DAt B32 20 (.ifCond .ne 7) 3 23 := by decide +kernel
theorem d32_23 : DAt B32 23 (.iconst 1) 1 24 := by decide +kernel
theorem d32_24 : DAt B32 24 (.goto 4) 3 27 := by decide +kernel
theorem d32_27 : DAt B32 27 (.iconst 0) 1 28 := by decide +kernel
theorem d32_28 : DAt B32 28 (.istore 4) 2 30 := by decide +kernel
theorem d32_30 : DAt B32 30 (.aload_n 0) 1 31 := by decide +kernel
theorem d32_31 : DAt B32 31 (.iload_n 3) 1 32 := by decide +kernel
theorem d32_32 : DAt B32 32 (.iload 4) 2 34 := by decide +kernel
theorem d32_34 : DAt B32 34 (.ifCond .ne 7) 3 37 := by decide +kernel
theorem d32_37 : DAt B32 37 (.iconst 1) 1 38 := by decide +kernel
theorem d32_38 : DAt B32 38 (.goto 4) 3 41 := by decide +kernel
theorem d32_41 : DAt B32 41 (.iconst 0) 1 42 := by decide +kernel
theorem d32_42 : DAt B32 42 (.invokevirtual 353) 3 45 := by decide +kernel
theorem d32_45 : DAt B32 45 (.aload_n 0) 1 46 := by decide +kernel
theorem d32_46 : DAt B32 46 (.getfield 126) 3 49 := by decide +kernel
theorem d32_49 : DAt B32 49 (.aload_n 0) 1 50 := by decide +kernel
theorem d32_50 : DAt B32 50 (.getfield 117) 3 53 := by decide +kernel
theorem d32_53 : DAt B32 53 (.iload_n 1) 1 54 := by decide +kernel
theorem d32_54 : DAt B32 54 (.iaload) 1 55 := by decide +kernel
theorem d32_55 : DAt B32 55 (.iaload) 1 56 := by decide +kernel
theorem d32_56 : DAt B32 56 (.istore 5) 2 58 := by decide +kernel
theorem d32_58 : DAt B32 58 (.iload 4) 2 60 := by decide +kernel
theorem d32_60 : DAt B32 60 (.ifCond .ne 23) 3 63 := by decide +kernel
theorem d32_63 : DAt B32 63 (.aload_n 0) 1 64 := by decide +kernel
theorem d32_64 : DAt B32 64 (.iload_n 2) 1 65 := by decide +kernel
theorem d32_65 : DAt B32 65 (.iload 5) 2 67 := by decide +kernel
theorem d32_67 : DAt B32 67 (.invokevirtual 363) 3 70 := by decide +kernel
theorem d32_70 : DAt B32 70 (.ifCond .eq 13) 3 73 := by decide +kernel
theorem d32_73 : DAt B32 73 (.aload_n 0) 1 74 := by decide +kernel
theorem d32_74 : DAt B32 74 (.getfield 123) 3 77 := by decide +kernel
theorem d32_77 : DAt B32 77 (.iload_n 1) 1 78 := by decide +kernel
theorem d32_78 : DAt B32 78 (.iconst 0) 1 79 := by decide +kernel
theorem d32_79 : DAt B32 79 (.iastore) 1 80 := by decide +kernel
theorem d32_80 : DAt B32 80 (.iconst 1) 1 81 := by decide +kernel
theorem d32_81 : DAt B32 81 (.istore 4) 2 83 := by decide +kernel
theorem d32_83 : DAt B32 83 (.iload 4) 2 85 := by decide +kernel
theorem d32_85 : DAt B32 85 (.ifCond .eq 9) 3 88 := by decide +kernel
theorem d32_88 : DAt B32 88 (.aload_n 0) 1 89 := by decide +kernel
theorem d32_89 : DAt B32 89 (.iload_n 2) 1 90 := by decide +kernel
theorem d32_90 : DAt B32 90 (.iload_n 3) 1 91 := by decide +kernel
theorem d32_94 : DAt B32 94 (.aload_n 0) 1 95 := by decide +kernel
theorem d32_95 : DAt B32 95 (.iload_n 1) 1 96 := by decide +kernel
theorem d32_96 : DAt B32 96 (.iload_n 2) 1 97 := by decide +kernel
theorem d32_97 : DAt B32 97 (.iload 5) 2 99 := by decide +kernel
theorem d32_99 : DAt B32 99 (.iload 4) 2 101 := by decide +kernel
theorem d32_101 : DAt B32 101 (.invokevirtual 369) 3 104 := by decide +kernel
theorem d32_104 : DAt B32 104 (.aload_n 0) 1 105 := by decide +kernel
theorem d32_105 : DAt B32 105 (.iload_n 1) 1 106 := by decide +kernel
theorem d32_106 : DAt B32 106 (.iload_n 3) 1 107 := by decide +kernel
theorem d32_107 : DAt B32 107 (.iload 5) 2 109 := by decide +kernel
theorem d32_109 : DAt B32 109 (.iload 4) 2 111 := by decide +kernel
theorem d32_111 : DAt B32 111 (.invokevirtual 369) 3 114 := by decide +kernel
theorem d32_114 : DAt B32 114 (.return_) 1 115 := by decide +kernel
def B31 : Bdy := ((⟨"QueryRewriter", "pushdownAll", "()V"⟩ : MethodName), prog_1_method_61_code, 2, none, ({ frames := 5, cells := 0, slots := 0, locals := 81 } : Room))
theorem d31_0 : DAt B31 0 (.aload_n 0) 1 1 := by decide +kernel
theorem d31_1 : DAt B31 1 (.getfield 288) 3 4 := by decide +kernel
theorem d31_4 : DAt B31 4 (.iconst 1) 1 5 := by decide +kernel
theorem d31_5 : DAt B31 5 (.isub) 1 6 := by decide +kernel
theorem d31_6 : DAt B31 6 (.istore_n 1) 1 7 := by decide +kernel
theorem d31_7 : DAt B31 7 (.iload_n 1) 1 8 := by decide +kernel
theorem d31_8 : DAt B31 8 (.ifCond .lt 34) 3 11 := by decide +kernel
theorem d31_11 : DAt B31 11 (.aload_n 0) 1 12 := by decide +kernel
theorem d31_12 : DAt B31 12 (.getfield 111) 3 15 := by decide +kernel
theorem d31_15 : DAt B31 15 (.iload_n 1) 1 16 := by decide +kernel
theorem d31_16 : DAt B31 16 (.iaload) 1 17 := by decide +kernel
theorem d31_17 : DAt B31 17 (.ifCond .ne 14) 3 20 := by decide +kernel
theorem d31_20 : DAt B31 20 (.aload_n 0) 1 21 := by decide +kernel
theorem d31_21 : DAt B31 21 (.iconst 2) 1 22 := by decide +kernel
theorem d31_22 : DAt B31 22 (.iload_n 1) 1 23 := by decide +kernel
theorem d31_23 : DAt B31 23 (.imul) 1 24 := by decide +kernel
theorem d31_24 : DAt B31 24 (.iconst 0) 1 25 := by decide +kernel
theorem d31_25 : DAt B31 25 (.invokevirtual 353) 3 28 := by decide +kernel
theorem d31_28 : DAt B31 28 (.goto 8) 3 31 := by decide +kernel
theorem d31_31 : DAt B31 31 (.aload_n 0) 1 32 := by decide +kernel
theorem d31_32 : DAt B31 32 (.iload_n 1) 1 33 := by decide +kernel
theorem d31_33 : DAt B31 33 (.invokevirtual 357) 3 36 := by decide +kernel
theorem d31_36 : DAt B31 36 (.iinc 1 (-1)) 3 39 := by decide +kernel
theorem d31_39 : DAt B31 39 (.goto (-32)) 3 42 := by decide +kernel
theorem d31_42 : DAt B31 42 (.return_) 1 43 := by decide +kernel
def B39 : Bdy := ((⟨"QueryRewriter", "compactMap", "(II)V"⟩ : MethodName), prog_1_method_70_code, 5, none, ({ frames := 0, cells := 0, slots := 0, locals := 0 } : Room))
theorem d39_0 : DAt B39 0 (.iconst 0) 1 1 := by decide +kernel
theorem d39_1 : DAt B39 1 (.istore_n 3) 1 2 := by decide +kernel
theorem d39_2 : DAt B39 2 (.iconst 0) 1 3 := by decide +kernel
theorem d39_3 : DAt B39 3 (.istore 4) 2 5 := by decide +kernel
theorem d39_5 : DAt B39 5 (.iload 4) 2 7 := by decide +kernel
theorem d39_7 : DAt B39 7 (.aload_n 0) 1 8 := by decide +kernel
theorem d39_8 : DAt B39 8 (.getfield 126) 3 11 := by decide +kernel
theorem d39_11 : DAt B39 11 (.iload_n 1) 1 12 := by decide +kernel
theorem d39_12 : DAt B39 12 (.iaload) 1 13 := by decide +kernel
theorem d39_13 : DAt B39 13 (.if_icmp .ge 51) 3 16 := by decide +kernel
theorem d39_16 : DAt B39 16 (.iload 4) 2 18 := by decide +kernel
theorem d39_18 : DAt B39 18 (.bipush 8) 2 20 := by decide +kernel
theorem d39_20 : DAt B39 20 (.if_icmp .ge 44) 3 23 := by decide +kernel
theorem d39_23 : DAt B39 23 (.iload_n 2) 1 24 := by decide +kernel
theorem d39_24 : DAt B39 24 (.iload 4) 2 26 := by decide +kernel
theorem d39_26 : DAt B39 26 (.iushr) 1 27 := by decide +kernel
theorem d39_27 : DAt B39 27 (.iconst 1) 1 28 := by decide +kernel
theorem d39_28 : DAt B39 28 (.iand) 1 29 := by decide +kernel
theorem d39_29 : DAt B39 29 (.ifCond .eq 29) 3 32 := by decide +kernel
theorem d39_32 : DAt B39 32 (.aload_n 0) 1 33 := by decide +kernel
theorem d39_33 : DAt B39 33 (.getfield 129) 3 36 := by decide +kernel
theorem d39_36 : DAt B39 36 (.iload_n 1) 1 37 := by decide +kernel
theorem d39_37 : DAt B39 37 (.bipush 8) 2 39 := by decide +kernel
theorem d39_39 : DAt B39 39 (.imul) 1 40 := by decide +kernel
theorem d39_40 : DAt B39 40 (.iload_n 3) 1 41 := by decide +kernel
theorem d39_41 : DAt B39 41 (.iadd) 1 42 := by decide +kernel
theorem d39_42 : DAt B39 42 (.aload_n 0) 1 43 := by decide +kernel
theorem d39_43 : DAt B39 43 (.getfield 129) 3 46 := by decide +kernel
theorem d39_46 : DAt B39 46 (.iload_n 1) 1 47 := by decide +kernel
theorem d39_47 : DAt B39 47 (.bipush 8) 2 49 := by decide +kernel
theorem d39_49 : DAt B39 49 (.imul) 1 50 := by decide +kernel
theorem d39_50 : DAt B39 50 (.iload 4) 2 52 := by decide +kernel
theorem d39_52 : DAt B39 52 (.iadd) 1 53 := by decide +kernel
theorem d39_53 : DAt B39 53 (.iaload) 1 54 := by decide +kernel
theorem d39_54 : DAt B39 54 (.iastore) 1 55 := by decide +kernel
theorem d39_55 : DAt B39 55 (.iinc 3 1) 3 58 := by decide +kernel
theorem d39_58 : DAt B39 58 (.iinc 4 1) 3 61 := by decide +kernel
theorem d39_61 : DAt B39 61 (.goto (-56)) 3 64 := by decide +kernel
theorem d39_64 : DAt B39 64 (.aload_n 0) 1 65 := by decide +kernel
theorem d39_65 : DAt B39 65 (.getfield 126) 3 68 := by decide +kernel
theorem d39_68 : DAt B39 68 (.iload_n 1) 1 69 := by decide +kernel
theorem d39_69 : DAt B39 69 (.iload_n 3) 1 70 := by decide +kernel
theorem d39_70 : DAt B39 70 (.iastore) 1 71 := by decide +kernel
theorem d39_71 : DAt B39 71 (.return_) 1 72 := by decide +kernel
def B41 : Bdy := ((⟨"QueryRewriter", "usedMapMask", "(I)I"⟩ : MethodName), prog_1_method_72_code, 4, (some .int), ({ frames := 0, cells := 0, slots := 0, locals := 0 } : Room))
theorem d41_0 : DAt B41 0 (.iconst 0) 1 1 := by decide +kernel
theorem d41_1 : DAt B41 1 (.istore_n 2) 1 2 := by decide +kernel
theorem d41_2 : DAt B41 2 (.iconst 0) 1 3 := by decide +kernel
theorem d41_3 : DAt B41 3 (.istore_n 3) 1 4 := by decide +kernel
theorem d41_4 : DAt B41 4 (.iload_n 3) 1 5 := by decide +kernel
theorem d41_5 : DAt B41 5 (.aload_n 0) 1 6 := by decide +kernel
theorem d41_6 : DAt B41 6 (.getfield 126) 3 9 := by decide +kernel
theorem d41_9 : DAt B41 9 (.iload_n 1) 1 10 := by decide +kernel
theorem d41_10 : DAt B41 10 (.iaload) 1 11 := by decide +kernel
theorem d41_11 : DAt B41 11 (.if_icmp .ge 34) 3 14 := by decide +kernel
theorem d41_14 : DAt B41 14 (.iload_n 3) 1 15 := by decide +kernel
theorem d41_15 : DAt B41 15 (.bipush 8) 2 17 := by decide +kernel
theorem d41_17 : DAt B41 17 (.if_icmp .ge 28) 3 20 := by decide +kernel
theorem d41_20 : DAt B41 20 (.iload_n 2) 1 21 := by decide +kernel
theorem d41_21 : DAt B41 21 (.iconst 1) 1 22 := by decide +kernel
theorem d41_22 : DAt B41 22 (.aload_n 0) 1 23 := by decide +kernel
theorem d41_23 : DAt B41 23 (.getfield 129) 3 26 := by decide +kernel
theorem d41_26 : DAt B41 26 (.iload_n 1) 1 27 := by decide +kernel
theorem d41_27 : DAt B41 27 (.bipush 8) 2 29 := by decide +kernel
theorem d41_29 : DAt B41 29 (.imul) 1 30 := by decide +kernel
theorem d41_30 : DAt B41 30 (.iload_n 3) 1 31 := by decide +kernel
theorem d41_31 : DAt B41 31 (.iadd) 1 32 := by decide +kernel
theorem d41_32 : DAt B41 32 (.iaload) 1 33 := by decide +kernel
theorem d41_33 : DAt B41 33 (.bipush 7) 2 35 := by decide +kernel
theorem d41_35 : DAt B41 35 (.iand) 1 36 := by decide +kernel
theorem d41_36 : DAt B41 36 (.ishl) 1 37 := by decide +kernel
theorem d41_37 : DAt B41 37 (.ior) 1 38 := by decide +kernel
theorem d41_38 : DAt B41 38 (.istore_n 2) 1 39 := by decide +kernel
theorem d41_39 : DAt B41 39 (.iinc 3 1) 3 42 := by decide +kernel
theorem d41_42 : DAt B41 42 (.goto (-38)) 3 45 := by decide +kernel
theorem d41_45 : DAt B41 45 (.iload_n 2) 1 46 := by decide +kernel
theorem d41_46 : DAt B41 46 (.ireturn) 1 47 := by decide +kernel
def B42 : Bdy := ((⟨"QueryRewriter", "usedListMask", "(I)I"⟩ : MethodName), prog_1_method_73_code, 5, (some .int), ({ frames := 0, cells := 0, slots := 0, locals := 0 } : Room))
theorem d42_0 : DAt B42 0 (.iconst 0) 1 1 := by decide +kernel
theorem d42_1 : DAt B42 1 (.istore_n 2) 1 2 := by decide +kernel
theorem d42_2 : DAt B42 2 (.aload_n 0) 1 3 := by decide +kernel
theorem d42_3 : DAt B42 3 (.getfield 138) 3 6 := by decide +kernel
theorem d42_6 : DAt B42 6 (.iload_n 1) 1 7 := by decide +kernel
theorem d42_7 : DAt B42 7 (.iaload) 1 8 := by decide +kernel
theorem d42_8 : DAt B42 8 (.istore_n 3) 1 9 := by decide +kernel
theorem d42_9 : DAt B42 9 (.iconst 0) 1 10 := by decide +kernel
theorem d42_10 : DAt B42 10 (.istore 4) 2 12 := by decide +kernel
theorem d42_12 : DAt B42 12 (.iload 4) 2 14 := by decide +kernel
theorem d42_14 : DAt B42 14 (.sipush 512) 3 17 := by decide +kernel
theorem d42_17 : DAt B42 17 (.if_icmp .ge 77) 3 20 := by decide +kernel
theorem d42_20 : DAt B42 20 (.iload_n 3) 1 21 := by decide +kernel
theorem d42_21 : DAt B42 21 (.ifCond .lt 73) 3 24 := by decide +kernel
theorem d42_24 : DAt B42 24 (.iload_n 3) 1 25 := by decide +kernel
theorem d42_25 : DAt B42 25 (.sipush 512) 3 28 := by decide +kernel
theorem d42_28 : DAt B42 28 (.if_icmp .ge 66) 3 31 := by decide +kernel
theorem d42_31 : DAt B42 31 (.aload_n 0) 1 32 := by decide +kernel
theorem d42_32 : DAt B42 32 (.getfield 150) 3 35 := by decide +kernel
theorem d42_35 : DAt B42 35 (.iload_n 3) 1 36 := by decide +kernel
theorem d42_36 : DAt B42 36 (.iaload) 1 37 := by decide +kernel
theorem d42_37 : DAt B42 37 (.iconst 1) 1 38 := by decide +kernel
theorem d42_38 : DAt B42 38 (.iand) 1 39 := by decide +kernel
theorem d42_39 : DAt B42 39 (.ifCond .eq 17) 3 42 := by decide +kernel
theorem d42_42 : DAt B42 42 (.iload_n 2) 1 43 := by decide +kernel
theorem d42_43 : DAt B42 43 (.iconst 1) 1 44 := by decide +kernel
theorem d42_44 : DAt B42 44 (.aload_n 0) 1 45 := by decide +kernel
theorem d42_45 : DAt B42 45 (.getfield 144) 3 48 := by decide +kernel
theorem d42_48 : DAt B42 48 (.iload_n 3) 1 49 := by decide +kernel
theorem d42_49 : DAt B42 49 (.iaload) 1 50 := by decide +kernel
theorem d42_50 : DAt B42 50 (.bipush 7) 2 52 := by decide +kernel
theorem d42_52 : DAt B42 52 (.iand) 1 53 := by decide +kernel
theorem d42_53 : DAt B42 53 (.ishl) 1 54 := by decide +kernel
theorem d42_54 : DAt B42 54 (.ior) 1 55 := by decide +kernel
theorem d42_55 : DAt B42 55 (.istore_n 2) 1 56 := by decide +kernel
theorem d42_56 : DAt B42 56 (.aload_n 0) 1 57 := by decide +kernel
theorem d42_57 : DAt B42 57 (.getfield 150) 3 60 := by decide +kernel
theorem d42_60 : DAt B42 60 (.iload_n 3) 1 61 := by decide +kernel
theorem d42_61 : DAt B42 61 (.iaload) 1 62 := by decide +kernel
theorem d42_62 : DAt B42 62 (.iconst 2) 1 63 := by decide +kernel
theorem d42_63 : DAt B42 63 (.iand) 1 64 := by decide +kernel
theorem d42_64 : DAt B42 64 (.ifCond .eq 17) 3 67 := by decide +kernel
theorem d42_67 : DAt B42 67 (.iload_n 2) 1 68 := by decide +kernel
theorem d42_68 : DAt B42 68 (.iconst 1) 1 69 := by decide +kernel
theorem d42_69 : DAt B42 69 (.aload_n 0) 1 70 := by decide +kernel
theorem d42_70 : DAt B42 70 (.getfield 147) 3 73 := by decide +kernel
theorem d42_73 : DAt B42 73 (.iload_n 3) 1 74 := by decide +kernel
theorem d42_74 : DAt B42 74 (.iaload) 1 75 := by decide +kernel
theorem d42_75 : DAt B42 75 (.bipush 7) 2 77 := by decide +kernel
theorem d42_77 : DAt B42 77 (.iand) 1 78 := by decide +kernel
theorem d42_78 : DAt B42 78 (.ishl) 1 79 := by decide +kernel
theorem d42_79 : DAt B42 79 (.ior) 1 80 := by decide +kernel
theorem d42_80 : DAt B42 80 (.istore_n 2) 1 81 := by decide +kernel
theorem d42_81 : DAt B42 81 (.aload_n 0) 1 82 := by decide +kernel
theorem d42_82 : DAt B42 82 (.getfield 153) 3 85 := by decide +kernel
theorem d42_85 : DAt B42 85 (.iload_n 3) 1 86 := by decide +kernel
theorem d42_86 : DAt B42 86 (.iaload) 1 87 := by decide +kernel
theorem d42_87 : DAt B42 87 (.istore_n 3) 1 88 := by decide +kernel
theorem d42_88 : DAt B42 88 (.iinc 4 1) 3 91 := by decide +kernel
theorem d42_91 : DAt B42 91 (.goto (-79)) 3 94 := by decide +kernel
theorem d42_94 : DAt B42 94 (.iload_n 2) 1 95 := by decide +kernel
theorem d42_95 : DAt B42 95 (.ireturn) 1 96 := by decide +kernel
def B45 : Bdy := ((⟨"QueryRewriter", "popcount", "(I)I"⟩ : MethodName), prog_1_method_74_code, 4, (some .int), ({ frames := 0, cells := 0, slots := 0, locals := 0 } : Room))
theorem d45_0 : DAt B45 0 (.iconst 0) 1 1 := by decide +kernel
theorem d45_1 : DAt B45 1 (.istore_n 2) 1 2 := by decide +kernel
theorem d45_2 : DAt B45 2 (.iconst 0) 1 3 := by decide +kernel
theorem d45_3 : DAt B45 3 (.istore_n 3) 1 4 := by decide +kernel
theorem d45_4 : DAt B45 4 (.iload_n 3) 1 5 := by decide +kernel
theorem d45_5 : DAt B45 5 (.bipush 8) 2 7 := by decide +kernel
theorem d45_7 : DAt B45 7 (.if_icmp .ge 17) 3 10 := by decide +kernel
theorem d45_10 : DAt B45 10 (.iload_n 2) 1 11 := by decide +kernel
theorem d45_11 : DAt B45 11 (.iload_n 1) 1 12 := by decide +kernel
theorem d45_12 : DAt B45 12 (.iload_n 3) 1 13 := by decide +kernel
theorem d45_13 : DAt B45 13 (.iushr) 1 14 := by decide +kernel
theorem d45_14 : DAt B45 14 (.iconst 1) 1 15 := by decide +kernel
theorem d45_15 : DAt B45 15 (.iand) 1 16 := by decide +kernel
theorem d45_16 : DAt B45 16 (.iadd) 1 17 := by decide +kernel
theorem d45_17 : DAt B45 17 (.istore_n 2) 1 18 := by decide +kernel
theorem d45_18 : DAt B45 18 (.iinc 3 1) 3 21 := by decide +kernel
theorem d45_21 : DAt B45 21 (.goto (-17)) 3 24 := by decide +kernel
theorem d45_24 : DAt B45 24 (.iload_n 2) 1 25 := by decide +kernel
theorem d45_25 : DAt B45 25 (.ireturn) 1 26 := by decide +kernel
def B44 : Bdy := ((⟨"QueryRewriter", "newCol", "(IIII)I"⟩ : MethodName), prog_1_method_75_code, 6, (some .int), ({ frames := 1, cells := 0, slots := 0, locals := 16 } : Room))
theorem d44_0 : DAt B44 0 (.iload_n 1) 1 1 := by decide +kernel
theorem d44_1 : DAt B44 1 (.iload_n 2) 1 2 := by decide +kernel
theorem d44_2 : DAt B44 2 (.if_icmp .ge 15) 3 5 := by decide +kernel
theorem d44_5 : DAt B44 5 (.aload_n 0) 1 6 := by decide +kernel
theorem d44_6 : DAt B44 6 (.iload_n 3) 1 7 := by decide +kernel
theorem d44_7 : DAt B44 7 (.iconst 1) 1 8 := by decide +kernel
theorem d44_8 : DAt B44 8 (.iload_n 1) 1 9 := by decide +kernel
theorem d44_9 : DAt B44 9 (.ishl) 1 10 := by decide +kernel
theorem d44_10 : DAt B44 10 (.iconst 1) 1 11 := by decide +kernel
theorem d44_11 : DAt B44 11 (.isub) 1 12 := by decide +kernel
theorem d44_12 : DAt B44 12 (.iand) 1 13 := by decide +kernel
theorem d44_13 : DAt B44 13 (.invokevirtual 394) 3 16 := by decide +kernel
theorem d44_16 : DAt B44 16 (.ireturn) 1 17 := by decide +kernel
theorem d44_17 : DAt B44 17 (.iload 4) 2 19 := by decide +kernel
theorem d44_19 : DAt B44 19 (.iconst 1) 1 20 := by decide +kernel
theorem d44_20 : DAt B44 20 (.iload_n 1) 1 21 := by decide +kernel
theorem d44_21 : DAt B44 21 (.iload_n 2) 1 22 := by decide +kernel
theorem d44_22 : DAt B44 22 (.isub) 1 23 := by decide +kernel
theorem d44_23 : DAt B44 23 (.ishl) 1 24 := by decide +kernel
theorem d44_24 : DAt B44 24 (.iconst 1) 1 25 := by decide +kernel
theorem d44_25 : DAt B44 25 (.isub) 1 26 := by decide +kernel
theorem d44_26 : DAt B44 26 (.iand) 1 27 := by decide +kernel
theorem d44_27 : DAt B44 27 (.istore 5) 2 29 := by decide +kernel
theorem d44_29 : DAt B44 29 (.aload_n 0) 1 30 := by decide +kernel
theorem d44_30 : DAt B44 30 (.iload_n 3) 1 31 := by decide +kernel
theorem d44_31 : DAt B44 31 (.invokevirtual 394) 3 34 := by decide +kernel
theorem d44_34 : DAt B44 34 (.aload_n 0) 1 35 := by decide +kernel
theorem d44_35 : DAt B44 35 (.iload 5) 2 37 := by decide +kernel
theorem d44_37 : DAt B44 37 (.invokevirtual 394) 3 40 := by decide +kernel
theorem d44_40 : DAt B44 40 (.iadd) 1 41 := by decide +kernel
theorem d44_41 : DAt B44 41 (.ireturn) 1 42 := by decide +kernel
def B43 : Bdy := ((⟨"QueryRewriter", "renumberMap", "(IIII)V"⟩ : MethodName), prog_1_method_76_code, 6, none, ({ frames := 2, cells := 0, slots := 0, locals := 35 } : Room))
theorem d43_0 : DAt B43 0 (.iconst 0) 1 1 := by decide +kernel
theorem d43_1 : DAt B43 1 (.istore 5) 2 3 := by decide +kernel
theorem d43_3 : DAt B43 3 (.iload 5) 2 5 := by decide +kernel
theorem d43_5 : DAt B43 5 (.aload_n 0) 1 6 := by decide +kernel
theorem d43_6 : DAt B43 6 (.getfield 126) 3 9 := by decide +kernel
theorem d43_9 : DAt B43 9 (.iload_n 1) 1 10 := by decide +kernel
theorem d43_10 : DAt B43 10 (.iaload) 1 11 := by decide +kernel
theorem d43_11 : DAt B43 11 (.if_icmp .ge 48) 3 14 := by decide +kernel
theorem d43_14 : DAt B43 14 (.iload 5) 2 16 := by decide +kernel
theorem d43_16 : DAt B43 16 (.bipush 8) 2 18 := by decide +kernel
theorem d43_18 : DAt B43 18 (.if_icmp .ge 41) 3 21 := by decide +kernel
theorem d43_21 : DAt B43 21 (.aload_n 0) 1 22 := by decide +kernel
theorem d43_22 : DAt B43 22 (.getfield 129) 3 25 := by decide +kernel
theorem d43_25 : DAt B43 25 (.iload_n 1) 1 26 := by decide +kernel
theorem d43_26 : DAt B43 26 (.bipush 8) 2 28 := by decide +kernel
theorem d43_28 : DAt B43 28 (.imul) 1 29 := by decide +kernel
theorem d43_29 : DAt B43 29 (.iload 5) 2 31 := by decide +kernel
theorem d43_31 : DAt B43 31 (.iadd) 1 32 := by decide +kernel
theorem d43_32 : DAt B43 32 (.aload_n 0) 1 33 := by decide +kernel
theorem d43_33 : DAt B43 33 (.aload_n 0) 1 34 := by decide +kernel
theorem d43_34 : DAt B43 34 (.getfield 129) 3 37 := by decide +kernel
theorem d43_37 : DAt B43 37 (.iload_n 1) 1 38 := by decide +kernel
theorem d43_38 : DAt B43 38 (.bipush 8) 2 40 := by decide +kernel
theorem d43_40 : DAt B43 40 (.imul) 1 41 := by decide +kernel
theorem d43_41 : DAt B43 41 (.iload 5) 2 43 := by decide +kernel
theorem d43_43 : DAt B43 43 (.iadd) 1 44 := by decide +kernel
theorem d43_44 : DAt B43 44 (.iaload) 1 45 := by decide +kernel
theorem d43_45 : DAt B43 45 (.iload_n 2) 1 46 := by decide +kernel
theorem d43_46 : DAt B43 46 (.iload_n 3) 1 47 := by decide +kernel
theorem d43_47 : DAt B43 47 (.iload 4) 2 49 := by decide +kernel
theorem d43_49 : DAt B43 49 (.invokevirtual 397) 3 52 := by decide +kernel
theorem d43_52 : DAt B43 52 (.iastore) 1 53 := by decide +kernel
theorem d43_53 : DAt B43 53 (.iinc 5 1) 3 56 := by decide +kernel
theorem d43_56 : DAt B43 56 (.goto (-53)) 3 59 := by decide +kernel
theorem d43_59 : DAt B43 59 (.return_) 1 60 := by decide +kernel
def B46 : Bdy := ((⟨"QueryRewriter", "renumberList", "(IIII)V"⟩ : MethodName), prog_1_method_77_code, 7, none, ({ frames := 2, cells := 0, slots := 0, locals := 35 } : Room))
theorem d46_0 : DAt B46 0 (.aload_n 0) 1 1 := by decide +kernel
theorem d46_1 : DAt B46 1 (.getfield 138) 3 4 := by decide +kernel
theorem d46_4 : DAt B46 4 (.iload_n 1) 1 5 := by decide +kernel
theorem d46_5 : DAt B46 5 (.iaload) 1 6 := by decide +kernel
theorem d46_6 : DAt B46 6 (.istore 5) 2 8 := by decide +kernel
theorem d46_8 : DAt B46 8 (.iconst 0) 1 9 := by decide +kernel
theorem d46_9 : DAt B46 9 (.istore 6) 2 11 := by decide +kernel
theorem d46_11 : DAt B46 11 (.iload 6) 2 13 := by decide +kernel
theorem d46_13 : DAt B46 13 (.sipush 512) 3 16 := by decide +kernel
theorem d46_16 : DAt B46 16 (.if_icmp .ge 99) 3 19 := by decide +kernel
theorem d46_19 : DAt B46 19 (.iload 5) 2 21 := by decide +kernel
theorem d46_21 : DAt B46 21 (.ifCond .lt 94) 3 24 := by decide +kernel
theorem d46_24 : DAt B46 24 (.iload 5) 2 26 := by decide +kernel
theorem d46_26 : DAt B46 26 (.sipush 512) 3 29 := by decide +kernel
theorem d46_29 : DAt B46 29 (.if_icmp .ge 86) 3 32 := by decide +kernel
theorem d46_32 : DAt B46 32 (.aload_n 0) 1 33 := by decide +kernel
theorem d46_33 : DAt B46 33 (.getfield 150) 3 36 := by decide +kernel
theorem d46_36 : DAt B46 36 (.iload 5) 2 38 := by decide +kernel
theorem d46_38 : DAt B46 38 (.iaload) 1 39 := by decide +kernel
theorem d46_39 : DAt B46 39 (.iconst 1) 1 40 := by decide +kernel
theorem d46_40 : DAt B46 40 (.iand) 1 41 := by decide +kernel
theorem d46_41 : DAt B46 41 (.ifCond .eq 25) 3 44 := by decide +kernel
theorem d46_44 : DAt B46 44 (.aload_n 0) 1 45 := by decide +kernel
theorem d46_45 : DAt B46 45 (.getfield 144) 3 48 := by decide +kernel
theorem d46_48 : DAt B46 48 (.iload 5) 2 50 := by decide +kernel
theorem d46_50 : DAt B46 50 (.aload_n 0) 1 51 := by decide +kernel
theorem d46_51 : DAt B46 51 (.aload_n 0) 1 52 := by decide +kernel
theorem d46_52 : DAt B46 52 (.getfield 144) 3 55 := by decide +kernel
theorem d46_55 : DAt B46 55 (.iload 5) 2 57 := by decide +kernel
theorem d46_57 : DAt B46 57 (.iaload) 1 58 := by decide +kernel
theorem d46_58 : DAt B46 58 (.iload_n 2) 1 59 := by decide +kernel
theorem d46_59 : DAt B46 59 (.iload_n 3) 1 60 := by decide +kernel
theorem d46_60 : DAt B46 60 (.iload 4) 2 62 := by decide +kernel
theorem d46_62 : DAt B46 62 (.invokevirtual 397) 3 65 := by decide +kernel
theorem d46_65 : DAt B46 65 (.iastore) 1 66 := by decide +kernel
theorem d46_66 : DAt B46 66 (.aload_n 0) 1 67 := by decide +kernel
theorem d46_67 : DAt B46 67 (.getfield 150) 3 70 := by decide +kernel
theorem d46_70 : DAt B46 70 (.iload 5) 2 72 := by decide +kernel
theorem d46_72 : DAt B46 72 (.iaload) 1 73 := by decide +kernel
theorem d46_73 : DAt B46 73 (.iconst 2) 1 74 := by decide +kernel
theorem d46_74 : DAt B46 74 (.iand) 1 75 := by decide +kernel
theorem d46_75 : DAt B46 75 (.ifCond .eq 25) 3 78 := by decide +kernel
theorem d46_78 : DAt B46 78 (.aload_n 0) 1 79 := by decide +kernel
theorem d46_79 : DAt B46 79 (.getfield 147) 3 82 := by decide +kernel
theorem d46_82 : DAt B46 82 (.iload 5) 2 84 := by decide +kernel
theorem d46_84 : DAt B46 84 (.aload_n 0) 1 85 := by decide +kernel
theorem d46_85 : DAt B46 85 (.aload_n 0) 1 86 := by decide +kernel
theorem d46_86 : DAt B46 86 (.getfield 147) 3 89 := by decide +kernel
theorem d46_89 : DAt B46 89 (.iload 5) 2 91 := by decide +kernel
theorem d46_91 : DAt B46 91 (.iaload) 1 92 := by decide +kernel
theorem d46_92 : DAt B46 92 (.iload_n 2) 1 93 := by decide +kernel
theorem d46_93 : DAt B46 93 (.iload_n 3) 1 94 := by decide +kernel
theorem d46_94 : DAt B46 94 (.iload 4) 2 96 := by decide +kernel
theorem d46_96 : DAt B46 96 (.invokevirtual 397) 3 99 := by decide +kernel
theorem d46_99 : DAt B46 99 (.iastore) 1 100 := by decide +kernel
theorem d46_100 : DAt B46 100 (.aload_n 0) 1 101 := by decide +kernel
theorem d46_101 : DAt B46 101 (.getfield 153) 3 104 := by decide +kernel
theorem d46_104 : DAt B46 104 (.iload 5) 2 106 := by decide +kernel
theorem d46_106 : DAt B46 106 (.iaload) 1 107 := by decide +kernel
theorem d46_107 : DAt B46 107 (.istore 5) 2 109 := by decide +kernel
theorem d46_109 : DAt B46 109 (.iinc 6 1) 3 112 := by decide +kernel
theorem d46_112 : DAt B46 112 (.goto (-101)) 3 115 := by decide +kernel
theorem d46_115 : DAt B46 115 (.return_) 1 116 := by decide +kernel
def B40 : Bdy := ((⟨"QueryRewriter", "pruneJoinInputs", "(I)V"⟩ : MethodName), prog_1_method_71_code, 9, none, ({ frames := 3, cells := 0, slots := 0, locals := 53 } : Room))
theorem d40_0 : DAt B40 0 (.aload_n 0) 1 1 := by decide +kernel
theorem d40_1 : DAt B40 1 (.getfield 117) 3 4 := by decide +kernel
theorem d40_4 : DAt B40 4 (.iload_n 1) 1 5 := by decide +kernel
theorem d40_5 : DAt B40 5 (.iaload) 1 6 := by decide +kernel
theorem d40_6 : DAt B40 6 (.istore_n 2) 1 7 := by decide +kernel
theorem d40_7 : DAt B40 7 (.aload_n 0) 1 8 := by decide +kernel
theorem d40_8 : DAt B40 8 (.getfield 120) 3 11 := by decide +kernel
theorem d40_11 : DAt B40 11 (.iload_n 1) 1 12 := by decide +kernel
theorem d40_12 : DAt B40 12 (.iaload) 1 13 := by decide +kernel
theorem d40_13 : DAt B40 13 (.istore_n 3) 1 14 := by decide +kernel
theorem d40_14 : DAt B40 14 (.aload_n 0) 1 15 := by decide +kernel
theorem d40_15 : DAt B40 15 (.getfield 126) 3 18 := by decide +kernel
theorem d40_18 : DAt B40 18 (.iload_n 2) 1 19 := by decide +kernel
theorem d40_19 : DAt B40 19 (.iaload) 1 20 := by decide +kernel
theorem d40_20 : DAt B40 20 (.istore 4) 2 22 := by decide +kernel
theorem d40_22 : DAt B40 22 (.aload_n 0) 1 23 := by decide +kernel
theorem d40_23 : DAt B40 23 (.getfield 126) 3 26 := by decide +kernel
theorem d40_26 : DAt B40 26 (.iload_n 3) 1 27 := by decide +kernel
theorem d40_27 : DAt B40 27 (.iaload) 1 28 := by decide +kernel
theorem d40_28 : DAt B40 28 (.istore 5) 2 30 := by decide +kernel
theorem d40_30 : DAt B40 30 (.aload_n 0) 1 31 := by decide +kernel
theorem d40_31 : DAt B40 31 (.iload_n 1) 1 32 := by decide +kernel
theorem d40_32 : DAt B40 32 (.invokevirtual 382) 3 35 := by decide +kernel
theorem d40_35 : DAt B40 35 (.istore 6) 2 37 := by decide +kernel
theorem d40_37 : DAt B40 37 (.iload 6) 2 39 := by decide +kernel
theorem d40_39 : DAt B40 39 (.aload_n 0) 1 40 := by decide +kernel
theorem d40_40 : DAt B40 40 (.iconst 2) 1 41 := by decide +kernel
theorem d40_41 : DAt B40 41 (.iload_n 1) 1 42 := by decide +kernel
theorem d40_42 : DAt B40 42 (.imul) 1 43 := by decide +kernel
theorem d40_43 : DAt B40 43 (.invokevirtual 385) 3 46 := by decide +kernel
theorem d40_46 : DAt B40 46 (.ior) 1 47 := by decide +kernel
theorem d40_47 : DAt B40 47 (.istore 6) 2 49 := by decide +kernel
theorem d40_49 : DAt B40 49 (.iload 6) 2 51 := by decide +kernel
theorem d40_51 : DAt B40 51 (.aload_n 0) 1 52 := by decide +kernel
theorem d40_52 : DAt B40 52 (.iconst 2) 1 53 := by decide +kernel
theorem d40_53 : DAt B40 53 (.iload_n 1) 1 54 := by decide +kernel
theorem d40_54 : DAt B40 54 (.imul) 1 55 := by decide +kernel
theorem d40_55 : DAt B40 55 (.iconst 1) 1 56 := by decide +kernel
theorem d40_56 : DAt B40 56 (.iadd) 1 57 := by decide +kernel
theorem d40_57 : DAt B40 57 (.invokevirtual 385) 3 60 := by decide +kernel
theorem d40_60 : DAt B40 60 (.ior) 1 61 := by decide +kernel
theorem d40_61 : DAt B40 61 (.istore 6) 2 63 := by decide +kernel
theorem d40_63 : DAt B40 63 (.iload 6) 2 65 := by decide +kernel
theorem d40_65 : DAt B40 65 (.iconst 1) 1 66 := by decide +kernel
theorem d40_66 : DAt B40 66 (.iload 4) 2 68 := by decide +kernel
theorem d40_68 : DAt B40 68 (.ishl) 1 69 := by decide +kernel
theorem d40_69 : DAt B40 69 (.iconst 1) 1 70 := by decide +kernel
theorem d40_70 : DAt B40 70 (.isub) 1 71 := by decide +kernel
theorem d40_71 : DAt B40 71 (.iand) 1 72 := by decide +kernel
theorem d40_72 : DAt B40 72 (.istore 7) 2 74 := by decide +kernel
theorem d40_74 : DAt B40 74 (.iload 6) 2 76 := by decide +kernel
theorem d40_76 : DAt B40 76 (.iload 4) 2 78 := by decide +kernel
theorem d40_78 : DAt B40 78 (.iushr) 1 79 := by decide +kernel
theorem d40_79 : DAt B40 79 (.iconst 1) 1 80 := by decide +kernel
theorem d40_80 : DAt B40 80 (.iload 5) 2 82 := by decide +kernel
theorem d40_82 : DAt B40 82 (.ishl) 1 83 := by decide +kernel
theorem d40_83 : DAt B40 83 (.iconst 1) 1 84 := by decide +kernel
theorem d40_84 : DAt B40 84 (.isub) 1 85 := by decide +kernel
theorem d40_85 : DAt B40 85 (.iand) 1 86 := by decide +kernel
theorem d40_86 : DAt B40 86 (.istore 8) 2 88 := by decide +kernel
theorem d40_88 : DAt B40 88 (.iload 7) 2 90 := by decide +kernel
theorem d40_90 : DAt B40 90 (.ifCond .ne 6) 3 93 := by decide +kernel
theorem d40_93 : DAt B40 93 (.iconst 1) 1 94 := by decide +kernel
theorem d40_94 : DAt B40 94 (.istore 7) 2 96 := by decide +kernel
theorem d40_96 : DAt B40 96 (.iload 8) 2 98 := by decide +kernel
theorem d40_98 : DAt B40 98 (.ifCond .ne 6) 3 101 := by decide +kernel
theorem d40_101 : DAt B40 101 (.iconst 1) 1 102 := by decide +kernel
theorem d40_102 : DAt B40 102 (.istore 8) 2 104 := by decide +kernel
theorem d40_104 : DAt B40 104 (.aload_n 0) 1 105 := by decide +kernel
theorem d40_105 : DAt B40 105 (.getfield 132) 3 108 := by decide +kernel
theorem d40_108 : DAt B40 108 (.iload_n 2) 1 109 := by decide +kernel
theorem d40_109 : DAt B40 109 (.iload 7) 2 111 := by decide +kernel
theorem d40_111 : DAt B40 111 (.iastore) 1 112 := by decide +kernel
theorem d40_112 : DAt B40 112 (.aload_n 0) 1 113 := by decide +kernel
theorem d40_113 : DAt B40 113 (.getfield 132) 3 116 := by decide +kernel
theorem d40_116 : DAt B40 116 (.iload_n 3) 1 117 := by decide +kernel
theorem d40_117 : DAt B40 117 (.iload 8) 2 119 := by decide +kernel
theorem d40_119 : DAt B40 119 (.iastore) 1 120 := by decide +kernel
theorem d40_120 : DAt B40 120 (.aload_n 0) 1 121 := by decide +kernel
theorem d40_121 : DAt B40 121 (.iload_n 1) 1 122 := by decide +kernel
theorem d40_122 : DAt B40 122 (.iload 4) 2 124 := by decide +kernel
theorem d40_124 : DAt B40 124 (.iload 7) 2 126 := by decide +kernel
theorem d40_126 : DAt B40 126 (.iload 8) 2 128 := by decide +kernel
theorem d40_128 : DAt B40 128 (.invokevirtual 388) 3 131 := by decide +kernel
theorem d40_131 : DAt B40 131 (.aload_n 0) 1 132 := by decide +kernel
theorem d40_132 : DAt B40 132 (.iconst 2) 1 133 := by decide +kernel
theorem d40_133 : DAt B40 133 (.iload_n 1) 1 134 := by decide +kernel
theorem d40_134 : DAt B40 134 (.imul) 1 135 := by decide +kernel
theorem d40_135 : DAt B40 135 (.iload 4) 2 137 := by decide +kernel
theorem d40_137 : DAt B40 137 (.iload 7) 2 139 := by decide +kernel
theorem d40_139 : DAt B40 139 (.iload 8) 2 141 := by decide +kernel
theorem d40_141 : DAt B40 141 (.invokevirtual 391) 3 144 := by decide +kernel
theorem d40_144 : DAt B40 144 (.aload_n 0) 1 145 := by decide +kernel
theorem d40_145 : DAt B40 145 (.iconst 2) 1 146 := by decide +kernel
theorem d40_146 : DAt B40 146 (.iload_n 1) 1 147 := by decide +kernel
theorem d40_147 : DAt B40 147 (.imul) 1 148 := by decide +kernel
theorem d40_148 : DAt B40 148 (.iconst 1) 1 149 := by decide +kernel
theorem d40_149 : DAt B40 149 (.iadd) 1 150 := by decide +kernel
theorem d40_150 : DAt B40 150 (.iload 4) 2 152 := by decide +kernel
theorem d40_152 : DAt B40 152 (.iload 7) 2 154 := by decide +kernel
theorem d40_154 : DAt B40 154 (.iload 8) 2 156 := by decide +kernel
theorem d40_156 : DAt B40 156 (.invokevirtual 391) 3 159 := by decide +kernel
theorem d40_159 : DAt B40 159 (.return_) 1 160 := by decide +kernel
def B38 : Bdy := ((⟨"QueryRewriter", "pruneAll", "(I)V"⟩ : MethodName), prog_1_method_69_code, 3, none, ({ frames := 4, cells := 0, slots := 0, locals := 73 } : Room))
theorem d38_0 : DAt B38 0 (.aload_n 0) 1 1 := by decide +kernel
theorem d38_1 : DAt B38 1 (.getfield 132) 3 4 := by decide +kernel
theorem d38_4 : DAt B38 4 (.iload_n 1) 1 5 := by decide +kernel
theorem d38_5 : DAt B38 5 (.iconst 1) 1 6 := by decide +kernel
theorem d38_6 : DAt B38 6 (.aload_n 0) 1 7 := by decide +kernel
theorem d38_7 : DAt B38 7 (.getfield 126) 3 10 := by decide +kernel
theorem d38_10 : DAt B38 10 (.iload_n 1) 1 11 := by decide +kernel
theorem d38_11 : DAt B38 11 (.iaload) 1 12 := by decide +kernel
theorem d38_12 : DAt B38 12 (.ishl) 1 13 := by decide +kernel
theorem d38_13 : DAt B38 13 (.iconst 1) 1 14 := by decide +kernel
theorem d38_14 : DAt B38 14 (.isub) 1 15 := by decide +kernel
theorem d38_15 : DAt B38 15 (.iastore) 1 16 := by decide +kernel
theorem d38_16 : DAt B38 16 (.iload_n 1) 1 17 := by decide +kernel
theorem d38_17 : DAt B38 17 (.istore_n 2) 1 18 := by decide +kernel
theorem d38_18 : DAt B38 18 (.iload_n 2) 1 19 := by decide +kernel
theorem d38_19 : DAt B38 19 (.ifCond .lt 35) 3 22 := by decide +kernel
theorem d38_22 : DAt B38 22 (.aload_n 0) 1 23 := by decide +kernel
theorem d38_23 : DAt B38 23 (.iload_n 2) 1 24 := by decide +kernel
theorem d38_24 : DAt B38 24 (.aload_n 0) 1 25 := by decide +kernel
theorem d38_25 : DAt B38 25 (.getfield 132) 3 28 := by decide +kernel
theorem d38_28 : DAt B38 28 (.iload_n 2) 1 29 := by decide +kernel
theorem d38_29 : DAt B38 29 (.iaload) 1 30 := by decide +kernel
theorem d38_30 : DAt B38 30 (.invokevirtual 376) 3 33 := by decide +kernel
theorem d38_33 : DAt B38 33 (.aload_n 0) 1 34 := by decide +kernel
theorem d38_34 : DAt B38 34 (.getfield 111) 3 37 := by decide +kernel
theorem d38_37 : DAt B38 37 (.iload_n 2) 1 38 := by decide +kernel
theorem d38_38 : DAt B38 38 (.iaload) 1 39 := by decide +kernel
theorem d38_39 : DAt B38 39 (.iconst 1) 1 40 := by decide +kernel
theorem d38_40 : DAt B38 40 (.if_icmp .ne 8) 3 43 := by decide +kernel
theorem d38_43 : DAt B38 43 (.aload_n 0) 1 44 := by decide +kernel
theorem d38_44 : DAt B38 44 (.iload_n 2) 1 45 := by decide +kernel
theorem d38_45 : DAt B38 45 (.invokevirtual 379) 3 48 := by decide +kernel
theorem d38_48 : DAt B38 48 (.iinc 2 (-1)) 3 51 := by decide +kernel
theorem d38_51 : DAt B38 51 (.goto (-33)) 3 54 := by decide +kernel
theorem d38_54 : DAt B38 54 (.return_) 1 55 := by decide +kernel
def B49 : Bdy := ((⟨"QueryRewriter", "loadTableRow", "(II)V"⟩ : MethodName), prog_1_method_35_code, 5, none, ({ frames := 0, cells := 0, slots := 0, locals := 0 } : Room))
theorem d49_0 : DAt B49 0 (.iload_n 1) 1 1 := by decide +kernel
theorem d49_1 : DAt B49 1 (.bipush 24) 2 3 := by decide +kernel
theorem d49_3 : DAt B49 3 (.imul) 1 4 := by decide +kernel
theorem d49_4 : DAt B49 4 (.iload_n 2) 1 5 := by decide +kernel
theorem d49_5 : DAt B49 5 (.iconst 3) 1 6 := by decide +kernel
theorem d49_6 : DAt B49 6 (.imul) 1 7 := by decide +kernel
theorem d49_7 : DAt B49 7 (.iadd) 1 8 := by decide +kernel
theorem d49_8 : DAt B49 8 (.istore_n 3) 1 9 := by decide +kernel
theorem d49_9 : DAt B49 9 (.iconst 0) 1 10 := by decide +kernel
theorem d49_10 : DAt B49 10 (.istore 4) 2 12 := by decide +kernel
theorem d49_12 : DAt B49 12 (.iload 4) 2 14 := by decide +kernel
theorem d49_14 : DAt B49 14 (.iconst 3) 1 15 := by decide +kernel
theorem d49_15 : DAt B49 15 (.if_icmp .ge 25) 3 18 := by decide +kernel
theorem d49_18 : DAt B49 18 (.aload_n 0) 1 19 := by decide +kernel
theorem d49_19 : DAt B49 19 (.getfield 105) 3 22 := by decide +kernel
theorem d49_22 : DAt B49 22 (.iload 4) 2 24 := by decide +kernel
theorem d49_24 : DAt B49 24 (.aload_n 0) 1 25 := by decide +kernel
theorem d49_25 : DAt B49 25 (.getfield 38) 3 28 := by decide +kernel
theorem d49_28 : DAt B49 28 (.iload_n 3) 1 29 := by decide +kernel
theorem d49_29 : DAt B49 29 (.iload 4) 2 31 := by decide +kernel
theorem d49_31 : DAt B49 31 (.iadd) 1 32 := by decide +kernel
theorem d49_32 : DAt B49 32 (.iaload) 1 33 := by decide +kernel
theorem d49_33 : DAt B49 33 (.iastore) 1 34 := by decide +kernel
theorem d49_34 : DAt B49 34 (.iinc 4 1) 3 37 := by decide +kernel
theorem d49_37 : DAt B49 37 (.goto (-25)) 3 40 := by decide +kernel
theorem d49_40 : DAt B49 40 (.return_) 1 41 := by decide +kernel
def B50 : Bdy := ((⟨"QueryRewriter", "listHolds", "(I)Z"⟩ : MethodName), prog_1_method_79_code, 4, (some .boolean), ({ frames := 2, cells := 0, slots := 0, locals := 33 } : Room))
theorem d50_0 : DAt B50 0 (.aload_n 0) 1 1 := by decide +kernel
theorem d50_1 : DAt B50 1 (.getfield 138) 3 4 := by decide +kernel
theorem d50_4 : DAt B50 4 (.iload_n 1) 1 5 := by decide +kernel
theorem d50_5 : DAt B50 5 (.iaload) 1 6 := by decide +kernel
theorem d50_6 : DAt B50 6 (.istore_n 2) 1 7 := by decide +kernel
theorem d50_7 : DAt B50 7 (.iconst 0) 1 8 := by decide +kernel
theorem d50_8 : DAt B50 8 (.istore_n 3) 1 9 := by decide +kernel
theorem d50_9 : DAt B50 9 (.iload_n 3) 1 10 := by decide +kernel
theorem d50_10 : DAt B50 10 (.sipush 512) 3 13 := by decide +kernel
theorem d50_13 : DAt B50 13 (.if_icmp .ge 60) 3 16 := by decide +kernel
theorem d50_16 : DAt B50 16 (.iload_n 2) 1 17 := by decide +kernel
theorem d50_17 : DAt B50 17 (.ifCond .lt 56) 3 20 := by decide +kernel
theorem d50_20 : DAt B50 20 (.iload_n 2) 1 21 := by decide +kernel
theorem d50_21 : DAt B50 21 (.sipush 512) 3 24 := by decide +kernel
theorem d50_24 : DAt B50 24 (.if_icmp .ge 49) 3 27 := by decide +kernel
theorem d50_27 : DAt B50 27 (.aload_n 0) 1 28 := by decide +kernel
theorem d50_28 : DAt B50 28 (.aload_n 0) 1 29 := by decide +kernel
theorem d50_29 : DAt B50 29 (.getfield 141) 3 32 := by decide +kernel
theorem d50_32 : DAt B50 32 (.iload_n 2) 1 33 := by decide +kernel
theorem d50_33 : DAt B50 33 (.iaload) 1 34 := by decide +kernel
theorem d50_34 : DAt B50 34 (.aload_n 0) 1 35 := by decide +kernel
theorem d50_35 : DAt B50 35 (.getfield 144) 3 38 := by decide +kernel
theorem d50_38 : DAt B50 38 (.iload_n 2) 1 39 := by decide +kernel
theorem d50_39 : DAt B50 39 (.iaload) 1 40 := by decide +kernel
theorem d50_40 : DAt B50 40 (.aload_n 0) 1 41 := by decide +kernel
theorem d50_41 : DAt B50 41 (.getfield 147) 3 44 := by decide +kernel
theorem d50_44 : DAt B50 44 (.iload_n 2) 1 45 := by decide +kernel
theorem d50_45 : DAt B50 45 (.iaload) 1 46 := by decide +kernel
theorem d50_46 : DAt B50 46 (.aload_n 0) 1 47 := by decide +kernel
theorem d50_47 : DAt B50 47 (.getfield 150) 3 50 := by decide +kernel
theorem d50_50 : DAt B50 50 (.iload_n 2) 1 51 := by decide +kernel
theorem d50_51 : DAt B50 51 (.iaload) 1 52 := by decide +kernel
theorem d50_52 : DAt B50 52 (.invokevirtual 247) 3 55 := by decide +kernel
theorem d50_55 : DAt B50 55 (.ifCond .ne 5) 3 58 := by decide +kernel
theorem d50_58 : DAt B50 58 (.iconst 0) 1 59 := by decide +kernel
theorem d50_59 : DAt B50 59 (.ireturn) 1 60 := by decide +kernel
theorem d50_60 : DAt B50 60 (.aload_n 0) 1 61 := by decide +kernel
theorem d50_61 : DAt B50 61 (.getfield 153) 3 64 := by decide +kernel
theorem d50_64 : DAt B50 64 (.iload_n 2) 1 65 := by decide +kernel
theorem d50_65 : DAt B50 65 (.iaload) 1 66 := by decide +kernel
theorem d50_66 : DAt B50 66 (.istore_n 2) 1 67 := by decide +kernel
theorem d50_67 : DAt B50 67 (.iinc 3 1) 3 70 := by decide +kernel
theorem d50_70 : DAt B50 70 (.goto (-61)) 3 73 := by decide +kernel
theorem d50_73 : DAt B50 73 (.iconst 1) 1 74 := by decide +kernel
theorem d50_74 : DAt B50 74 (.ireturn) 1 75 := by decide +kernel
def B54 : Bdy := ((⟨"QueryRewriter", "emitMapped", "(II)I"⟩ : MethodName), prog_1_method_80_code, 5, (some .int), ({ frames := 1, cells := 0, slots := 0, locals := 15 } : Room))
theorem d54_0 : DAt B54 0 (.iload_n 2) 1 1 := by decide +kernel
theorem d54_1 : DAt B54 1 (.bipush 64) 2 3 := by decide +kernel
theorem d54_3 : DAt B54 3 (.if_icmp .lt 5) 3 6 := by decide +kernel
theorem d54_6 : DAt B54 6 (.iload_n 2) 1 7 := by decide +kernel
theorem d54_7 : DAt B54 7 (.ireturn) 1 8 := by decide +kernel
theorem d54_8 : DAt B54 8 (.iload_n 1) 1 9 := by decide +kernel
theorem d54_9 : DAt B54 9 (.sipush 512) 3 12 := by decide +kernel
theorem d54_12 : DAt B54 12 (.imul) 1 13 := by decide +kernel
theorem d54_13 : DAt B54 13 (.iload_n 2) 1 14 := by decide +kernel
theorem d54_14 : DAt B54 14 (.bipush 8) 2 16 := by decide +kernel
theorem d54_16 : DAt B54 16 (.imul) 1 17 := by decide +kernel
theorem d54_17 : DAt B54 17 (.iadd) 1 18 := by decide +kernel
theorem d54_18 : DAt B54 18 (.istore_n 3) 1 19 := by decide +kernel
theorem d54_19 : DAt B54 19 (.iconst 0) 1 20 := by decide +kernel
theorem d54_20 : DAt B54 20 (.istore 4) 2 22 := by decide +kernel
theorem d54_22 : DAt B54 22 (.iload 4) 2 24 := by decide +kernel
theorem d54_24 : DAt B54 24 (.aload_n 0) 1 25 := by decide +kernel
theorem d54_25 : DAt B54 25 (.getfield 126) 3 28 := by decide +kernel
theorem d54_28 : DAt B54 28 (.iload_n 1) 1 29 := by decide +kernel
theorem d54_29 : DAt B54 29 (.iaload) 1 30 := by decide +kernel
theorem d54_30 : DAt B54 30 (.if_icmp .ge 41) 3 33 := by decide +kernel
theorem d54_33 : DAt B54 33 (.iload 4) 2 35 := by decide +kernel
theorem d54_35 : DAt B54 35 (.bipush 8) 2 37 := by decide +kernel
theorem d54_37 : DAt B54 37 (.if_icmp .ge 34) 3 40 := by decide +kernel
theorem d54_40 : DAt B54 40 (.aload_n 0) 1 41 := by decide +kernel
theorem d54_41 : DAt B54 41 (.getfield 99) 3 44 := by decide +kernel
theorem d54_44 : DAt B54 44 (.iload_n 3) 1 45 := by decide +kernel
theorem d54_45 : DAt B54 45 (.iload 4) 2 47 := by decide +kernel
theorem d54_47 : DAt B54 47 (.iadd) 1 48 := by decide +kernel
theorem d54_48 : DAt B54 48 (.aload_n 0) 1 49 := by decide +kernel
theorem d54_49 : DAt B54 49 (.aload_n 0) 1 50 := by decide +kernel
theorem d54_50 : DAt B54 50 (.getfield 129) 3 53 := by decide +kernel
theorem d54_53 : DAt B54 53 (.iload_n 1) 1 54 := by decide +kernel
theorem d54_54 : DAt B54 54 (.bipush 8) 2 56 := by decide +kernel
theorem d54_56 : DAt B54 56 (.imul) 1 57 := by decide +kernel
theorem d54_57 : DAt B54 57 (.iload 4) 2 59 := by decide +kernel
theorem d54_59 : DAt B54 59 (.iadd) 1 60 := by decide +kernel
theorem d54_60 : DAt B54 60 (.iaload) 1 61 := by decide +kernel
theorem d54_61 : DAt B54 61 (.invokevirtual 240) 3 64 := by decide +kernel
theorem d54_64 : DAt B54 64 (.iastore) 1 65 := by decide +kernel
theorem d54_65 : DAt B54 65 (.iinc 4 1) 3 68 := by decide +kernel
theorem d54_68 : DAt B54 68 (.goto (-46)) 3 71 := by decide +kernel
theorem d54_71 : DAt B54 71 (.iload_n 2) 1 72 := by decide +kernel
theorem d54_72 : DAt B54 72 (.iconst 1) 1 73 := by decide +kernel
theorem d54_73 : DAt B54 73 (.iadd) 1 74 := by decide +kernel
theorem d54_74 : DAt B54 74 (.ireturn) 1 75 := by decide +kernel
def B48 : Bdy := ((⟨"QueryRewriter", "evalPlanScan", "(I)V"⟩ : MethodName), prog_1_method_81_code, 5, none, ({ frames := 3, cells := 0, slots := 0, locals := 48 } : Room))
theorem d48_0 : DAt B48 0 (.aload_n 0) 1 1 := by decide +kernel
theorem d48_1 : DAt B48 1 (.getfield 114) 3 4 := by decide +kernel
theorem d48_4 : DAt B48 4 (.iload_n 1) 1 5 := by decide +kernel
theorem d48_5 : DAt B48 5 (.iaload) 1 6 := by decide +kernel
theorem d48_6 : DAt B48 6 (.iconst 3) 1 7 := by decide +kernel
theorem d48_7 : DAt B48 7 (.iand) 1 8 := by decide +kernel
theorem d48_8 : DAt B48 8 (.istore_n 2) 1 9 := by decide +kernel
theorem d48_9 : DAt B48 9 (.iconst 0) 1 10 := by decide +kernel
theorem d48_10 : DAt B48 10 (.istore_n 3) 1 11 := by decide +kernel
theorem d48_11 : DAt B48 11 (.iconst 0) 1 12 := by decide +kernel
theorem d48_12 : DAt B48 12 (.istore 4) 2 14 := by decide +kernel
theorem d48_14 : DAt B48 14 (.iload 4) 2 16 := by decide +kernel
theorem d48_16 : DAt B48 16 (.aload_n 0) 1 17 := by decide +kernel
theorem d48_17 : DAt B48 17 (.getfield 35) 3 20 := by decide +kernel
theorem d48_20 : DAt B48 20 (.iload_n 2) 1 21 := by decide +kernel
theorem d48_21 : DAt B48 21 (.iaload) 1 22 := by decide +kernel
theorem d48_22 : DAt B48 22 (.if_icmp .ge 40) 3 25 := by decide +kernel
theorem d48_25 : DAt B48 25 (.iload 4) 2 27 := by decide +kernel
theorem d48_27 : DAt B48 27 (.bipush 8) 2 29 := by decide +kernel
theorem d48_29 : DAt B48 29 (.if_icmp .ge 33) 3 32 := by decide +kernel
theorem d48_32 : DAt B48 32 (.aload_n 0) 1 33 := by decide +kernel
theorem d48_33 : DAt B48 33 (.iload_n 2) 1 34 := by decide +kernel
theorem d48_34 : DAt B48 34 (.iload 4) 2 36 := by decide +kernel
theorem d48_36 : DAt B48 36 (.invokevirtual 407) 3 39 := by decide +kernel
theorem d48_39 : DAt B48 39 (.aload_n 0) 1 40 := by decide +kernel
theorem d48_40 : DAt B48 40 (.iconst 2) 1 41 := by decide +kernel
theorem d48_41 : DAt B48 41 (.iload_n 1) 1 42 := by decide +kernel
theorem d48_42 : DAt B48 42 (.imul) 1 43 := by decide +kernel
theorem d48_43 : DAt B48 43 (.invokevirtual 410) 3 46 := by decide +kernel
theorem d48_46 : DAt B48 46 (.ifCond .eq 10) 3 49 := by decide +kernel
theorem d48_49 : DAt B48 49 (.aload_n 0) 1 50 := by decide +kernel
theorem d48_50 : DAt B48 50 (.iload_n 1) 1 51 := by decide +kernel
theorem d48_51 : DAt B48 51 (.iload_n 3) 1 52 := by decide +kernel
theorem d48_52 : DAt B48 52 (.invokevirtual 413) 3 55 := by decide +kernel
theorem d48_55 : DAt B48 55 (.istore_n 3) 1 56 := by decide +kernel
theorem d48_56 : DAt B48 56 (.iinc 4 1) 3 59 := by decide +kernel
theorem d48_59 : DAt B48 59 (.goto (-45)) 3 62 := by decide +kernel
theorem d48_62 : DAt B48 62 (.aload_n 0) 1 63 := by decide +kernel
theorem d48_63 : DAt B48 63 (.getfield 102) 3 66 := by decide +kernel
theorem d48_66 : DAt B48 66 (.iload_n 1) 1 67 := by decide +kernel
theorem d48_67 : DAt B48 67 (.iload_n 3) 1 68 := by decide +kernel
theorem d48_68 : DAt B48 68 (.iastore) 1 69 := by decide +kernel
theorem d48_69 : DAt B48 69 (.return_) 1 70 := by decide +kernel
def B56 : Bdy := ((⟨"QueryRewriter", "loadRow", "(IIII)V"⟩ : MethodName), prog_1_method_34_code, 7, none, ({ frames := 0, cells := 0, slots := 0, locals := 0 } : Room))
theorem d56_0 : DAt B56 0 (.iload_n 1) 1 1 := by decide +kernel
theorem d56_1 : DAt B56 1 (.sipush 512) 3 4 := by decide +kernel
theorem d56_4 : DAt B56 4 (.imul) 1 5 := by decide +kernel
theorem d56_5 : DAt B56 5 (.iload_n 2) 1 6 := by decide +kernel
theorem d56_6 : DAt B56 6 (.bipush 8) 2 8 := by decide +kernel
theorem d56_8 : DAt B56 8 (.imul) 1 9 := by decide +kernel
theorem d56_9 : DAt B56 9 (.iadd) 1 10 := by decide +kernel
theorem d56_10 : DAt B56 10 (.istore 5) 2 12 := by decide +kernel
theorem d56_12 : DAt B56 12 (.iconst 0) 1 13 := by decide +kernel
theorem d56_13 : DAt B56 13 (.istore 6) 2 15 := by decide +kernel
theorem d56_15 : DAt B56 15 (.iload 6) 2 17 := by decide +kernel
theorem d56_17 : DAt B56 17 (.iload_n 3) 1 18 := by decide +kernel
theorem d56_18 : DAt B56 18 (.if_icmp .ge 54) 3 21 := by decide +kernel
theorem d56_21 : DAt B56 21 (.iload 6) 2 23 := by decide +kernel
theorem d56_23 : DAt B56 23 (.bipush 8) 2 25 := by decide +kernel
theorem d56_25 : DAt B56 25 (.if_icmp .ge 47) 3 28 := by decide +kernel
theorem d56_28 : DAt B56 28 (.iload 4) 2 30 := by decide +kernel
theorem d56_30 : DAt B56 30 (.iload 6) 2 32 := by decide +kernel
theorem d56_32 : DAt B56 32 (.iadd) 1 33 := by decide +kernel
theorem d56_33 : DAt B56 33 (.ifCond .lt 33) 3 36 := by decide +kernel
theorem d56_36 : DAt B56 36 (.iload 4) 2 38 := by decide +kernel
theorem d56_38 : DAt B56 38 (.iload 6) 2 40 := by decide +kernel
theorem d56_40 : DAt B56 40 (.iadd) 1 41 := by decide +kernel
theorem d56_41 : DAt B56 41 (.bipush 16) 2 43 := by decide +kernel
theorem d56_43 : DAt B56 43 (.if_icmp .ge 23) 3 46 := by decide +kernel
theorem d56_46 : DAt B56 46 (.aload_n 0) 1 47 := by decide +kernel
theorem d56_47 : DAt B56 47 (.getfield 105) 3 50 := by decide +kernel
theorem d56_50 : DAt B56 50 (.iload 4) 2 52 := by decide +kernel
theorem d56_52 : DAt B56 52 (.iload 6) 2 54 := by decide +kernel
theorem d56_54 : DAt B56 54 (.iadd) 1 55 := by decide +kernel
theorem d56_55 : DAt B56 55 (.aload_n 0) 1 56 := by decide +kernel
theorem d56_56 : DAt B56 56 (.getfield 99) 3 59 := by decide +kernel
theorem d56_59 : DAt B56 59 (.iload 5) 2 61 := by decide +kernel
theorem d56_61 : DAt B56 61 (.iload 6) 2 63 := by decide +kernel
theorem d56_63 : DAt B56 63 (.iadd) 1 64 := by decide +kernel
theorem d56_64 : DAt B56 64 (.iaload) 1 65 := by decide +kernel
theorem d56_65 : DAt B56 65 (.iastore) 1 66 := by decide +kernel
theorem d56_66 : DAt B56 66 (.iinc 6 1) 3 69 := by decide +kernel
theorem d56_69 : DAt B56 69 (.goto (-54)) 3 72 := by decide +kernel
theorem d56_72 : DAt B56 72 (.return_) 1 73 := by decide +kernel
def B58 : Bdy := ((⟨"QueryRewriter", "emitFiltered", "(II)I"⟩ : MethodName), prog_1_method_83_code, 3, (some .int), ({ frames := 3, cells := 0, slots := 0, locals := 48 } : Room))
theorem d58_0 : DAt B58 0 (.aload_n 0) 1 1 := by decide +kernel
theorem d58_1 : DAt B58 1 (.iconst 2) 1 2 := by decide +kernel
theorem d58_2 : DAt B58 2 (.iload_n 1) 1 3 := by decide +kernel
theorem d58_3 : DAt B58 3 (.imul) 1 4 := by decide +kernel
theorem d58_4 : DAt B58 4 (.invokevirtual 410) 3 7 := by decide +kernel
theorem d58_7 : DAt B58 7 (.ifCond .ne 5) 3 10 := by decide +kernel
theorem d58_10 : DAt B58 10 (.iload_n 2) 1 11 := by decide +kernel
theorem d58_11 : DAt B58 11 (.ireturn) 1 12 := by decide +kernel
theorem d58_12 : DAt B58 12 (.aload_n 0) 1 13 := by decide +kernel
theorem d58_13 : DAt B58 13 (.iload_n 1) 1 14 := by decide +kernel
theorem d58_14 : DAt B58 14 (.iload_n 2) 1 15 := by decide +kernel
theorem d58_15 : DAt B58 15 (.invokevirtual 413) 3 18 := by decide +kernel
theorem d58_18 : DAt B58 18 (.ireturn) 1 19 := by decide +kernel
def B57 : Bdy := ((⟨"QueryRewriter", "fillNull", "(II)V"⟩ : MethodName), prog_1_method_36_code, 4, none, ({ frames := 0, cells := 0, slots := 0, locals := 0 } : Room))
theorem d57_0 : DAt B57 0 (.iconst 0) 1 1 := by decide +kernel
theorem d57_1 : DAt B57 1 (.istore_n 3) 1 2 := by decide +kernel
theorem d57_2 : DAt B57 2 (.iload_n 3) 1 3 := by decide +kernel
theorem d57_3 : DAt B57 3 (.iload_n 2) 1 4 := by decide +kernel
theorem d57_4 : DAt B57 4 (.if_icmp .ge 39) 3 7 := by decide +kernel
theorem d57_7 : DAt B57 7 (.iload_n 3) 1 8 := by decide +kernel
theorem d57_8 : DAt B57 8 (.bipush 8) 2 10 := by decide +kernel
theorem d57_10 : DAt B57 10 (.if_icmp .ge 33) 3 13 := by decide +kernel
theorem d57_13 : DAt B57 13 (.iload_n 1) 1 14 := by decide +kernel
theorem d57_14 : DAt B57 14 (.iload_n 3) 1 15 := by decide +kernel
theorem d57_15 : DAt B57 15 (.iadd) 1 16 := by decide +kernel
theorem d57_16 : DAt B57 16 (.ifCond .lt 21) 3 19 := by decide +kernel
theorem d57_19 : DAt B57 19 (.iload_n 1) 1 20 := by decide +kernel
theorem d57_20 : DAt B57 20 (.iload_n 3) 1 21 := by decide +kernel
theorem d57_21 : DAt B57 21 (.iadd) 1 22 := by decide +kernel
theorem d57_22 : DAt B57 22 (.bipush 16) 2 24 := by decide +kernel
theorem d57_24 : DAt B57 24 (.if_icmp .ge 13) 3 27 := by decide +kernel
theorem d57_27 : DAt B57 27 (.aload_n 0) 1 28 := by decide +kernel
theorem d57_28 : DAt B57 28 (.getfield 105) 3 31 := by decide +kernel
theorem d57_31 : DAt B57 31 (.iload_n 1) 1 32 := by decide +kernel
theorem d57_32 : DAt B57 32 (.iload_n 3) 1 33 := by decide +kernel
theorem d57_33 : DAt B57 33 (.iadd) 1 34 := by decide +kernel
theorem d57_34 : DAt B57 34 (.ldc 239) 2 36 := by decide +kernel
theorem d57_36 : DAt B57 36 (.iastore) 1 37 := by decide +kernel
theorem d57_37 : DAt B57 37 (.iinc 3 1) 3 40 := by decide +kernel
theorem d57_40 : DAt B57 40 (.goto (-38)) 3 43 := by decide +kernel
theorem d57_43 : DAt B57 43 (.return_) 1 44 := by decide +kernel
def B55 : Bdy := ((⟨"QueryRewriter", "evalPlanJoin", "(I)V"⟩ : MethodName), prog_1_method_82_code, 11, none, ({ frames := 4, cells := 0, slots := 0, locals := 62 } : Room))
theorem d55_0 : DAt B55 0 (.aload_n 0) 1 1 := by decide +kernel
theorem d55_1 : DAt B55 1 (.getfield 117) 3 4 := by decide +kernel
theorem d55_4 : DAt B55 4 (.iload_n 1) 1 5 := by decide +kernel
theorem d55_5 : DAt B55 5 (.iaload) 1 6 := by decide +kernel
theorem d55_6 : DAt B55 6 (.istore_n 2) 1 7 := by decide +kernel
theorem d55_7 : DAt B55 7 (.aload_n 0) 1 8 := by decide +kernel
theorem d55_8 : DAt B55 8 (.getfield 120) 3 11 := by decide +kernel
theorem d55_11 : DAt B55 11 (.iload_n 1) 1 12 := by decide +kernel
theorem d55_12 : DAt B55 12 (.iaload) 1 13 := by decide +kernel
theorem d55_13 : DAt B55 13 (.istore_n 3) 1 14 := by decide +kernel
theorem d55_14 : DAt B55 14 (.aload_n 0) 1 15 := by decide +kernel
theorem d55_15 : DAt B55 15 (.getfield 126) 3 18 := by decide +kernel
theorem d55_18 : DAt B55 18 (.iload_n 2) 1 19 := by decide +kernel
theorem d55_19 : DAt B55 19 (.iaload) 1 20 := by decide +kernel
theorem d55_20 : DAt B55 20 (.istore 4) 2 22 := by decide +kernel
theorem d55_22 : DAt B55 22 (.aload_n 0) 1 23 := by decide +kernel
theorem d55_23 : DAt B55 23 (.getfield 126) 3 26 := by decide +kernel
theorem d55_26 : DAt B55 26 (.iload_n 3) 1 27 := by decide +kernel
theorem d55_27 : DAt B55 27 (.iaload) 1 28 := by decide +kernel
theorem d55_28 : DAt B55 28 (.istore 5) 2 30 := by decide +kernel
theorem d55_30 : DAt B55 30 (.aload_n 0) 1 31 := by decide +kernel
theorem d55_31 : DAt B55 31 (.getfield 123) 3 34 := by decide +kernel
theorem d55_34 : DAt B55 34 (.iload_n 1) 1 35 := by decide +kernel
theorem d55_35 : DAt B55 35 (.iaload) 1 36 := by decide +kernel
theorem d55_36 : DAt B55 36 (.iconst 1) 1 37 := by decide +kernel
theorem d55_37 : DAt B55 37 (.if_icmp .ne 7) 3 40 := by decide +kernel
theorem d55_40 : DAt B55 40 (.iconst 1) 1 41 := by decide +kernel
theorem d55_41 : DAt B55 41 (.goto 4) 3 44 := by decide +kernel
theorem d55_44 : DAt B55 44 (.iconst 0) 1 45 := by decide +kernel
theorem d55_45 : DAt B55 45 (.istore 6) 2 47 := by decide +kernel
theorem d55_47 : DAt B55 47 (.iconst 0) 1 48 := by decide +kernel
theorem d55_48 : DAt B55 48 (.istore 7) 2 50 := by decide +kernel
theorem d55_50 : DAt B55 50 (.iconst 0) 1 51 := by decide +kernel
theorem d55_51 : DAt B55 51 (.istore 8) 2 53 := by decide +kernel
theorem d55_53 : DAt B55 53 (.iload 8) 2 55 := by decide +kernel
theorem d55_55 : DAt B55 55 (.aload_n 0) 1 56 := by decide +kernel
theorem d55_56 : DAt B55 56 (.getfield 102) 3 59 := by decide +kernel
theorem d55_59 : DAt B55 59 (.iload_n 2) 1 60 := by decide +kernel
theorem d55_60 : DAt B55 60 (.iaload) 1 61 := by decide +kernel
theorem d55_61 : DAt B55 61 (.if_icmp .ge 118) 3 64 := by decide +kernel
theorem d55_64 : DAt B55 64 (.iload 8) 2 66 := by decide +kernel
theorem d55_66 : DAt B55 66 (.bipush 64) 2 68 := by decide +kernel
theorem d55_68 : DAt B55 68 (.if_icmp .ge 111) 3 71 := by decide +kernel
theorem d55_71 : DAt B55 71 (.aload_n 0) 1 72 := by decide +kernel
theorem d55_72 : DAt B55 72 (.iload_n 2) 1 73 := by decide +kernel
theorem d55_73 : DAt B55 73 (.iload 8) 2 75 := by decide +kernel
theorem d55_75 : DAt B55 75 (.iload 4) 2 77 := by decide +kernel
theorem d55_77 : DAt B55 77 (.iconst 0) 1 78 := by decide +kernel
theorem d55_78 : DAt B55 78 (.invokevirtual 272) 3 81 := by decide +kernel
theorem d55_81 : DAt B55 81 (.iconst 0) 1 82 := by decide +kernel
theorem d55_82 : DAt B55 82 (.istore 9) 2 84 := by decide +kernel
theorem d55_84 : DAt B55 84 (.iconst 0) 1 85 := by decide +kernel
theorem d55_85 : DAt B55 85 (.istore 10) 2 87 := by decide +kernel
theorem d55_87 : DAt B55 87 (.iload 10) 2 89 := by decide +kernel
theorem d55_89 : DAt B55 89 (.aload_n 0) 1 90 := by decide +kernel
theorem d55_90 : DAt B55 90 (.getfield 102) 3 93 := by decide +kernel
theorem d55_93 : DAt B55 93 (.iload_n 3) 1 94 := by decide +kernel
theorem d55_94 : DAt B55 94 (.iaload) 1 95 := by decide +kernel
theorem d55_95 : DAt B55 95 (.if_icmp .ge 51) 3 98 := by decide +kernel
theorem d55_98 : DAt B55 98 (.iload 10) 2 100 := by decide +kernel
theorem d55_100 : DAt B55 100 (.bipush 64) 2 102 := by decide +kernel
theorem d55_102 : DAt B55 102 (.if_icmp .ge 44) 3 105 := by decide +kernel
theorem d55_105 : DAt B55 105 (.aload_n 0) 1 106 := by decide +kernel
theorem d55_106 : DAt B55 106 (.iload_n 3) 1 107 := by decide +kernel
theorem d55_107 : DAt B55 107 (.iload 10) 2 109 := by decide +kernel
theorem d55_109 : DAt B55 109 (.iload 5) 2 111 := by decide +kernel
theorem d55_111 : DAt B55 111 (.iload 4) 2 113 := by decide +kernel
theorem d55_113 : DAt B55 113 (.invokevirtual 272) 3 116 := by decide +kernel
theorem d55_116 : DAt B55 116 (.aload_n 0) 1 117 := by decide +kernel
theorem d55_117 : DAt B55 117 (.iconst 2) 1 118 := by decide +kernel
theorem d55_118 : DAt B55 118 (.iload_n 1) 1 119 := by decide +kernel
theorem d55_119 : DAt B55 119 (.imul) 1 120 := by decide +kernel
theorem d55_120 : DAt B55 120 (.iconst 1) 1 121 := by decide +kernel
theorem d55_121 : DAt B55 121 (.iadd) 1 122 := by decide +kernel
theorem d55_122 : DAt B55 122 (.invokevirtual 410) 3 125 := by decide +kernel
theorem d55_125 : DAt B55 125 (.ifCond .eq 15) 3 128 := by decide +kernel
theorem d55_128 : DAt B55 128 (.iconst 1) 1 129 := by decide +kernel
theorem d55_129 : DAt B55 129 (.istore 9) 2 131 := by decide +kernel
theorem d55_131 : DAt B55 131 (.aload_n 0) 1 132 := by decide +kernel
theorem d55_132 : DAt B55 132 (.iload_n 1) 1 133 := by decide +kernel
theorem d55_133 : DAt B55 133 (.iload 7) 2 135 := by decide +kernel
theorem d55_135 : DAt B55 135 (.invokevirtual 416) 3 138 := by decide +kernel
theorem d55_138 : DAt B55 138 (.istore 7) 2 140 := by decide +kernel
theorem d55_140 : DAt B55 140 (.iinc 10 1) 3 143 := by decide +kernel
theorem d55_143 : DAt B55 143 (.goto (-56)) 3 146 := by decide +kernel
theorem d55_146 : DAt B55 146 (.iload 6) 2 148 := by decide +kernel
theorem d55_148 : DAt B55 148 (.ifCond .eq 25) 3 151 := by decide +kernel
theorem d55_151 : DAt B55 151 (.iload 9) 2 153 := by decide +kernel
theorem d55_153 : DAt B55 153 (.ifCond .ne 20) 3 156 := by decide +kernel
theorem d55_156 : DAt B55 156 (.aload_n 0) 1 157 := by decide +kernel
theorem d55_157 : DAt B55 157 (.iload 4) 2 159 := by decide +kernel
theorem d55_159 : DAt B55 159 (.iload 5) 2 161 := by decide +kernel
theorem d55_161 : DAt B55 161 (.invokevirtual 282) 3 164 := by decide +kernel
theorem d55_164 : DAt B55 164 (.aload_n 0) 1 165 := by decide +kernel
theorem d55_165 : DAt B55 165 (.iload_n 1) 1 166 := by decide +kernel
theorem d55_166 : DAt B55 166 (.iload 7) 2 168 := by decide +kernel
theorem d55_168 : DAt B55 168 (.invokevirtual 416) 3 171 := by decide +kernel
theorem d55_171 : DAt B55 171 (.istore 7) 2 173 := by decide +kernel
theorem d55_173 : DAt B55 173 (.iinc 8 1) 3 176 := by decide +kernel
theorem d55_176 : DAt B55 176 (.goto (-123)) 3 179 := by decide +kernel
theorem d55_179 : DAt B55 179 (.aload_n 0) 1 180 := by decide +kernel
theorem d55_180 : DAt B55 180 (.getfield 102) 3 183 := by decide +kernel
theorem d55_183 : DAt B55 183 (.iload_n 1) 1 184 := by decide +kernel
theorem d55_184 : DAt B55 184 (.iload 7) 2 186 := by decide +kernel
theorem d55_186 : DAt B55 186 (.iastore) 1 187 := by decide +kernel
theorem d55_187 : DAt B55 187 (.return_) 1 188 := by decide +kernel
def B47 : Bdy := ((⟨"QueryRewriter", "evalPlanAll", "()V"⟩ : MethodName), prog_1_method_78_code, 2, none, ({ frames := 5, cells := 0, slots := 0, locals := 84 } : Room))
theorem d47_0 : DAt B47 0 (.iconst 0) 1 1 := by decide +kernel
theorem d47_1 : DAt B47 1 (.istore_n 1) 1 2 := by decide +kernel
theorem d47_2 : DAt B47 2 (.iload_n 1) 1 3 := by decide +kernel
theorem d47_3 : DAt B47 3 (.aload_n 0) 1 4 := by decide +kernel
theorem d47_4 : DAt B47 4 (.getfield 288) 3 7 := by decide +kernel
theorem d47_7 : DAt B47 7 (.if_icmp .ge 56) 3 10 := by decide +kernel
theorem d47_10 : DAt B47 10 (.iload_n 1) 1 11 := by decide +kernel
theorem d47_11 : DAt B47 11 (.bipush 16) 2 13 := by decide +kernel
theorem d47_13 : DAt B47 13 (.if_icmp .ge 50) 3 16 := by decide +kernel
theorem d47_16 : DAt B47 16 (.aload_n 0) 1 17 := by decide +kernel
theorem d47_17 : DAt B47 17 (.getfield 102) 3 20 := by decide +kernel
theorem d47_20 : DAt B47 20 (.iload_n 1) 1 21 := by decide +kernel
theorem d47_21 : DAt B47 21 (.iconst 0) 1 22 := by decide +kernel
theorem d47_22 : DAt B47 22 (.iastore) 1 23 := by decide +kernel
theorem d47_23 : DAt B47 23 (.aload_n 0) 1 24 := by decide +kernel
theorem d47_24 : DAt B47 24 (.getfield 135) 3 27 := by decide +kernel
theorem d47_27 : DAt B47 27 (.iload_n 1) 1 28 := by decide +kernel
theorem d47_28 : DAt B47 28 (.baload) 1 29 := by decide +kernel
theorem d47_29 : DAt B47 29 (.ifCond .eq 6) 3 32 := by decide +kernel
theorem d47_32 : DAt B47 32 (.goto 25) 3 35 := by decide +kernel
theorem d47_35 : DAt B47 35 (.aload_n 0) 1 36 := by decide +kernel
theorem d47_36 : DAt B47 36 (.getfield 111) 3 39 := by decide +kernel
theorem d47_39 : DAt B47 39 (.iload_n 1) 1 40 := by decide +kernel
theorem d47_40 : DAt B47 40 (.iaload) 1 41 := by decide +kernel
theorem d47_41 : DAt B47 41 (.ifCond .ne 11) 3 44 := by decide +kernel
theorem d47_44 : DAt B47 44 (.aload_n 0) 1 45 := by decide +kernel
theorem d47_45 : DAt B47 45 (.iload_n 1) 1 46 := by decide +kernel
theorem d47_46 : DAt B47 46 (.invokevirtual 401) 3 49 := by decide +kernel
theorem d47_49 : DAt B47 49 (.goto 8) 3 52 := by decide +kernel
theorem d47_52 : DAt B47 52 (.aload_n 0) 1 53 := by decide +kernel
theorem d47_53 : DAt B47 53 (.iload_n 1) 1 54 := by decide +kernel
theorem d47_54 : DAt B47 54 (.invokevirtual 404) 3 57 := by decide +kernel
theorem d47_57 : DAt B47 57 (.iinc 1 1) 3 60 := by decide +kernel
theorem d47_60 : DAt B47 60 (.goto (-58)) 3 63 := by decide +kernel
theorem d47_63 : DAt B47 63 (.return_) 1 64 := by decide +kernel
def B17 : Bdy := ((⟨"QueryRewriter", "runRewritten", "(I)I"⟩ : MethodName), prog_1_method_46_code, 3, (some .int), ({ frames := 6, cells := 0, slots := 0, locals := 97 } : Room))
theorem d17_0 : DAt B17 0 (.aload_n 0) 1 1 := by decide +kernel
theorem d17_1 : DAt B17 1 (.iload_n 1) 1 2 := by decide +kernel
theorem d17_2 : DAt B17 2 (.invokevirtual 285) 3 5 := by decide +kernel
theorem d17_5 : DAt B17 5 (.ifCond .ne 5) 3 8 := by decide +kernel
theorem d17_8 : DAt B17 8 (.iconst (-1)) 1 9 := by decide +kernel
theorem d17_9 : DAt B17 9 (.ireturn) 1 10 := by decide +kernel
theorem d17_10 : DAt B17 10 (.aload_n 0) 1 11 := by decide +kernel
theorem d17_11 : DAt B17 11 (.getfield 288) 3 14 := by decide +kernel
theorem d17_14 : DAt B17 14 (.iconst 1) 1 15 := by decide +kernel
theorem d17_15 : DAt B17 15 (.isub) 1 16 := by decide +kernel
theorem d17_16 : DAt B17 16 (.istore_n 2) 1 17 := by decide +kernel
theorem d17_17 : DAt B17 17 (.aload_n 0) 1 18 := by decide +kernel
theorem d17_18 : DAt B17 18 (.getfield 162) 3 21 := by decide +kernel
theorem d17_21 : DAt B17 21 (.iconst 0) 1 22 := by decide +kernel
theorem d17_22 : DAt B17 22 (.iaload) 1 23 := by decide +kernel
theorem d17_23 : DAt B17 23 (.iload_n 2) 1 24 := by decide +kernel
theorem d17_24 : DAt B17 24 (.if_icmp .ne 18) 3 27 := by decide +kernel
theorem d17_27 : DAt B17 27 (.aload_n 0) 1 28 := by decide +kernel
theorem d17_28 : DAt B17 28 (.getfield 126) 3 31 := by decide +kernel
theorem d17_31 : DAt B17 31 (.iload_n 2) 1 32 := by decide +kernel
theorem d17_32 : DAt B17 32 (.iaload) 1 33 := by decide +kernel
theorem d17_33 : DAt B17 33 (.aload_n 0) 1 34 := by decide +kernel
theorem d17_34 : DAt B17 34 (.getfield 56) 3 37 := by decide +kernel
theorem d17_37 : DAt B17 37 (.iload_n 1) 1 38 := by decide +kernel
theorem d17_38 : DAt B17 38 (.iaload) 1 39 := by decide +kernel
theorem d17_39 : DAt B17 39 (.if_icmp .eq 5) 3 42 := by decide +kernel
theorem d17_42 : DAt B17 42 (.iconst (-1)) 1 43 := by decide +kernel
theorem d17_43 : DAt B17 43 (.ireturn) 1 44 := by decide +kernel
theorem d17_44 : DAt B17 44 (.aload_n 0) 1 45 := by decide +kernel
theorem d17_45 : DAt B17 45 (.invokevirtual 291) 3 48 := by decide +kernel
theorem d17_48 : DAt B17 48 (.aload_n 0) 1 49 := by decide +kernel
theorem d17_49 : DAt B17 49 (.iload_n 2) 1 50 := by decide +kernel
theorem d17_50 : DAt B17 50 (.invokevirtual 294) 3 53 := by decide +kernel
theorem d17_53 : DAt B17 53 (.aload_n 0) 1 54 := by decide +kernel
theorem d17_54 : DAt B17 54 (.invokevirtual 297) 3 57 := by decide +kernel
theorem d17_57 : DAt B17 57 (.iload_n 2) 1 58 := by decide +kernel
theorem d17_58 : DAt B17 58 (.ireturn) 1 59 := by decide +kernel
def B63 : Bdy := ((⟨"QueryRewriter", "rowLess", "(II)Z"⟩ : MethodName), prog_1_method_28_code, 6, (some .boolean), ({ frames := 0, cells := 0, slots := 0, locals := 0 } : Room))
theorem d63_0 : DAt B63 0 (.iconst 0) 1 1 := by decide +kernel
theorem d63_1 : DAt B63 1 (.istore_n 3) 1 2 := by decide +kernel
theorem d63_2 : DAt B63 2 (.iload_n 3) 1 3 := by decide +kernel
theorem d63_3 : DAt B63 3 (.aload_n 0) 1 4 := by decide +kernel
theorem d63_4 : DAt B63 4 (.getfield 219) 3 7 := by decide +kernel
theorem d63_7 : DAt B63 7 (.if_icmp .ge 61) 3 10 := by decide +kernel
theorem d63_10 : DAt B63 10 (.iload_n 3) 1 11 := by decide +kernel
theorem d63_11 : DAt B63 11 (.bipush 8) 2 13 := by decide +kernel
theorem d63_13 : DAt B63 13 (.if_icmp .ge 55) 3 16 := by decide +kernel
theorem d63_16 : DAt B63 16 (.aload_n 0) 1 17 := by decide +kernel
theorem d63_17 : DAt B63 17 (.getfield 108) 3 20 := by decide +kernel
theorem d63_20 : DAt B63 20 (.iload_n 1) 1 21 := by decide +kernel
theorem d63_21 : DAt B63 21 (.bipush 8) 2 23 := by decide +kernel
theorem d63_23 : DAt B63 23 (.imul) 1 24 := by decide +kernel
theorem d63_24 : DAt B63 24 (.iload_n 3) 1 25 := by decide +kernel
theorem d63_25 : DAt B63 25 (.iadd) 1 26 := by decide +kernel
theorem d63_26 : DAt B63 26 (.iaload) 1 27 := by decide +kernel
theorem d63_27 : DAt B63 27 (.istore 4) 2 29 := by decide +kernel
theorem d63_29 : DAt B63 29 (.aload_n 0) 1 30 := by decide +kernel
theorem d63_30 : DAt B63 30 (.getfield 108) 3 33 := by decide +kernel
theorem d63_33 : DAt B63 33 (.iload_n 2) 1 34 := by decide +kernel
theorem d63_34 : DAt B63 34 (.bipush 8) 2 36 := by decide +kernel
theorem d63_36 : DAt B63 36 (.imul) 1 37 := by decide +kernel
theorem d63_37 : DAt B63 37 (.iload_n 3) 1 38 := by decide +kernel
theorem d63_38 : DAt B63 38 (.iadd) 1 39 := by decide +kernel
theorem d63_39 : DAt B63 39 (.iaload) 1 40 := by decide +kernel
theorem d63_40 : DAt B63 40 (.istore 5) 2 42 := by decide +kernel
theorem d63_42 : DAt B63 42 (.iload 4) 2 44 := by decide +kernel
theorem d63_44 : DAt B63 44 (.iload 5) 2 46 := by decide +kernel
theorem d63_46 : DAt B63 46 (.if_icmp .eq 16) 3 49 := by decide +kernel
theorem d63_49 : DAt B63 49 (.iload 4) 2 51 := by decide +kernel
theorem d63_51 : DAt B63 51 (.iload 5) 2 53 := by decide +kernel
theorem d63_53 : DAt B63 53 (.if_icmp .ge 7) 3 56 := by decide +kernel
theorem d63_56 : DAt B63 56 (.iconst 1) 1 57 := by decide +kernel
theorem d63_57 : DAt B63 57 (.goto 4) 3 60 := by decide +kernel
theorem d63_60 : DAt B63 60 (.iconst 0) 1 61 := by decide +kernel
theorem d63_61 : DAt B63 61 (.ireturn) 1 62 := by decide +kernel
theorem d63_62 : DAt B63 62 (.iinc 3 1) 3 65 := by decide +kernel
theorem d63_65 : DAt B63 65 (.goto (-63)) 3 68 := by decide +kernel
theorem d63_68 : DAt B63 68 (.iconst 0) 1 69 := by decide +kernel
theorem d63_69 : DAt B63 69 (.ireturn) 1 70 := by decide +kernel
def B64 : Bdy := ((⟨"QueryRewriter", "swapRows", "(II)V"⟩ : MethodName), prog_1_method_29_code, 5, none, ({ frames := 0, cells := 0, slots := 0, locals := 0 } : Room))
theorem d64_0 : DAt B64 0 (.iconst 0) 1 1 := by decide +kernel
theorem d64_1 : DAt B64 1 (.istore_n 3) 1 2 := by decide +kernel
theorem d64_2 : DAt B64 2 (.iload_n 3) 1 3 := by decide +kernel
theorem d64_3 : DAt B64 3 (.bipush 8) 2 5 := by decide +kernel
theorem d64_5 : DAt B64 5 (.if_icmp .ge 57) 3 8 := by decide +kernel
theorem d64_8 : DAt B64 8 (.aload_n 0) 1 9 := by decide +kernel
theorem d64_9 : DAt B64 9 (.getfield 108) 3 12 := by decide +kernel
theorem d64_12 : DAt B64 12 (.iload_n 1) 1 13 := by decide +kernel
theorem d64_13 : DAt B64 13 (.bipush 8) 2 15 := by decide +kernel
theorem d64_15 : DAt B64 15 (.imul) 1 16 := by decide +kernel
theorem d64_16 : DAt B64 16 (.iload_n 3) 1 17 := by decide +kernel
theorem d64_17 : DAt B64 17 (.iadd) 1 18 := by decide +kernel
theorem d64_18 : DAt B64 18 (.iaload) 1 19 := by decide +kernel
theorem d64_19 : DAt B64 19 (.istore 4) 2 21 := by decide +kernel
theorem d64_21 : DAt B64 21 (.aload_n 0) 1 22 := by decide +kernel
theorem d64_22 : DAt B64 22 (.getfield 108) 3 25 := by decide +kernel
theorem d64_25 : DAt B64 25 (.iload_n 1) 1 26 := by decide +kernel
theorem d64_26 : DAt B64 26 (.bipush 8) 2 28 := by decide +kernel
theorem d64_28 : DAt B64 28 (.imul) 1 29 := by decide +kernel
theorem d64_29 : DAt B64 29 (.iload_n 3) 1 30 := by decide +kernel
theorem d64_30 : DAt B64 30 (.iadd) 1 31 := by decide +kernel
theorem d64_31 : DAt B64 31 (.aload_n 0) 1 32 := by decide +kernel
theorem d64_32 : DAt B64 32 (.getfield 108) 3 35 := by decide +kernel
theorem d64_35 : DAt B64 35 (.iload_n 2) 1 36 := by decide +kernel
theorem d64_36 : DAt B64 36 (.bipush 8) 2 38 := by decide +kernel
theorem d64_38 : DAt B64 38 (.imul) 1 39 := by decide +kernel
theorem d64_39 : DAt B64 39 (.iload_n 3) 1 40 := by decide +kernel
theorem d64_40 : DAt B64 40 (.iadd) 1 41 := by decide +kernel
theorem d64_41 : DAt B64 41 (.iaload) 1 42 := by decide +kernel
theorem d64_42 : DAt B64 42 (.iastore) 1 43 := by decide +kernel
theorem d64_43 : DAt B64 43 (.aload_n 0) 1 44 := by decide +kernel
theorem d64_44 : DAt B64 44 (.getfield 108) 3 47 := by decide +kernel
theorem d64_47 : DAt B64 47 (.iload_n 2) 1 48 := by decide +kernel
theorem d64_48 : DAt B64 48 (.bipush 8) 2 50 := by decide +kernel
theorem d64_50 : DAt B64 50 (.imul) 1 51 := by decide +kernel
theorem d64_51 : DAt B64 51 (.iload_n 3) 1 52 := by decide +kernel
theorem d64_52 : DAt B64 52 (.iadd) 1 53 := by decide +kernel
theorem d64_53 : DAt B64 53 (.iload 4) 2 55 := by decide +kernel
theorem d64_55 : DAt B64 55 (.iastore) 1 56 := by decide +kernel
theorem d64_56 : DAt B64 56 (.iinc 3 1) 3 59 := by decide +kernel
theorem d64_59 : DAt B64 59 (.goto (-57)) 3 62 := by decide +kernel
theorem d64_62 : DAt B64 62 (.return_) 1 63 := by decide +kernel
def B60 : Bdy := ((⟨"QueryRewriter", "sortResult", "()V"⟩ : MethodName), prog_1_method_27_code, 3, none, ({ frames := 1, cells := 0, slots := 0, locals := 17 } : Room))
theorem d60_0 : DAt B60 0 (.iconst 1) 1 1 := by decide +kernel
theorem d60_1 : DAt B60 1 (.istore_n 1) 1 2 := by decide +kernel
theorem d60_2 : DAt B60 2 (.iload_n 1) 1 3 := by decide +kernel
theorem d60_3 : DAt B60 3 (.aload_n 0) 1 4 := by decide +kernel
theorem d60_4 : DAt B60 4 (.getfield 222) 3 7 := by decide +kernel
theorem d60_7 : DAt B60 7 (.if_icmp .ge 46) 3 10 := by decide +kernel
theorem d60_10 : DAt B60 10 (.iload_n 1) 1 11 := by decide +kernel
theorem d60_11 : DAt B60 11 (.bipush 64) 2 13 := by decide +kernel
theorem d60_13 : DAt B60 13 (.if_icmp .ge 40) 3 16 := by decide +kernel
theorem d60_16 : DAt B60 16 (.iload_n 1) 1 17 := by decide +kernel
theorem d60_17 : DAt B60 17 (.istore_n 2) 1 18 := by decide +kernel
theorem d60_18 : DAt B60 18 (.iload_n 2) 1 19 := by decide +kernel
theorem d60_19 : DAt B60 19 (.ifCond .le 28) 3 22 := by decide +kernel
theorem d60_22 : DAt B60 22 (.aload_n 0) 1 23 := by decide +kernel
theorem d60_23 : DAt B60 23 (.iload_n 2) 1 24 := by decide +kernel
theorem d60_24 : DAt B60 24 (.iload_n 2) 1 25 := by decide +kernel
theorem d60_25 : DAt B60 25 (.iconst 1) 1 26 := by decide +kernel
theorem d60_26 : DAt B60 26 (.isub) 1 27 := by decide +kernel
theorem d60_27 : DAt B60 27 (.invokevirtual 231) 3 30 := by decide +kernel
theorem d60_30 : DAt B60 30 (.ifCond .eq 17) 3 33 := by decide +kernel
theorem d60_33 : DAt B60 33 (.aload_n 0) 1 34 := by decide +kernel
theorem d60_34 : DAt B60 34 (.iload_n 2) 1 35 := by decide +kernel
theorem d60_35 : DAt B60 35 (.iload_n 2) 1 36 := by decide +kernel
theorem d60_36 : DAt B60 36 (.iconst 1) 1 37 := by decide +kernel
theorem d60_37 : DAt B60 37 (.isub) 1 38 := by decide +kernel
theorem d60_38 : DAt B60 38 (.invokevirtual 235) 3 41 := by decide +kernel
theorem d60_41 : DAt B60 41 (.iinc 2 (-1)) 3 44 := by decide +kernel
theorem d60_44 : DAt B60 44 (.goto (-26)) 3 47 := by decide +kernel
theorem d60_47 : DAt B60 47 (.iinc 1 1) 3 50 := by decide +kernel
theorem d60_50 : DAt B60 50 (.goto (-48)) 3 53 := by decide +kernel
theorem d60_53 : DAt B60 53 (.return_) 1 54 := by decide +kernel
def B59 : Bdy := ((⟨"QueryRewriter", "storeResult", "(II)I"⟩ : MethodName), prog_1_method_26_code, 7, (some .int), ({ frames := 2, cells := 0, slots := 0, locals := 31 } : Room))
theorem d59_0 : DAt B59 0 (.aload_n 0) 1 1 := by decide +kernel
theorem d59_1 : DAt B59 1 (.getfield 102) 3 4 := by decide +kernel
theorem d59_4 : DAt B59 4 (.iload_n 1) 1 5 := by decide +kernel
theorem d59_5 : DAt B59 5 (.bipush 31) 2 7 := by decide +kernel
theorem d59_7 : DAt B59 7 (.iand) 1 8 := by decide +kernel
theorem d59_8 : DAt B59 8 (.iaload) 1 9 := by decide +kernel
theorem d59_9 : DAt B59 9 (.istore_n 3) 1 10 := by decide +kernel
theorem d59_10 : DAt B59 10 (.iload_n 3) 1 11 := by decide +kernel
theorem d59_11 : DAt B59 11 (.bipush 64) 2 13 := by decide +kernel
theorem d59_13 : DAt B59 13 (.if_icmp .le 6) 3 16 := by decide +kernel
theorem d59_16 : DAt B59 16 (.bipush 64) 2 18 := by decide +kernel
theorem d59_18 : DAt B59 18 (.istore_n 3) 1 19 := by decide +kernel
theorem d59_19 : DAt B59 19 (.aload_n 0) 1 20 := by decide +kernel
theorem d59_20 : DAt B59 20 (.iload_n 2) 1 21 := by decide +kernel
theorem d59_21 : DAt B59 21 (.putfield 219) 3 24 := by decide +kernel
theorem d59_24 : DAt B59 24 (.aload_n 0) 1 25 := by decide +kernel
theorem d59_25 : DAt B59 25 (.iload_n 3) 1 26 := by decide +kernel
theorem d59_26 : DAt B59 26 (.putfield 222) 3 29 := by decide +kernel
theorem d59_29 : DAt B59 29 (.iload_n 1) 1 30 := by decide +kernel
theorem d59_30 : DAt B59 30 (.bipush 31) 2 32 := by decide +kernel
theorem d59_32 : DAt B59 32 (.iand) 1 33 := by decide +kernel
theorem d59_33 : DAt B59 33 (.sipush 512) 3 36 := by decide +kernel
theorem d59_36 : DAt B59 36 (.imul) 1 37 := by decide +kernel
theorem d59_37 : DAt B59 37 (.istore 4) 2 39 := by decide +kernel
theorem d59_39 : DAt B59 39 (.iconst 0) 1 40 := by decide +kernel
theorem d59_40 : DAt B59 40 (.istore 5) 2 42 := by decide +kernel
theorem d59_42 : DAt B59 42 (.iload 5) 2 44 := by decide +kernel
theorem d59_44 : DAt B59 44 (.iload_n 3) 1 45 := by decide +kernel
theorem d59_45 : DAt B59 45 (.if_icmp .ge 54) 3 48 := by decide +kernel
theorem d59_48 : DAt B59 48 (.iconst 0) 1 49 := by decide +kernel
theorem d59_49 : DAt B59 49 (.istore 6) 2 51 := by decide +kernel
theorem d59_51 : DAt B59 51 (.iload 6) 2 53 := by decide +kernel
theorem d59_53 : DAt B59 53 (.bipush 8) 2 55 := by decide +kernel
theorem d59_55 : DAt B59 55 (.if_icmp .ge 38) 3 58 := by decide +kernel
theorem d59_58 : DAt B59 58 (.aload_n 0) 1 59 := by decide +kernel
theorem d59_59 : DAt B59 59 (.getfield 108) 3 62 := by decide +kernel
theorem d59_62 : DAt B59 62 (.iload 5) 2 64 := by decide +kernel
theorem d59_64 : DAt B59 64 (.bipush 8) 2 66 := by decide +kernel
theorem d59_66 : DAt B59 66 (.imul) 1 67 := by decide +kernel
theorem d59_67 : DAt B59 67 (.iload 6) 2 69 := by decide +kernel
theorem d59_69 : DAt B59 69 (.iadd) 1 70 := by decide +kernel
theorem d59_70 : DAt B59 70 (.aload_n 0) 1 71 := by decide +kernel
theorem d59_71 : DAt B59 71 (.getfield 99) 3 74 := by decide +kernel
theorem d59_74 : DAt B59 74 (.iload 4) 2 76 := by decide +kernel
theorem d59_76 : DAt B59 76 (.iload 5) 2 78 := by decide +kernel
theorem d59_78 : DAt B59 78 (.bipush 8) 2 80 := by decide +kernel
theorem d59_80 : DAt B59 80 (.imul) 1 81 := by decide +kernel
theorem d59_81 : DAt B59 81 (.iadd) 1 82 := by decide +kernel
theorem d59_82 : DAt B59 82 (.iload 6) 2 84 := by decide +kernel
theorem d59_84 : DAt B59 84 (.iadd) 1 85 := by decide +kernel
theorem d59_85 : DAt B59 85 (.iaload) 1 86 := by decide +kernel
theorem d59_86 : DAt B59 86 (.iastore) 1 87 := by decide +kernel
theorem d59_87 : DAt B59 87 (.iinc 6 1) 3 90 := by decide +kernel
theorem d59_90 : DAt B59 90 (.goto (-39)) 3 93 := by decide +kernel
theorem d59_93 : DAt B59 93 (.iinc 5 1) 3 96 := by decide +kernel
theorem d59_96 : DAt B59 96 (.goto (-54)) 3 99 := by decide +kernel
theorem d59_99 : DAt B59 99 (.aload_n 0) 1 100 := by decide +kernel
theorem d59_100 : DAt B59 100 (.invokevirtual 228) 3 103 := by decide +kernel
theorem d59_103 : DAt B59 103 (.iload_n 3) 1 104 := by decide +kernel
theorem d59_104 : DAt B59 104 (.ireturn) 1 105 := by decide +kernel
def B14 : Bdy := ((⟨"QueryRewriter", "query", "(II)I"⟩ : MethodName), prog_1_method_21_code, 4, (some .int), ({ frames := 7, cells := 0, slots := 0, locals := 111 } : Room))
theorem d14_0 : DAt B14 0 (.aload_n 0) 1 1 := by decide +kernel
theorem d14_1 : DAt B14 1 (.iload_n 1) 1 2 := by decide +kernel
theorem d14_2 : DAt B14 2 (.invokevirtual 195) 3 5 := by decide +kernel
theorem d14_5 : DAt B14 5 (.ifCond .eq 12) 3 8 := by decide +kernel
theorem d14_8 : DAt B14 8 (.iload_n 2) 1 9 := by decide +kernel
theorem d14_9 : DAt B14 9 (.ifCond .lt 8) 3 12 := by decide +kernel
theorem d14_12 : DAt B14 12 (.iload_n 2) 1 13 := by decide +kernel
theorem d14_13 : DAt B14 13 (.iconst 1) 1 14 := by decide +kernel
theorem d14_14 : DAt B14 14 (.if_icmp .le 5) 3 17 := by decide +kernel
theorem d14_17 : DAt B14 17 (.iconst (-1)) 1 18 := by decide +kernel
theorem d14_18 : DAt B14 18 (.ireturn) 1 19 := by decide +kernel
theorem d14_19 : DAt B14 19 (.aload_n 0) 1 20 := by decide +kernel
theorem d14_20 : DAt B14 20 (.invokevirtual 205) 3 23 := by decide +kernel
theorem d14_23 : DAt B14 23 (.aload_n 0) 1 24 := by decide +kernel
theorem d14_24 : DAt B14 24 (.getfield 92) 3 27 := by decide +kernel
theorem d14_27 : DAt B14 27 (.iload_n 1) 1 28 := by decide +kernel
theorem d14_28 : DAt B14 28 (.iaload) 1 29 := by decide +kernel
theorem d14_29 : DAt B14 29 (.aload_n 0) 1 30 := by decide +kernel
theorem d14_30 : DAt B14 30 (.getfield 175) 3 33 := by decide +kernel
theorem d14_33 : DAt B14 33 (.if_icmp .le 6) 3 36 := by decide +kernel
theorem d14_36 : DAt B14 36 (.bipush (-3)) 2 38 := by decide +kernel
theorem d14_38 : DAt B14 38 (.ireturn) 1 39 := by decide +kernel
theorem d14_39 : DAt B14 39 (.iconst (-1)) 1 40 := by decide +kernel
theorem d14_40 : DAt B14 40 (.istore_n 3) 1 41 := by decide +kernel
theorem d14_41 : DAt B14 41 (.iload_n 2) 1 42 := by decide +kernel
theorem d14_42 : DAt B14 42 (.iconst 1) 1 43 := by decide +kernel
theorem d14_43 : DAt B14 43 (.if_icmp .ne 9) 3 46 := by decide +kernel
theorem d14_46 : DAt B14 46 (.aload_n 0) 1 47 := by decide +kernel
theorem d14_47 : DAt B14 47 (.iload_n 1) 1 48 := by decide +kernel
theorem d14_48 : DAt B14 48 (.invokevirtual 208) 3 51 := by decide +kernel
theorem d14_51 : DAt B14 51 (.istore_n 3) 1 52 := by decide +kernel
theorem d14_52 : DAt B14 52 (.iload_n 3) 1 53 := by decide +kernel
theorem d14_53 : DAt B14 53 (.ifCond .ge 9) 3 56 := by decide +kernel
theorem d14_56 : DAt B14 56 (.aload_n 0) 1 57 := by decide +kernel
theorem d14_57 : DAt B14 57 (.iload_n 1) 1 58 := by decide +kernel
theorem d14_62 : DAt B14 62 (.aload_n 0) 1 63 := by decide +kernel
theorem d14_63 : DAt B14 63 (.iload_n 3) 1 64 := by decide +kernel
theorem d14_64 : DAt B14 64 (.aload_n 0) 1 65 := by decide +kernel
theorem d14_65 : DAt B14 65 (.getfield 56) 3 68 := by decide +kernel
theorem d14_68 : DAt B14 68 (.iload_n 1) 1 69 := by decide +kernel
theorem d14_69 : DAt B14 69 (.iaload) 1 70 := by decide +kernel
theorem d14_70 : DAt B14 70 (.invokevirtual 215) 3 73 := by decide +kernel
theorem d14_73 : DAt B14 73 (.ireturn) 1 74 := by decide +kernel
def B61 : Bdy := ((⟨"QueryRewriter", "resultWidth", "()I"⟩ : MethodName), prog_1_method_22_code, 1, (some .int), ({ frames := 0, cells := 0, slots := 0, locals := 0 } : Room))
theorem d61_0 : DAt B61 0 (.aload_n 0) 1 1 := by decide +kernel
theorem d61_1 : DAt B61 1 (.getfield 219) 3 4 := by decide +kernel
theorem d61_4 : DAt B61 4 (.ireturn) 1 5 := by decide +kernel
def B62 : Bdy := ((⟨"QueryRewriter", "resultCell", "(II)I"⟩ : MethodName), prog_1_method_23_code, 3, (some .int), ({ frames := 0, cells := 0, slots := 0, locals := 0 } : Room))
theorem d62_0 : DAt B62 0 (.iload_n 1) 1 1 := by decide +kernel
theorem d62_1 : DAt B62 1 (.ifCond .lt 23) 3 4 := by decide +kernel
theorem d62_4 : DAt B62 4 (.iload_n 1) 1 5 := by decide +kernel
theorem d62_5 : DAt B62 5 (.aload_n 0) 1 6 := by decide +kernel
theorem d62_6 : DAt B62 6 (.getfield 222) 3 9 := by decide +kernel
theorem d62_9 : DAt B62 9 (.if_icmp .ge 15) 3 12 := by decide +kernel
theorem d62_12 : DAt B62 12 (.iload_n 2) 1 13 := by decide +kernel
theorem d62_13 : DAt B62 13 (.ifCond .lt 11) 3 16 := by decide +kernel
theorem d62_16 : DAt B62 16 (.iload_n 2) 1 17 := by decide +kernel
theorem d62_17 : DAt B62 17 (.aload_n 0) 1 18 := by decide +kernel
theorem d62_18 : DAt B62 18 (.getfield 219) 3 21 := by decide +kernel
theorem d62_21 : DAt B62 21 (.if_icmp .lt 5) 3 24 := by decide +kernel
theorem d62_24 : DAt B62 24 (.iconst 0) 1 25 := by decide +kernel
theorem d62_25 : DAt B62 25 (.ireturn) 1 26 := by decide +kernel
theorem d62_26 : DAt B62 26 (.aload_n 0) 1 27 := by decide +kernel
theorem d62_27 : DAt B62 27 (.getfield 108) 3 30 := by decide +kernel
theorem d62_30 : DAt B62 30 (.iload_n 1) 1 31 := by decide +kernel
theorem d62_31 : DAt B62 31 (.bipush 8) 2 33 := by decide +kernel
theorem d62_33 : DAt B62 33 (.imul) 1 34 := by decide +kernel
theorem d62_34 : DAt B62 34 (.iload_n 2) 1 35 := by decide +kernel
theorem d62_35 : DAt B62 35 (.iadd) 1 36 := by decide +kernel
theorem d62_36 : DAt B62 36 (.iaload) 1 37 := by decide +kernel
theorem d62_37 : DAt B62 37 (.ireturn) 1 38 := by decide +kernel
def B0 : Bdy := (x, code, maxLocals, ret, room_1)
theorem d0_0 : DAt B0 0 (.new 7) 3 3 := ⟨at_0, rfl⟩
theorem d0_3 : DAt B0 3 (.dup) 1 4 := ⟨at_3, rfl⟩
theorem d0_4 : DAt B0 4 (.bipush 8) 2 6 := ⟨at_4, rfl⟩
theorem d0_6 : DAt B0 6 (.bipush 64) 2 8 := ⟨at_6, rfl⟩
theorem d0_8 : DAt B0 8 (.invokespecial 9) 3 11 := ⟨at_8, rfl⟩
theorem d0_11 : DAt B0 11 (.astore 4) 2 13 := ⟨at_11, rfl⟩
theorem d0_13 : DAt B0 13 (.aload 4) 2 15 := ⟨at_13, rfl⟩
theorem d0_15 : DAt B0 15 (.iconst 0) 1 16 := ⟨at_15, rfl⟩
theorem d0_16 : DAt B0 16 (.iconst 1) 1 17 := ⟨at_16, rfl⟩
theorem d0_17 : DAt B0 17 (.invokevirtual 12) 3 20 := ⟨at_17, rfl⟩
theorem d0_20 : DAt B0 20 (.pop) 1 21 := ⟨at_20, rfl⟩
theorem d0_21 : DAt B0 21 (.aload 4) 2 23 := ⟨at_21, rfl⟩
theorem d0_23 : DAt B0 23 (.iconst 1) 1 24 := ⟨at_23, rfl⟩
theorem d0_24 : DAt B0 24 (.iconst 1) 1 25 := ⟨at_24, rfl⟩
theorem d0_25 : DAt B0 25 (.invokevirtual 12) 3 28 := ⟨at_25, rfl⟩
theorem d0_28 : DAt B0 28 (.pop) 1 29 := ⟨at_28, rfl⟩
theorem d0_29 : DAt B0 29 (.aload 4) 2 31 := ⟨at_29, rfl⟩
theorem d0_31 : DAt B0 31 (.iconst 0) 1 32 := ⟨at_31, rfl⟩
theorem d0_32 : DAt B0 32 (.iload_n 0) 1 33 := ⟨at_32, rfl⟩
theorem d0_33 : DAt B0 33 (.iconst 0) 1 34 := ⟨at_33, rfl⟩
theorem d0_34 : DAt B0 34 (.iconst 0) 1 35 := ⟨at_34, rfl⟩
theorem d0_35 : DAt B0 35 (.invokevirtual 16) 3 38 := ⟨at_35, rfl⟩
theorem d0_38 : DAt B0 38 (.pop) 1 39 := ⟨at_38, rfl⟩
theorem d0_39 : DAt B0 39 (.aload 4) 2 41 := ⟨at_39, rfl⟩
theorem d0_41 : DAt B0 41 (.iconst 0) 1 42 := ⟨at_41, rfl⟩
theorem d0_42 : DAt B0 42 (.iload_n 1) 1 43 := ⟨at_42, rfl⟩
theorem d0_43 : DAt B0 43 (.iconst 0) 1 44 := ⟨at_43, rfl⟩
theorem d0_44 : DAt B0 44 (.iconst 0) 1 45 := ⟨at_44, rfl⟩
theorem d0_45 : DAt B0 45 (.invokevirtual 16) 3 48 := ⟨at_45, rfl⟩
theorem d0_48 : DAt B0 48 (.pop) 1 49 := ⟨at_48, rfl⟩
theorem d0_49 : DAt B0 49 (.aload 4) 2 51 := ⟨at_49, rfl⟩
theorem d0_51 : DAt B0 51 (.iconst 1) 1 52 := ⟨at_51, rfl⟩
theorem d0_52 : DAt B0 52 (.iload_n 2) 1 53 := ⟨at_52, rfl⟩
theorem d0_53 : DAt B0 53 (.iconst 0) 1 54 := ⟨at_53, rfl⟩
theorem d0_54 : DAt B0 54 (.iconst 0) 1 55 := ⟨at_54, rfl⟩
theorem d0_55 : DAt B0 55 (.invokevirtual 16) 3 58 := ⟨at_55, rfl⟩
theorem d0_58 : DAt B0 58 (.pop) 1 59 := ⟨at_58, rfl⟩
theorem d0_59 : DAt B0 59 (.aload 4) 2 61 := ⟨at_59, rfl⟩
theorem d0_61 : DAt B0 61 (.iconst 0) 1 62 := ⟨at_61, rfl⟩
theorem d0_62 : DAt B0 62 (.invokevirtual 20) 3 65 := ⟨at_62, rfl⟩
theorem d0_65 : DAt B0 65 (.istore 5) 2 67 := ⟨at_65, rfl⟩
theorem d0_67 : DAt B0 67 (.aload 4) 2 69 := ⟨at_67, rfl⟩
theorem d0_69 : DAt B0 69 (.iconst 1) 1 70 := ⟨at_69, rfl⟩
theorem d0_70 : DAt B0 70 (.invokevirtual 20) 3 73 := ⟨at_70, rfl⟩
theorem d0_73 : DAt B0 73 (.istore 6) 2 75 := ⟨at_73, rfl⟩
theorem d0_75 : DAt B0 75 (.aload 4) 2 77 := ⟨at_75, rfl⟩
theorem d0_77 : DAt B0 77 (.iconst 0) 1 78 := ⟨at_77, rfl⟩
theorem d0_78 : DAt B0 78 (.iconst 0) 1 79 := ⟨at_78, rfl⟩
theorem d0_79 : DAt B0 79 (.iconst 1) 1 80 := ⟨at_79, rfl⟩
theorem d0_80 : DAt B0 80 (.iconst 3) 1 81 := ⟨at_80, rfl⟩
theorem d0_81 : DAt B0 81 (.invokevirtual 24) 3 84 := ⟨at_81, rfl⟩
theorem d0_84 : DAt B0 84 (.pop) 1 85 := ⟨at_84, rfl⟩
theorem d0_85 : DAt B0 85 (.aload 4) 2 87 := ⟨at_85, rfl⟩
theorem d0_87 : DAt B0 87 (.iload 5) 2 89 := ⟨at_87, rfl⟩
theorem d0_89 : DAt B0 89 (.iload 6) 2 91 := ⟨at_89, rfl⟩
theorem d0_91 : DAt B0 91 (.iconst 1) 1 92 := ⟨at_91, rfl⟩
theorem d0_92 : DAt B0 92 (.invokevirtual 27) 3 95 := ⟨at_92, rfl⟩
theorem d0_95 : DAt B0 95 (.istore 7) 2 97 := ⟨at_95, rfl⟩
theorem d0_97 : DAt B0 97 (.aload 4) 2 99 := ⟨at_97, rfl⟩
theorem d0_99 : DAt B0 99 (.iconst 5) 1 100 := ⟨at_99, rfl⟩
theorem d0_100 : DAt B0 100 (.iconst 0) 1 101 := ⟨at_100, rfl⟩
theorem d0_101 : DAt B0 101 (.iload_n 3) 1 102 := ⟨at_101, rfl⟩
theorem d0_102 : DAt B0 102 (.iconst 1) 1 103 := ⟨at_102, rfl⟩
theorem d0_103 : DAt B0 103 (.invokevirtual 24) 3 106 := ⟨at_103, rfl⟩
theorem d0_106 : DAt B0 106 (.pop) 1 107 := ⟨at_106, rfl⟩
theorem d0_107 : DAt B0 107 (.aload 4) 2 109 := ⟨at_107, rfl⟩
theorem d0_109 : DAt B0 109 (.iload 7) 2 111 := ⟨at_109, rfl⟩
theorem d0_111 : DAt B0 111 (.invokevirtual 31) 3 114 := ⟨at_111, rfl⟩
theorem d0_114 : DAt B0 114 (.istore 8) 2 116 := ⟨at_114, rfl⟩
theorem d0_116 : DAt B0 116 (.aload 4) 2 118 := ⟨at_116, rfl⟩
theorem d0_118 : DAt B0 118 (.iload 8) 2 120 := ⟨at_118, rfl⟩
theorem d0_120 : DAt B0 120 (.iconst 1) 1 121 := ⟨at_120, rfl⟩
theorem d0_121 : DAt B0 121 (.invokevirtual 34) 3 124 := ⟨at_121, rfl⟩
theorem d0_124 : DAt B0 124 (.istore 9) 2 126 := ⟨at_124, rfl⟩
theorem d0_126 : DAt B0 126 (.ldc 38) 2 128 := ⟨at_126, rfl⟩
theorem d0_128 : DAt B0 128 (.istore 10) 2 130 := ⟨at_128, rfl⟩
theorem d0_130 : DAt B0 130 (.iload_n 0) 1 131 := ⟨at_130, rfl⟩
theorem d0_131 : DAt B0 131 (.iload 10) 2 133 := ⟨at_131, rfl⟩
theorem d0_133 : DAt B0 133 (.if_icmp .eq 18) 3 136 := ⟨at_133, rfl⟩
theorem d0_136 : DAt B0 136 (.iload_n 2) 1 137 := ⟨at_136, rfl⟩
theorem d0_137 : DAt B0 137 (.iload 10) 2 139 := ⟨at_137, rfl⟩
theorem d0_139 : DAt B0 139 (.if_icmp .eq 12) 3 142 := ⟨at_139, rfl⟩
theorem d0_142 : DAt B0 142 (.iload_n 0) 1 143 := ⟨at_142, rfl⟩
theorem d0_143 : DAt B0 143 (.iload_n 2) 1 144 := ⟨at_143, rfl⟩
theorem d0_144 : DAt B0 144 (.if_icmp .ne 7) 3 147 := ⟨at_144, rfl⟩
theorem d0_147 : DAt B0 147 (.iload_n 2) 1 148 := ⟨at_147, rfl⟩
theorem d0_148 : DAt B0 148 (.goto 5) 3 151 := ⟨at_148, rfl⟩
theorem d0_151 : DAt B0 151 (.iload 10) 2 153 := ⟨at_151, rfl⟩
theorem d0_153 : DAt B0 153 (.istore 11) 2 155 := ⟨at_153, rfl⟩
theorem d0_155 : DAt B0 155 (.iload_n 1) 1 156 := ⟨at_155, rfl⟩
theorem d0_156 : DAt B0 156 (.iload 10) 2 158 := ⟨at_156, rfl⟩
theorem d0_158 : DAt B0 158 (.if_icmp .eq 18) 3 161 := ⟨at_158, rfl⟩
theorem d0_161 : DAt B0 161 (.iload_n 2) 1 162 := ⟨at_161, rfl⟩
theorem d0_162 : DAt B0 162 (.iload 10) 2 164 := ⟨at_162, rfl⟩
theorem d0_164 : DAt B0 164 (.if_icmp .eq 12) 3 167 := ⟨at_164, rfl⟩
theorem d0_167 : DAt B0 167 (.iload_n 1) 1 168 := ⟨at_167, rfl⟩
theorem d0_168 : DAt B0 168 (.iload_n 2) 1 169 := ⟨at_168, rfl⟩
theorem d0_169 : DAt B0 169 (.if_icmp .ne 7) 3 172 := ⟨at_169, rfl⟩
theorem d0_172 : DAt B0 172 (.iload_n 2) 1 173 := ⟨at_172, rfl⟩
theorem d0_173 : DAt B0 173 (.goto 5) 3 176 := ⟨at_173, rfl⟩
theorem d0_176 : DAt B0 176 (.iload 10) 2 178 := ⟨at_176, rfl⟩
theorem d0_178 : DAt B0 178 (.istore 12) 2 180 := ⟨at_178, rfl⟩
theorem d0_180 : DAt B0 180 (.iload_n 0) 1 181 := ⟨at_180, rfl⟩
theorem d0_181 : DAt B0 181 (.iload 10) 2 183 := ⟨at_181, rfl⟩
theorem d0_183 : DAt B0 183 (.if_icmp .eq 18) 3 186 := ⟨at_183, rfl⟩
theorem d0_186 : DAt B0 186 (.iload_n 3) 1 187 := ⟨at_186, rfl⟩
theorem d0_187 : DAt B0 187 (.iload 10) 2 189 := ⟨at_187, rfl⟩
theorem d0_189 : DAt B0 189 (.if_icmp .eq 12) 3 192 := ⟨at_189, rfl⟩
theorem d0_192 : DAt B0 192 (.iload_n 0) 1 193 := ⟨at_192, rfl⟩
theorem d0_193 : DAt B0 193 (.iload_n 3) 1 194 := ⟨at_193, rfl⟩
theorem d0_194 : DAt B0 194 (.if_icmp .lt 7) 3 197 := ⟨at_194, rfl⟩
theorem d0_197 : DAt B0 197 (.iconst 1) 1 198 := ⟨at_197, rfl⟩
theorem d0_198 : DAt B0 198 (.goto 4) 3 201 := ⟨at_198, rfl⟩
theorem d0_201 : DAt B0 201 (.iconst 0) 1 202 := ⟨at_201, rfl⟩
theorem d0_202 : DAt B0 202 (.istore 13) 2 204 := ⟨at_202, rfl⟩
theorem d0_204 : DAt B0 204 (.iload_n 1) 1 205 := ⟨at_204, rfl⟩
theorem d0_205 : DAt B0 205 (.iload 10) 2 207 := ⟨at_205, rfl⟩
theorem d0_207 : DAt B0 207 (.if_icmp .eq 18) 3 210 := ⟨at_207, rfl⟩
theorem d0_210 : DAt B0 210 (.iload_n 3) 1 211 := ⟨at_210, rfl⟩
theorem d0_211 : DAt B0 211 (.iload 10) 2 213 := ⟨at_211, rfl⟩
theorem d0_213 : DAt B0 213 (.if_icmp .eq 12) 3 216 := ⟨at_213, rfl⟩
theorem d0_216 : DAt B0 216 (.iload_n 1) 1 217 := ⟨at_216, rfl⟩
theorem d0_217 : DAt B0 217 (.iload_n 3) 1 218 := ⟨at_217, rfl⟩
theorem d0_218 : DAt B0 218 (.if_icmp .lt 7) 3 221 := ⟨at_218, rfl⟩
theorem d0_221 : DAt B0 221 (.iconst 1) 1 222 := ⟨at_221, rfl⟩
theorem d0_222 : DAt B0 222 (.goto 4) 3 225 := ⟨at_222, rfl⟩
theorem d0_225 : DAt B0 225 (.iconst 0) 1 226 := ⟨at_225, rfl⟩
theorem d0_226 : DAt B0 226 (.istore 14) 2 228 := ⟨at_226, rfl⟩
theorem d0_228 : DAt B0 228 (.iconst 0) 1 229 := ⟨at_228, rfl⟩
theorem d0_229 : DAt B0 229 (.istore 15) 2 231 := ⟨at_229, rfl⟩
theorem d0_231 : DAt B0 231 (.iconst 0) 1 232 := ⟨at_231, rfl⟩
theorem d0_232 : DAt B0 232 (.istore 16) 2 234 := ⟨at_232, rfl⟩
theorem d0_234 : DAt B0 234 (.iconst 0) 1 235 := ⟨at_234, rfl⟩
theorem d0_235 : DAt B0 235 (.istore 17) 2 237 := ⟨at_235, rfl⟩
theorem d0_237 : DAt B0 237 (.iconst 0) 1 238 := ⟨at_237, rfl⟩
theorem d0_238 : DAt B0 238 (.istore 18) 2 240 := ⟨at_238, rfl⟩
theorem d0_240 : DAt B0 240 (.iconst 0) 1 241 := ⟨at_240, rfl⟩
theorem d0_241 : DAt B0 241 (.istore 19) 2 243 := ⟨at_241, rfl⟩
theorem d0_243 : DAt B0 243 (.iload 13) 2 245 := ⟨at_243, rfl⟩
theorem d0_245 : DAt B0 245 (.ifCond .eq 13) 3 248 := ⟨at_245, rfl⟩
theorem d0_248 : DAt B0 248 (.iload_n 0) 1 249 := ⟨at_248, rfl⟩
theorem d0_249 : DAt B0 249 (.istore 16) 2 251 := ⟨at_249, rfl⟩
theorem d0_251 : DAt B0 251 (.iload 11) 2 253 := ⟨at_251, rfl⟩
theorem d0_253 : DAt B0 253 (.istore 17) 2 255 := ⟨at_253, rfl⟩
theorem d0_255 : DAt B0 255 (.iconst 1) 1 256 := ⟨at_255, rfl⟩
theorem d0_256 : DAt B0 256 (.istore 15) 2 258 := ⟨at_256, rfl⟩
theorem d0_258 : DAt B0 258 (.iload 14) 2 260 := ⟨at_258, rfl⟩
theorem d0_260 : DAt B0 260 (.ifCond .eq 31) 3 263 := ⟨at_260, rfl⟩
theorem d0_263 : DAt B0 263 (.iload 15) 2 265 := ⟨at_263, rfl⟩
theorem d0_265 : DAt B0 265 (.ifCond .ne 13) 3 268 := ⟨at_265, rfl⟩
theorem d0_268 : DAt B0 268 (.iload_n 1) 1 269 := ⟨at_268, rfl⟩
theorem d0_269 : DAt B0 269 (.istore 16) 2 271 := ⟨at_269, rfl⟩
theorem d0_271 : DAt B0 271 (.iload 12) 2 273 := ⟨at_271, rfl⟩
theorem d0_273 : DAt B0 273 (.istore 17) 2 275 := ⟨at_273, rfl⟩
theorem d0_275 : DAt B0 275 (.goto 10) 3 278 := ⟨at_275, rfl⟩
theorem d0_278 : DAt B0 278 (.iload_n 1) 1 279 := ⟨at_278, rfl⟩
theorem d0_279 : DAt B0 279 (.istore 18) 2 281 := ⟨at_279, rfl⟩
theorem d0_281 : DAt B0 281 (.iload 12) 2 283 := ⟨at_281, rfl⟩
theorem d0_283 : DAt B0 283 (.istore 19) 2 285 := ⟨at_283, rfl⟩
theorem d0_285 : DAt B0 285 (.iload 15) 2 287 := ⟨at_285, rfl⟩
theorem d0_287 : DAt B0 287 (.iconst 1) 1 288 := ⟨at_287, rfl⟩
theorem d0_288 : DAt B0 288 (.iadd) 1 289 := ⟨at_288, rfl⟩
theorem d0_289 : DAt B0 289 (.istore 15) 2 291 := ⟨at_289, rfl⟩
theorem d0_291 : DAt B0 291 (.iload 15) 2 293 := ⟨at_291, rfl⟩
theorem d0_293 : DAt B0 293 (.iconst 2) 1 294 := ⟨at_293, rfl⟩
theorem d0_294 : DAt B0 294 (.if_icmp .ne 48) 3 297 := ⟨at_294, rfl⟩
theorem d0_297 : DAt B0 297 (.iload 18) 2 299 := ⟨at_297, rfl⟩
theorem d0_299 : DAt B0 299 (.iload 16) 2 301 := ⟨at_299, rfl⟩
theorem d0_301 : DAt B0 301 (.if_icmp .lt 17) 3 304 := ⟨at_301, rfl⟩
theorem d0_304 : DAt B0 304 (.iload 18) 2 306 := ⟨at_304, rfl⟩
theorem d0_306 : DAt B0 306 (.iload 16) 2 308 := ⟨at_306, rfl⟩
theorem d0_308 : DAt B0 308 (.if_icmp .ne 34) 3 311 := ⟨at_308, rfl⟩
theorem d0_311 : DAt B0 311 (.iload 19) 2 313 := ⟨at_311, rfl⟩
theorem d0_313 : DAt B0 313 (.iload 17) 2 315 := ⟨at_313, rfl⟩
theorem d0_315 : DAt B0 315 (.if_icmp .ge 27) 3 318 := ⟨at_315, rfl⟩
theorem d0_318 : DAt B0 318 (.iload 16) 2 320 := ⟨at_318, rfl⟩
theorem d0_320 : DAt B0 320 (.istore 20) 2 322 := ⟨at_320, rfl⟩
theorem d0_322 : DAt B0 322 (.iload 17) 2 324 := ⟨at_322, rfl⟩
theorem d0_324 : DAt B0 324 (.istore 21) 2 326 := ⟨at_324, rfl⟩
theorem d0_326 : DAt B0 326 (.iload 18) 2 328 := ⟨at_326, rfl⟩
theorem d0_328 : DAt B0 328 (.istore 16) 2 330 := ⟨at_328, rfl⟩
theorem d0_330 : DAt B0 330 (.iload 19) 2 332 := ⟨at_330, rfl⟩
theorem d0_332 : DAt B0 332 (.istore 17) 2 334 := ⟨at_332, rfl⟩
theorem d0_334 : DAt B0 334 (.iload 20) 2 336 := ⟨at_334, rfl⟩
theorem d0_336 : DAt B0 336 (.istore 18) 2 338 := ⟨at_336, rfl⟩
theorem d0_338 : DAt B0 338 (.iload 21) 2 340 := ⟨at_338, rfl⟩
theorem d0_340 : DAt B0 340 (.istore 19) 2 342 := ⟨at_340, rfl⟩
theorem d0_342 : DAt B0 342 (.aload 4) 2 344 := ⟨at_342, rfl⟩
theorem d0_344 : DAt B0 344 (.invokevirtual 39) 3 347 := ⟨at_344, rfl⟩
theorem d0_347 : DAt B0 347 (.istore 20) 2 349 := ⟨at_347, rfl⟩
theorem d0_349 : DAt B0 349 (.iload 9) 2 351 := ⟨at_349, rfl⟩
theorem d0_351 : DAt B0 351 (.iload 15) 2 353 := ⟨at_351, rfl⟩
theorem d0_353 : DAt B0 353 (.if_icmp .ne 9) 3 356 := ⟨at_353, rfl⟩
theorem d0_356 : DAt B0 356 (.iload 20) 2 358 := ⟨at_356, rfl⟩
theorem d0_358 : DAt B0 358 (.iconst 2) 1 359 := ⟨at_358, rfl⟩
theorem d0_359 : DAt B0 359 (.if_icmp .eq 5) 3 362 := ⟨at_359, rfl⟩
theorem d0_362 : DAt B0 362 (.iconst 0) 1 363 := ⟨at_362, rfl⟩
theorem d0_363 : DAt B0 363 (.ireturn) 1 364 := ⟨at_363, rfl⟩
theorem d0_364 : DAt B0 364 (.aload 4) 2 366 := ⟨at_364, rfl⟩
theorem d0_366 : DAt B0 366 (.iconst 0) 1 367 := ⟨at_366, rfl⟩
theorem d0_367 : DAt B0 367 (.iconst 0) 1 368 := ⟨at_367, rfl⟩
theorem d0_368 : DAt B0 368 (.invokevirtual 43) 3 371 := ⟨at_368, rfl⟩
theorem d0_371 : DAt B0 371 (.istore 21) 2 373 := ⟨at_371, rfl⟩
theorem d0_373 : DAt B0 373 (.aload 4) 2 375 := ⟨at_373, rfl⟩
theorem d0_375 : DAt B0 375 (.iconst 0) 1 376 := ⟨at_375, rfl⟩
theorem d0_376 : DAt B0 376 (.iconst 1) 1 377 := ⟨at_376, rfl⟩
theorem d0_377 : DAt B0 377 (.invokevirtual 43) 3 380 := ⟨at_377, rfl⟩
theorem d0_380 : DAt B0 380 (.istore 22) 2 382 := ⟨at_380, rfl⟩
theorem d0_382 : DAt B0 382 (.aload 4) 2 384 := ⟨at_382, rfl⟩
theorem d0_384 : DAt B0 384 (.iconst 1) 1 385 := ⟨at_384, rfl⟩
theorem d0_385 : DAt B0 385 (.iconst 0) 1 386 := ⟨at_385, rfl⟩
theorem d0_386 : DAt B0 386 (.invokevirtual 43) 3 389 := ⟨at_386, rfl⟩
theorem d0_389 : DAt B0 389 (.istore 23) 2 391 := ⟨at_389, rfl⟩
theorem d0_391 : DAt B0 391 (.aload 4) 2 393 := ⟨at_391, rfl⟩
theorem d0_393 : DAt B0 393 (.iconst 1) 1 394 := ⟨at_393, rfl⟩
theorem d0_394 : DAt B0 394 (.iconst 1) 1 395 := ⟨at_394, rfl⟩
theorem d0_395 : DAt B0 395 (.invokevirtual 43) 3 398 := ⟨at_395, rfl⟩
theorem d0_398 : DAt B0 398 (.istore 24) 2 400 := ⟨at_398, rfl⟩
theorem d0_400 : DAt B0 400 (.aload 4) 2 402 := ⟨at_400, rfl⟩
theorem d0_402 : DAt B0 402 (.iload 15) 2 404 := ⟨at_402, rfl⟩
theorem d0_404 : DAt B0 404 (.iconst 0) 1 405 := ⟨at_404, rfl⟩
theorem d0_405 : DAt B0 405 (.invokevirtual 43) 3 408 := ⟨at_405, rfl⟩
theorem d0_408 : DAt B0 408 (.istore 25) 2 410 := ⟨at_408, rfl⟩
theorem d0_410 : DAt B0 410 (.iload 25) 2 412 := ⟨at_410, rfl⟩
theorem d0_412 : DAt B0 412 (.ifCond .ne 7) 3 415 := ⟨at_412, rfl⟩
theorem d0_415 : DAt B0 415 (.iconst 1) 1 416 := ⟨at_415, rfl⟩
theorem d0_416 : DAt B0 416 (.goto 4) 3 419 := ⟨at_416, rfl⟩
theorem d0_419 : DAt B0 419 (.iconst 0) 1 420 := ⟨at_419, rfl⟩
theorem d0_420 : DAt B0 420 (.istore 26) 2 422 := ⟨at_420, rfl⟩
theorem d0_422 : DAt B0 422 (.iload 15) 2 424 := ⟨at_422, rfl⟩
theorem d0_424 : DAt B0 424 (.iconst 1) 1 425 := ⟨at_424, rfl⟩
theorem d0_425 : DAt B0 425 (.if_icmp .lt 29) 3 428 := ⟨at_425, rfl⟩
theorem d0_428 : DAt B0 428 (.iload 26) 2 430 := ⟨at_428, rfl⟩
theorem d0_430 : DAt B0 430 (.ifCond .eq 21) 3 433 := ⟨at_430, rfl⟩
theorem d0_433 : DAt B0 433 (.iload 21) 2 435 := ⟨at_433, rfl⟩
theorem d0_435 : DAt B0 435 (.iload 16) 2 437 := ⟨at_435, rfl⟩
theorem d0_437 : DAt B0 437 (.if_icmp .ne 14) 3 440 := ⟨at_437, rfl⟩
theorem d0_440 : DAt B0 440 (.iload 22) 2 442 := ⟨at_440, rfl⟩
theorem d0_442 : DAt B0 442 (.iload 17) 2 444 := ⟨at_442, rfl⟩
theorem d0_444 : DAt B0 444 (.if_icmp .ne 7) 3 447 := ⟨at_444, rfl⟩
theorem d0_447 : DAt B0 447 (.iconst 1) 1 448 := ⟨at_447, rfl⟩
theorem d0_448 : DAt B0 448 (.goto 4) 3 451 := ⟨at_448, rfl⟩
theorem d0_451 : DAt B0 451 (.iconst 0) 1 452 := ⟨at_451, rfl⟩
theorem d0_452 : DAt B0 452 (.istore 26) 2 454 := ⟨at_452, rfl⟩
theorem d0_454 : DAt B0 454 (.iload 15) 2 456 := ⟨at_454, rfl⟩
theorem d0_456 : DAt B0 456 (.iconst 2) 1 457 := ⟨at_456, rfl⟩
theorem d0_457 : DAt B0 457 (.if_icmp .ne 29) 3 460 := ⟨at_457, rfl⟩
theorem d0_460 : DAt B0 460 (.iload 26) 2 462 := ⟨at_460, rfl⟩
theorem d0_462 : DAt B0 462 (.ifCond .eq 21) 3 465 := ⟨at_462, rfl⟩
theorem d0_465 : DAt B0 465 (.iload 23) 2 467 := ⟨at_465, rfl⟩
theorem d0_467 : DAt B0 467 (.iload 18) 2 469 := ⟨at_467, rfl⟩
theorem d0_469 : DAt B0 469 (.if_icmp .ne 14) 3 472 := ⟨at_469, rfl⟩
theorem d0_472 : DAt B0 472 (.iload 24) 2 474 := ⟨at_472, rfl⟩
theorem d0_474 : DAt B0 474 (.iload 19) 2 476 := ⟨at_474, rfl⟩
theorem d0_476 : DAt B0 476 (.if_icmp .ne 7) 3 479 := ⟨at_476, rfl⟩
theorem d0_479 : DAt B0 479 (.iconst 1) 1 480 := ⟨at_479, rfl⟩
theorem d0_480 : DAt B0 480 (.goto 4) 3 483 := ⟨at_480, rfl⟩
theorem d0_483 : DAt B0 483 (.iconst 0) 1 484 := ⟨at_483, rfl⟩
theorem d0_484 : DAt B0 484 (.istore 26) 2 486 := ⟨at_484, rfl⟩
theorem d0_486 : DAt B0 486 (.iload 26) 2 488 := ⟨at_486, rfl⟩
theorem d0_488 : DAt B0 488 (.ireturn) 1 489 := ⟨at_488, rfl⟩
theorem ar1 : arity B1 2 := ⟨[.int, .int], none, by decide +kernel, rfl⟩
theorem ar2 : arity B2 3 := ⟨[.int, .int, .int], some .int, by decide +kernel, rfl⟩
theorem ar3 : arity B3 2 := ⟨[.int, .int], some .boolean, by decide +kernel, rfl⟩
theorem ar4 : arity B4 4 := ⟨[.int, .int, .int, .int], some .int, by decide +kernel, rfl⟩
theorem ar5 : arity B5 1 := ⟨[.int], some .boolean, by decide +kernel, rfl⟩
theorem ar6 : arity B6 1 := ⟨[.int], some .int, by decide +kernel, rfl⟩
theorem ar7 : arity B7 5 := ⟨[.int, .int, .int, .int, .int], some .int, by decide +kernel, rfl⟩
theorem ar8 : arity B8 4 := ⟨[.int, .int, .int, .int], some .int, by decide +kernel, rfl⟩
theorem ar9 : arity B9 3 := ⟨[.int, .int, .int], some .int, by decide +kernel, rfl⟩
theorem ar10 : arity B10 1 := ⟨[.int], some .boolean, by decide +kernel, rfl⟩
theorem ar11 : arity B11 1 := ⟨[.int], some .boolean, by decide +kernel, rfl⟩
theorem ar12 : arity B12 1 := ⟨[.int], none, by decide +kernel, rfl⟩
theorem ar13 : arity B13 1 := ⟨[.int], some .int, by decide +kernel, rfl⟩
theorem ar14 : arity B14 2 := ⟨[.int, .int], some .int, by decide +kernel, rfl⟩
theorem ar15 : arity B15 0 := ⟨[], none, by decide +kernel, rfl⟩
theorem ar16 : arity B16 2 := ⟨[.int, .int], some .int, by decide +kernel, rfl⟩
theorem ar17 : arity B17 1 := ⟨[.int], some .int, by decide +kernel, rfl⟩
theorem ar18 : arity B18 1 := ⟨[.int], some .boolean, by decide +kernel, rfl⟩
theorem ar19 : arity B19 1 := ⟨[.int], none, by decide +kernel, rfl⟩
theorem ar20 : arity B20 0 := ⟨[], none, by decide +kernel, rfl⟩
theorem ar21 : arity B21 2 := ⟨[.int, .int], none, by decide +kernel, rfl⟩
theorem ar22 : arity B22 1 := ⟨[.int], some .int, by decide +kernel, rfl⟩
theorem ar23 : arity B23 3 := ⟨[.int, .int, .int], none, by decide +kernel, rfl⟩
theorem ar24 : arity B24 1 := ⟨[.int], none, by decide +kernel, rfl⟩
theorem ar25 : arity B25 3 := ⟨[.int, .int, .int], some .int, by decide +kernel, rfl⟩
theorem ar26 : arity B26 1 := ⟨[.int], some .int, by decide +kernel, rfl⟩
theorem ar27 : arity B27 2 := ⟨[.int, .int], none, by decide +kernel, rfl⟩
theorem ar28 : arity B28 2 := ⟨[.int, .int], none, by decide +kernel, rfl⟩
theorem ar29 : arity B29 3 := ⟨[.int, .int, .int], none, by decide +kernel, rfl⟩
theorem ar30 : arity B30 2 := ⟨[.int, .int], some .int, by decide +kernel, rfl⟩
theorem ar31 : arity B31 0 := ⟨[], none, by decide +kernel, rfl⟩
theorem ar32 : arity B32 1 := ⟨[.int], none, by decide +kernel, rfl⟩
theorem ar33 : arity B33 2 := ⟨[.int, .boolean], none, by decide +kernel, rfl⟩
theorem ar34 : arity B34 1 := ⟨[.int], some .int, by decide +kernel, rfl⟩
theorem ar35 : arity B35 2 := ⟨[.int, .int], some .boolean, by decide +kernel, rfl⟩
theorem ar36 : arity B36 2 := ⟨[.int, .int], some .int, by decide +kernel, rfl⟩
theorem ar37 : arity B37 4 := ⟨[.int, .int, .int, .boolean], none, by decide +kernel, rfl⟩
theorem ar38 : arity B38 1 := ⟨[.int], none, by decide +kernel, rfl⟩
theorem ar39 : arity B39 2 := ⟨[.int, .int], none, by decide +kernel, rfl⟩
theorem ar40 : arity B40 1 := ⟨[.int], none, by decide +kernel, rfl⟩
theorem ar41 : arity B41 1 := ⟨[.int], some .int, by decide +kernel, rfl⟩
theorem ar42 : arity B42 1 := ⟨[.int], some .int, by decide +kernel, rfl⟩
theorem ar43 : arity B43 4 := ⟨[.int, .int, .int, .int], none, by decide +kernel, rfl⟩
theorem ar44 : arity B44 4 := ⟨[.int, .int, .int, .int], some .int, by decide +kernel, rfl⟩
theorem ar45 : arity B45 1 := ⟨[.int], some .int, by decide +kernel, rfl⟩
theorem ar46 : arity B46 4 := ⟨[.int, .int, .int, .int], none, by decide +kernel, rfl⟩
theorem ar47 : arity B47 0 := ⟨[], none, by decide +kernel, rfl⟩
theorem ar48 : arity B48 1 := ⟨[.int], none, by decide +kernel, rfl⟩
theorem ar49 : arity B49 2 := ⟨[.int, .int], none, by decide +kernel, rfl⟩
theorem ar50 : arity B50 1 := ⟨[.int], some .boolean, by decide +kernel, rfl⟩
theorem ar51 : arity B51 4 := ⟨[.int, .int, .int, .int], some .boolean, by decide +kernel, rfl⟩
theorem ar52 : arity B52 1 := ⟨[.int], some .int, by decide +kernel, rfl⟩
theorem ar53 : arity B53 3 := ⟨[.int, .int, .int], some .boolean, by decide +kernel, rfl⟩
theorem ar54 : arity B54 2 := ⟨[.int, .int], some .int, by decide +kernel, rfl⟩
theorem ar55 : arity B55 1 := ⟨[.int], none, by decide +kernel, rfl⟩
theorem ar56 : arity B56 4 := ⟨[.int, .int, .int, .int], none, by decide +kernel, rfl⟩
theorem ar57 : arity B57 2 := ⟨[.int, .int], none, by decide +kernel, rfl⟩
theorem ar58 : arity B58 2 := ⟨[.int, .int], some .int, by decide +kernel, rfl⟩
theorem ar59 : arity B59 2 := ⟨[.int, .int], some .int, by decide +kernel, rfl⟩
theorem ar60 : arity B60 0 := ⟨[], none, by decide +kernel, rfl⟩
theorem ar61 : arity B61 0 := ⟨[], some .int, by decide +kernel, rfl⟩
theorem ar62 : arity B62 2 := ⟨[.int, .int], some .int, by decide +kernel, rfl⟩
theorem ar63 : arity B63 2 := ⟨[.int, .int], some .boolean, by decide +kernel, rfl⟩
theorem ar64 : arity B64 2 := ⟨[.int, .int], none, by decide +kernel, rfl⟩
theorem cw1 : code_w B1 := ⟨mem1 5 rfl, mem1 2 rfl, by decide⟩
theorem cw2 : code_w B2 := ⟨mem1 118 rfl, mem1 2 rfl, by decide⟩
theorem cw3 : code_w B3 := ⟨mem1 127 rfl, mem1 2 rfl, by decide⟩
theorem cw4 : code_w B4 := ⟨mem1 132 rfl, mem1 2 rfl, by decide⟩
theorem cw5 : code_w B5 := ⟨mem1 136 rfl, mem1 2 rfl, by decide⟩
theorem cw6 : code_w B6 := ⟨mem1 141 rfl, mem1 2 rfl, by decide⟩
theorem cw7 : code_w B7 := ⟨mem1 147 rfl, mem1 2 rfl, by decide⟩
theorem cw8 : code_w B8 := ⟨mem1 154 rfl, mem1 2 rfl, by decide⟩
theorem cw9 : code_w B9 := ⟨mem1 161 rfl, mem1 2 rfl, by decide⟩
theorem cw10 : code_w B10 := ⟨mem1 165 rfl, mem1 2 rfl, by decide⟩
theorem cw11 : code_w B11 := ⟨mem1 169 rfl, mem1 2 rfl, by decide⟩
theorem cw12 : code_w B12 := ⟨mem1 173 rfl, mem1 2 rfl, by decide⟩
theorem cw13 : code_w B13 := ⟨mem1 178 rfl, mem1 2 rfl, by decide⟩
theorem cw14 : code_w B14 := ⟨mem1 183 rfl, mem1 2 rfl, by decide⟩
theorem cw15 : code_w B15 := ⟨mem1 187 rfl, mem1 2 rfl, by decide⟩
theorem cw16 : code_w B16 := ⟨mem1 191 rfl, mem1 2 rfl, by decide⟩
theorem cw17 : code_w B17 := ⟨mem1 195 rfl, mem1 2 rfl, by decide⟩
theorem cw18 : code_w B18 := ⟨mem1 199 rfl, mem1 2 rfl, by decide⟩
theorem cw19 : code_w B19 := ⟨mem1 213 rfl, mem1 2 rfl, by decide⟩
theorem cw20 : code_w B20 := ⟨mem1 217 rfl, mem1 2 rfl, by decide⟩
theorem cw21 : code_w B21 := ⟨mem1 221 rfl, mem1 2 rfl, by decide⟩
theorem cw22 : code_w B22 := ⟨mem1 225 rfl, mem1 2 rfl, by decide⟩
theorem cw23 : code_w B23 := ⟨mem1 229 rfl, mem1 2 rfl, by decide⟩
theorem cw24 : code_w B24 := ⟨mem1 233 rfl, mem1 2 rfl, by decide⟩
theorem cw25 : code_w B25 := ⟨mem1 237 rfl, mem1 2 rfl, by decide⟩
theorem cw26 : code_w B26 := ⟨mem1 241 rfl, mem1 2 rfl, by decide⟩
theorem cw27 : code_w B27 := ⟨mem1 245 rfl, mem1 2 rfl, by decide⟩
theorem cw28 : code_w B28 := ⟨mem1 249 rfl, mem1 2 rfl, by decide⟩
theorem cw29 : code_w B29 := ⟨mem1 253 rfl, mem1 2 rfl, by decide⟩
theorem cw30 : code_w B30 := ⟨mem1 257 rfl, mem1 2 rfl, by decide⟩
theorem cw31 : code_w B31 := ⟨mem1 261 rfl, mem1 2 rfl, by decide⟩
theorem cw32 : code_w B32 := ⟨mem1 265 rfl, mem1 2 rfl, by decide⟩
theorem cw33 : code_w B33 := ⟨mem1 269 rfl, mem1 2 rfl, by decide⟩
theorem cw34 : code_w B34 := ⟨mem1 273 rfl, mem1 2 rfl, by decide⟩
theorem cw35 : code_w B35 := ⟨mem1 277 rfl, mem1 2 rfl, by decide⟩
theorem cw36 : code_w B36 := ⟨mem1 281 rfl, mem1 2 rfl, by decide⟩
theorem cw37 : code_w B37 := ⟨mem1 285 rfl, mem1 2 rfl, by decide⟩
theorem cw38 : code_w B38 := ⟨mem1 289 rfl, mem1 2 rfl, by decide⟩
theorem cw39 : code_w B39 := ⟨mem1 293 rfl, mem1 2 rfl, by decide⟩
theorem cw40 : code_w B40 := ⟨mem1 297 rfl, mem1 2 rfl, by decide⟩
theorem cw41 : code_w B41 := ⟨mem1 301 rfl, mem1 2 rfl, by decide⟩
theorem cw42 : code_w B42 := ⟨mem1 305 rfl, mem1 2 rfl, by decide⟩
theorem cw43 : code_w B43 := ⟨mem1 309 rfl, mem1 2 rfl, by decide⟩
theorem cw44 : code_w B44 := ⟨mem1 313 rfl, mem1 2 rfl, by decide⟩
theorem cw45 : code_w B45 := ⟨mem1 317 rfl, mem1 2 rfl, by decide⟩
theorem cw46 : code_w B46 := ⟨mem1 321 rfl, mem1 2 rfl, by decide⟩
theorem cw47 : code_w B47 := ⟨mem1 325 rfl, mem1 2 rfl, by decide⟩
theorem cw48 : code_w B48 := ⟨mem1 329 rfl, mem1 2 rfl, by decide⟩
theorem cw49 : code_w B49 := ⟨mem1 333 rfl, mem1 2 rfl, by decide⟩
theorem cw50 : code_w B50 := ⟨mem1 337 rfl, mem1 2 rfl, by decide⟩
theorem cw51 : code_w B51 := ⟨mem1 341 rfl, mem1 2 rfl, by decide⟩
theorem cw52 : code_w B52 := ⟨mem1 345 rfl, mem1 2 rfl, by decide⟩
theorem cw53 : code_w B53 := ⟨mem1 350 rfl, mem1 2 rfl, by decide⟩
theorem cw54 : code_w B54 := ⟨mem1 354 rfl, mem1 2 rfl, by decide⟩
theorem cw55 : code_w B55 := ⟨mem1 358 rfl, mem1 2 rfl, by decide⟩
theorem cw56 : code_w B56 := ⟨mem1 362 rfl, mem1 2 rfl, by decide⟩
theorem cw57 : code_w B57 := ⟨mem1 366 rfl, mem1 2 rfl, by decide⟩
theorem cw58 : code_w B58 := ⟨mem1 370 rfl, mem1 2 rfl, by decide⟩
theorem cw59 : code_w B59 := ⟨mem1 374 rfl, mem1 2 rfl, by decide⟩
theorem cw60 : code_w B60 := ⟨mem1 382 rfl, mem1 2 rfl, by decide⟩
theorem cw61 : code_w B61 := ⟨mem1 388 rfl, mem1 2 rfl, by decide⟩
theorem cw62 : code_w B62 := ⟨mem1 393 rfl, mem1 2 rfl, by decide⟩
theorem cw63 : code_w B63 := ⟨mem1 397 rfl, mem1 2 rfl, by decide⟩
theorem cw64 : code_w B64 := ⟨mem1 401 rfl, mem1 2 rfl, by decide⟩
theorem rk0_3_0 : room_ok B0 B3 0 := by decide
theorem rk0_4_0 : room_ok B0 B4 0 := by decide
theorem rk0_6_0 : room_ok B0 B6 0 := by decide
theorem rk0_8_0 : room_ok B0 B8 0 := by decide
theorem rk0_9_0 : room_ok B0 B9 0 := by decide
theorem rk0_13_0 : room_ok B0 B13 0 := by decide
theorem rk0_14_0 : room_ok B0 B14 0 := by decide
theorem rk0_61_0 : room_ok B0 B61 0 := by decide
theorem rk0_62_0 : room_ok B0 B62 0 := by decide
theorem rk1_2_1 : room_ok B1 B2 1 := by decide
theorem rk4_5_0 : room_ok B4 B5 0 := by decide
theorem rk6_5_0 : room_ok B6 B5 0 := by decide
theorem rk6_7_0 : room_ok B6 B7 0 := by decide
theorem rk9_7_0 : room_ok B9 B7 0 := by decide
theorem rk9_10_0 : room_ok B9 B10 0 := by decide
theorem rk9_11_0 : room_ok B9 B11 0 := by decide
theorem rk9_12_0 : room_ok B9 B12 0 := by decide
theorem rk13_7_0 : room_ok B13 B7 0 := by decide
theorem rk13_10_0 : room_ok B13 B10 0 := by decide
theorem rk13_11_0 : room_ok B13 B11 0 := by decide
theorem rk13_12_0 : room_ok B13 B12 0 := by decide
theorem rk14_10_0 : room_ok B14 B10 0 := by decide
theorem rk14_15_0 : room_ok B14 B15 0 := by decide
theorem rk14_17_0 : room_ok B14 B17 0 := by decide
theorem rk14_59_0 : room_ok B14 B59 0 := by decide
theorem rk15_16_0 : room_ok B15 B16 0 := by decide
theorem rk17_18_0 : room_ok B17 B18 0 := by decide
theorem rk17_31_0 : room_ok B17 B31 0 := by decide
theorem rk17_38_0 : room_ok B17 B38 0 := by decide
theorem rk17_47_0 : room_ok B17 B47 0 := by decide
theorem rk18_19_0 : room_ok B18 B19 0 := by decide
theorem rk18_20_0 : room_ok B18 B20 0 := by decide
theorem rk20_19_0 : room_ok B20 B19 0 := by decide
theorem rk20_21_0 : room_ok B20 B21 0 := by decide
theorem rk20_22_0 : room_ok B20 B22 0 := by decide
theorem rk20_24_0 : room_ok B20 B24 0 := by decide
theorem rk20_28_0 : room_ok B20 B28 0 := by decide
theorem rk21_19_0 : room_ok B21 B19 0 := by decide
theorem rk21_24_0 : room_ok B21 B24 0 := by decide
theorem rk21_25_0 : room_ok B21 B25 0 := by decide
theorem rk22_23_0 : room_ok B22 B23 0 := by decide
theorem rk25_23_0 : room_ok B25 B23 0 := by decide
theorem rk25_26_0 : room_ok B25 B26 0 := by decide
theorem rk25_27_0 : room_ok B25 B27 0 := by decide
theorem rk28_26_0 : room_ok B28 B26 0 := by decide
theorem rk28_27_0 : room_ok B28 B27 0 := by decide
theorem rk28_29_0 : room_ok B28 B29 0 := by decide
theorem rk29_30_2 : room_ok B29 B30 2 := by decide
theorem rk31_32_0 : room_ok B31 B32 0 := by decide
theorem rk31_33_0 : room_ok B31 B33 0 := by decide
theorem rk32_33_0 : room_ok B32 B33 0 := by decide
theorem rk32_35_0 : room_ok B32 B35 0 := by decide
theorem rk32_37_0 : room_ok B32 B37 0 := by decide
theorem rk33_27_0 : room_ok B33 B27 0 := by decide
theorem rk33_34_0 : room_ok B33 B34 0 := by decide
theorem rk34_51_0 : room_ok B34 B51 0 := by decide
theorem rk35_36_0 : room_ok B35 B36 0 := by decide
theorem rk37_27_0 : room_ok B37 B27 0 := by decide
theorem rk37_29_0 : room_ok B37 B29 0 := by decide
theorem rk37_36_0 : room_ok B37 B36 0 := by decide
theorem rk38_39_0 : room_ok B38 B39 0 := by decide
theorem rk38_40_0 : room_ok B38 B40 0 := by decide
theorem rk40_41_0 : room_ok B40 B41 0 := by decide
theorem rk40_42_1 : room_ok B40 B42 1 := by decide
theorem rk40_43_0 : room_ok B40 B43 0 := by decide
theorem rk40_46_0 : room_ok B40 B46 0 := by decide
theorem rk43_44_2 : room_ok B43 B44 2 := by decide
theorem rk44_45_0 : room_ok B44 B45 0 := by decide
theorem rk44_45_1 : room_ok B44 B45 1 := by decide
theorem rk46_44_2 : room_ok B46 B44 2 := by decide
theorem rk47_48_0 : room_ok B47 B48 0 := by decide
theorem rk47_55_0 : room_ok B47 B55 0 := by decide
theorem rk48_49_0 : room_ok B48 B49 0 := by decide
theorem rk48_50_0 : room_ok B48 B50 0 := by decide
theorem rk48_54_0 : room_ok B48 B54 0 := by decide
theorem rk50_51_0 : room_ok B50 B51 0 := by decide
theorem rk51_52_0 : room_ok B51 B52 0 := by decide
theorem rk51_53_0 : room_ok B51 B53 0 := by decide
theorem rk54_52_2 : room_ok B54 B52 2 := by decide
theorem rk55_50_0 : room_ok B55 B50 0 := by decide
theorem rk55_56_0 : room_ok B55 B56 0 := by decide
theorem rk55_57_0 : room_ok B55 B57 0 := by decide
theorem rk55_58_0 : room_ok B55 B58 0 := by decide
theorem rk58_50_0 : room_ok B58 B50 0 := by decide
theorem rk58_54_0 : room_ok B58 B54 0 := by decide
theorem rk59_60_0 : room_ok B59 B60 0 := by decide
theorem rk60_63_0 : room_ok B60 B63 0 := by decide
theorem rk60_64_0 : room_ok B60 B64 0 := by decide
def X_clamp (ob : Rec) (i1 : Int32) (i2 : Int32) (i3 : Int32) : Option (Int32) :=
  if i1 < i2 then
    some i2
  else
    if i3 < i1 then
      some i3
    else
      some i1
theorem X_clamp_p {C : Ctx} {top : Nat} {a : Nat} {H : List (Nat × Nat × Rec)} {ob : Rec} {res : Int32} (i1 : Int32) (i2 : Int32) (i3 : Int32) (hf : X_clamp ob i1 i2 i3 = some res) : Runs C B2 0 0 0 [vr a, vi i1, vi i2, vi i3] [] (top, (a, 45, ob) :: H) (Ans (some (.int res)) (top, (a, 45, ob) :: H)) := by
  delta X_clamp at hf
  refine za d2_0 rfl <| za d2_1 rfl <| ?_
  refine ite_el hf (fun hc1 hf => ?_) (fun hc1 hf => ?_)
  · refine zg d2_2 (tlt hc1).2.1 <| ?_
    obtain rfl := Option.some.inj hf
    exact za d2_5 rfl <| zn d2_6 rfl ⟨by decide, by decide⟩ ⟨rfl, rfl⟩
  · refine zf (pc' := 7) d2_2 (flt hc1).2.1 (by decide) <| ?_
    refine za d2_7 rfl <| za d2_8 rfl <| ?_
    refine ite_el hf (fun hc2 hf => ?_) (fun hc2 hf => ?_)
    · refine zg d2_9 (tlt hc2).2.2.2 <| ?_
      obtain rfl := Option.some.inj hf
      exact za d2_12 rfl <| zn d2_13 rfl ⟨by decide, by decide⟩ ⟨rfl, rfl⟩
    · refine zf (pc' := 14) d2_9 (flt hc2).2.2.2 (by decide) <| ?_
      obtain rfl := Option.some.inj hf
      exact za d2_14 rfl <| zn d2_15 rfl ⟨by decide, by decide⟩ ⟨rfl, rfl⟩
theorem X_clamp_pay {C : Ctx} {top : Nat} {a : Nat} {H : List (Nat × Nat × Rec)} {ob : Rec} {res : Int32} {i1 : Int32} {i2 : Int32} {i3 : Int32} (hf : X_clamp ob i1 i2 i3 = some res) : Pays C B2 [.ref a, .int i1, .int i2, .int i3] (top, (a, 45, ob) :: H) (Ans (some (.int res)) (top, (a, 45, ob) :: H)) :=
  Pays.of pnK (Nat.le_of_ble_eq_true rfl) (P := [vr a, vi i1, vi i2, vi i3]) 0 rfl (X_clamp_p i1 i2 i3 hf)
def X_init (i1 : Int32) (i2 : Int32) : Option (Rec) :=
  (X_clamp (sI (sI (sI (sI (sI (sI (sI zrec 0 (0 : Int32)) 1 (1 : Int32)) 2 (2 : Int32)) 3 (3 : Int32)) 4 (4 : Int32)) 5 (0 : Int32)) 6 (1 : Int32)) i1 (1 : Int32) (8 : Int32)).bind fun r1 =>
  (X_clamp (sI (sI (sI (sI (sI (sI (sI (sI zrec 0 (0 : Int32)) 1 (1 : Int32)) 2 (2 : Int32)) 3 (3 : Int32)) 4 (4 : Int32)) 5 (0 : Int32)) 6 (1 : Int32)) 7 r1) i2 (16 : Int32) (64 : Int32)).bind fun r3 =>
  some (sI (sI (sI (sI (sI (sI (sI (sI (sI zrec 0 (0 : Int32)) 1 (1 : Int32)) 2 (2 : Int32)) 3 (3 : Int32)) 4 (4 : Int32)) 5 (0 : Int32)) 6 (1 : Int32)) 7 r1) 8 r3)
theorem X_init_p {C : Ctx} {a : Nat} {H : List (Nat × Nat × Rec)} {res : Rec} (i1 : Int32) (i2 : Int32) (hf : X_init i1 i2 = some res) : Runs C B1 0 0 0 [vr a, vi i1, vi i2] [] (a + 1, (a, 0, zrec) :: H) (Ans none (a + 1 + 45, (a, 45, res) :: H)) := by
  delta X_init at hf
  refine zb d1_0 rfl <| Runs.initO (W := 0) d1_1 w6 w7 w8 rfl (by decide) <| zb d1_4 rfl <| zc d1_5 ci_0 <| zB d1_6 w9 fS_0 (Or.inr ⟨rfl, rfl⟩) <| zb d1_9 rfl <| zc d1_10 ci_1 <| zB d1_11 w11 fS_1 (Or.inr ⟨rfl, rfl⟩) <| zb d1_14 rfl <| zc d1_15 ci_2 <| zB d1_16 w13 fS_2 (Or.inr ⟨rfl, rfl⟩) <| zb d1_19 rfl <| ?_
  refine zc d1_20 ci_3 <| zB d1_21 w15 fS_3 (Or.inr ⟨rfl, rfl⟩) <| zb d1_24 rfl <| zc d1_25 ci_4 <| zB d1_26 w17 fS_4 (Or.inr ⟨rfl, rfl⟩) <| zb d1_29 rfl <| zc d1_30 ci_0 <| zB d1_31 w19 fS_5 (Or.inr ⟨rfl, rfl⟩) <| zb d1_34 rfl <| zc d1_35 ci_1 <| zB d1_36 w21 fS_6 (Or.inr ⟨rfl, rfl⟩) <| zb d1_39 rfl <| ?_
  refine zc d1_40 ci_4 <| zx (j' := 1) (top' := a + 1 + 1) (k' := 1) (n' := 4) d1_41 d1_43 fA_0 w24 rfl w23 (Or.inl w25) rfl (by decide) ⟨by decide, by decide⟩ ⟨fun _ => rfl, fun _ => rfl⟩ rfl rfl rfl (by decide) <| zb d1_46 rfl <| zc d1_47 ci_4 <| zx (j' := 2) (top' := a + 1 + 2) (k' := 2) (n' := 8) d1_48 d1_50 fA_1 w26 rfl w23 (Or.inl w27) rfl (by decide) ⟨by decide, by decide⟩ ⟨fun _ => rfl, fun _ => rfl⟩ rfl rfl rfl (by decide) <| zb d1_53 rfl <| zj d1_54 cb_96 <| zx (j' := 3) (top' := a + 1 + 3) (k' := 3) (n' := 104) d1_56 d1_58 fA_2 w28 rfl w23 (Or.inl w29) rfl (by decide) ⟨by decide, by decide⟩ ⟨fun _ => rfl, fun _ => rfl⟩ rfl rfl rfl (by decide) <| zb d1_61 rfl <| zc d1_62 ci_4 <| zx (j' := 4) (top' := a + 1 + 4) (k' := 4) (n' := 108) d1_63 d1_65 fA_3 w30 rfl w23 (Or.inl w31) rfl (by decide) ⟨by decide, by decide⟩ ⟨fun _ => rfl, fun _ => rfl⟩ rfl rfl rfl (by decide) <| zb d1_68 rfl <| ?_
  refine zc d1_69 ci_4 <| zx (j' := 5) (top' := a + 1 + 5) (k' := 5) (n' := 112) d1_70 d1_72 fA_4 w32 rfl w23 (Or.inl w33) rfl (by decide) ⟨by decide, by decide⟩ ⟨fun _ => rfl, fun _ => rfl⟩ rfl rfl rfl (by decide) <| zb d1_75 rfl <| zc d1_76 ci_4 <| zx (j' := 6) (top' := a + 1 + 6) (k' := 6) (n' := 116) d1_77 d1_79 fA_5 w34 rfl w23 (Or.inl w35) rfl (by decide) ⟨by decide, by decide⟩ ⟨fun _ => rfl, fun _ => rfl⟩ rfl rfl rfl (by decide) <| zb d1_82 rfl <| zc d1_83 ci_4 <| zx (j' := 7) (top' := a + 1 + 7) (k' := 7) (n' := 120) d1_84 d1_86 fA_6 w36 rfl w23 (Or.inl w37) rfl (by decide) ⟨by decide, by decide⟩ ⟨fun _ => rfl, fun _ => rfl⟩ rfl rfl rfl (by decide) <| zb d1_89 rfl <| zj d1_90 cb_32 <| zx (j' := 8) (top' := a + 1 + 8) (k' := 8) (n' := 152) d1_92 d1_94 fA_7 w38 rfl w23 (Or.inl w39) rfl (by decide) ⟨by decide, by decide⟩ ⟨fun _ => rfl, fun _ => rfl⟩ rfl rfl rfl (by decide) <| zb d1_97 rfl <| ?_
  refine zj d1_98 cb_32 <| zx (j' := 9) (top' := a + 1 + 9) (k' := 9) (n' := 184) d1_100 d1_102 fA_8 w40 rfl w23 (Or.inl w41) rfl (by decide) ⟨by decide, by decide⟩ ⟨fun _ => rfl, fun _ => rfl⟩ rfl rfl rfl (by decide) <| zb d1_105 rfl <| zj d1_106 cb_32 <| zx (j' := 10) (top' := a + 1 + 10) (k' := 10) (n' := 216) d1_108 d1_110 fA_9 w42 rfl w23 (Or.inl w43) rfl (by decide) ⟨by decide, by decide⟩ ⟨fun _ => rfl, fun _ => rfl⟩ rfl rfl rfl (by decide) <| zb d1_113 rfl <| zj d1_114 cb_32 <| zx (j' := 11) (top' := a + 1 + 11) (k' := 11) (n' := 248) d1_116 d1_118 fA_10 w44 rfl w23 (Or.inl w45) rfl (by decide) ⟨by decide, by decide⟩ ⟨fun _ => rfl, fun _ => rfl⟩ rfl rfl rfl (by decide) <| zb d1_121 rfl <| zj d1_122 cb_32 <| zx (j' := 12) (top' := a + 1 + 12) (k' := 12) (n' := 280) d1_124 d1_126 fA_11 w46 rfl w23 (Or.inl w47) rfl (by decide) ⟨by decide, by decide⟩ ⟨fun _ => rfl, fun _ => rfl⟩ rfl rfl rfl (by decide) <| zb d1_129 rfl <| ?_
  refine zj d1_130 cb_32 <| zx (j' := 13) (top' := a + 1 + 13) (k' := 13) (n' := 312) d1_132 d1_134 fA_12 w48 rfl w23 (Or.inl w49) rfl (by decide) ⟨by decide, by decide⟩ ⟨fun _ => rfl, fun _ => rfl⟩ rfl rfl rfl (by decide) <| zb d1_137 rfl <| zj d1_138 cb_32 <| zx (j' := 14) (top' := a + 1 + 14) (k' := 14) (n' := 344) d1_140 d1_142 fA_13 w50 rfl w23 (Or.inl w51) rfl (by decide) ⟨by decide, by decide⟩ ⟨fun _ => rfl, fun _ => rfl⟩ rfl rfl rfl (by decide) <| zb d1_145 rfl <| zj d1_146 cb_32 <| zx (j' := 15) (top' := a + 1 + 15) (k' := 15) (n' := 376) d1_148 d1_150 fA_14 w52 rfl w23 (Or.inl w53) rfl (by decide) ⟨by decide, by decide⟩ ⟨fun _ => rfl, fun _ => rfl⟩ rfl rfl rfl (by decide) <| zb d1_153 rfl <| zj d1_154 cb_64 <| zx (j' := 16) (top' := a + 1 + 16) (k' := 16) (n' := 440) d1_156 d1_158 fA_15 w54 rfl w23 (Or.inl w55) rfl (by decide) ⟨by decide, by decide⟩ ⟨fun _ => rfl, fun _ => rfl⟩ rfl rfl rfl (by decide) <| zb d1_161 rfl <| ?_
  refine zj d1_162 cb_64 <| zx (j' := 17) (top' := a + 1 + 17) (k' := 17) (n' := 504) d1_164 d1_166 fA_16 w56 rfl w23 (Or.inl w57) rfl (by decide) ⟨by decide, by decide⟩ ⟨fun _ => rfl, fun _ => rfl⟩ rfl rfl rfl (by decide) <| zb d1_169 rfl <| zj d1_170 cb_64 <| zx (j' := 18) (top' := a + 1 + 18) (k' := 18) (n' := 568) d1_172 d1_174 fA_17 w58 rfl w23 (Or.inl w59) rfl (by decide) ⟨by decide, by decide⟩ ⟨fun _ => rfl, fun _ => rfl⟩ rfl rfl rfl (by decide) <| zb d1_177 rfl <| zj d1_178 cb_64 <| zx (j' := 19) (top' := a + 1 + 19) (k' := 19) (n' := 632) d1_180 d1_182 fA_18 w60 rfl w23 (Or.inl w61) rfl (by decide) ⟨by decide, by decide⟩ ⟨fun _ => rfl, fun _ => rfl⟩ rfl rfl rfl (by decide) <| zb d1_185 rfl <| zj d1_186 cb_8 <| zx (j' := 20) (top' := a + 1 + 20) (k' := 20) (n' := 640) d1_188 d1_190 fA_19 w62 rfl w23 (Or.inl w63) rfl (by decide) ⟨by decide, by decide⟩ ⟨fun _ => rfl, fun _ => rfl⟩ rfl rfl rfl (by decide) <| zb d1_193 rfl <| ?_
  refine zj d1_194 cb_32 <| zx (j' := 21) (top' := a + 1 + 21) (k' := 21) (n' := 672) d1_196 d1_198 fA_20 w64 rfl w23 (Or.inl w65) rfl (by decide) ⟨by decide, by decide⟩ ⟨fun _ => rfl, fun _ => rfl⟩ rfl rfl rfl (by decide) <| zb d1_201 rfl <| zj d1_202 cb_32 <| zx (j' := 22) (top' := a + 1 + 22) (k' := 22) (n' := 704) d1_204 d1_206 fA_21 w67 rfl w66 (Or.inl w68) rfl (by decide) ⟨by decide, by decide⟩ ⟨fun _ => rfl, fun _ => rfl⟩ rfl rfl rfl (by decide) <| zb d1_209 rfl <| zC d1_210 cs_16384 <| zx (j' := 23) (top' := a + 1 + 23) (k' := 23) (n' := 17088) d1_213 d1_215 fA_22 w69 rfl w23 (Or.inl w70) rfl (by decide) ⟨by decide, by decide⟩ ⟨fun _ => rfl, fun _ => rfl⟩ rfl rfl rfl (by decide) <| zb d1_218 rfl <| zj d1_219 cb_32 <| zx (j' := 24) (top' := a + 1 + 24) (k' := 24) (n' := 17120) d1_221 d1_223 fA_23 w71 rfl w23 (Or.inl w72) rfl (by decide) ⟨by decide, by decide⟩ ⟨fun _ => rfl, fun _ => rfl⟩ rfl rfl rfl (by decide) <| zb d1_226 rfl <| ?_
  refine zj d1_227 cb_16 <| zx (j' := 25) (top' := a + 1 + 25) (k' := 25) (n' := 17136) d1_229 d1_231 fA_24 w73 rfl w23 (Or.inl w74) rfl (by decide) ⟨by decide, by decide⟩ ⟨fun _ => rfl, fun _ => rfl⟩ rfl rfl rfl (by decide) <| zb d1_234 rfl <| zC d1_235 cs_512 <| zx (j' := 26) (top' := a + 1 + 26) (k' := 26) (n' := 17648) d1_238 d1_240 fA_25 w75 rfl w23 (Or.inl w76) rfl (by decide) ⟨by decide, by decide⟩ ⟨fun _ => rfl, fun _ => rfl⟩ rfl rfl rfl (by decide) <| zb d1_243 rfl <| zj d1_244 cb_16 <| zx (j' := 27) (top' := a + 1 + 27) (k' := 27) (n' := 17664) d1_246 d1_248 fA_26 w77 rfl w23 (Or.inl w78) rfl (by decide) ⟨by decide, by decide⟩ ⟨fun _ => rfl, fun _ => rfl⟩ rfl rfl rfl (by decide) <| zb d1_251 rfl <| zj d1_252 cb_16 <| zx (j' := 28) (top' := a + 1 + 28) (k' := 28) (n' := 17680) d1_254 d1_256 fA_27 w79 rfl w23 (Or.inl w80) rfl (by decide) ⟨by decide, by decide⟩ ⟨fun _ => rfl, fun _ => rfl⟩ rfl rfl rfl (by decide) <| zb d1_259 rfl <| ?_
  refine zj d1_260 cb_16 <| zx (j' := 29) (top' := a + 1 + 29) (k' := 29) (n' := 17696) d1_262 d1_264 fA_28 w81 rfl w23 (Or.inl w82) rfl (by decide) ⟨by decide, by decide⟩ ⟨fun _ => rfl, fun _ => rfl⟩ rfl rfl rfl (by decide) <| zb d1_267 rfl <| zj d1_268 cb_16 <| zx (j' := 30) (top' := a + 1 + 30) (k' := 30) (n' := 17712) d1_270 d1_272 fA_29 w83 rfl w23 (Or.inl w84) rfl (by decide) ⟨by decide, by decide⟩ ⟨fun _ => rfl, fun _ => rfl⟩ rfl rfl rfl (by decide) <| zb d1_275 rfl <| zj d1_276 cb_16 <| zx (j' := 31) (top' := a + 1 + 31) (k' := 31) (n' := 17728) d1_278 d1_280 fA_30 w85 rfl w23 (Or.inl w86) rfl (by decide) ⟨by decide, by decide⟩ ⟨fun _ => rfl, fun _ => rfl⟩ rfl rfl rfl (by decide) <| zb d1_283 rfl <| zj d1_284 cb_16 <| zx (j' := 32) (top' := a + 1 + 32) (k' := 32) (n' := 17744) d1_286 d1_288 fA_31 w87 rfl w23 (Or.inl w88) rfl (by decide) ⟨by decide, by decide⟩ ⟨fun _ => rfl, fun _ => rfl⟩ rfl rfl rfl (by decide) <| zb d1_291 rfl <| ?_
  refine zC d1_292 cs_128 <| zx (j' := 33) (top' := a + 1 + 33) (k' := 33) (n' := 17872) d1_295 d1_297 fA_32 w89 rfl w23 (Or.inl w90) rfl (by decide) ⟨by decide, by decide⟩ ⟨fun _ => rfl, fun _ => rfl⟩ rfl rfl rfl (by decide) <| zb d1_300 rfl <| zj d1_301 cb_16 <| zx (j' := 34) (top' := a + 1 + 34) (k' := 34) (n' := 17888) d1_303 d1_305 fA_33 w91 rfl w23 (Or.inl w92) rfl (by decide) ⟨by decide, by decide⟩ ⟨fun _ => rfl, fun _ => rfl⟩ rfl rfl rfl (by decide) <| zb d1_308 rfl <| zj d1_309 cb_16 <| zx (j' := 35) (top' := a + 1 + 35) (k' := 35) (n' := 17904) d1_311 d1_313 fA_34 w93 rfl w66 (Or.inl w94) rfl (by decide) ⟨by decide, by decide⟩ ⟨fun _ => rfl, fun _ => rfl⟩ rfl rfl rfl (by decide) <| zb d1_316 rfl <| zj d1_317 cb_32 <| zx (j' := 36) (top' := a + 1 + 36) (k' := 36) (n' := 17936) d1_319 d1_321 fA_35 w95 rfl w23 (Or.inl w96) rfl (by decide) ⟨by decide, by decide⟩ ⟨fun _ => rfl, fun _ => rfl⟩ rfl rfl rfl (by decide) <| zb d1_324 rfl <| ?_
  refine zC d1_325 cs_512 <| zx (j' := 37) (top' := a + 1 + 37) (k' := 37) (n' := 18448) d1_328 d1_330 fA_36 w97 rfl w23 (Or.inl w98) rfl (by decide) ⟨by decide, by decide⟩ ⟨fun _ => rfl, fun _ => rfl⟩ rfl rfl rfl (by decide) <| zb d1_333 rfl <| zC d1_334 cs_512 <| zx (j' := 38) (top' := a + 1 + 38) (k' := 38) (n' := 18960) d1_337 d1_339 fA_37 w99 rfl w23 (Or.inl w100) rfl (by decide) ⟨by decide, by decide⟩ ⟨fun _ => rfl, fun _ => rfl⟩ rfl rfl rfl (by decide) <| zb d1_342 rfl <| zC d1_343 cs_512 <| zx (j' := 39) (top' := a + 1 + 39) (k' := 39) (n' := 19472) d1_346 d1_348 fA_38 w101 rfl w23 (Or.inl w102) rfl (by decide) ⟨by decide, by decide⟩ ⟨fun _ => rfl, fun _ => rfl⟩ rfl rfl rfl (by decide) <| zb d1_351 rfl <| zC d1_352 cs_512 <| zx (j' := 40) (top' := a + 1 + 40) (k' := 40) (n' := 19984) d1_355 d1_357 fA_39 w103 rfl w23 (Or.inl w104) rfl (by decide) ⟨by decide, by decide⟩ ⟨fun _ => rfl, fun _ => rfl⟩ rfl rfl rfl (by decide) <| zb d1_360 rfl <| ?_
  refine zC d1_361 cs_512 <| zx (j' := 41) (top' := a + 1 + 41) (k' := 41) (n' := 20496) d1_364 d1_366 fA_40 w105 rfl w23 (Or.inl w106) rfl (by decide) ⟨by decide, by decide⟩ ⟨fun _ => rfl, fun _ => rfl⟩ rfl rfl rfl (by decide) <| zb d1_369 rfl <| zj d1_370 cb_64 <| zx (j' := 42) (top' := a + 1 + 42) (k' := 42) (n' := 20560) d1_372 d1_374 fA_41 w107 rfl w23 (Or.inl w108) rfl (by decide) ⟨by decide, by decide⟩ ⟨fun _ => rfl, fun _ => rfl⟩ rfl rfl rfl (by decide) <| zb d1_377 rfl <| zj d1_378 cb_64 <| zx (j' := 43) (top' := a + 1 + 43) (k' := 43) (n' := 20624) d1_380 d1_382 fA_42 w109 rfl w23 (Or.inl w110) rfl (by decide) ⟨by decide, by decide⟩ ⟨fun _ => rfl, fun _ => rfl⟩ rfl rfl rfl (by decide) <| zb d1_385 rfl <| zj d1_386 cb_64 <| zx (j' := 44) (top' := a + 1 + 44) (k' := 44) (n' := 20688) d1_388 d1_390 fA_43 w111 rfl w23 (Or.inl w112) rfl (by decide) ⟨by decide, by decide⟩ ⟨fun _ => rfl, fun _ => rfl⟩ rfl rfl rfl (by decide) <| zb d1_393 rfl <| ?_
  refine zj d1_394 cb_8 <| zx (j' := 45) (top' := a + 1 + 45) (k' := 45) (n' := 20696) d1_396 d1_398 fA_44 w113 rfl w23 (Or.inl w114) rfl (by decide) ⟨by decide, by decide⟩ ⟨fun _ => rfl, fun _ => rfl⟩ rfl rfl rfl (by decide) <| zb d1_401 rfl <| zb d1_402 rfl <| za d1_403 rfl <| zc d1_404 ci_1 <| zj d1_405 cb_8 <| ?_
  refine bind_el hf fun r1 hg2 hf => ?_
  refine zm (N := B2) (W := 1) (as := [.int i1, .int (1 : Int32), .int (8 : Int32)]) (S' := [.ref a]) d1_407 w115 w116 w117 rfl cw2 ar2 rk1_2_1 (by decide) rfl rfl (X_clamp_pay hg2) <| ans1 <| zB d1_410 w119 fS_7 (Or.inl w120) <| zb d1_413 rfl <| zb d1_414 rfl <| za d1_415 rfl <| zj d1_416 cb_16 <| zj d1_418 cb_64 <| ?_
  refine bind_el hf fun r3 hg4 hf => ?_
  obtain rfl := Option.some.inj hf
  exact zm (N := B2) (W := 1) (as := [.int i2, .int (16 : Int32), .int (64 : Int32)]) (S' := [.ref a]) d1_420 w115 w116 w117 rfl cw2 ar2 rk1_2_1 (by decide) rfl rfl (X_clamp_pay hg4) <| ans1 <| zB d1_423 w121 fS_8 (Or.inl w122) <| zt d1_426 rfl ⟨by decide, by decide⟩ ⟨rfl, rfl⟩
theorem X_init_pay {C : Ctx} {a : Nat} {H : List (Nat × Nat × Rec)} {res : Rec} {i1 : Int32} {i2 : Int32} (hf : X_init i1 i2 = some res) : Pays C B1 [.ref a, .int i1, .int i2] (a + 1, (a, 0, zrec) :: H) (Ans none (a + 1 + 45, (a, 45, res) :: H)) :=
  Pays.of pnK (Nat.le_of_ble_eq_true rfl) (P := [vr a, vi i1, vi i2]) 0 rfl (X_init_p i1 i2 hf)
def X_createTable (ob : Rec) (i1 : Int32) (i2 : Int32) : Option (Int32 × Rec) :=
  if i1 < (0 : Int32) then
    some ((0 : Int32), ob)
  else
    if i1 < (4 : Int32) then
      if i2 < (1 : Int32) then
        some ((0 : Int32), ob)
      else
        if (3 : Int32) < i2 then
          some ((0 : Int32), ob)
        else
          chk (4 : Int32) i1 <|
          if (gA ob 0 i1) = (0 : Int32) then
            chk (4 : Int32) i1 <|
            chk (4 : Int32) i1 <|
            some ((1 : Int32), (sA (sA ob 0 i1 i2) 1 i1 (0 : Int32)))
          else
            some ((0 : Int32), ob)
    else
      some ((0 : Int32), ob)
theorem X_createTable_p {C : Ctx} {top : Nat} {a : Nat} {H : List (Nat × Nat × Rec)} {res : Int32 × Rec} (ob : Rec) (i1 : Int32) (i2 : Int32) (hf : X_createTable ob i1 i2 = some res) : Runs C B3 0 0 0 [vr a, vi i1, vi i2] [] (top, (a, 45, ob) :: H) (Ans (some (.int res.1)) (top, (a, 45, res.2) :: H)) := by
  delta X_createTable at hf
  refine za d3_0 rfl <| ?_
  refine ite_el hf (fun hc1 hf => ?_) (fun hc1 hf => ?_)
  · refine zk (pc' := 19) d3_1 (tlt hc1).1 (by decide) <| ?_
    obtain rfl := Option.some.inj hf
    exact zc d3_19 ci_0 <| zw (y := (0 : Int32)) d3_20 rfl ⟨by decide, by decide⟩ rfl ⟨rfl, rfl⟩
  · refine zl d3_1 (flt hc1).1 <| ?_
    refine za d3_4 rfl <| zc d3_5 ci_4 <| ?_
    refine ite_el hf (fun hc2 hf => ?_) (fun hc2 hf => ?_)
    · refine zg d3_6 (tlt hc2).2.1 <| ?_
      refine za d3_9 rfl <| zc d3_10 ci_1 <| ?_
      refine ite_el hf (fun hc3 hf => ?_) (fun hc3 hf => ?_)
      · refine zf (pc' := 19) d3_11 (tlt hc3).1 (by decide) <| ?_
        obtain rfl := Option.some.inj hf
        exact zc d3_19 ci_0 <| zw (y := (0 : Int32)) d3_20 rfl ⟨by decide, by decide⟩ rfl ⟨rfl, rfl⟩
      · refine zg d3_11 (flt hc3).1 <| ?_
        refine za d3_14 rfl <| zc d3_15 ci_3 <| ?_
        refine ite_el hf (fun hc4 hf => ?_) (fun hc4 hf => ?_)
        · refine zg d3_16 (tlt hc4).2.2.2 <| ?_
          obtain rfl := Option.some.inj hf
          exact zc d3_19 ci_0 <| zw (y := (0 : Int32)) d3_20 rfl ⟨by decide, by decide⟩ rfl ⟨rfl, rfl⟩
        · refine zf (pc' := 21) d3_16 (flt hc4).2.2.2 (by decide) <| ?_
          refine zb d3_21 rfl <| ze d3_22 fA_0 w24 (by decide) <| za d3_25 rfl <| ?_
          refine chk_el hf fun hi5 hf => ?_
          refine zh d3_26 fA_0 (by decide) hi5 <| ?_
          refine ite_el hf (fun hc6 hf => ?_) (fun hc6 hf => ?_)
          · refine zk (pc' := 32) d3_27 (teq hc6).1 (by decide) <| ?_
            refine zb d3_32 rfl <| ze d3_33 fA_0 w24 (by decide) <| za d3_36 rfl <| za d3_37 rfl <| ?_
            refine chk_el hf fun hi7 hf => ?_
            refine zq d3_38 fA_0 (by decide) hi7 <| zb d3_39 rfl <| ze d3_40 fA_1 w26 (by decide) <| za d3_43 rfl <| zc d3_44 ci_0 <| ?_
            refine chk_el hf fun hi8 hf => ?_
            obtain rfl := Option.some.inj hf
            exact zq d3_45 fA_1 (by decide) hi8 <| zc d3_46 ci_1 <| zw (y := (1 : Int32)) d3_47 rfl ⟨by decide, by decide⟩ rfl ⟨rfl, rfl⟩
          · refine zl d3_27 (feq hc6).1 <| ?_
            obtain rfl := Option.some.inj hf
            exact zc d3_30 ci_0 <| zw (y := (0 : Int32)) d3_31 rfl ⟨by decide, by decide⟩ rfl ⟨rfl, rfl⟩
    · refine zf (pc' := 19) d3_6 (flt hc2).2.1 (by decide) <| ?_
      obtain rfl := Option.some.inj hf
      exact zc d3_19 ci_0 <| zw (y := (0 : Int32)) d3_20 rfl ⟨by decide, by decide⟩ rfl ⟨rfl, rfl⟩
theorem X_createTable_pay {C : Ctx} {top : Nat} {a : Nat} {H : List (Nat × Nat × Rec)} {res : Int32 × Rec} {ob : Rec} {i1 : Int32} {i2 : Int32} (hf : X_createTable ob i1 i2 = some res) : Pays C B3 [.ref a, .int i1, .int i2] (top, (a, 45, ob) :: H) (Ans (some (.int res.1)) (top, (a, 45, res.2) :: H)) :=
  Pays.of pnK (Nat.le_of_ble_eq_true rfl) (P := [vr a, vi i1, vi i2]) 0 rfl (X_createTable_p ob i1 i2 hf)
def X_tableExists (ob : Rec) (i1 : Int32) : Option (Int32) :=
  if i1 < (0 : Int32) then
    some (0 : Int32)
  else
    if i1 < (4 : Int32) then
      chk (4 : Int32) i1 <|
      if (gA ob 0 i1) = (0 : Int32) then
        some (0 : Int32)
      else
        some (1 : Int32)
    else
      some (0 : Int32)
theorem X_tableExists_p {C : Ctx} {top : Nat} {a : Nat} {H : List (Nat × Nat × Rec)} {ob : Rec} {res : Int32} (i1 : Int32) (hf : X_tableExists ob i1 = some res) : Runs C B5 0 0 0 [vr a, vi i1] [] (top, (a, 45, ob) :: H) (Ans (some (.int res)) (top, (a, 45, ob) :: H)) := by
  delta X_tableExists at hf
  refine za d5_0 rfl <| ?_
  refine ite_el hf (fun hc1 hf => ?_) (fun hc1 hf => ?_)
  · refine zk (pc' := 22) d5_1 (tlt hc1).1 (by decide) <| ?_
    obtain rfl := Option.some.inj hf
    exact zc d5_22 ci_0 <| zw (y := (0 : Int32)) d5_23 rfl ⟨by decide, by decide⟩ rfl ⟨rfl, rfl⟩
  · refine zl d5_1 (flt hc1).1 <| ?_
    refine za d5_4 rfl <| zc d5_5 ci_4 <| ?_
    refine ite_el hf (fun hc2 hf => ?_) (fun hc2 hf => ?_)
    · refine zg d5_6 (tlt hc2).2.1 <| ?_
      refine zb d5_9 rfl <| ze d5_10 fA_0 w24 (by decide) <| za d5_13 rfl <| ?_
      refine chk_el hf fun hi3 hf => ?_
      refine zh d5_14 fA_0 (by decide) hi3 <| ?_
      refine ite_el hf (fun hc4 hf => ?_) (fun hc4 hf => ?_)
      · refine zk (pc' := 22) d5_15 (teq hc4).1 (by decide) <| ?_
        obtain rfl := Option.some.inj hf
        exact zc d5_22 ci_0 <| zw (y := (0 : Int32)) d5_23 rfl ⟨by decide, by decide⟩ rfl ⟨rfl, rfl⟩
      · refine zl d5_15 (feq hc4).1 <| ?_
        obtain rfl := Option.some.inj hf
        exact zc d5_18 ci_1 <| zo (pc' := 23) d5_19 (by decide) <| zw (y := (1 : Int32)) d5_23 rfl ⟨by decide, by decide⟩ rfl ⟨rfl, rfl⟩
    · refine zf (pc' := 22) d5_6 (flt hc2).2.1 (by decide) <| ?_
      obtain rfl := Option.some.inj hf
      exact zc d5_22 ci_0 <| zw (y := (0 : Int32)) d5_23 rfl ⟨by decide, by decide⟩ rfl ⟨rfl, rfl⟩
theorem X_tableExists_pay {C : Ctx} {top : Nat} {a : Nat} {H : List (Nat × Nat × Rec)} {ob : Rec} {res : Int32} {i1 : Int32} (hf : X_tableExists ob i1 = some res) : Pays C B5 [.ref a, .int i1] (top, (a, 45, ob) :: H) (Ans (some (.int res)) (top, (a, 45, ob) :: H)) :=
  Pays.of pnK (Nat.le_of_ble_eq_true rfl) (P := [vr a, vi i1]) 0 rfl (X_tableExists_p i1 hf)
def X_insert (ob : Rec) (i1 : Int32) (i2 : Int32) (i3 : Int32) (i4 : Int32) : Option (Int32 × Rec) :=
  (X_tableExists ob i1).bind fun r1 =>
  if r1 = (0 : Int32) then
    some ((-1 : Int32), ob)
  else
    chk (4 : Int32) i1 <|
    if (gA ob 1 i1) < (gI ob 7) then
      if (gA ob 1 i1) < (8 : Int32) then
        chk (96 : Int32) ((i1 * (24 : Int32)) + ((gA ob 1 i1) * (3 : Int32))) <|
        chk (96 : Int32) (((i1 * (24 : Int32)) + ((gA ob 1 i1) * (3 : Int32))) + (1 : Int32)) <|
        chk (96 : Int32) (((i1 * (24 : Int32)) + ((gA ob 1 i1) * (3 : Int32))) + (2 : Int32)) <|
        chk (4 : Int32) i1 <|
        some ((gA ob 1 i1), (sA (sA (sA (sA ob 2 ((i1 * (24 : Int32)) + ((gA ob 1 i1) * (3 : Int32))) i2) 2 (((i1 * (24 : Int32)) + ((gA ob 1 i1) * (3 : Int32))) + (1 : Int32)) i3) 2 (((i1 * (24 : Int32)) + ((gA ob 1 i1) * (3 : Int32))) + (2 : Int32)) i4) 1 i1 ((gA ob 1 i1) + (1 : Int32))))
      else
        some ((-2 : Int32), ob)
    else
      some ((-2 : Int32), ob)
theorem X_insert_p {C : Ctx} {top : Nat} {a : Nat} {H : List (Nat × Nat × Rec)} {res : Int32 × Rec} (ob : Rec) (i1 : Int32) (i2 : Int32) (i3 : Int32) (i4 : Int32) (hf : X_insert ob i1 i2 i3 i4 = some res) : Runs C B4 0 0 0 [vr a, vi i1, vi i2, vi i3, vi i4, vn, vn] [] (top, (a, 45, ob) :: H) (Ans (some (.int res.1)) (top, (a, 45, res.2) :: H)) := by
  delta X_insert at hf
  refine zb d4_0 rfl <| za d4_1 rfl <| ?_
  refine bind_el hf fun r1 hg2 hf => ?_
  refine zm (N := B5) (W := 0) (as := [.int i1]) (S' := []) d4_2 w133 w134 w135 rfl cw5 ar5 rk4_5_0 (by decide) rfl rfl (X_tableExists_pay hg2) <| ans1 <| ?_
  refine ite_el hf (fun hc3 hf => ?_) (fun hc3 hf => ?_)
  · refine zl d4_5 (teq hc3).2 <| ?_
    obtain rfl := Option.some.inj hf
    exact zc d4_8 ci_m1 <| zn d4_9 rfl ⟨by decide, by decide⟩ ⟨rfl, rfl⟩
  · refine zk (pc' := 10) d4_5 (feq hc3).2 (by decide) <| ?_
    refine zb d4_10 rfl <| ze d4_11 fA_1 w26 (by decide) <| za d4_14 rfl <| ?_
    refine chk_el hf fun hi4 hf => ?_
    refine zh d4_15 fA_1 (by decide) hi4 <| zi (P' := [vr a, vi i1, vi i2, vi i3, vi i4, vi (gA ob 1 i1), vn]) d4_16 (by decide) rfl <| zd d4_18 rfl <| zb d4_20 rfl <| zs d4_21 w119 fS_7 <| ?_
    refine ite_el hf (fun hc5 hf => ?_) (fun hc5 hf => ?_)
    · refine zg d4_24 (tlt hc5).2.1 <| ?_
      refine zd d4_27 rfl <| zj d4_29 cb_8 <| ?_
      refine ite_el hf (fun hc6 hf => ?_) (fun hc6 hf => ?_)
      · refine zf (pc' := 37) d4_31 (tlt hc6).1 (by decide) <| ?_
        refine za d4_37 rfl <| zj d4_38 cb_24 <| zy d4_40 <| zd d4_41 rfl <| zc d4_43 ci_3 <| zy d4_44 <| zu d4_45 <| zi (P' := [vr a, vi i1, vi i2, vi i3, vi i4, vi (gA ob 1 i1), vi ((i1 * (24 : Int32)) + ((gA ob 1 i1) * (3 : Int32)))]) d4_46 (by decide) rfl <| zb d4_48 rfl <| ze d4_49 fA_2 w28 (by decide) <| zd d4_52 rfl <| za d4_54 rfl <| ?_
        refine chk_el hf fun hi7 hf => ?_
        refine zq d4_55 fA_2 (by decide) hi7 <| zb d4_56 rfl <| ze d4_57 fA_2 w28 (by decide) <| zd d4_60 rfl <| zc d4_62 ci_1 <| zu d4_63 <| za d4_64 rfl <| ?_
        refine chk_el hf fun hi8 hf => ?_
        refine zq d4_65 fA_2 (by decide) hi8 <| zb d4_66 rfl <| ze d4_67 fA_2 w28 (by decide) <| zd d4_70 rfl <| zc d4_72 ci_2 <| zu d4_73 <| zd d4_74 rfl <| ?_
        refine chk_el hf fun hi9 hf => ?_
        refine zq d4_76 fA_2 (by decide) hi9 <| zb d4_77 rfl <| ze d4_78 fA_1 w26 (by decide) <| za d4_81 rfl <| zd d4_82 rfl <| zc d4_84 ci_1 <| zu d4_85 <| ?_
        refine chk_el hf fun hi10 hf => ?_
        obtain rfl := Option.some.inj hf
        exact zq d4_86 fA_1 (by decide) hi10 <| zd d4_87 rfl <| zn d4_89 rfl ⟨by decide, by decide⟩ ⟨rfl, rfl⟩
      · refine zg d4_31 (flt hc6).1 <| ?_
        obtain rfl := Option.some.inj hf
        exact zj d4_34 cb_m2 <| zn d4_36 rfl ⟨by decide, by decide⟩ ⟨rfl, rfl⟩
    · refine zf (pc' := 34) d4_24 (flt hc5).2.1 (by decide) <| ?_
      obtain rfl := Option.some.inj hf
      exact zj d4_34 cb_m2 <| zn d4_36 rfl ⟨by decide, by decide⟩ ⟨rfl, rfl⟩
theorem X_insert_pay {C : Ctx} {top : Nat} {a : Nat} {H : List (Nat × Nat × Rec)} {res : Int32 × Rec} {ob : Rec} {i1 : Int32} {i2 : Int32} {i3 : Int32} {i4 : Int32} (hf : X_insert ob i1 i2 i3 i4 = some res) : Pays C B4 [.ref a, .int i1, .int i2, .int i3, .int i4] (top, (a, 45, ob) :: H) (Ans (some (.int res.1)) (top, (a, 45, res.2) :: H)) :=
  Pays.of pnK (Nat.le_of_ble_eq_true rfl) (P := [vr a, vi i1, vi i2, vi i3, vi i4, vn, vn]) 2 rfl (X_insert_p ob i1 i2 i3 i4 hf)
def X_newNode (ob : Rec) (i1 : Int32) (i2 : Int32) (i3 : Int32) (i4 : Int32) (i5 : Int32) : Option (Int32 × Rec) :=
  if (gI ob 10) < (32 : Int32) then
    chk (32 : Int32) (gI ob 10) <|
    chk (32 : Int32) (gI ob 10) <|
    chk (32 : Int32) (gI ob 10) <|
    chk (32 : Int32) (gI ob 10) <|
    chk (32 : Int32) (gI ob 10) <|
    chk (32 : Int32) (gI ob 10) <|
    chk (32 : Int32) (gI ob 10) <|
    chk (32 : Int32) (gI ob 10) <|
    some ((gI ob 10), (sI (sA (sA (sA (sA (sA (sA (sA (sA ob 7 (gI ob 10) i1) 8 (gI ob 10) i2) 9 (gI ob 10) i3) 10 (gI ob 10) i4) 11 (gI ob 10) i5) 12 (gI ob 10) (0 : Int32)) 13 (gI ob 10) (gI ob 11)) 14 (gI ob 10) (0 : Int32)) 10 ((gI ob 10) + (1 : Int32))))
  else
    some ((-2 : Int32), ob)
theorem X_newNode_p {C : Ctx} {top : Nat} {a : Nat} {H : List (Nat × Nat × Rec)} {res : Int32 × Rec} (ob : Rec) (i1 : Int32) (i2 : Int32) (i3 : Int32) (i4 : Int32) (i5 : Int32) (hf : X_newNode ob i1 i2 i3 i4 i5 = some res) : Runs C B7 0 0 0 [vr a, vi i1, vi i2, vi i3, vi i4, vi i5, vn] [] (top, (a, 45, ob) :: H) (Ans (some (.int res.1)) (top, (a, 45, res.2) :: H)) := by
  delta X_newNode at hf
  refine zb d7_0 rfl <| zs d7_1 w142 fS_10 <| zj d7_4 cb_32 <| ?_
  refine ite_el hf (fun hc1 hf => ?_) (fun hc1 hf => ?_)
  · refine zf (pc' := 12) d7_6 (tlt hc1).1 (by decide) <| ?_
    refine zb d7_12 rfl <| zs d7_13 w142 fS_10 <| zi (P' := [vr a, vi i1, vi i2, vi i3, vi i4, vi i5, vi (gI ob 10)]) d7_16 (by decide) rfl <| zb d7_18 rfl <| ze d7_19 fA_7 w38 (by decide) <| zd d7_22 rfl <| za d7_24 rfl <| ?_
    refine chk_el hf fun hi2 hf => ?_
    refine zq d7_25 fA_7 (by decide) hi2 <| zb d7_26 rfl <| ze d7_27 fA_8 w40 (by decide) <| zd d7_30 rfl <| za d7_32 rfl <| ?_
    refine chk_el hf fun hi3 hf => ?_
    refine zq d7_33 fA_8 (by decide) hi3 <| zb d7_34 rfl <| ze d7_35 fA_9 w42 (by decide) <| zd d7_38 rfl <| za d7_40 rfl <| ?_
    refine chk_el hf fun hi4 hf => ?_
    refine zq d7_41 fA_9 (by decide) hi4 <| zb d7_42 rfl <| ze d7_43 fA_10 w44 (by decide) <| zd d7_46 rfl <| zd d7_48 rfl <| ?_
    refine chk_el hf fun hi5 hf => ?_
    refine zq d7_50 fA_10 (by decide) hi5 <| zb d7_51 rfl <| ze d7_52 fA_11 w46 (by decide) <| zd d7_55 rfl <| zd d7_57 rfl <| ?_
    refine chk_el hf fun hi6 hf => ?_
    refine zq d7_59 fA_11 (by decide) hi6 <| zb d7_60 rfl <| ze d7_61 fA_12 w48 (by decide) <| zd d7_64 rfl <| zc d7_66 ci_0 <| ?_
    refine chk_el hf fun hi7 hf => ?_
    refine zq d7_67 fA_12 (by decide) hi7 <| zb d7_68 rfl <| ze d7_69 fA_13 w50 (by decide) <| zd d7_72 rfl <| zb d7_74 rfl <| zs d7_75 w148 fS_11 <| ?_
    refine chk_el hf fun hi8 hf => ?_
    refine zq d7_78 fA_13 (by decide) hi8 <| zb d7_79 rfl <| ze d7_80 fA_14 w52 (by decide) <| zd d7_83 rfl <| zc d7_85 ci_0 <| ?_
    refine chk_el hf fun hi9 hf => ?_
    obtain rfl := Option.some.inj hf
    exact zq d7_86 fA_14 (by decide) hi9 <| zb d7_87 rfl <| Runs.dup d7_88 rfl <| zs d7_89 w142 fS_10 <| zc d7_92 ci_1 <| zu d7_93 <| zB d7_94 w142 fS_10 (Or.inl w143) <| zd d7_97 rfl <| zn d7_99 rfl ⟨by decide, by decide⟩ ⟨rfl, rfl⟩
  · refine zg d7_6 (flt hc1).1 <| ?_
    obtain rfl := Option.some.inj hf
    exact zj d7_9 cb_m2 <| zn d7_11 rfl ⟨by decide, by decide⟩ ⟨rfl, rfl⟩
theorem X_newNode_pay {C : Ctx} {top : Nat} {a : Nat} {H : List (Nat × Nat × Rec)} {res : Int32 × Rec} {ob : Rec} {i1 : Int32} {i2 : Int32} {i3 : Int32} {i4 : Int32} {i5 : Int32} (hf : X_newNode ob i1 i2 i3 i4 i5 = some res) : Pays C B7 [.ref a, .int i1, .int i2, .int i3, .int i4, .int i5] (top, (a, 45, ob) :: H) (Ans (some (.int res.1)) (top, (a, 45, res.2) :: H)) :=
  Pays.of pnK (Nat.le_of_ble_eq_true rfl) (P := [vr a, vi i1, vi i2, vi i3, vi i4, vi i5, vn]) 1 rfl (X_newNode_p ob i1 i2 i3 i4 i5 hf)
def X_scan (ob : Rec) (i1 : Int32) : Option (Int32 × Rec) :=
  (X_tableExists ob i1).bind fun r1 =>
  if r1 = (0 : Int32) then
    some ((-1 : Int32), ob)
  else
    if (gI ob 10) < (32 : Int32) then
      chk (4 : Int32) i1 <|
      bind2 (X_newNode ob (0 : Int32) (gA ob 0 i1) i1 (0 : Int32) (0 : Int32)) fun r6 q7 =>
      some (r6, q7)
    else
      some ((-2 : Int32), ob)
theorem X_scan_p {C : Ctx} {top : Nat} {a : Nat} {H : List (Nat × Nat × Rec)} {res : Int32 × Rec} (ob : Rec) (i1 : Int32) (hf : X_scan ob i1 = some res) : Runs C B6 0 0 0 [vr a, vi i1] [] (top, (a, 45, ob) :: H) (Ans (some (.int res.1)) (top, (a, 45, res.2) :: H)) := by
  delta X_scan at hf
  refine zb d6_0 rfl <| za d6_1 rfl <| ?_
  refine bind_el hf fun r1 hg2 hf => ?_
  refine zm (N := B5) (W := 0) (as := [.int i1]) (S' := []) d6_2 w133 w134 w135 rfl cw5 ar5 rk6_5_0 (by decide) rfl rfl (X_tableExists_pay hg2) <| ans1 <| ?_
  refine ite_el hf (fun hc3 hf => ?_) (fun hc3 hf => ?_)
  · refine zl d6_5 (teq hc3).2 <| ?_
    obtain rfl := Option.some.inj hf
    exact zc d6_8 ci_m1 <| zn d6_9 rfl ⟨by decide, by decide⟩ ⟨rfl, rfl⟩
  · refine zk (pc' := 10) d6_5 (feq hc3).2 (by decide) <| ?_
    refine zb d6_10 rfl <| zs d6_11 w142 fS_10 <| zj d6_14 cb_32 <| ?_
    refine ite_el hf (fun hc4 hf => ?_) (fun hc4 hf => ?_)
    · refine zf (pc' := 22) d6_16 (tlt hc4).1 (by decide) <| ?_
      refine zb d6_22 rfl <| zc d6_23 ci_0 <| zb d6_24 rfl <| ze d6_25 fA_0 w24 (by decide) <| za d6_28 rfl <| ?_
      refine chk_el hf fun hi5 hf => ?_
      refine zh d6_29 fA_0 (by decide) hi5 <| za d6_30 rfl <| zc d6_31 ci_0 <| zc d6_32 ci_0 <| ?_
      refine bind2_el hf fun r6 q7 hg8 hf => ?_
      obtain rfl := Option.some.inj hf
      exact zm (N := B7) (W := 0) (as := [.int (0 : Int32), .int (gA ob 0 i1), .int i1, .int (0 : Int32), .int (0 : Int32)]) (S' := []) d6_33 w144 w145 w146 rfl cw7 ar7 rk6_7_0 (by decide) rfl rfl (X_newNode_pay hg8) <| ans1 <| zn d6_36 rfl ⟨by decide, by decide⟩ ⟨rfl, rfl⟩
    · refine zg d6_16 (flt hc4).1 <| ?_
      obtain rfl := Option.some.inj hf
      exact zj d6_19 cb_m2 <| zn d6_21 rfl ⟨by decide, by decide⟩ ⟨rfl, rfl⟩
theorem X_scan_pay {C : Ctx} {top : Nat} {a : Nat} {H : List (Nat × Nat × Rec)} {res : Int32 × Rec} {ob : Rec} {i1 : Int32} (hf : X_scan ob i1 = some res) : Pays C B6 [.ref a, .int i1] (top, (a, 45, ob) :: H) (Ans (some (.int res.1)) (top, (a, 45, res.2) :: H)) :=
  Pays.of pnK (Nat.le_of_ble_eq_true rfl) (P := [vr a, vi i1]) 0 rfl (X_scan_p ob i1 hf)
def X_atom_b99 (ob : Rec) (i1 : Int32) (i2 : Int32) (i5 : Int32) (i6 : Int32) : Option (Int32 × Rec) :=
  chk (4 : Int32) (gI ob 9) <|
  chk (4 : Int32) (gI ob 9) <|
  chk (4 : Int32) (gI ob 9) <|
  chk (4 : Int32) (gI ob 9) <|
  some (((gI ob 9) + (1 : Int32)), (sI (sA (sA (sA (sA ob 3 (gI ob 9) i1) 4 (gI ob 9) i2) 5 (gI ob 9) i6) 6 (gI ob 9) i5) 9 ((gI ob 9) + (1 : Int32))))
theorem X_atom_b99_p {C : Ctx} {top : Nat} {a : Nat} {H : List (Nat × Nat × Rec)} {res : Int32 × Rec} (ob : Rec) (i1 : Int32) (i2 : Int32) (i5 : Int32) (i6 : Int32) (hf : X_atom_b99 ob i1 i2 i5 i6 = some res) : Runs C B8 0 0 99 [vr a, vi i1, vi i2, vn, vn, vi i5, vi i6] [] (top, (a, 45, ob) :: H) (Ans (some (.int res.1)) (top, (a, 45, res.2) :: H)) := by
  delta X_atom_b99 at hf
  refine zb d8_99 rfl <| ze d8_100 fA_3 w30 (by decide) <| zb d8_103 rfl <| zs d8_104 w155 fS_9 <| za d8_107 rfl <| ?_
  refine chk_el hf fun hi7 hf => ?_
  refine zq d8_108 fA_3 (by decide) hi7 <| zb d8_109 rfl <| ze d8_110 fA_4 w32 (by decide) <| zb d8_113 rfl <| zs d8_114 w155 fS_9 <| za d8_117 rfl <| ?_
  refine chk_el hf fun hi8 hf => ?_
  refine zq d8_118 fA_4 (by decide) hi8 <| zb d8_119 rfl <| ze d8_120 fA_5 w34 (by decide) <| zb d8_123 rfl <| zs d8_124 w155 fS_9 <| zd d8_127 rfl <| ?_
  refine chk_el hf fun hi9 hf => ?_
  refine zq d8_129 fA_5 (by decide) hi9 <| zb d8_130 rfl <| ze d8_131 fA_6 w36 (by decide) <| zb d8_134 rfl <| zs d8_135 w155 fS_9 <| zd d8_138 rfl <| ?_
  refine chk_el hf fun hi10 hf => ?_
  obtain rfl := Option.some.inj hf
  exact zq d8_140 fA_6 (by decide) hi10 <| zb d8_141 rfl <| Runs.dup d8_142 rfl <| zs d8_143 w155 fS_9 <| zc d8_146 ci_1 <| zu d8_147 <| zB d8_148 w155 fS_9 (Or.inl w156) <| zb d8_151 rfl <| zs d8_152 w155 fS_9 <| zn d8_155 rfl ⟨by decide, by decide⟩ ⟨rfl, rfl⟩
def X_atom_b66 (ob : Rec) (i1 : Int32) (i2 : Int32) (i3 : Int32) (i4 : Int32) : Option (Int32 × Rec) :=
  if (gI ob 9) < (4 : Int32) then
    if i1 < (6 : Int32) then
      X_atom_b99 ob i1 i2 i4 i3
    else
      X_atom_b99 ob i1 i2 (i4 &&& (1 : Int32)) (0 : Int32)
  else
    some ((-2 : Int32), ob)
theorem X_atom_b66_p {C : Ctx} {top : Nat} {a : Nat} {H : List (Nat × Nat × Rec)} {res : Int32 × Rec} (ob : Rec) (i1 : Int32) (i2 : Int32) (i3 : Int32) (i4 : Int32) (hf : X_atom_b66 ob i1 i2 i3 i4 = some res) : Runs C B8 0 0 66 [vr a, vi i1, vi i2, vi i3, vi i4, vn, vn] [] (top, (a, 45, ob) :: H) (Ans (some (.int res.1)) (top, (a, 45, res.2) :: H)) := by
  delta X_atom_b66 at hf
  refine zb d8_66 rfl <| zs d8_67 w155 fS_9 <| zc d8_70 ci_4 <| ?_
  refine ite_el hf (fun hc5 hf => ?_) (fun hc5 hf => ?_)
  · refine zf (pc' := 77) d8_71 (tlt hc5).1 (by decide) <| ?_
    refine zd d8_77 rfl <| zi (P' := [vr a, vi i1, vi i2, vi i3, vi i4, vi i4, vn]) d8_79 (by decide) rfl <| za d8_81 rfl <| zi (P' := [vr a, vi i1, vi i2, vi i3, vi i4, vi i4, vi i3]) d8_82 (by decide) rfl <| za d8_84 rfl <| zj d8_85 cb_6 <| ?_
    refine ite_el hf (fun hc6 hf => ?_) (fun hc6 hf => ?_)
    · exact zf (pc' := 99) d8_87 (tlt hc6).1 (by decide) <| zp [true, true, true, false, false, true, true] rfl <| X_atom_b99_p ob i1 i2 i4 i3 hf
    · refine zg d8_87 (flt hc6).1 <| ?_
      exact zd d8_90 rfl <| zc d8_92 ci_1 <| zA d8_93 <| zi (P' := [vr a, vi i1, vi i2, vi i3, vi i4, vi (i4 &&& (1 : Int32)), vi i3]) d8_94 (by decide) rfl <| zc d8_96 ci_0 <| zi (P' := [vr a, vi i1, vi i2, vi i3, vi i4, vi (i4 &&& (1 : Int32)), vi (0 : Int32)]) d8_97 (by decide) rfl <| zp [true, true, true, false, false, true, true] rfl <| X_atom_b99_p ob i1 i2 (i4 &&& (1 : Int32)) (0 : Int32) hf
  · refine zg d8_71 (flt hc5).1 <| ?_
    obtain rfl := Option.some.inj hf
    exact zj d8_74 cb_m2 <| zn d8_76 rfl ⟨by decide, by decide⟩ ⟨rfl, rfl⟩
def X_atom_b42 (ob : Rec) (i1 : Int32) (i2 : Int32) (i3 : Int32) (i4 : Int32) : Option (Int32 × Rec) :=
  if (5 : Int32) < i1 then
    X_atom_b66 ob i1 i2 i3 i4
  else
    if (i4 &&& (2 : Int32)) = (0 : Int32) then
      X_atom_b66 ob i1 i2 i3 i4
    else
      if i3 < (0 : Int32) then
        some ((-1 : Int32), ob)
      else
        if (7 : Int32) < i3 then
          some ((-1 : Int32), ob)
        else
          X_atom_b66 ob i1 i2 i3 i4
theorem X_atom_b42_p {C : Ctx} {top : Nat} {a : Nat} {H : List (Nat × Nat × Rec)} {res : Int32 × Rec} (ob : Rec) (i1 : Int32) (i2 : Int32) (i3 : Int32) (i4 : Int32) (hf : X_atom_b42 ob i1 i2 i3 i4 = some res) : Runs C B8 0 0 42 [vr a, vi i1, vi i2, vi i3, vi i4, vn, vn] [] (top, (a, 45, ob) :: H) (Ans (some (.int res.1)) (top, (a, 45, res.2) :: H)) := by
  delta X_atom_b42 at hf
  refine za d8_42 rfl <| zc d8_43 ci_5 <| ?_
  refine ite_el hf (fun hc1 hf => ?_) (fun hc1 hf => ?_)
  · exact zf (pc' := 66) d8_44 (tlt hc1).2.2.1 (by decide) <| X_atom_b66_p ob i1 i2 i3 i4 hf
  · refine zg d8_44 (flt hc1).2.2.1 <| ?_
    refine zd d8_47 rfl <| zc d8_49 ci_2 <| zA d8_50 <| ?_
    refine ite_el hf (fun hc2 hf => ?_) (fun hc2 hf => ?_)
    · exact zk (pc' := 66) d8_51 (teq hc2).1 (by decide) <| X_atom_b66_p ob i1 i2 i3 i4 hf
    · refine zl d8_51 (feq hc2).1 <| ?_
      refine za d8_54 rfl <| ?_
      refine ite_el hf (fun hc3 hf => ?_) (fun hc3 hf => ?_)
      · refine zk (pc' := 64) d8_55 (tlt hc3).1 (by decide) <| ?_
        obtain rfl := Option.some.inj hf
        exact zc d8_64 ci_m1 <| zn d8_65 rfl ⟨by decide, by decide⟩ ⟨rfl, rfl⟩
      · refine zl d8_55 (flt hc3).1 <| ?_
        refine za d8_58 rfl <| zj d8_59 cb_7 <| ?_
        refine ite_el hf (fun hc4 hf => ?_) (fun hc4 hf => ?_)
        · refine zg d8_61 (tlt hc4).2.2.2 <| ?_
          obtain rfl := Option.some.inj hf
          exact zc d8_64 ci_m1 <| zn d8_65 rfl ⟨by decide, by decide⟩ ⟨rfl, rfl⟩
        · exact zf (pc' := 66) d8_61 (flt hc4).2.2.2 (by decide) <| X_atom_b66_p ob i1 i2 i3 i4 hf
def X_atom (ob : Rec) (i1 : Int32) (i2 : Int32) (i3 : Int32) (i4 : Int32) : Option (Int32 × Rec) :=
  if i1 < (0 : Int32) then
    some ((-1 : Int32), ob)
  else
    if (7 : Int32) < i1 then
      some ((-1 : Int32), ob)
    else
      if i4 < (0 : Int32) then
        some ((-1 : Int32), ob)
      else
        if (3 : Int32) < i4 then
          some ((-1 : Int32), ob)
        else
          if (i4 &&& (1 : Int32)) = (0 : Int32) then
            X_atom_b42 ob i1 i2 i3 i4
          else
            if i2 < (0 : Int32) then
              some ((-1 : Int32), ob)
            else
              if (7 : Int32) < i2 then
                some ((-1 : Int32), ob)
              else
                X_atom_b42 ob i1 i2 i3 i4
theorem X_atom_p {C : Ctx} {top : Nat} {a : Nat} {H : List (Nat × Nat × Rec)} {res : Int32 × Rec} (ob : Rec) (i1 : Int32) (i2 : Int32) (i3 : Int32) (i4 : Int32) (hf : X_atom ob i1 i2 i3 i4 = some res) : Runs C B8 0 0 0 [vr a, vi i1, vi i2, vi i3, vi i4, vn, vn] [] (top, (a, 45, ob) :: H) (Ans (some (.int res.1)) (top, (a, 45, res.2) :: H)) := by
  delta X_atom at hf
  refine za d8_0 rfl <| ?_
  refine ite_el hf (fun hc11 hf => ?_) (fun hc11 hf => ?_)
  · refine zk (pc' := 21) d8_1 (tlt hc11).1 (by decide) <| ?_
    obtain rfl := Option.some.inj hf
    exact zc d8_21 ci_m1 <| zn d8_22 rfl ⟨by decide, by decide⟩ ⟨rfl, rfl⟩
  · refine zl d8_1 (flt hc11).1 <| ?_
    refine za d8_4 rfl <| zj d8_5 cb_7 <| ?_
    refine ite_el hf (fun hc12 hf => ?_) (fun hc12 hf => ?_)
    · refine zf (pc' := 21) d8_7 (tlt hc12).2.2.1 (by decide) <| ?_
      obtain rfl := Option.some.inj hf
      exact zc d8_21 ci_m1 <| zn d8_22 rfl ⟨by decide, by decide⟩ ⟨rfl, rfl⟩
    · refine zg d8_7 (flt hc12).2.2.1 <| ?_
      refine zd d8_10 rfl <| ?_
      refine ite_el hf (fun hc13 hf => ?_) (fun hc13 hf => ?_)
      · refine zk (pc' := 21) d8_12 (tlt hc13).1 (by decide) <| ?_
        obtain rfl := Option.some.inj hf
        exact zc d8_21 ci_m1 <| zn d8_22 rfl ⟨by decide, by decide⟩ ⟨rfl, rfl⟩
      · refine zl d8_12 (flt hc13).1 <| ?_
        refine zd d8_15 rfl <| zc d8_17 ci_3 <| ?_
        refine ite_el hf (fun hc14 hf => ?_) (fun hc14 hf => ?_)
        · refine zg d8_18 (tlt hc14).2.2.2 <| ?_
          obtain rfl := Option.some.inj hf
          exact zc d8_21 ci_m1 <| zn d8_22 rfl ⟨by decide, by decide⟩ ⟨rfl, rfl⟩
        · refine zf (pc' := 23) d8_18 (flt hc14).2.2.2 (by decide) <| ?_
          refine zd d8_23 rfl <| zc d8_25 ci_1 <| zA d8_26 <| ?_
          refine ite_el hf (fun hc15 hf => ?_) (fun hc15 hf => ?_)
          · exact zk (pc' := 42) d8_27 (teq hc15).1 (by decide) <| X_atom_b42_p ob i1 i2 i3 i4 hf
          · refine zl d8_27 (feq hc15).1 <| ?_
            refine za d8_30 rfl <| ?_
            refine ite_el hf (fun hc16 hf => ?_) (fun hc16 hf => ?_)
            · refine zk (pc' := 40) d8_31 (tlt hc16).1 (by decide) <| ?_
              obtain rfl := Option.some.inj hf
              exact zc d8_40 ci_m1 <| zn d8_41 rfl ⟨by decide, by decide⟩ ⟨rfl, rfl⟩
            · refine zl d8_31 (flt hc16).1 <| ?_
              refine za d8_34 rfl <| zj d8_35 cb_7 <| ?_
              refine ite_el hf (fun hc17 hf => ?_) (fun hc17 hf => ?_)
              · refine zg d8_37 (tlt hc17).2.2.2 <| ?_
                obtain rfl := Option.some.inj hf
                exact zc d8_40 ci_m1 <| zn d8_41 rfl ⟨by decide, by decide⟩ ⟨rfl, rfl⟩
              · exact zf (pc' := 42) d8_37 (flt hc17).2.2.2 (by decide) <| X_atom_b42_p ob i1 i2 i3 i4 hf
theorem X_atom_pay {C : Ctx} {top : Nat} {a : Nat} {H : List (Nat × Nat × Rec)} {res : Int32 × Rec} {ob : Rec} {i1 : Int32} {i2 : Int32} {i3 : Int32} {i4 : Int32} (hf : X_atom ob i1 i2 i3 i4 = some res) : Pays C B8 [.ref a, .int i1, .int i2, .int i3, .int i4] (top, (a, 45, ob) :: H) (Ans (some (.int res.1)) (top, (a, 45, res.2) :: H)) :=
  Pays.of pnK (Nat.le_of_ble_eq_true rfl) (P := [vr a, vi i1, vi i2, vi i3, vi i4, vn, vn]) 2 rfl (X_atom_p ob i1 i2 i3 i4 hf)
def X_nodeExists (ob : Rec) (i1 : Int32) : Option (Int32) :=
  if i1 < (0 : Int32) then
    some (0 : Int32)
  else
    if i1 < (gI ob 10) then
      some (1 : Int32)
    else
      some (0 : Int32)
theorem X_nodeExists_p {C : Ctx} {top : Nat} {a : Nat} {H : List (Nat × Nat × Rec)} {ob : Rec} {res : Int32} (i1 : Int32) (hf : X_nodeExists ob i1 = some res) : Runs C B10 0 0 0 [vr a, vi i1] [] (top, (a, 45, ob) :: H) (Ans (some (.int res)) (top, (a, 45, ob) :: H)) := by
  delta X_nodeExists at hf
  refine za d10_0 rfl <| ?_
  refine ite_el hf (fun hc1 hf => ?_) (fun hc1 hf => ?_)
  · refine zk (pc' := 16) d10_1 (tlt hc1).1 (by decide) <| ?_
    obtain rfl := Option.some.inj hf
    exact zc d10_16 ci_0 <| zw (y := (0 : Int32)) d10_17 rfl ⟨by decide, by decide⟩ rfl ⟨rfl, rfl⟩
  · refine zl d10_1 (flt hc1).1 <| ?_
    refine za d10_4 rfl <| zb d10_5 rfl <| zs d10_6 w142 fS_10 <| ?_
    refine ite_el hf (fun hc2 hf => ?_) (fun hc2 hf => ?_)
    · refine zg d10_9 (tlt hc2).2.1 <| ?_
      obtain rfl := Option.some.inj hf
      exact zc d10_12 ci_1 <| zo (pc' := 17) d10_13 (by decide) <| zw (y := (1 : Int32)) d10_17 rfl ⟨by decide, by decide⟩ rfl ⟨rfl, rfl⟩
    · refine zf (pc' := 16) d10_9 (flt hc2).2.1 (by decide) <| ?_
      obtain rfl := Option.some.inj hf
      exact zc d10_16 ci_0 <| zw (y := (0 : Int32)) d10_17 rfl ⟨by decide, by decide⟩ rfl ⟨rfl, rfl⟩
theorem X_nodeExists_pay {C : Ctx} {top : Nat} {a : Nat} {H : List (Nat × Nat × Rec)} {ob : Rec} {res : Int32} {i1 : Int32} (hf : X_nodeExists ob i1 = some res) : Pays C B10 [.ref a, .int i1] (top, (a, 45, ob) :: H) (Ans (some (.int res)) (top, (a, 45, ob) :: H)) :=
  Pays.of pnK (Nat.le_of_ble_eq_true rfl) (P := [vr a, vi i1]) 0 rfl (X_nodeExists_p i1 hf)
def X_pendingFits_b38 (NF : Nat) (ob : Rec) (k2 : Int32 → Int32 → Option (Int32)) (i1 : Int32) (i2 : Int32) : Option (Int32) :=
  chk (4 : Int32) i2 <|
  if ((gA ob 6 i2) &&& (2 : Int32)) = (0 : Int32) then
    k2 i1 (i2 + (1 : Int32))
  else
    chk (4 : Int32) i2 <|
    if (gA ob 5 i2) < i1 then
      k2 i1 (i2 + (1 : Int32))
    else
      some (0 : Int32)
theorem X_pendingFits_b38_p {C : Ctx} {top : Nat} {a : Nat} {H : List (Nat × Nat × Rec)} {ob : Rec} {res : Int32} {NF : Nat} (k2 : Int32 → Int32 → Option (Int32)) (hk2 : ∀ (i1 : Int32) (i2 : Int32), k2 i1 i2 = some res → Runs C B11 0 0 2 [vr a, vi i1, vi i2] [] (top, (a, 45, ob) :: H) (Ans (some (.int res)) (top, (a, 45, ob) :: H))) (i1 : Int32) (i2 : Int32) (hf : X_pendingFits_b38 NF ob k2 i1 i2 = some res) : Runs C B11 0 0 38 [vr a, vi i1, vi i2] [] (top, (a, 45, ob) :: H) (Ans (some (.int res)) (top, (a, 45, ob) :: H)) := by
  delta X_pendingFits_b38 at hf
  refine zb d11_38 rfl <| ze d11_39 fA_6 w36 (by decide) <| za d11_42 rfl <| ?_
  refine chk_el hf fun hi7 hf => ?_
  refine zh d11_43 fA_6 (by decide) hi7 <| zc d11_44 ci_2 <| zA d11_45 <| ?_
  refine ite_el hf (fun hc8 hf => ?_) (fun hc8 hf => ?_)
  · refine zk (pc' := 61) d11_46 (teq hc8).1 (by decide) <| ?_
    exact zv (P' := [vr a, vi i1, vi (i2 + (1 : Int32))]) d11_61 ci_1 rfl (by decide) rfl <| zo (pc' := 2) d11_64 (by decide) <| hk2 i1 (i2 + (1 : Int32)) hf
  · refine zl d11_46 (feq hc8).1 <| ?_
    refine zb d11_49 rfl <| ze d11_50 fA_5 w34 (by decide) <| za d11_53 rfl <| ?_
    refine chk_el hf fun hi9 hf => ?_
    refine zh d11_54 fA_5 (by decide) hi9 <| za d11_55 rfl <| ?_
    refine ite_el hf (fun hc10 hf => ?_) (fun hc10 hf => ?_)
    · refine zf (pc' := 61) d11_56 (tlt hc10).1 (by decide) <| ?_
      exact zv (P' := [vr a, vi i1, vi (i2 + (1 : Int32))]) d11_61 ci_1 rfl (by decide) rfl <| zo (pc' := 2) d11_64 (by decide) <| hk2 i1 (i2 + (1 : Int32)) hf
    · refine zg d11_56 (flt hc10).1 <| ?_
      obtain rfl := Option.some.inj hf
      exact zc d11_59 ci_0 <| zw (y := (0 : Int32)) d11_60 rfl ⟨by decide, by decide⟩ rfl ⟨rfl, rfl⟩
def X_pendingFits_w2 (NF : Nat) (ob : Rec) (k2 : Int32 → Int32 → Option (Int32)) (i1 : Int32) (i2 : Int32) : Option (Int32) :=
  if i2 < (gI ob 9) then
    if i2 < (4 : Int32) then
      chk (4 : Int32) i2 <|
      if ((gA ob 6 i2) &&& (1 : Int32)) = (0 : Int32) then
        X_pendingFits_b38 NF ob k2 i1 i2
      else
        chk (4 : Int32) i2 <|
        if (gA ob 4 i2) < i1 then
          X_pendingFits_b38 NF ob k2 i1 i2
        else
          some (0 : Int32)
    else
      some (1 : Int32)
  else
    some (1 : Int32)
def X_pendingFits_l2 (NF : Nat) (ob : Rec) : Nat → Int32 → Int32 → Option (Int32)
  | 0, _, _ => none
  | n + 1, i1, i2 => X_pendingFits_w2 NF ob (X_pendingFits_l2 NF ob n) i1 i2
theorem X_pendingFits_w2_p {C : Ctx} {top : Nat} {a : Nat} {H : List (Nat × Nat × Rec)} {ob : Rec} {res : Int32} {NF : Nat} (k2 : Int32 → Int32 → Option (Int32)) (hk2 : ∀ (i1 : Int32) (i2 : Int32), k2 i1 i2 = some res → Runs C B11 0 0 2 [vr a, vi i1, vi i2] [] (top, (a, 45, ob) :: H) (Ans (some (.int res)) (top, (a, 45, ob) :: H))) (i1 : Int32) (i2 : Int32) (hf : X_pendingFits_w2 NF ob k2 i1 i2 = some res) : Runs C B11 0 0 2 [vr a, vi i1, vi i2] [] (top, (a, 45, ob) :: H) (Ans (some (.int res)) (top, (a, 45, ob) :: H)) := by
  delta X_pendingFits_w2 at hf
  refine za d11_2 rfl <| zb d11_3 rfl <| zs d11_4 w155 fS_9 <| ?_
  refine ite_el hf (fun hc1 hf => ?_) (fun hc1 hf => ?_)
  · refine zg d11_7 (tlt hc1).2.1 <| ?_
    refine za d11_10 rfl <| zc d11_11 ci_4 <| ?_
    refine ite_el hf (fun hc2 hf => ?_) (fun hc2 hf => ?_)
    · refine zg d11_12 (tlt hc2).2.1 <| ?_
      refine zb d11_15 rfl <| ze d11_16 fA_6 w36 (by decide) <| za d11_19 rfl <| ?_
      refine chk_el hf fun hi3 hf => ?_
      refine zh d11_20 fA_6 (by decide) hi3 <| zc d11_21 ci_1 <| zA d11_22 <| ?_
      refine ite_el hf (fun hc4 hf => ?_) (fun hc4 hf => ?_)
      · exact zk (pc' := 38) d11_23 (teq hc4).1 (by decide) <| X_pendingFits_b38_p k2 hk2 i1 i2 hf
      · refine zl d11_23 (feq hc4).1 <| ?_
        refine zb d11_26 rfl <| ze d11_27 fA_4 w32 (by decide) <| za d11_30 rfl <| ?_
        refine chk_el hf fun hi5 hf => ?_
        refine zh d11_31 fA_4 (by decide) hi5 <| za d11_32 rfl <| ?_
        refine ite_el hf (fun hc6 hf => ?_) (fun hc6 hf => ?_)
        · exact zf (pc' := 38) d11_33 (tlt hc6).1 (by decide) <| X_pendingFits_b38_p k2 hk2 i1 i2 hf
        · refine zg d11_33 (flt hc6).1 <| ?_
          obtain rfl := Option.some.inj hf
          exact zc d11_36 ci_0 <| zw (y := (0 : Int32)) d11_37 rfl ⟨by decide, by decide⟩ rfl ⟨rfl, rfl⟩
    · refine zf (pc' := 67) d11_12 (flt hc2).2.1 (by decide) <| ?_
      obtain rfl := Option.some.inj hf
      exact zc d11_67 ci_1 <| zw (y := (1 : Int32)) d11_68 rfl ⟨by decide, by decide⟩ rfl ⟨rfl, rfl⟩
  · refine zf (pc' := 67) d11_7 (flt hc1).2.1 (by decide) <| ?_
    obtain rfl := Option.some.inj hf
    exact zc d11_67 ci_1 <| zw (y := (1 : Int32)) d11_68 rfl ⟨by decide, by decide⟩ rfl ⟨rfl, rfl⟩
theorem X_pendingFits_l2_p {C : Ctx} {top : Nat} {a : Nat} {H : List (Nat × Nat × Rec)} {ob : Rec} {res : Int32} {NF : Nat} (n : Nat) (i1 : Int32) (i2 : Int32) (hf : X_pendingFits_l2 NF ob n i1 i2 = some res) : Runs C B11 0 0 2 [vr a, vi i1, vi i2] [] (top, (a, 45, ob) :: H) (Ans (some (.int res)) (top, (a, 45, ob) :: H)) := by
  induction n generalizing i1 i2 with
  | zero => cases (show (none : Option (Int32)) = some res from hf)
  | succ n ih => exact X_pendingFits_w2_p (X_pendingFits_l2 NF ob n) (fun i1 i2 h => ih _ _ h) i1 i2 hf
def X_pendingFits (NF : Nat) (ob : Rec) (i1 : Int32) : Option (Int32) :=
  X_pendingFits_l2 NF ob NF i1 (0 : Int32)
theorem X_pendingFits_p {C : Ctx} {top : Nat} {a : Nat} {H : List (Nat × Nat × Rec)} {ob : Rec} {res : Int32} {NF : Nat} (i1 : Int32) (hf : X_pendingFits NF ob i1 = some res) : Runs C B11 0 0 0 [vr a, vi i1, vn] [] (top, (a, 45, ob) :: H) (Ans (some (.int res)) (top, (a, 45, ob) :: H)) := by
  delta X_pendingFits at hf
  exact zc d11_0 ci_0 <| zr (P' := [vr a, vi i1, vi (0 : Int32)]) d11_1 (by decide) rfl <| X_pendingFits_l2_p NF i1 (0 : Int32) hf
theorem X_pendingFits_pay {C : Ctx} {top : Nat} {a : Nat} {H : List (Nat × Nat × Rec)} {ob : Rec} {res : Int32} {NF : Nat} {i1 : Int32} (hf : X_pendingFits NF ob i1 = some res) : Pays C B11 [.ref a, .int i1] (top, (a, 45, ob) :: H) (Ans (some (.int res)) (top, (a, 45, ob) :: H)) :=
  Pays.of pnK (Nat.le_of_ble_eq_true rfl) (P := [vr a, vi i1, vn]) 1 rfl (X_pendingFits_p i1 hf)
def X_takePending_w14 (NF : Nat) (k14 : Rec → Int32 → Int32 → Int32 → Option (Rec)) (ob : Rec) (i1 : Int32) (i2 : Int32) (i3 : Int32) : Option (Rec) :=
  if i3 < (gI ob 9) then
    if i3 < (4 : Int32) then
      if (gI ob 11) < (64 : Int32) then
        chk (4 : Int32) i3 <|
        chk (64 : Int32) (gI ob 11) <|
        chk (4 : Int32) i3 <|
        chk (64 : Int32) (gI ob 11) <|
        chk (4 : Int32) i3 <|
        chk (64 : Int32) (gI ob 11) <|
        chk (4 : Int32) i3 <|
        chk (64 : Int32) (gI ob 11) <|
        k14 (sI (sA (sA (sA (sA ob 15 (gI ob 11) (gA ob 3 i3)) 16 (gI ob 11) (gA ob 4 i3)) 17 (gI ob 11) (gA ob 5 i3)) 18 (gI ob 11) (gA ob 6 i3)) 11 ((gI ob 11) + (1 : Int32))) i1 (i2 + (1 : Int32)) (i3 + (1 : Int32))
      else
        chk (32 : Int32) i1 <|
        some (sI (sA ob 14 i1 i2) 9 (0 : Int32))
    else
      chk (32 : Int32) i1 <|
      some (sI (sA ob 14 i1 i2) 9 (0 : Int32))
  else
    chk (32 : Int32) i1 <|
    some (sI (sA ob 14 i1 i2) 9 (0 : Int32))
def X_takePending_l14 (NF : Nat) : Nat → Rec → Int32 → Int32 → Int32 → Option (Rec)
  | 0, _, _, _, _ => none
  | n + 1, ob, i1, i2, i3 => X_takePending_w14 NF (X_takePending_l14 NF n) ob i1 i2 i3
theorem X_takePending_w14_p {C : Ctx} {top : Nat} {a : Nat} {H : List (Nat × Nat × Rec)} {res : Rec} {NF : Nat} (k14 : Rec → Int32 → Int32 → Int32 → Option (Rec)) (hk14 : ∀ (ob : Rec) (i1 : Int32) (i2 : Int32) (i3 : Int32), k14 ob i1 i2 i3 = some res → Runs C B12 0 0 14 [vr a, vi i1, vi i2, vi i3] [] (top, (a, 45, ob) :: H) (Ans none (top, (a, 45, res) :: H))) (ob : Rec) (i1 : Int32) (i2 : Int32) (i3 : Int32) (hf : X_takePending_w14 NF k14 ob i1 i2 i3 = some res) : Runs C B12 0 0 14 [vr a, vi i1, vi i2, vi i3] [] (top, (a, 45, ob) :: H) (Ans none (top, (a, 45, res) :: H)) := by
  delta X_takePending_w14 at hf
  refine za d12_14 rfl <| zb d12_15 rfl <| zs d12_16 w155 fS_9 <| ?_
  refine ite_el hf (fun hc1 hf => ?_) (fun hc1 hf => ?_)
  · refine zg d12_19 (tlt hc1).2.1 <| ?_
    refine za d12_22 rfl <| zc d12_23 ci_4 <| ?_
    refine ite_el hf (fun hc2 hf => ?_) (fun hc2 hf => ?_)
    · refine zg d12_24 (tlt hc2).2.1 <| ?_
      refine zb d12_27 rfl <| zs d12_28 w148 fS_11 <| zj d12_31 cb_64 <| ?_
      refine ite_el hf (fun hc3 hf => ?_) (fun hc3 hf => ?_)
      · refine zg d12_33 (tlt hc3).2.1 <| ?_
        refine zb d12_36 rfl <| ze d12_37 fA_15 w54 (by decide) <| zb d12_40 rfl <| zs d12_41 w148 fS_11 <| zb d12_44 rfl <| ze d12_45 fA_3 w30 (by decide) <| za d12_48 rfl <| ?_
        refine chk_el hf fun hi4 hf => ?_
        refine zh d12_49 fA_3 (by decide) hi4 <| ?_
        refine chk_el hf fun hi5 hf => ?_
        refine zq d12_50 fA_15 (by decide) hi5 <| zb d12_51 rfl <| ze d12_52 fA_16 w56 (by decide) <| zb d12_55 rfl <| zs d12_56 w148 fS_11 <| zb d12_59 rfl <| ze d12_60 fA_4 w32 (by decide) <| za d12_63 rfl <| ?_
        refine chk_el hf fun hi6 hf => ?_
        refine zh d12_64 fA_4 (by decide) hi6 <| ?_
        refine chk_el hf fun hi7 hf => ?_
        refine zq d12_65 fA_16 (by decide) hi7 <| zb d12_66 rfl <| ze d12_67 fA_17 w58 (by decide) <| zb d12_70 rfl <| zs d12_71 w148 fS_11 <| zb d12_74 rfl <| ze d12_75 fA_5 w34 (by decide) <| za d12_78 rfl <| ?_
        refine chk_el hf fun hi8 hf => ?_
        refine zh d12_79 fA_5 (by decide) hi8 <| ?_
        refine chk_el hf fun hi9 hf => ?_
        refine zq d12_80 fA_17 (by decide) hi9 <| zb d12_81 rfl <| ze d12_82 fA_18 w60 (by decide) <| zb d12_85 rfl <| zs d12_86 w148 fS_11 <| zb d12_89 rfl <| ze d12_90 fA_6 w36 (by decide) <| za d12_93 rfl <| ?_
        refine chk_el hf fun hi10 hf => ?_
        refine zh d12_94 fA_6 (by decide) hi10 <| ?_
        refine chk_el hf fun hi11 hf => ?_
        exact zq d12_95 fA_18 (by decide) hi11 <| zb d12_96 rfl <| Runs.dup d12_97 rfl <| zs d12_98 w148 fS_11 <| zc d12_101 ci_1 <| zu d12_102 <| zB d12_103 w148 fS_11 (Or.inl w149) <| zv (P' := [vr a, vi i1, vi (i2 + (1 : Int32)), vi i3]) d12_106 ci_1 rfl (by decide) rfl <| zv (P' := [vr a, vi i1, vi (i2 + (1 : Int32)), vi (i3 + (1 : Int32))]) d12_109 ci_1 rfl (by decide) rfl <| zo (pc' := 14) d12_112 (by decide) <| hk14 (sI (sA (sA (sA (sA ob 15 (gI ob 11) (gA ob 3 i3)) 16 (gI ob 11) (gA ob 4 i3)) 17 (gI ob 11) (gA ob 5 i3)) 18 (gI ob 11) (gA ob 6 i3)) 11 ((gI ob 11) + (1 : Int32))) i1 (i2 + (1 : Int32)) (i3 + (1 : Int32)) hf
      · refine zf (pc' := 115) d12_33 (flt hc3).2.1 (by decide) <| ?_
        refine zb d12_115 rfl <| ze d12_116 fA_14 w52 (by decide) <| za d12_119 rfl <| za d12_120 rfl <| ?_
        refine chk_el hf fun hi12 hf => ?_
        obtain rfl := Option.some.inj hf
        exact zq d12_121 fA_14 (by decide) hi12 <| zb d12_122 rfl <| zc d12_123 ci_0 <| zB d12_124 w155 fS_9 (Or.inl w156) <| zt d12_127 rfl ⟨by decide, by decide⟩ ⟨rfl, rfl⟩
    · refine zf (pc' := 115) d12_24 (flt hc2).2.1 (by decide) <| ?_
      refine zb d12_115 rfl <| ze d12_116 fA_14 w52 (by decide) <| za d12_119 rfl <| za d12_120 rfl <| ?_
      refine chk_el hf fun hi13 hf => ?_
      obtain rfl := Option.some.inj hf
      exact zq d12_121 fA_14 (by decide) hi13 <| zb d12_122 rfl <| zc d12_123 ci_0 <| zB d12_124 w155 fS_9 (Or.inl w156) <| zt d12_127 rfl ⟨by decide, by decide⟩ ⟨rfl, rfl⟩
  · refine zf (pc' := 115) d12_19 (flt hc1).2.1 (by decide) <| ?_
    refine zb d12_115 rfl <| ze d12_116 fA_14 w52 (by decide) <| za d12_119 rfl <| za d12_120 rfl <| ?_
    refine chk_el hf fun hi14 hf => ?_
    obtain rfl := Option.some.inj hf
    exact zq d12_121 fA_14 (by decide) hi14 <| zb d12_122 rfl <| zc d12_123 ci_0 <| zB d12_124 w155 fS_9 (Or.inl w156) <| zt d12_127 rfl ⟨by decide, by decide⟩ ⟨rfl, rfl⟩
theorem X_takePending_l14_p {C : Ctx} {top : Nat} {a : Nat} {H : List (Nat × Nat × Rec)} {res : Rec} {NF : Nat} (n : Nat) (ob : Rec) (i1 : Int32) (i2 : Int32) (i3 : Int32) (hf : X_takePending_l14 NF n ob i1 i2 i3 = some res) : Runs C B12 0 0 14 [vr a, vi i1, vi i2, vi i3] [] (top, (a, 45, ob) :: H) (Ans none (top, (a, 45, res) :: H)) := by
  induction n generalizing ob i1 i2 i3 with
  | zero => cases (show (none : Option (Rec)) = some res from hf)
  | succ n ih => exact X_takePending_w14_p (X_takePending_l14 NF n) (fun ob i1 i2 i3 h => ih _ _ _ _ h) ob i1 i2 i3 hf
def X_takePending (NF : Nat) (ob : Rec) (i1 : Int32) : Option (Rec) :=
  chk (32 : Int32) i1 <|
  X_takePending_l14 NF NF (sA ob 13 i1 (gI ob 11)) i1 (0 : Int32) (0 : Int32)
theorem X_takePending_p {C : Ctx} {top : Nat} {a : Nat} {H : List (Nat × Nat × Rec)} {res : Rec} {NF : Nat} (ob : Rec) (i1 : Int32) (hf : X_takePending NF ob i1 = some res) : Runs C B12 0 0 0 [vr a, vi i1, vn, vn] [] (top, (a, 45, ob) :: H) (Ans none (top, (a, 45, res) :: H)) := by
  delta X_takePending at hf
  refine zb d12_0 rfl <| ze d12_1 fA_13 w50 (by decide) <| za d12_4 rfl <| zb d12_5 rfl <| zs d12_6 w148 fS_11 <| ?_
  refine chk_el hf fun hi15 hf => ?_
  exact zq d12_9 fA_13 (by decide) hi15 <| zc d12_10 ci_0 <| zr (P' := [vr a, vi i1, vi (0 : Int32), vn]) d12_11 (by decide) rfl <| zc d12_12 ci_0 <| zr (P' := [vr a, vi i1, vi (0 : Int32), vi (0 : Int32)]) d12_13 (by decide) rfl <| X_takePending_l14_p NF (sA ob 13 i1 (gI ob 11)) i1 (0 : Int32) (0 : Int32) hf
theorem X_takePending_pay {C : Ctx} {top : Nat} {a : Nat} {H : List (Nat × Nat × Rec)} {res : Rec} {NF : Nat} {ob : Rec} {i1 : Int32} (hf : X_takePending NF ob i1 = some res) : Pays C B12 [.ref a, .int i1] (top, (a, 45, ob) :: H) (Ans none (top, (a, 45, res) :: H)) :=
  Pays.of pnK (Nat.le_of_ble_eq_true rfl) (P := [vr a, vi i1, vn, vn]) 2 rfl (X_takePending_p ob i1 hf)
def X_join (NF : Nat) (ob : Rec) (i1 : Int32) (i2 : Int32) (i3 : Int32) : Option (Int32 × Rec) :=
  (X_nodeExists ob i1).bind fun r1 =>
  if r1 = (0 : Int32) then
    some ((-1 : Int32), ob)
  else
    (X_nodeExists ob i2).bind fun r4 =>
    if r4 = (0 : Int32) then
      some ((-1 : Int32), ob)
    else
      if i3 < (0 : Int32) then
        some ((-1 : Int32), ob)
      else
        if (1 : Int32) < i3 then
          some ((-1 : Int32), ob)
        else
          chk (32 : Int32) i1 <|
          chk (32 : Int32) i2 <|
          if (8 : Int32) < ((gA ob 8 i1) + (gA ob 8 i2)) then
            some ((-1 : Int32), ob)
          else
            (X_pendingFits NF ob ((gA ob 8 i1) + (gA ob 8 i2))).bind fun r12 =>
            if r12 = (0 : Int32) then
              some ((-1 : Int32), ob)
            else
              if (gI ob 10) < (32 : Int32) then
                if (64 : Int32) < ((gI ob 11) + (gI ob 9)) then
                  some ((-2 : Int32), ob)
                else
                  bind2 (X_newNode ob (3 : Int32) ((gA ob 8 i1) + (gA ob 8 i2)) i1 i2 i3) fun r17 q18 =>
                  if r17 < (0 : Int32) then
                    some (r17, q18)
                  else
                    (X_takePending NF q18 r17).bind fun q21 =>
                    some (r17, q21)
              else
                some ((-2 : Int32), ob)
theorem X_join_p {C : Ctx} {top : Nat} {a : Nat} {H : List (Nat × Nat × Rec)} {res : Int32 × Rec} {NF : Nat} (ob : Rec) (i1 : Int32) (i2 : Int32) (i3 : Int32) (hf : X_join NF ob i1 i2 i3 = some res) : Runs C B9 0 0 0 [vr a, vi i1, vi i2, vi i3, vn, vn] [] (top, (a, 45, ob) :: H) (Ans (some (.int res.1)) (top, (a, 45, res.2) :: H)) := by
  delta X_join at hf
  refine zb d9_0 rfl <| za d9_1 rfl <| ?_
  refine bind_el hf fun r1 hg2 hf => ?_
  refine zm (N := B10) (W := 0) (as := [.int i1]) (S' := []) d9_2 w162 w163 w164 rfl cw10 ar10 rk9_10_0 (by decide) rfl rfl (X_nodeExists_pay hg2) <| ans1 <| ?_
  refine ite_el hf (fun hc3 hf => ?_) (fun hc3 hf => ?_)
  · refine zk (pc' := 25) d9_5 (teq hc3).1 (by decide) <| ?_
    obtain rfl := Option.some.inj hf
    exact zc d9_25 ci_m1 <| zn d9_26 rfl ⟨by decide, by decide⟩ ⟨rfl, rfl⟩
  · refine zl d9_5 (feq hc3).1 <| ?_
    refine zb d9_8 rfl <| za d9_9 rfl <| ?_
    refine bind_el hf fun r4 hg5 hf => ?_
    refine zm (N := B10) (W := 0) (as := [.int i2]) (S' := []) d9_10 w162 w163 w164 rfl cw10 ar10 rk9_10_0 (by decide) rfl rfl (X_nodeExists_pay hg5) <| ans1 <| ?_
    refine ite_el hf (fun hc6 hf => ?_) (fun hc6 hf => ?_)
    · refine zk (pc' := 25) d9_13 (teq hc6).1 (by decide) <| ?_
      obtain rfl := Option.some.inj hf
      exact zc d9_25 ci_m1 <| zn d9_26 rfl ⟨by decide, by decide⟩ ⟨rfl, rfl⟩
    · refine zl d9_13 (feq hc6).1 <| ?_
      refine za d9_16 rfl <| ?_
      refine ite_el hf (fun hc7 hf => ?_) (fun hc7 hf => ?_)
      · refine zk (pc' := 25) d9_17 (tlt hc7).1 (by decide) <| ?_
        obtain rfl := Option.some.inj hf
        exact zc d9_25 ci_m1 <| zn d9_26 rfl ⟨by decide, by decide⟩ ⟨rfl, rfl⟩
      · refine zl d9_17 (flt hc7).1 <| ?_
        refine za d9_20 rfl <| zc d9_21 ci_1 <| ?_
        refine ite_el hf (fun hc8 hf => ?_) (fun hc8 hf => ?_)
        · refine zg d9_22 (tlt hc8).2.2.2 <| ?_
          obtain rfl := Option.some.inj hf
          exact zc d9_25 ci_m1 <| zn d9_26 rfl ⟨by decide, by decide⟩ ⟨rfl, rfl⟩
        · refine zf (pc' := 27) d9_22 (flt hc8).2.2.2 (by decide) <| ?_
          refine zb d9_27 rfl <| ze d9_28 fA_8 w40 (by decide) <| za d9_31 rfl <| ?_
          refine chk_el hf fun hi9 hf => ?_
          refine zh d9_32 fA_8 (by decide) hi9 <| zb d9_33 rfl <| ze d9_34 fA_8 w40 (by decide) <| za d9_37 rfl <| ?_
          refine chk_el hf fun hi10 hf => ?_
          refine zh d9_38 fA_8 (by decide) hi10 <| zu d9_39 <| zi (P' := [vr a, vi i1, vi i2, vi i3, vi ((gA ob 8 i1) + (gA ob 8 i2)), vn]) d9_40 (by decide) rfl <| zd d9_42 rfl <| zj d9_44 cb_8 <| ?_
          refine ite_el hf (fun hc11 hf => ?_) (fun hc11 hf => ?_)
          · refine zg d9_46 (tlt hc11).2.2.2 <| ?_
            obtain rfl := Option.some.inj hf
            exact zc d9_49 ci_m1 <| zn d9_50 rfl ⟨by decide, by decide⟩ ⟨rfl, rfl⟩
          · refine zf (pc' := 51) d9_46 (flt hc11).2.2.2 (by decide) <| ?_
            refine zb d9_51 rfl <| zd d9_52 rfl <| ?_
            refine bind_el hf fun r12 hg13 hf => ?_
            refine zm (N := B11) (W := 0) (as := [.int ((gA ob 8 i1) + (gA ob 8 i2))]) (S' := []) d9_54 w166 w167 w168 rfl cw11 ar11 rk9_11_0 (by decide) rfl rfl (X_pendingFits_pay hg13) <| ans1 <| ?_
            refine ite_el hf (fun hc14 hf => ?_) (fun hc14 hf => ?_)
            · refine zl d9_57 (teq hc14).2 <| ?_
              obtain rfl := Option.some.inj hf
              exact zc d9_60 ci_m1 <| zn d9_61 rfl ⟨by decide, by decide⟩ ⟨rfl, rfl⟩
            · refine zk (pc' := 62) d9_57 (feq hc14).2 (by decide) <| ?_
              refine zb d9_62 rfl <| zs d9_63 w142 fS_10 <| zj d9_66 cb_32 <| ?_
              refine ite_el hf (fun hc15 hf => ?_) (fun hc15 hf => ?_)
              · refine zf (pc' := 74) d9_68 (tlt hc15).1 (by decide) <| ?_
                refine zb d9_74 rfl <| zs d9_75 w148 fS_11 <| zb d9_78 rfl <| zs d9_79 w155 fS_9 <| zu d9_82 <| zj d9_83 cb_64 <| ?_
                refine ite_el hf (fun hc16 hf => ?_) (fun hc16 hf => ?_)
                · refine zg d9_85 (tlt hc16).2.2.2 <| ?_
                  obtain rfl := Option.some.inj hf
                  exact zj d9_88 cb_m2 <| zn d9_90 rfl ⟨by decide, by decide⟩ ⟨rfl, rfl⟩
                · refine zf (pc' := 91) d9_85 (flt hc16).2.2.2 (by decide) <| ?_
                  refine zb d9_91 rfl <| zc d9_92 ci_3 <| zd d9_93 rfl <| za d9_95 rfl <| za d9_96 rfl <| za d9_97 rfl <| ?_
                  refine bind2_el hf fun r17 q18 hg19 hf => ?_
                  refine zm (N := B7) (W := 0) (as := [.int (3 : Int32), .int ((gA ob 8 i1) + (gA ob 8 i2)), .int i1, .int i2, .int i3]) (S' := []) d9_98 w144 w145 w146 rfl cw7 ar7 rk9_7_0 (by decide) rfl rfl (X_newNode_pay hg19) <| ans1 <| zi (P' := [vr a, vi i1, vi i2, vi i3, vi ((gA ob 8 i1) + (gA ob 8 i2)), vi r17]) d9_101 (by decide) rfl <| zd d9_103 rfl <| ?_
                  refine ite_el hf (fun hc20 hf => ?_) (fun hc20 hf => ?_)
                  · refine zk (pc' := 114) d9_105 (tlt hc20).1 (by decide) <| ?_
                    obtain rfl := Option.some.inj hf
                    exact zd d9_114 rfl <| zn d9_116 rfl ⟨by decide, by decide⟩ ⟨rfl, rfl⟩
                  · refine zl d9_105 (flt hc20).1 <| ?_
                    refine zb d9_108 rfl <| zd d9_109 rfl <| ?_
                    refine bind_el hf fun q21 hg22 hf => ?_
                    obtain rfl := Option.some.inj hf
                    exact zm (N := B12) (W := 0) (as := [.int r17]) (S' := []) d9_111 w170 w171 w172 rfl cw12 ar12 rk9_12_0 (by decide) rfl rfl (X_takePending_pay hg22) <| ans0 <| zd d9_114 rfl <| zn d9_116 rfl ⟨by decide, by decide⟩ ⟨rfl, rfl⟩
              · refine zg d9_68 (flt hc15).1 <| ?_
                obtain rfl := Option.some.inj hf
                exact zj d9_71 cb_m2 <| zn d9_73 rfl ⟨by decide, by decide⟩ ⟨rfl, rfl⟩
theorem X_join_pay {C : Ctx} {top : Nat} {a : Nat} {H : List (Nat × Nat × Rec)} {res : Int32 × Rec} {NF : Nat} {ob : Rec} {i1 : Int32} {i2 : Int32} {i3 : Int32} (hf : X_join NF ob i1 i2 i3 = some res) : Pays C B9 [.ref a, .int i1, .int i2, .int i3] (top, (a, 45, ob) :: H) (Ans (some (.int res.1)) (top, (a, 45, res.2) :: H)) :=
  Pays.of pnK (Nat.le_of_ble_eq_true rfl) (P := [vr a, vi i1, vi i2, vi i3, vn, vn]) 2 rfl (X_join_p ob i1 i2 i3 hf)
def X_select (NF : Nat) (ob : Rec) (i1 : Int32) : Option (Int32 × Rec) :=
  (X_nodeExists ob i1).bind fun r1 =>
  if r1 = (0 : Int32) then
    some ((-1 : Int32), ob)
  else
    chk (32 : Int32) i1 <|
    (X_pendingFits NF ob (gA ob 8 i1)).bind fun r5 =>
    if r5 = (0 : Int32) then
      some ((-1 : Int32), ob)
    else
      if (gI ob 10) < (32 : Int32) then
        if (64 : Int32) < ((gI ob 11) + (gI ob 9)) then
          some ((-2 : Int32), ob)
        else
          chk (32 : Int32) i1 <|
          bind2 (X_newNode ob (1 : Int32) (gA ob 8 i1) i1 (0 : Int32) (0 : Int32)) fun r11 q12 =>
          if r11 < (0 : Int32) then
            some (r11, q12)
          else
            (X_takePending NF q12 r11).bind fun q15 =>
            some (r11, q15)
      else
        some ((-2 : Int32), ob)
theorem X_select_p {C : Ctx} {top : Nat} {a : Nat} {H : List (Nat × Nat × Rec)} {res : Int32 × Rec} {NF : Nat} (ob : Rec) (i1 : Int32) (hf : X_select NF ob i1 = some res) : Runs C B13 0 0 0 [vr a, vi i1, vn] [] (top, (a, 45, ob) :: H) (Ans (some (.int res.1)) (top, (a, 45, res.2) :: H)) := by
  delta X_select at hf
  refine zb d13_0 rfl <| za d13_1 rfl <| ?_
  refine bind_el hf fun r1 hg2 hf => ?_
  refine zm (N := B10) (W := 0) (as := [.int i1]) (S' := []) d13_2 w162 w163 w164 rfl cw10 ar10 rk13_10_0 (by decide) rfl rfl (X_nodeExists_pay hg2) <| ans1 <| ?_
  refine ite_el hf (fun hc3 hf => ?_) (fun hc3 hf => ?_)
  · refine zl d13_5 (teq hc3).2 <| ?_
    obtain rfl := Option.some.inj hf
    exact zc d13_8 ci_m1 <| zn d13_9 rfl ⟨by decide, by decide⟩ ⟨rfl, rfl⟩
  · refine zk (pc' := 10) d13_5 (feq hc3).2 (by decide) <| ?_
    refine zb d13_10 rfl <| zb d13_11 rfl <| ze d13_12 fA_8 w40 (by decide) <| za d13_15 rfl <| ?_
    refine chk_el hf fun hi4 hf => ?_
    refine zh d13_16 fA_8 (by decide) hi4 <| ?_
    refine bind_el hf fun r5 hg6 hf => ?_
    refine zm (N := B11) (W := 0) (as := [.int (gA ob 8 i1)]) (S' := []) d13_17 w166 w167 w168 rfl cw11 ar11 rk13_11_0 (by decide) rfl rfl (X_pendingFits_pay hg6) <| ans1 <| ?_
    refine ite_el hf (fun hc7 hf => ?_) (fun hc7 hf => ?_)
    · refine zl d13_20 (teq hc7).2 <| ?_
      obtain rfl := Option.some.inj hf
      exact zc d13_23 ci_m1 <| zn d13_24 rfl ⟨by decide, by decide⟩ ⟨rfl, rfl⟩
    · refine zk (pc' := 25) d13_20 (feq hc7).2 (by decide) <| ?_
      refine zb d13_25 rfl <| zs d13_26 w142 fS_10 <| zj d13_29 cb_32 <| ?_
      refine ite_el hf (fun hc8 hf => ?_) (fun hc8 hf => ?_)
      · refine zf (pc' := 37) d13_31 (tlt hc8).1 (by decide) <| ?_
        refine zb d13_37 rfl <| zs d13_38 w148 fS_11 <| zb d13_41 rfl <| zs d13_42 w155 fS_9 <| zu d13_45 <| zj d13_46 cb_64 <| ?_
        refine ite_el hf (fun hc9 hf => ?_) (fun hc9 hf => ?_)
        · refine zg d13_48 (tlt hc9).2.2.2 <| ?_
          obtain rfl := Option.some.inj hf
          exact zj d13_51 cb_m2 <| zn d13_53 rfl ⟨by decide, by decide⟩ ⟨rfl, rfl⟩
        · refine zf (pc' := 54) d13_48 (flt hc9).2.2.2 (by decide) <| ?_
          refine zb d13_54 rfl <| zc d13_55 ci_1 <| zb d13_56 rfl <| ze d13_57 fA_8 w40 (by decide) <| za d13_60 rfl <| ?_
          refine chk_el hf fun hi10 hf => ?_
          refine zh d13_61 fA_8 (by decide) hi10 <| za d13_62 rfl <| zc d13_63 ci_0 <| zc d13_64 ci_0 <| ?_
          refine bind2_el hf fun r11 q12 hg13 hf => ?_
          refine zm (N := B7) (W := 0) (as := [.int (1 : Int32), .int (gA ob 8 i1), .int i1, .int (0 : Int32), .int (0 : Int32)]) (S' := []) d13_65 w144 w145 w146 rfl cw7 ar7 rk13_7_0 (by decide) rfl rfl (X_newNode_pay hg13) <| ans1 <| zr (P' := [vr a, vi i1, vi r11]) d13_68 (by decide) rfl <| za d13_69 rfl <| ?_
          refine ite_el hf (fun hc14 hf => ?_) (fun hc14 hf => ?_)
          · refine zk (pc' := 78) d13_70 (tlt hc14).1 (by decide) <| ?_
            obtain rfl := Option.some.inj hf
            exact za d13_78 rfl <| zn d13_79 rfl ⟨by decide, by decide⟩ ⟨rfl, rfl⟩
          · refine zl d13_70 (flt hc14).1 <| ?_
            refine zb d13_73 rfl <| za d13_74 rfl <| ?_
            refine bind_el hf fun q15 hg16 hf => ?_
            obtain rfl := Option.some.inj hf
            exact zm (N := B12) (W := 0) (as := [.int r11]) (S' := []) d13_75 w170 w171 w172 rfl cw12 ar12 rk13_12_0 (by decide) rfl rfl (X_takePending_pay hg16) <| ans0 <| za d13_78 rfl <| zn d13_79 rfl ⟨by decide, by decide⟩ ⟨rfl, rfl⟩
      · refine zg d13_31 (flt hc8).1 <| ?_
        obtain rfl := Option.some.inj hf
        exact zj d13_34 cb_m2 <| zn d13_36 rfl ⟨by decide, by decide⟩ ⟨rfl, rfl⟩
theorem X_select_pay {C : Ctx} {top : Nat} {a : Nat} {H : List (Nat × Nat × Rec)} {res : Int32 × Rec} {NF : Nat} {ob : Rec} {i1 : Int32} (hf : X_select NF ob i1 = some res) : Pays C B13 [.ref a, .int i1] (top, (a, 45, ob) :: H) (Ans (some (.int res.1)) (top, (a, 45, res.2) :: H)) :=
  Pays.of pnK (Nat.le_of_ble_eq_true rfl) (P := [vr a, vi i1, vn]) 1 rfl (X_select_p ob i1 hf)
def X_satMul (ob : Rec) (i1 : Int32) (i2 : Int32) : Option (Int32) :=
  if (1000 : Int32) < (i1 * i2) then
    some (1000 : Int32)
  else
    some (i1 * i2)
theorem X_satMul_p {C : Ctx} {top : Nat} {a : Nat} {H : List (Nat × Nat × Rec)} {ob : Rec} {res : Int32} (i1 : Int32) (i2 : Int32) (hf : X_satMul ob i1 i2 = some res) : Runs C B16 0 0 0 [vr a, vi i1, vi i2, vn] [] (top, (a, 45, ob) :: H) (Ans (some (.int res)) (top, (a, 45, ob) :: H)) := by
  delta X_satMul at hf
  refine za d16_0 rfl <| za d16_1 rfl <| zy d16_2 <| zr (P' := [vr a, vi i1, vi i2, vi (i1 * i2)]) d16_3 (by decide) rfl <| za d16_4 rfl <| zC d16_5 cs_1000 <| ?_
  refine ite_el hf (fun hc1 hf => ?_) (fun hc1 hf => ?_)
  · refine zg d16_8 (tlt hc1).2.2.2 <| ?_
    obtain rfl := Option.some.inj hf
    exact zC d16_11 cs_1000 <| zn d16_14 rfl ⟨by decide, by decide⟩ ⟨rfl, rfl⟩
  · refine zf (pc' := 15) d16_8 (flt hc1).2.2.2 (by decide) <| ?_
    obtain rfl := Option.some.inj hf
    exact za d16_15 rfl <| zn d16_16 rfl ⟨by decide, by decide⟩ ⟨rfl, rfl⟩
theorem X_satMul_pay {C : Ctx} {top : Nat} {a : Nat} {H : List (Nat × Nat × Rec)} {ob : Rec} {res : Int32} {i1 : Int32} {i2 : Int32} (hf : X_satMul ob i1 i2 = some res) : Pays C B16 [.ref a, .int i1, .int i2] (top, (a, 45, ob) :: H) (Ans (some (.int res)) (top, (a, 45, ob) :: H)) :=
  Pays.of pnK (Nat.le_of_ble_eq_true rfl) (P := [vr a, vi i1, vi i2, vn]) 1 rfl (X_satMul_p i1 i2 hf)
def X_computeWeights_w2 (NF : Nat) (k2 : Rec → Int32 → Option (Rec)) (ob : Rec) (i1 : Int32) : Option (Rec) :=
  if i1 < (gI ob 10) then
    if i1 < (32 : Int32) then
      chk (32 : Int32) i1 <|
      if (gA ob 7 i1) = (0 : Int32) then
        chk (32 : Int32) i1 <|
        chk (4 : Int32) ((gA ob 9 i1) &&& (3 : Int32)) <|
        if (gA ob 1 ((gA ob 9 i1) &&& (3 : Int32))) < (2 : Int32) then
          chk (32 : Int32) i1 <|
          k2 (sA ob 20 i1 (2 : Int32)) (i1 + (1 : Int32))
        else
          chk (32 : Int32) i1 <|
          k2 (sA ob 20 i1 (gA ob 1 ((gA ob 9 i1) &&& (3 : Int32)))) (i1 + (1 : Int32))
      else
        if (gA ob 7 i1) = (3 : Int32) then
          chk (32 : Int32) i1 <|
          chk (32 : Int32) ((gA ob 9 i1) &&& (31 : Int32)) <|
          chk (32 : Int32) i1 <|
          chk (32 : Int32) ((gA ob 10 i1) &&& (31 : Int32)) <|
          (X_satMul ob (gA ob 20 ((gA ob 9 i1) &&& (31 : Int32))) (gA ob 20 ((gA ob 10 i1) &&& (31 : Int32)))).bind fun r15 =>
          chk (32 : Int32) i1 <|
          k2 (sA ob 20 i1 r15) (i1 + (1 : Int32))
        else
          chk (32 : Int32) i1 <|
          chk (32 : Int32) ((gA ob 9 i1) &&& (31 : Int32)) <|
          chk (32 : Int32) i1 <|
          k2 (sA ob 20 i1 (gA ob 20 ((gA ob 9 i1) &&& (31 : Int32)))) (i1 + (1 : Int32))
    else
      some ob
  else
    some ob
def X_computeWeights_l2 (NF : Nat) : Nat → Rec → Int32 → Option (Rec)
  | 0, _, _ => none
  | n + 1, ob, i1 => X_computeWeights_w2 NF (X_computeWeights_l2 NF n) ob i1
theorem X_computeWeights_w2_p {C : Ctx} {top : Nat} {a : Nat} {H : List (Nat × Nat × Rec)} {res : Rec} {NF : Nat} (k2 : Rec → Int32 → Option (Rec)) (hk2 : ∀ (ob : Rec) (i1 : Int32), k2 ob i1 = some res → Runs C B15 0 0 2 [vr a, vi i1, vn, vn] [] (top, (a, 45, ob) :: H) (Ans none (top, (a, 45, res) :: H))) (ob : Rec) (i1 : Int32) (hf : X_computeWeights_w2 NF k2 ob i1 = some res) : Runs C B15 0 0 2 [vr a, vi i1, vn, vn] [] (top, (a, 45, ob) :: H) (Ans none (top, (a, 45, res) :: H)) := by
  delta X_computeWeights_w2 at hf
  refine za d15_2 rfl <| zb d15_3 rfl <| zs d15_4 w142 fS_10 <| ?_
  refine ite_el hf (fun hc1 hf => ?_) (fun hc1 hf => ?_)
  · refine zg d15_7 (tlt hc1).2.1 <| ?_
    refine za d15_10 rfl <| zj d15_11 cb_32 <| ?_
    refine ite_el hf (fun hc2 hf => ?_) (fun hc2 hf => ?_)
    · refine zg d15_13 (tlt hc2).2.1 <| ?_
      refine zb d15_16 rfl <| ze d15_17 fA_7 w38 (by decide) <| za d15_20 rfl <| ?_
      refine chk_el hf fun hi3 hf => ?_
      refine zh d15_21 fA_7 (by decide) hi3 <| zr (P' := [vr a, vi i1, vi (gA ob 7 i1), vn]) d15_22 (by decide) rfl <| za d15_23 rfl <| ?_
      refine ite_el hf (fun hc4 hf => ?_) (fun hc4 hf => ?_)
      · refine zl d15_24 (teq hc4).2 <| ?_
        refine zb d15_27 rfl <| ze d15_28 fA_1 w26 (by decide) <| zb d15_31 rfl <| ze d15_32 fA_9 w42 (by decide) <| za d15_35 rfl <| ?_
        refine chk_el hf fun hi5 hf => ?_
        refine zh d15_36 fA_9 (by decide) hi5 <| zc d15_37 ci_3 <| zA d15_38 <| ?_
        refine chk_el hf fun hi6 hf => ?_
        refine zh d15_39 fA_1 (by decide) hi6 <| zr (P' := [vr a, vi i1, vi (gA ob 7 i1), vi (gA ob 1 ((gA ob 9 i1) &&& (3 : Int32)))]) d15_40 (by decide) rfl <| za d15_41 rfl <| zc d15_42 ci_2 <| ?_
        refine ite_el hf (fun hc7 hf => ?_) (fun hc7 hf => ?_)
        · refine zg d15_43 (tlt hc7).2.1 <| ?_
          refine zc d15_46 ci_2 <| zr (P' := [vr a, vi i1, vi (gA ob 7 i1), vi (2 : Int32)]) d15_47 (by decide) rfl <| zo (pc' := 107) d15_48 (by decide) <| zb d15_107 rfl <| ze d15_108 fA_20 w64 (by decide) <| za d15_111 rfl <| za d15_112 rfl <| ?_
          refine chk_el hf fun hi8 hf => ?_
          exact zq d15_113 fA_20 (by decide) hi8 <| zv (P' := [vr a, vi (i1 + (1 : Int32)), vi (gA ob 7 i1), vi (2 : Int32)]) d15_114 ci_1 rfl (by decide) rfl <| zo (pc' := 2) d15_117 (by decide) <| zp [true, true, false, false] rfl <| hk2 (sA ob 20 i1 (2 : Int32)) (i1 + (1 : Int32)) hf
        · refine zf (pc' := 107) d15_43 (flt hc7).2.1 (by decide) <| ?_
          refine zb d15_107 rfl <| ze d15_108 fA_20 w64 (by decide) <| za d15_111 rfl <| za d15_112 rfl <| ?_
          refine chk_el hf fun hi9 hf => ?_
          exact zq d15_113 fA_20 (by decide) hi9 <| zv (P' := [vr a, vi (i1 + (1 : Int32)), vi (gA ob 7 i1), vi (gA ob 1 ((gA ob 9 i1) &&& (3 : Int32)))]) d15_114 ci_1 rfl (by decide) rfl <| zo (pc' := 2) d15_117 (by decide) <| zp [true, true, false, false] rfl <| hk2 (sA ob 20 i1 (gA ob 1 ((gA ob 9 i1) &&& (3 : Int32)))) (i1 + (1 : Int32)) hf
      · refine zk (pc' := 51) d15_24 (feq hc4).2 (by decide) <| ?_
        refine za d15_51 rfl <| zc d15_52 ci_3 <| ?_
        refine ite_el hf (fun hc10 hf => ?_) (fun hc10 hf => ?_)
        · refine zg d15_53 (teq hc10).2 <| ?_
          refine zb d15_56 rfl <| zb d15_57 rfl <| ze d15_58 fA_20 w64 (by decide) <| zb d15_61 rfl <| ze d15_62 fA_9 w42 (by decide) <| za d15_65 rfl <| ?_
          refine chk_el hf fun hi11 hf => ?_
          refine zh d15_66 fA_9 (by decide) hi11 <| zj d15_67 cb_31 <| zA d15_69 <| ?_
          refine chk_el hf fun hi12 hf => ?_
          refine zh d15_70 fA_20 (by decide) hi12 <| zb d15_71 rfl <| ze d15_72 fA_20 w64 (by decide) <| zb d15_75 rfl <| ze d15_76 fA_10 w44 (by decide) <| za d15_79 rfl <| ?_
          refine chk_el hf fun hi13 hf => ?_
          refine zh d15_80 fA_10 (by decide) hi13 <| zj d15_81 cb_31 <| zA d15_83 <| ?_
          refine chk_el hf fun hi14 hf => ?_
          refine zh d15_84 fA_20 (by decide) hi14 <| ?_
          refine bind_el hf fun r15 hg16 hf => ?_
          refine zm (N := B16) (W := 0) (as := [.int (gA ob 20 ((gA ob 9 i1) &&& (31 : Int32))), .int (gA ob 20 ((gA ob 10 i1) &&& (31 : Int32)))]) (S' := []) d15_85 w188 w189 w190 rfl cw16 ar16 rk15_16_0 (by decide) rfl rfl (X_satMul_pay hg16) <| ans1 <| zr (P' := [vr a, vi i1, vi (gA ob 7 i1), vi r15]) d15_88 (by decide) rfl <| zo (pc' := 107) d15_89 (by decide) <| zb d15_107 rfl <| ze d15_108 fA_20 w64 (by decide) <| za d15_111 rfl <| za d15_112 rfl <| ?_
          refine chk_el hf fun hi17 hf => ?_
          exact zq d15_113 fA_20 (by decide) hi17 <| zv (P' := [vr a, vi (i1 + (1 : Int32)), vi (gA ob 7 i1), vi r15]) d15_114 ci_1 rfl (by decide) rfl <| zo (pc' := 2) d15_117 (by decide) <| zp [true, true, false, false] rfl <| hk2 (sA ob 20 i1 r15) (i1 + (1 : Int32)) hf
        · refine zf (pc' := 92) d15_53 (feq hc10).2 (by decide) <| ?_
          refine zb d15_92 rfl <| ze d15_93 fA_20 w64 (by decide) <| zb d15_96 rfl <| ze d15_97 fA_9 w42 (by decide) <| za d15_100 rfl <| ?_
          refine chk_el hf fun hi18 hf => ?_
          refine zh d15_101 fA_9 (by decide) hi18 <| zj d15_102 cb_31 <| zA d15_104 <| ?_
          refine chk_el hf fun hi19 hf => ?_
          refine zh d15_105 fA_20 (by decide) hi19 <| zr (P' := [vr a, vi i1, vi (gA ob 7 i1), vi (gA ob 20 ((gA ob 9 i1) &&& (31 : Int32)))]) d15_106 (by decide) rfl <| zb d15_107 rfl <| ze d15_108 fA_20 w64 (by decide) <| za d15_111 rfl <| za d15_112 rfl <| ?_
          refine chk_el hf fun hi20 hf => ?_
          exact zq d15_113 fA_20 (by decide) hi20 <| zv (P' := [vr a, vi (i1 + (1 : Int32)), vi (gA ob 7 i1), vi (gA ob 20 ((gA ob 9 i1) &&& (31 : Int32)))]) d15_114 ci_1 rfl (by decide) rfl <| zo (pc' := 2) d15_117 (by decide) <| zp [true, true, false, false] rfl <| hk2 (sA ob 20 i1 (gA ob 20 ((gA ob 9 i1) &&& (31 : Int32)))) (i1 + (1 : Int32)) hf
    · refine zf (pc' := 120) d15_13 (flt hc2).2.1 (by decide) <| ?_
      obtain rfl := Option.some.inj hf
      exact zt d15_120 rfl ⟨by decide, by decide⟩ ⟨rfl, rfl⟩
  · refine zf (pc' := 120) d15_7 (flt hc1).2.1 (by decide) <| ?_
    obtain rfl := Option.some.inj hf
    exact zt d15_120 rfl ⟨by decide, by decide⟩ ⟨rfl, rfl⟩
theorem X_computeWeights_l2_p {C : Ctx} {top : Nat} {a : Nat} {H : List (Nat × Nat × Rec)} {res : Rec} {NF : Nat} (n : Nat) (ob : Rec) (i1 : Int32) (hf : X_computeWeights_l2 NF n ob i1 = some res) : Runs C B15 0 0 2 [vr a, vi i1, vn, vn] [] (top, (a, 45, ob) :: H) (Ans none (top, (a, 45, res) :: H)) := by
  induction n generalizing ob i1 with
  | zero => cases (show (none : Option (Rec)) = some res from hf)
  | succ n ih => exact X_computeWeights_w2_p (X_computeWeights_l2 NF n) (fun ob i1 h => ih _ _ h) ob i1 hf
def X_computeWeights (NF : Nat) (ob : Rec) : Option (Rec) :=
  X_computeWeights_l2 NF NF ob (0 : Int32)
theorem X_computeWeights_p {C : Ctx} {top : Nat} {a : Nat} {H : List (Nat × Nat × Rec)} {res : Rec} {NF : Nat} (ob : Rec) (hf : X_computeWeights NF ob = some res) : Runs C B15 0 0 0 [vr a, vn, vn, vn] [] (top, (a, 45, ob) :: H) (Ans none (top, (a, 45, res) :: H)) := by
  delta X_computeWeights at hf
  exact zc d15_0 ci_0 <| zr (P' := [vr a, vi (0 : Int32), vn, vn]) d15_1 (by decide) rfl <| X_computeWeights_l2_p NF ob (0 : Int32) hf
theorem X_computeWeights_pay {C : Ctx} {top : Nat} {a : Nat} {H : List (Nat × Nat × Rec)} {res : Rec} {NF : Nat} {ob : Rec} (hf : X_computeWeights NF ob = some res) : Pays C B15 [.ref a] (top, (a, 45, ob) :: H) (Ans none (top, (a, 45, res) :: H)) :=
  Pays.of pnK (Nat.le_of_ble_eq_true rfl) (P := [vr a, vn, vn, vn]) 3 rfl (X_computeWeights_p ob hf)
def X_pushNode (ob : Rec) (i1 : Int32) : Option (Rec) :=
  if (gI ob 16) < (64 : Int32) then
    if i1 < (0 : Int32) then
      some (sI ob 18 (1 : Int32))
    else
      if i1 < (32 : Int32) then
        chk (64 : Int32) (gI ob 16) <|
        chk (64 : Int32) (gI ob 16) <|
        some (sI (sA (sA ob 41 (gI ob 16) i1) 42 (gI ob 16) (0 : Int32)) 16 ((gI ob 16) + (1 : Int32)))
      else
        some (sI ob 18 (1 : Int32))
  else
    some (sI ob 18 (1 : Int32))
theorem X_pushNode_p {C : Ctx} {top : Nat} {a : Nat} {H : List (Nat × Nat × Rec)} {res : Rec} (ob : Rec) (i1 : Int32) (hf : X_pushNode ob i1 = some res) : Runs C B19 0 0 0 [vr a, vi i1] [] (top, (a, 45, ob) :: H) (Ans none (top, (a, 45, res) :: H)) := by
  delta X_pushNode at hf
  refine zb d19_0 rfl <| zs d19_1 w204 fS_16 <| zj d19_4 cb_64 <| ?_
  refine ite_el hf (fun hc1 hf => ?_) (fun hc1 hf => ?_)
  · refine zg d19_6 (tlt hc1).2.1 <| ?_
    refine za d19_9 rfl <| ?_
    refine ite_el hf (fun hc2 hf => ?_) (fun hc2 hf => ?_)
    · refine zk (pc' := 19) d19_10 (tlt hc2).1 (by decide) <| ?_
      obtain rfl := Option.some.inj hf
      exact zb d19_19 rfl <| zc d19_20 ci_1 <| Runs.putZ (y := (1 : Int32)) d19_21 w208 fS_18 (Or.inl w209) rfl <| zt d19_24 rfl ⟨by decide, by decide⟩ ⟨rfl, rfl⟩
    · refine zl d19_10 (flt hc2).1 <| ?_
      refine za d19_13 rfl <| zj d19_14 cb_32 <| ?_
      refine ite_el hf (fun hc3 hf => ?_) (fun hc3 hf => ?_)
      · refine zf (pc' := 25) d19_16 (tlt hc3).1 (by decide) <| ?_
        refine zb d19_25 rfl <| ze d19_26 fA_41 w107 (by decide) <| zb d19_29 rfl <| zs d19_30 w204 fS_16 <| za d19_33 rfl <| ?_
        refine chk_el hf fun hi4 hf => ?_
        refine zq d19_34 fA_41 (by decide) hi4 <| zb d19_35 rfl <| ze d19_36 fA_42 w109 (by decide) <| zb d19_39 rfl <| zs d19_40 w204 fS_16 <| zc d19_43 ci_0 <| ?_
        refine chk_el hf fun hi5 hf => ?_
        obtain rfl := Option.some.inj hf
        exact zq d19_44 fA_42 (by decide) hi5 <| zb d19_45 rfl <| Runs.dup d19_46 rfl <| zs d19_47 w204 fS_16 <| zc d19_50 ci_1 <| zu d19_51 <| zB d19_52 w204 fS_16 (Or.inl w205) <| zt d19_55 rfl ⟨by decide, by decide⟩ ⟨rfl, rfl⟩
      · refine zg d19_16 (flt hc3).1 <| ?_
        obtain rfl := Option.some.inj hf
        exact zb d19_19 rfl <| zc d19_20 ci_1 <| Runs.putZ (y := (1 : Int32)) d19_21 w208 fS_18 (Or.inl w209) rfl <| zt d19_24 rfl ⟨by decide, by decide⟩ ⟨rfl, rfl⟩
  · refine zf (pc' := 19) d19_6 (flt hc1).2.1 (by decide) <| ?_
    obtain rfl := Option.some.inj hf
    exact zb d19_19 rfl <| zc d19_20 ci_1 <| Runs.putZ (y := (1 : Int32)) d19_21 w208 fS_18 (Or.inl w209) rfl <| zt d19_24 rfl ⟨by decide, by decide⟩ ⟨rfl, rfl⟩
theorem X_pushNode_pay {C : Ctx} {top : Nat} {a : Nat} {H : List (Nat × Nat × Rec)} {res : Rec} {ob : Rec} {i1 : Int32} (hf : X_pushNode ob i1 = some res) : Pays C B19 [.ref a, .int i1] (top, (a, 45, ob) :: H) (Ans none (top, (a, 45, res) :: H)) :=
  Pays.of pnK (Nat.le_of_ble_eq_true rfl) (P := [vr a, vi i1]) 0 rfl (X_pushNode_p ob i1 hf)
def X_initPlan_b50 (NF : Nat) (ob : Rec) (i1 : Int32) : Option (Rec) :=
  chk (32 : Int32) ((2 : Int32) * i1) <|
  chk (32 : Int32) (((2 : Int32) * i1) + (1 : Int32)) <|
  chk (16 : Int32) i1 <|
  chk (16 : Int32) i1 <|
  chk (16 : Int32) i1 <|
  chk (16 : Int32) i1 <|
  chk (16 : Int32) i1 <|
  chk (16 : Int32) i1 <|
  some (sA (sA (sA (sA (sA (sA (sA (sA ob 35 ((2 : Int32) * i1) (-1 : Int32)) 35 (((2 : Int32) * i1) + (1 : Int32)) (-1 : Int32)) 34 i1 (0 : Int32)) 30 i1 (0 : Int32)) 27 i1 (0 : Int32)) 28 i1 (0 : Int32)) 29 i1 (0 : Int32)) 33 i1 (0 : Int32))
theorem X_initPlan_b50_p {C : Ctx} {top : Nat} {a : Nat} {H : List (Nat × Nat × Rec)} {res : Rec} {NF : Nat} (ob : Rec) (i1 : Int32) (hf : X_initPlan_b50 NF ob i1 = some res) : Runs C B23 0 0 50 [vr a, vi i1, vn, vn, vn] [] (top, (a, 45, ob) :: H) (Ans none (top, (a, 45, res) :: H)) := by
  delta X_initPlan_b50 at hf
  refine zb d23_50 rfl <| ze d23_51 fA_35 w95 (by decide) <| zc d23_54 ci_2 <| za d23_55 rfl <| zy d23_56 <| zc d23_57 ci_m1 <| ?_
  refine chk_el hf fun hi4 hf => ?_
  refine zq d23_58 fA_35 (by decide) hi4 <| zb d23_59 rfl <| ze d23_60 fA_35 w95 (by decide) <| zc d23_63 ci_2 <| za d23_64 rfl <| zy d23_65 <| zc d23_66 ci_1 <| zu d23_67 <| zc d23_68 ci_m1 <| ?_
  refine chk_el hf fun hi5 hf => ?_
  refine zq d23_69 fA_35 (by decide) hi5 <| zb d23_70 rfl <| ze d23_71 fA_34 w93 (by decide) <| za d23_74 rfl <| zc d23_75 ci_0 <| ?_
  refine chk_el hf fun hi6 hf => ?_
  refine Runs.bastoreA (y := (0 : Int32)) d23_76 fA_34 (by decide) hi6 rfl <| zb d23_77 rfl <| ze d23_78 fA_30 w85 (by decide) <| za d23_81 rfl <| zc d23_82 ci_0 <| ?_
  refine chk_el hf fun hi7 hf => ?_
  refine zq d23_83 fA_30 (by decide) hi7 <| zb d23_84 rfl <| ze d23_85 fA_27 w79 (by decide) <| za d23_88 rfl <| zc d23_89 ci_0 <| ?_
  refine chk_el hf fun hi8 hf => ?_
  refine zq d23_90 fA_27 (by decide) hi8 <| zb d23_91 rfl <| ze d23_92 fA_28 w81 (by decide) <| za d23_95 rfl <| zc d23_96 ci_0 <| ?_
  refine chk_el hf fun hi9 hf => ?_
  refine zq d23_97 fA_28 (by decide) hi9 <| zb d23_98 rfl <| ze d23_99 fA_29 w83 (by decide) <| za d23_102 rfl <| zc d23_103 ci_0 <| ?_
  refine chk_el hf fun hi10 hf => ?_
  refine zq d23_104 fA_29 (by decide) hi10 <| zb d23_105 rfl <| ze d23_106 fA_33 w91 (by decide) <| za d23_109 rfl <| zc d23_110 ci_0 <| ?_
  refine chk_el hf fun hi11 hf => ?_
  obtain rfl := Option.some.inj hf
  exact zq d23_111 fA_33 (by decide) hi11 <| zt d23_112 rfl ⟨by decide, by decide⟩ ⟨rfl, rfl⟩
def X_initPlan_w17 (NF : Nat) (k17 : Rec → Int32 → Int32 → Int32 → Option (Rec)) (ob : Rec) (i1 : Int32) (i3 : Int32) (i4 : Int32) : Option (Rec) :=
  if i4 < i3 then
    if i4 < (8 : Int32) then
      chk (128 : Int32) ((i1 * (8 : Int32)) + i4) <|
      k17 (sA ob 32 ((i1 * (8 : Int32)) + i4) i4) i1 i3 (i4 + (1 : Int32))
    else
      X_initPlan_b50 NF ob i1
  else
    X_initPlan_b50 NF ob i1
def X_initPlan_l17 (NF : Nat) : Nat → Rec → Int32 → Int32 → Int32 → Option (Rec)
  | 0, _, _, _, _ => none
  | n + 1, ob, i1, i3, i4 => X_initPlan_w17 NF (X_initPlan_l17 NF n) ob i1 i3 i4
theorem X_initPlan_w17_p {C : Ctx} {top : Nat} {a : Nat} {H : List (Nat × Nat × Rec)} {res : Rec} {NF : Nat} (k17 : Rec → Int32 → Int32 → Int32 → Option (Rec)) (hk17 : ∀ (ob : Rec) (i1 : Int32) (i3 : Int32) (i4 : Int32), k17 ob i1 i3 i4 = some res → Runs C B23 0 0 17 [vr a, vi i1, vn, vi i3, vi i4] [] (top, (a, 45, ob) :: H) (Ans none (top, (a, 45, res) :: H))) (ob : Rec) (i1 : Int32) (i3 : Int32) (i4 : Int32) (hf : X_initPlan_w17 NF k17 ob i1 i3 i4 = some res) : Runs C B23 0 0 17 [vr a, vi i1, vn, vi i3, vi i4] [] (top, (a, 45, ob) :: H) (Ans none (top, (a, 45, res) :: H)) := by
  delta X_initPlan_w17 at hf
  refine zd d23_17 rfl <| za d23_19 rfl <| ?_
  refine ite_el hf (fun hc1 hf => ?_) (fun hc1 hf => ?_)
  · refine zg d23_20 (tlt hc1).2.1 <| ?_
    refine zd d23_23 rfl <| zj d23_25 cb_8 <| ?_
    refine ite_el hf (fun hc2 hf => ?_) (fun hc2 hf => ?_)
    · refine zg d23_27 (tlt hc2).2.1 <| ?_
      refine zb d23_30 rfl <| ze d23_31 fA_32 w89 (by decide) <| za d23_34 rfl <| zj d23_35 cb_8 <| zy d23_37 <| zd d23_38 rfl <| zu d23_40 <| zd d23_41 rfl <| ?_
      refine chk_el hf fun hi3 hf => ?_
      exact zq d23_43 fA_32 (by decide) hi3 <| zv (P' := [vr a, vi i1, vn, vi i3, vi (i4 + (1 : Int32))]) d23_44 ci_1 rfl (by decide) rfl <| zo (pc' := 17) d23_47 (by decide) <| hk17 (sA ob 32 ((i1 * (8 : Int32)) + i4) i4) i1 i3 (i4 + (1 : Int32)) hf
    · exact zf (pc' := 50) d23_27 (flt hc2).2.1 (by decide) <| zp [true, true, false, false, false] rfl <| X_initPlan_b50_p ob i1 hf
  · exact zf (pc' := 50) d23_20 (flt hc1).2.1 (by decide) <| zp [true, true, false, false, false] rfl <| X_initPlan_b50_p ob i1 hf
theorem X_initPlan_l17_p {C : Ctx} {top : Nat} {a : Nat} {H : List (Nat × Nat × Rec)} {res : Rec} {NF : Nat} (n : Nat) (ob : Rec) (i1 : Int32) (i3 : Int32) (i4 : Int32) (hf : X_initPlan_l17 NF n ob i1 i3 i4 = some res) : Runs C B23 0 0 17 [vr a, vi i1, vn, vi i3, vi i4] [] (top, (a, 45, ob) :: H) (Ans none (top, (a, 45, res) :: H)) := by
  induction n generalizing ob i1 i3 i4 with
  | zero => cases (show (none : Option (Rec)) = some res from hf)
  | succ n ih => exact X_initPlan_w17_p (X_initPlan_l17 NF n) (fun ob i1 i3 i4 h => ih _ _ _ _ h) ob i1 i3 i4 hf
def X_initPlan (NF : Nat) (ob : Rec) (i1 : Int32) (i2 : Int32) (i3 : Int32) : Option (Rec) :=
  chk (16 : Int32) i1 <|
  chk (16 : Int32) i1 <|
  X_initPlan_l17 NF NF (sA (sA ob 26 i1 i2) 31 i1 i3) i1 i3 (0 : Int32)
theorem X_initPlan_p {C : Ctx} {top : Nat} {a : Nat} {H : List (Nat × Nat × Rec)} {res : Rec} {NF : Nat} (ob : Rec) (i1 : Int32) (i2 : Int32) (i3 : Int32) (hf : X_initPlan NF ob i1 i2 i3 = some res) : Runs C B23 0 0 0 [vr a, vi i1, vi i2, vi i3, vn] [] (top, (a, 45, ob) :: H) (Ans none (top, (a, 45, res) :: H)) := by
  delta X_initPlan at hf
  refine zb d23_0 rfl <| ze d23_1 fA_26 w77 (by decide) <| za d23_4 rfl <| za d23_5 rfl <| ?_
  refine chk_el hf fun hi12 hf => ?_
  refine zq d23_6 fA_26 (by decide) hi12 <| zb d23_7 rfl <| ze d23_8 fA_31 w87 (by decide) <| za d23_11 rfl <| za d23_12 rfl <| ?_
  refine chk_el hf fun hi13 hf => ?_
  exact zq d23_13 fA_31 (by decide) hi13 <| zc d23_14 ci_0 <| zi (P' := [vr a, vi i1, vi i2, vi i3, vi (0 : Int32)]) d23_15 (by decide) rfl <| zp [true, true, false, true, true] rfl <| X_initPlan_l17_p NF (sA (sA ob 26 i1 i2) 31 i1 i3) i1 i3 (0 : Int32) hf
theorem X_initPlan_pay {C : Ctx} {top : Nat} {a : Nat} {H : List (Nat × Nat × Rec)} {res : Rec} {NF : Nat} {ob : Rec} {i1 : Int32} {i2 : Int32} {i3 : Int32} (hf : X_initPlan NF ob i1 i2 i3 = some res) : Pays C B23 [.ref a, .int i1, .int i2, .int i3] (top, (a, 45, ob) :: H) (Ans none (top, (a, 45, res) :: H)) :=
  Pays.of pnK (Nat.le_of_ble_eq_true rfl) (P := [vr a, vi i1, vi i2, vi i3, vn]) 1 rfl (X_initPlan_p ob i1 i2 i3 hf)
def X_newScanPlan (NF : Nat) (ob : Rec) (i1 : Int32) : Option (Int32 × Rec) :=
  if (gI ob 14) < (16 : Int32) then
    chk (4 : Int32) i1 <|
    (X_initPlan NF (sI ob 14 ((gI ob 14) + (1 : Int32))) (gI ob 14) (0 : Int32) (gA ob 0 i1)).bind fun q3 =>
    chk (16 : Int32) (gI ob 14) <|
    some ((gI ob 14), (sA q3 27 (gI ob 14) i1))
  else
    some ((-1 : Int32), ob)
theorem X_newScanPlan_p {C : Ctx} {top : Nat} {a : Nat} {H : List (Nat × Nat × Rec)} {res : Int32 × Rec} {NF : Nat} (ob : Rec) (i1 : Int32) (hf : X_newScanPlan NF ob i1 = some res) : Runs C B22 0 0 0 [vr a, vi i1, vn] [] (top, (a, 45, ob) :: H) (Ans (some (.int res.1)) (top, (a, 45, res.2) :: H)) := by
  delta X_newScanPlan at hf
  refine zb d22_0 rfl <| zs d22_1 w200 fS_14 <| zj d22_4 cb_16 <| ?_
  refine ite_el hf (fun hc1 hf => ?_) (fun hc1 hf => ?_)
  · refine zf (pc' := 11) d22_6 (tlt hc1).1 (by decide) <| ?_
    refine zb d22_11 rfl <| zs d22_12 w200 fS_14 <| zr (P' := [vr a, vi i1, vi (gI ob 14)]) d22_15 (by decide) rfl <| zb d22_16 rfl <| Runs.dup d22_17 rfl <| zs d22_18 w200 fS_14 <| zc d22_21 ci_1 <| zu d22_22 <| zB d22_23 w200 fS_14 (Or.inl w201) <| zb d22_26 rfl <| za d22_27 rfl <| zc d22_28 ci_0 <| ?_
    refine zb d22_29 rfl <| ze d22_30 fA_0 w24 (by decide) <| za d22_33 rfl <| ?_
    refine chk_el hf fun hi2 hf => ?_
    refine zh d22_34 fA_0 (by decide) hi2 <| ?_
    refine bind_el hf fun q3 hg4 hf => ?_
    refine zm (N := B23) (W := 0) (as := [.int (gI ob 14), .int (0 : Int32), .int (gA ob 0 i1)]) (S' := []) d22_35 w226 w227 w228 rfl cw23 ar23 rk22_23_0 (by decide) rfl rfl (X_initPlan_pay hg4) <| ans0 <| zb d22_38 rfl <| ze d22_39 fA_27 w79 (by decide) <| za d22_42 rfl <| za d22_43 rfl <| ?_
    refine chk_el hf fun hi5 hf => ?_
    obtain rfl := Option.some.inj hf
    exact zq d22_44 fA_27 (by decide) hi5 <| za d22_45 rfl <| zn d22_46 rfl ⟨by decide, by decide⟩ ⟨rfl, rfl⟩
  · refine zg d22_6 (flt hc1).1 <| ?_
    obtain rfl := Option.some.inj hf
    exact zc d22_9 ci_m1 <| zn d22_10 rfl ⟨by decide, by decide⟩ ⟨rfl, rfl⟩
theorem X_newScanPlan_pay {C : Ctx} {top : Nat} {a : Nat} {H : List (Nat × Nat × Rec)} {res : Int32 × Rec} {NF : Nat} {ob : Rec} {i1 : Int32} (hf : X_newScanPlan NF ob i1 = some res) : Pays C B22 [.ref a, .int i1] (top, (a, 45, ob) :: H) (Ans (some (.int res.1)) (top, (a, 45, res.2) :: H)) :=
  Pays.of pnK (Nat.le_of_ble_eq_true rfl) (P := [vr a, vi i1, vn]) 1 rfl (X_newScanPlan_p ob i1 hf)
def X_pushResult (ob : Rec) (i1 : Int32) : Option (Rec) :=
  if i1 < (0 : Int32) then
    some (sI ob 18 (1 : Int32))
  else
    if (gI ob 17) < (64 : Int32) then
      chk (64 : Int32) (gI ob 17) <|
      some (sI (sA ob 43 (gI ob 17) i1) 17 ((gI ob 17) + (1 : Int32)))
    else
      some (sI ob 18 (1 : Int32))
theorem X_pushResult_p {C : Ctx} {top : Nat} {a : Nat} {H : List (Nat × Nat × Rec)} {res : Rec} (ob : Rec) (i1 : Int32) (hf : X_pushResult ob i1 = some res) : Runs C B24 0 0 0 [vr a, vi i1] [] (top, (a, 45, ob) :: H) (Ans none (top, (a, 45, res) :: H)) := by
  delta X_pushResult at hf
  refine za d24_0 rfl <| ?_
  refine ite_el hf (fun hc1 hf => ?_) (fun hc1 hf => ?_)
  · refine zk (pc' := 13) d24_1 (tlt hc1).1 (by decide) <| ?_
    obtain rfl := Option.some.inj hf
    exact zb d24_13 rfl <| zc d24_14 ci_1 <| Runs.putZ (y := (1 : Int32)) d24_15 w208 fS_18 (Or.inl w209) rfl <| zt d24_18 rfl ⟨by decide, by decide⟩ ⟨rfl, rfl⟩
  · refine zl d24_1 (flt hc1).1 <| ?_
    refine zb d24_4 rfl <| zs d24_5 w206 fS_17 <| zj d24_8 cb_64 <| ?_
    refine ite_el hf (fun hc2 hf => ?_) (fun hc2 hf => ?_)
    · refine zf (pc' := 19) d24_10 (tlt hc2).1 (by decide) <| ?_
      refine zb d24_19 rfl <| ze d24_20 fA_43 w111 (by decide) <| zb d24_23 rfl <| zs d24_24 w206 fS_17 <| za d24_27 rfl <| ?_
      refine chk_el hf fun hi3 hf => ?_
      obtain rfl := Option.some.inj hf
      exact zq d24_28 fA_43 (by decide) hi3 <| zb d24_29 rfl <| Runs.dup d24_30 rfl <| zs d24_31 w206 fS_17 <| zc d24_34 ci_1 <| zu d24_35 <| zB d24_36 w206 fS_17 (Or.inl w207) <| zt d24_39 rfl ⟨by decide, by decide⟩ ⟨rfl, rfl⟩
    · refine zg d24_10 (flt hc2).1 <| ?_
      obtain rfl := Option.some.inj hf
      exact zb d24_13 rfl <| zc d24_14 ci_1 <| Runs.putZ (y := (1 : Int32)) d24_15 w208 fS_18 (Or.inl w209) rfl <| zt d24_18 rfl ⟨by decide, by decide⟩ ⟨rfl, rfl⟩
theorem X_pushResult_pay {C : Ctx} {top : Nat} {a : Nat} {H : List (Nat × Nat × Rec)} {res : Rec} {ob : Rec} {i1 : Int32} (hf : X_pushResult ob i1 = some res) : Pays C B24 [.ref a, .int i1] (top, (a, 45, ob) :: H) (Ans none (top, (a, 45, res) :: H)) :=
  Pays.of pnK (Nat.le_of_ble_eq_true rfl) (P := [vr a, vi i1]) 0 rfl (X_pushResult_p ob i1 hf)
def X_copyAtom (ob : Rec) (i1 : Int32) : Option (Int32 × Rec) :=
  if (gI ob 15) < (512 : Int32) then
    if i1 < (0 : Int32) then
      some ((-1 : Int32), ob)
    else
      if i1 < (64 : Int32) then
        chk (64 : Int32) i1 <|
        chk (512 : Int32) (gI ob 15) <|
        chk (64 : Int32) i1 <|
        chk (512 : Int32) (gI ob 15) <|
        chk (64 : Int32) i1 <|
        chk (512 : Int32) (gI ob 15) <|
        chk (64 : Int32) i1 <|
        chk (512 : Int32) (gI ob 15) <|
        chk (512 : Int32) (gI ob 15) <|
        some ((gI ob 15), (sA (sA (sA (sA (sA (sI ob 15 ((gI ob 15) + (1 : Int32))) 36 (gI ob 15) (gA ob 15 i1)) 37 (gI ob 15) (gA ob 16 i1)) 38 (gI ob 15) (gA ob 17 i1)) 39 (gI ob 15) (gA ob 18 i1)) 40 (gI ob 15) (-1 : Int32)))
      else
        some ((-1 : Int32), ob)
  else
    some ((-1 : Int32), ob)
theorem X_copyAtom_p {C : Ctx} {top : Nat} {a : Nat} {H : List (Nat × Nat × Rec)} {res : Int32 × Rec} (ob : Rec) (i1 : Int32) (hf : X_copyAtom ob i1 = some res) : Runs C B26 0 0 0 [vr a, vi i1, vn] [] (top, (a, 45, ob) :: H) (Ans (some (.int res.1)) (top, (a, 45, res.2) :: H)) := by
  delta X_copyAtom at hf
  refine zb d26_0 rfl <| zs d26_1 w202 fS_15 <| zC d26_4 cs_512 <| ?_
  refine ite_el hf (fun hc1 hf => ?_) (fun hc1 hf => ?_)
  · refine zg d26_7 (tlt hc1).2.1 <| ?_
    refine za d26_10 rfl <| ?_
    refine ite_el hf (fun hc2 hf => ?_) (fun hc2 hf => ?_)
    · refine zk (pc' := 20) d26_11 (tlt hc2).1 (by decide) <| ?_
      obtain rfl := Option.some.inj hf
      exact zc d26_20 ci_m1 <| zn d26_21 rfl ⟨by decide, by decide⟩ ⟨rfl, rfl⟩
    · refine zl d26_11 (flt hc2).1 <| ?_
      refine za d26_14 rfl <| zj d26_15 cb_64 <| ?_
      refine ite_el hf (fun hc3 hf => ?_) (fun hc3 hf => ?_)
      · refine zf (pc' := 22) d26_17 (tlt hc3).1 (by decide) <| ?_
        refine zb d26_22 rfl <| zs d26_23 w202 fS_15 <| zr (P' := [vr a, vi i1, vi (gI ob 15)]) d26_26 (by decide) rfl <| zb d26_27 rfl <| Runs.dup d26_28 rfl <| zs d26_29 w202 fS_15 <| zc d26_32 ci_1 <| zu d26_33 <| zB d26_34 w202 fS_15 (Or.inl w203) <| zb d26_37 rfl <| ze d26_38 fA_36 w97 (by decide) <| za d26_41 rfl <| ?_
        refine zb d26_42 rfl <| ze d26_43 fA_15 w54 (by decide) <| za d26_46 rfl <| ?_
        refine chk_el hf fun hi4 hf => ?_
        refine zh d26_47 fA_15 (by decide) hi4 <| ?_
        refine chk_el hf fun hi5 hf => ?_
        refine zq d26_48 fA_36 (by decide) hi5 <| zb d26_49 rfl <| ze d26_50 fA_37 w99 (by decide) <| za d26_53 rfl <| zb d26_54 rfl <| ze d26_55 fA_16 w56 (by decide) <| za d26_58 rfl <| ?_
        refine chk_el hf fun hi6 hf => ?_
        refine zh d26_59 fA_16 (by decide) hi6 <| ?_
        refine chk_el hf fun hi7 hf => ?_
        refine zq d26_60 fA_37 (by decide) hi7 <| zb d26_61 rfl <| ze d26_62 fA_38 w101 (by decide) <| za d26_65 rfl <| zb d26_66 rfl <| ze d26_67 fA_17 w58 (by decide) <| za d26_70 rfl <| ?_
        refine chk_el hf fun hi8 hf => ?_
        refine zh d26_71 fA_17 (by decide) hi8 <| ?_
        refine chk_el hf fun hi9 hf => ?_
        refine zq d26_72 fA_38 (by decide) hi9 <| zb d26_73 rfl <| ze d26_74 fA_39 w103 (by decide) <| za d26_77 rfl <| zb d26_78 rfl <| ze d26_79 fA_18 w60 (by decide) <| za d26_82 rfl <| ?_
        refine chk_el hf fun hi10 hf => ?_
        refine zh d26_83 fA_18 (by decide) hi10 <| ?_
        refine chk_el hf fun hi11 hf => ?_
        refine zq d26_84 fA_39 (by decide) hi11 <| zb d26_85 rfl <| ze d26_86 fA_40 w105 (by decide) <| za d26_89 rfl <| zc d26_90 ci_m1 <| ?_
        refine chk_el hf fun hi12 hf => ?_
        obtain rfl := Option.some.inj hf
        exact zq d26_91 fA_40 (by decide) hi12 <| za d26_92 rfl <| zn d26_93 rfl ⟨by decide, by decide⟩ ⟨rfl, rfl⟩
      · refine zg d26_17 (flt hc3).1 <| ?_
        obtain rfl := Option.some.inj hf
        exact zc d26_20 ci_m1 <| zn d26_21 rfl ⟨by decide, by decide⟩ ⟨rfl, rfl⟩
  · refine zf (pc' := 20) d26_7 (flt hc1).2.1 (by decide) <| ?_
    obtain rfl := Option.some.inj hf
    exact zc d26_20 ci_m1 <| zn d26_21 rfl ⟨by decide, by decide⟩ ⟨rfl, rfl⟩
theorem X_copyAtom_pay {C : Ctx} {top : Nat} {a : Nat} {H : List (Nat × Nat × Rec)} {res : Int32 × Rec} {ob : Rec} {i1 : Int32} (hf : X_copyAtom ob i1 = some res) : Pays C B26 [.ref a, .int i1] (top, (a, 45, ob) :: H) (Ans (some (.int res.1)) (top, (a, 45, res.2) :: H)) :=
  Pays.of pnK (Nat.le_of_ble_eq_true rfl) (P := [vr a, vi i1, vn]) 1 rfl (X_copyAtom_p ob i1 hf)
def X_prepend (ob : Rec) (i1 : Int32) (i2 : Int32) : Option (Rec) :=
  if i1 < (0 : Int32) then
    some ob
  else
    if i1 < (32 : Int32) then
      if i2 < (0 : Int32) then
        some ob
      else
        if i2 < (512 : Int32) then
          chk (32 : Int32) i1 <|
          chk (512 : Int32) i2 <|
          chk (32 : Int32) i1 <|
          some (sA (sA ob 40 i2 (gA ob 35 i1)) 35 i1 i2)
        else
          some ob
    else
      some ob
theorem X_prepend_p {C : Ctx} {top : Nat} {a : Nat} {H : List (Nat × Nat × Rec)} {res : Rec} (ob : Rec) (i1 : Int32) (i2 : Int32) (hf : X_prepend ob i1 i2 = some res) : Runs C B27 0 0 0 [vr a, vi i1, vi i2] [] (top, (a, 45, ob) :: H) (Ans none (top, (a, 45, res) :: H)) := by
  delta X_prepend at hf
  refine za d27_0 rfl <| ?_
  refine ite_el hf (fun hc1 hf => ?_) (fun hc1 hf => ?_)
  · refine zk (pc' := 21) d27_1 (tlt hc1).1 (by decide) <| ?_
    obtain rfl := Option.some.inj hf
    exact zt d27_21 rfl ⟨by decide, by decide⟩ ⟨rfl, rfl⟩
  · refine zl d27_1 (flt hc1).1 <| ?_
    refine za d27_4 rfl <| zj d27_5 cb_32 <| ?_
    refine ite_el hf (fun hc2 hf => ?_) (fun hc2 hf => ?_)
    · refine zg d27_7 (tlt hc2).2.1 <| ?_
      refine za d27_10 rfl <| ?_
      refine ite_el hf (fun hc3 hf => ?_) (fun hc3 hf => ?_)
      · refine zk (pc' := 21) d27_11 (tlt hc3).1 (by decide) <| ?_
        obtain rfl := Option.some.inj hf
        exact zt d27_21 rfl ⟨by decide, by decide⟩ ⟨rfl, rfl⟩
      · refine zl d27_11 (flt hc3).1 <| ?_
        refine za d27_14 rfl <| zC d27_15 cs_512 <| ?_
        refine ite_el hf (fun hc4 hf => ?_) (fun hc4 hf => ?_)
        · refine zf (pc' := 22) d27_18 (tlt hc4).1 (by decide) <| ?_
          refine zb d27_22 rfl <| ze d27_23 fA_40 w105 (by decide) <| za d27_26 rfl <| zb d27_27 rfl <| ze d27_28 fA_35 w95 (by decide) <| za d27_31 rfl <| ?_
          refine chk_el hf fun hi5 hf => ?_
          refine zh d27_32 fA_35 (by decide) hi5 <| ?_
          refine chk_el hf fun hi6 hf => ?_
          refine zq d27_33 fA_40 (by decide) hi6 <| zb d27_34 rfl <| ze d27_35 fA_35 w95 (by decide) <| za d27_38 rfl <| za d27_39 rfl <| ?_
          refine chk_el hf fun hi7 hf => ?_
          obtain rfl := Option.some.inj hf
          exact zq d27_40 fA_35 (by decide) hi7 <| zt d27_41 rfl ⟨by decide, by decide⟩ ⟨rfl, rfl⟩
        · refine zg d27_18 (flt hc4).1 <| ?_
          obtain rfl := Option.some.inj hf
          exact zt d27_21 rfl ⟨by decide, by decide⟩ ⟨rfl, rfl⟩
    · refine zf (pc' := 21) d27_7 (flt hc2).2.1 (by decide) <| ?_
      obtain rfl := Option.some.inj hf
      exact zt d27_21 rfl ⟨by decide, by decide⟩ ⟨rfl, rfl⟩
theorem X_prepend_pay {C : Ctx} {top : Nat} {a : Nat} {H : List (Nat × Nat × Rec)} {res : Rec} {ob : Rec} {i1 : Int32} {i2 : Int32} (hf : X_prepend ob i1 i2 = some res) : Pays C B27 [.ref a, .int i1, .int i2] (top, (a, 45, ob) :: H) (Ans none (top, (a, 45, res) :: H)) :=
  Pays.of pnK (Nat.le_of_ble_eq_true rfl) (P := [vr a, vi i1, vi i2]) 0 rfl (X_prepend_p ob i1 i2 hf)
def X_newJoinPlan_w90 (NF : Nat) (k90 : Rec → Int32 → Int32 → Int32 → Option (Int32 × Rec)) (ob : Rec) (i3 : Int32) (i5 : Int32) (i6 : Int32) : Option (Int32 × Rec) :=
  chk (32 : Int32) i3 <|
  if i6 < (gA ob 14 i3) then
    if i6 < (64 : Int32) then
      chk (32 : Int32) i3 <|
      bind2 (X_copyAtom ob ((gA ob 13 i3) + i6)) fun r5 q6 =>
      if r5 < (0 : Int32) then
        some ((-1 : Int32), q6)
      else
        (X_prepend q6 (((2 : Int32) * i5) + (1 : Int32)) r5).bind fun q9 =>
        k90 q9 i3 i5 (i6 + (1 : Int32))
    else
      some (i5, ob)
  else
    some (i5, ob)
def X_newJoinPlan_l90 (NF : Nat) : Nat → Rec → Int32 → Int32 → Int32 → Option (Int32 × Rec)
  | 0, _, _, _, _ => none
  | n + 1, ob, i3, i5, i6 => X_newJoinPlan_w90 NF (X_newJoinPlan_l90 NF n) ob i3 i5 i6
theorem X_newJoinPlan_w90_p {C : Ctx} {top : Nat} {a : Nat} {H : List (Nat × Nat × Rec)} {res : Int32 × Rec} {NF : Nat} (k90 : Rec → Int32 → Int32 → Int32 → Option (Int32 × Rec)) (hk90 : ∀ (ob : Rec) (i3 : Int32) (i5 : Int32) (i6 : Int32), k90 ob i3 i5 i6 = some res → Runs C B25 0 0 90 [vr a, vn, vn, vi i3, vn, vi i5, vi i6, vn] [] (top, (a, 45, ob) :: H) (Ans (some (.int res.1)) (top, (a, 45, res.2) :: H))) (ob : Rec) (i3 : Int32) (i5 : Int32) (i6 : Int32) (hf : X_newJoinPlan_w90 NF k90 ob i3 i5 i6 = some res) : Runs C B25 0 0 90 [vr a, vn, vn, vi i3, vn, vi i5, vi i6, vn] [] (top, (a, 45, ob) :: H) (Ans (some (.int res.1)) (top, (a, 45, res.2) :: H)) := by
  delta X_newJoinPlan_w90 at hf
  refine zd d25_90 rfl <| zb d25_92 rfl <| ze d25_93 fA_14 w52 (by decide) <| za d25_96 rfl <| ?_
  refine chk_el hf fun hi1 hf => ?_
  refine zh d25_97 fA_14 (by decide) hi1 <| ?_
  refine ite_el hf (fun hc2 hf => ?_) (fun hc2 hf => ?_)
  · refine zg d25_98 (tlt hc2).2.1 <| ?_
    refine zd d25_101 rfl <| zj d25_103 cb_64 <| ?_
    refine ite_el hf (fun hc3 hf => ?_) (fun hc3 hf => ?_)
    · refine zg d25_105 (tlt hc3).2.1 <| ?_
      refine zb d25_108 rfl <| zb d25_109 rfl <| ze d25_110 fA_13 w50 (by decide) <| za d25_113 rfl <| ?_
      refine chk_el hf fun hi4 hf => ?_
      refine zh d25_114 fA_13 (by decide) hi4 <| zd d25_115 rfl <| zu d25_117 <| ?_
      refine bind2_el hf fun r5 q6 hg7 hf => ?_
      refine zm (N := B26) (W := 0) (as := [.int ((gA ob 13 i3) + i6)]) (S' := []) d25_118 w238 w239 w240 rfl cw26 ar26 rk25_26_0 (by decide) rfl rfl (X_copyAtom_pay hg7) <| ans1 <| zi (P' := [vr a, vn, vn, vi i3, vn, vi i5, vi i6, vi r5]) d25_121 (by decide) rfl <| zd d25_123 rfl <| ?_
      refine ite_el hf (fun hc8 hf => ?_) (fun hc8 hf => ?_)
      · refine zl d25_125 (tlt hc8).2.1 <| ?_
        obtain rfl := Option.some.inj hf
        exact zc d25_128 ci_m1 <| zn d25_129 rfl ⟨by decide, by decide⟩ ⟨rfl, rfl⟩
      · refine zk (pc' := 130) d25_125 (flt hc8).2.1 (by decide) <| ?_
        refine zb d25_130 rfl <| zc d25_131 ci_2 <| zd d25_132 rfl <| zy d25_134 <| zc d25_135 ci_1 <| zu d25_136 <| zd d25_137 rfl <| ?_
        refine bind_el hf fun q9 hg10 hf => ?_
        exact zm (N := B27) (W := 0) (as := [.int (((2 : Int32) * i5) + (1 : Int32)), .int r5]) (S' := []) d25_139 w242 w243 w244 rfl cw27 ar27 rk25_27_0 (by decide) rfl rfl (X_prepend_pay hg10) <| ans0 <| zv (P' := [vr a, vn, vn, vi i3, vn, vi i5, vi (i6 + (1 : Int32)), vi r5]) d25_142 ci_1 rfl (by decide) rfl <| zo (pc' := 90) d25_145 (by decide) <| zp [true, false, false, true, false, true, true, false] rfl <| hk90 q9 i3 i5 (i6 + (1 : Int32)) hf
    · refine zf (pc' := 148) d25_105 (flt hc3).2.1 (by decide) <| ?_
      obtain rfl := Option.some.inj hf
      exact zd d25_148 rfl <| zn d25_150 rfl ⟨by decide, by decide⟩ ⟨rfl, rfl⟩
  · refine zf (pc' := 148) d25_98 (flt hc2).2.1 (by decide) <| ?_
    obtain rfl := Option.some.inj hf
    exact zd d25_148 rfl <| zn d25_150 rfl ⟨by decide, by decide⟩ ⟨rfl, rfl⟩
theorem X_newJoinPlan_l90_p {C : Ctx} {top : Nat} {a : Nat} {H : List (Nat × Nat × Rec)} {res : Int32 × Rec} {NF : Nat} (n : Nat) (ob : Rec) (i3 : Int32) (i5 : Int32) (i6 : Int32) (hf : X_newJoinPlan_l90 NF n ob i3 i5 i6 = some res) : Runs C B25 0 0 90 [vr a, vn, vn, vi i3, vn, vi i5, vi i6, vn] [] (top, (a, 45, ob) :: H) (Ans (some (.int res.1)) (top, (a, 45, res.2) :: H)) := by
  induction n generalizing ob i3 i5 i6 with
  | zero => cases (show (none : Option (Int32 × Rec)) = some res from hf)
  | succ n ih => exact X_newJoinPlan_w90_p (X_newJoinPlan_l90 NF n) (fun ob i3 i5 i6 h => ih _ _ _ _ h) ob i3 i5 i6 hf
def X_newJoinPlan (NF : Nat) (ob : Rec) (i1 : Int32) (i2 : Int32) (i3 : Int32) : Option (Int32 × Rec) :=
  chk (16 : Int32) i1 <|
  chk (16 : Int32) i2 <|
  if (gI ob 14) < (16 : Int32) then
    if (8 : Int32) < ((gA ob 31 i1) + (gA ob 31 i2)) then
      some ((-1 : Int32), ob)
    else
      (X_initPlan NF (sI ob 14 ((gI ob 14) + (1 : Int32))) (gI ob 14) (1 : Int32) ((gA ob 31 i1) + (gA ob 31 i2))).bind fun q15 =>
      chk (16 : Int32) (gI ob 14) <|
      chk (16 : Int32) (gI ob 14) <|
      chk (32 : Int32) i3 <|
      chk (16 : Int32) (gI ob 14) <|
      X_newJoinPlan_l90 NF NF (sA (sA (sA q15 28 (gI ob 14) i1) 29 (gI ob 14) i2) 30 (gI ob 14) (gA q15 11 i3)) i3 (gI ob 14) (0 : Int32)
  else
    some ((-1 : Int32), ob)
theorem X_newJoinPlan_p {C : Ctx} {top : Nat} {a : Nat} {H : List (Nat × Nat × Rec)} {res : Int32 × Rec} {NF : Nat} (ob : Rec) (i1 : Int32) (i2 : Int32) (i3 : Int32) (hf : X_newJoinPlan NF ob i1 i2 i3 = some res) : Runs C B25 0 0 0 [vr a, vi i1, vi i2, vi i3, vn, vn, vn, vn] [] (top, (a, 45, ob) :: H) (Ans (some (.int res.1)) (top, (a, 45, res.2) :: H)) := by
  delta X_newJoinPlan at hf
  refine zb d25_0 rfl <| ze d25_1 fA_31 w87 (by decide) <| za d25_4 rfl <| ?_
  refine chk_el hf fun hi11 hf => ?_
  refine zh d25_5 fA_31 (by decide) hi11 <| zb d25_6 rfl <| ze d25_7 fA_31 w87 (by decide) <| za d25_10 rfl <| ?_
  refine chk_el hf fun hi12 hf => ?_
  refine zh d25_11 fA_31 (by decide) hi12 <| zu d25_12 <| zi (P' := [vr a, vi i1, vi i2, vi i3, vi ((gA ob 31 i1) + (gA ob 31 i2)), vn, vn, vn]) d25_13 (by decide) rfl <| zb d25_15 rfl <| zs d25_16 w200 fS_14 <| zj d25_19 cb_16 <| ?_
  refine ite_el hf (fun hc13 hf => ?_) (fun hc13 hf => ?_)
  · refine zg d25_21 (tlt hc13).2.1 <| ?_
    refine zd d25_24 rfl <| zj d25_26 cb_8 <| ?_
    refine ite_el hf (fun hc14 hf => ?_) (fun hc14 hf => ?_)
    · refine zg d25_28 (tlt hc14).2.2.2 <| ?_
      obtain rfl := Option.some.inj hf
      exact zc d25_31 ci_m1 <| zn d25_32 rfl ⟨by decide, by decide⟩ ⟨rfl, rfl⟩
    · refine zf (pc' := 33) d25_28 (flt hc14).2.2.2 (by decide) <| ?_
      refine zb d25_33 rfl <| zs d25_34 w200 fS_14 <| zi (P' := [vr a, vi i1, vi i2, vi i3, vi ((gA ob 31 i1) + (gA ob 31 i2)), vi (gI ob 14), vn, vn]) d25_37 (by decide) rfl <| zb d25_39 rfl <| Runs.dup d25_40 rfl <| zs d25_41 w200 fS_14 <| zc d25_44 ci_1 <| zu d25_45 <| zB d25_46 w200 fS_14 (Or.inl w201) <| zb d25_49 rfl <| zd d25_50 rfl <| zc d25_52 ci_1 <| ?_
      refine zd d25_53 rfl <| ?_
      refine bind_el hf fun q15 hg16 hf => ?_
      refine zm (N := B23) (W := 0) (as := [.int (gI ob 14), .int (1 : Int32), .int ((gA ob 31 i1) + (gA ob 31 i2))]) (S' := []) d25_55 w226 w227 w228 rfl cw23 ar23 rk25_23_0 (by decide) rfl rfl (X_initPlan_pay hg16) <| ans0 <| zb d25_58 rfl <| ze d25_59 fA_28 w81 (by decide) <| zd d25_62 rfl <| za d25_64 rfl <| ?_
      refine chk_el hf fun hi17 hf => ?_
      refine zq d25_65 fA_28 (by decide) hi17 <| zb d25_66 rfl <| ze d25_67 fA_29 w83 (by decide) <| zd d25_70 rfl <| za d25_72 rfl <| ?_
      refine chk_el hf fun hi18 hf => ?_
      refine zq d25_73 fA_29 (by decide) hi18 <| zb d25_74 rfl <| ze d25_75 fA_30 w85 (by decide) <| zd d25_78 rfl <| zb d25_80 rfl <| ze d25_81 fA_11 w46 (by decide) <| za d25_84 rfl <| ?_
      refine chk_el hf fun hi19 hf => ?_
      refine zh d25_85 fA_11 (by decide) hi19 <| ?_
      refine chk_el hf fun hi20 hf => ?_
      exact zq d25_86 fA_30 (by decide) hi20 <| zc d25_87 ci_0 <| zi (P' := [vr a, vi i1, vi i2, vi i3, vi ((gA ob 31 i1) + (gA ob 31 i2)), vi (gI ob 14), vi (0 : Int32), vn]) d25_88 (by decide) rfl <| zp [true, false, false, true, false, true, true, false] rfl <| X_newJoinPlan_l90_p NF (sA (sA (sA q15 28 (gI ob 14) i1) 29 (gI ob 14) i2) 30 (gI ob 14) (gA q15 11 i3)) i3 (gI ob 14) (0 : Int32) hf
  · refine zf (pc' := 31) d25_21 (flt hc13).2.1 (by decide) <| ?_
    obtain rfl := Option.some.inj hf
    exact zc d25_31 ci_m1 <| zn d25_32 rfl ⟨by decide, by decide⟩ ⟨rfl, rfl⟩
theorem X_newJoinPlan_pay {C : Ctx} {top : Nat} {a : Nat} {H : List (Nat × Nat × Rec)} {res : Int32 × Rec} {NF : Nat} {ob : Rec} {i1 : Int32} {i2 : Int32} {i3 : Int32} (hf : X_newJoinPlan NF ob i1 i2 i3 = some res) : Pays C B25 [.ref a, .int i1, .int i2, .int i3] (top, (a, 45, ob) :: H) (Ans (some (.int res.1)) (top, (a, 45, res.2) :: H)) :=
  Pays.of pnK (Nat.le_of_ble_eq_true rfl) (P := [vr a, vi i1, vi i2, vi i3, vn, vn, vn, vn]) 4 rfl (X_newJoinPlan_p ob i1 i2 i3 hf)
def X_joinStep (NF : Nat) (ob : Rec) (i1 : Int32) (i2 : Int32) : Option (Rec) :=
  chk (64 : Int32) i1 <|
  if (gA ob 42 i1) = (0 : Int32) then
    chk (64 : Int32) i1 <|
    chk (32 : Int32) i2 <|
    (X_pushNode (sA ob 42 i1 (1 : Int32)) (gA ob 9 i2)).bind fun q5 =>
    some q5
  else
    if (gA ob 42 i1) = (1 : Int32) then
      chk (64 : Int32) i1 <|
      chk (32 : Int32) i2 <|
      (X_pushNode (sA ob 42 i1 (2 : Int32)) (gA ob 10 i2)).bind fun q10 =>
      some q10
    else
      if (gI ob 17) < (2 : Int32) then
        some (sI (sI ob 16 i1) 18 (1 : Int32))
      else
        chk (64 : Int32) ((gI ob 17) - (1 : Int32)) <|
        chk (64 : Int32) ((gI ob 17) - (2 : Int32)) <|
        bind2 (X_newJoinPlan NF (sI (sI ob 16 i1) 17 ((gI ob 17) - (2 : Int32))) (gA ob 43 ((gI ob 17) - (2 : Int32))) (gA ob 43 ((gI ob 17) - (1 : Int32))) i2) fun r15 q16 =>
        (X_pushResult q16 r15).bind fun q18 =>
        some q18
theorem X_joinStep_p {C : Ctx} {top : Nat} {a : Nat} {H : List (Nat × Nat × Rec)} {res : Rec} {NF : Nat} (ob : Rec) (i1 : Int32) (i2 : Int32) (hf : X_joinStep NF ob i1 i2 = some res) : Runs C B21 0 0 0 [vr a, vi i1, vi i2, vn, vn, vn, vn] [] (top, (a, 45, ob) :: H) (Ans none (top, (a, 45, res) :: H)) := by
  delta X_joinStep at hf
  refine zb d21_0 rfl <| ze d21_1 fA_42 w109 (by decide) <| za d21_4 rfl <| ?_
  refine chk_el hf fun hi1 hf => ?_
  refine zh d21_5 fA_42 (by decide) hi1 <| zr (P' := [vr a, vi i1, vi i2, vi (gA ob 42 i1), vn, vn, vn]) d21_6 (by decide) rfl <| za d21_7 rfl <| ?_
  refine ite_el hf (fun hc2 hf => ?_) (fun hc2 hf => ?_)
  · refine zl d21_8 (teq hc2).2 <| ?_
    refine zb d21_11 rfl <| ze d21_12 fA_42 w109 (by decide) <| za d21_15 rfl <| zc d21_16 ci_1 <| ?_
    refine chk_el hf fun hi3 hf => ?_
    refine zq d21_17 fA_42 (by decide) hi3 <| zb d21_18 rfl <| zb d21_19 rfl <| ze d21_20 fA_9 w42 (by decide) <| za d21_23 rfl <| ?_
    refine chk_el hf fun hi4 hf => ?_
    refine zh d21_24 fA_9 (by decide) hi4 <| ?_
    refine bind_el hf fun q5 hg6 hf => ?_
    obtain rfl := Option.some.inj hf
    exact zm (N := B19) (W := 0) (as := [.int (gA ob 9 i2)]) (S' := []) d21_25 w210 w211 w212 rfl cw19 ar19 rk21_19_0 (by decide) rfl rfl (X_pushNode_pay hg6) <| ans0 <| zt d21_28 rfl ⟨by decide, by decide⟩ ⟨rfl, rfl⟩
  · refine zk (pc' := 29) d21_8 (feq hc2).2 (by decide) <| ?_
    refine za d21_29 rfl <| zc d21_30 ci_1 <| ?_
    refine ite_el hf (fun hc7 hf => ?_) (fun hc7 hf => ?_)
    · refine zg d21_31 (teq hc7).2 <| ?_
      refine zb d21_34 rfl <| ze d21_35 fA_42 w109 (by decide) <| za d21_38 rfl <| zc d21_39 ci_2 <| ?_
      refine chk_el hf fun hi8 hf => ?_
      refine zq d21_40 fA_42 (by decide) hi8 <| zb d21_41 rfl <| zb d21_42 rfl <| ze d21_43 fA_10 w44 (by decide) <| za d21_46 rfl <| ?_
      refine chk_el hf fun hi9 hf => ?_
      refine zh d21_47 fA_10 (by decide) hi9 <| ?_
      refine bind_el hf fun q10 hg11 hf => ?_
      obtain rfl := Option.some.inj hf
      exact zm (N := B19) (W := 0) (as := [.int (gA ob 10 i2)]) (S' := []) d21_48 w210 w211 w212 rfl cw19 ar19 rk21_19_0 (by decide) rfl rfl (X_pushNode_pay hg11) <| ans0 <| zt d21_51 rfl ⟨by decide, by decide⟩ ⟨rfl, rfl⟩
    · refine zf (pc' := 52) d21_31 (feq hc7).2 (by decide) <| ?_
      refine zb d21_52 rfl <| za d21_53 rfl <| zB d21_54 w204 fS_16 (Or.inl w205) <| zb d21_57 rfl <| zs d21_58 w206 fS_17 <| zc d21_61 ci_2 <| ?_
      refine ite_el hf (fun hc12 hf => ?_) (fun hc12 hf => ?_)
      · refine zg d21_62 (tlt hc12).2.1 <| ?_
        obtain rfl := Option.some.inj hf
        exact zb d21_65 rfl <| zc d21_66 ci_1 <| Runs.putZ (y := (1 : Int32)) d21_67 w208 fS_18 (Or.inl w209) rfl <| zt d21_70 rfl ⟨by decide, by decide⟩ ⟨rfl, rfl⟩
      · refine zf (pc' := 71) d21_62 (flt hc12).2.1 (by decide) <| ?_
        refine zb d21_71 rfl <| ze d21_72 fA_43 w111 (by decide) <| zb d21_75 rfl <| zs d21_76 w206 fS_17 <| zc d21_79 ci_1 <| Runs.isub d21_80 <| ?_
        refine chk_el hf fun hi13 hf => ?_
        refine zh d21_81 fA_43 (by decide) hi13 <| zi (P' := [vr a, vi i1, vi i2, vi (gA ob 42 i1), vi (gA ob 43 ((gI ob 17) - (1 : Int32))), vn, vn]) d21_82 (by decide) rfl <| zb d21_84 rfl <| ze d21_85 fA_43 w111 (by decide) <| zb d21_88 rfl <| zs d21_89 w206 fS_17 <| zc d21_92 ci_2 <| Runs.isub d21_93 <| ?_
        refine chk_el hf fun hi14 hf => ?_
        refine zh d21_94 fA_43 (by decide) hi14 <| zi (P' := [vr a, vi i1, vi i2, vi (gA ob 42 i1), vi (gA ob 43 ((gI ob 17) - (1 : Int32))), vi (gA ob 43 ((gI ob 17) - (2 : Int32))), vn]) d21_95 (by decide) rfl <| zb d21_97 rfl <| Runs.dup d21_98 rfl <| zs d21_99 w206 fS_17 <| zc d21_102 ci_2 <| Runs.isub d21_103 <| zB d21_104 w206 fS_17 (Or.inl w207) <| zb d21_107 rfl <| zd d21_108 rfl <| zd d21_110 rfl <| za d21_112 rfl <| ?_
        refine bind2_el hf fun r15 q16 hg17 hf => ?_
        refine zm (N := B25) (W := 0) (as := [.int (gA ob 43 ((gI ob 17) - (2 : Int32))), .int (gA ob 43 ((gI ob 17) - (1 : Int32))), .int i2]) (S' := []) d21_113 w234 w235 w236 rfl cw25 ar25 rk21_25_0 (by decide) rfl rfl (X_newJoinPlan_pay hg17) <| ans1 <| zi (P' := [vr a, vi i1, vi i2, vi (gA ob 42 i1), vi (gA ob 43 ((gI ob 17) - (1 : Int32))), vi (gA ob 43 ((gI ob 17) - (2 : Int32))), vi r15]) d21_116 (by decide) rfl <| zb d21_118 rfl <| zd d21_119 rfl <| ?_
        refine bind_el hf fun q18 hg19 hf => ?_
        obtain rfl := Option.some.inj hf
        exact zm (N := B24) (W := 0) (as := [.int r15]) (S' := []) d21_121 w230 w231 w232 rfl cw24 ar24 rk21_24_0 (by decide) rfl rfl (X_pushResult_pay hg19) <| ans0 <| zt d21_124 rfl ⟨by decide, by decide⟩ ⟨rfl, rfl⟩
theorem X_joinStep_pay {C : Ctx} {top : Nat} {a : Nat} {H : List (Nat × Nat × Rec)} {res : Rec} {NF : Nat} {ob : Rec} {i1 : Int32} {i2 : Int32} (hf : X_joinStep NF ob i1 i2 = some res) : Pays C B21 [.ref a, .int i1, .int i2] (top, (a, 45, ob) :: H) (Ans none (top, (a, 45, res) :: H)) :=
  Pays.of pnK (Nat.le_of_ble_eq_true rfl) (P := [vr a, vi i1, vi i2, vn, vn, vn, vn]) 4 rfl (X_joinStep_p ob i1 i2 hf)
def X_mapCol (ob : Rec) (i1 : Int32) (i2 : Int32) : Option (Int32) :=
  if i2 < (0 : Int32) then
    some (0 : Int32)
  else
    chk (16 : Int32) i1 <|
    if i2 < (gA ob 31 i1) then
      if i2 < (8 : Int32) then
        chk (128 : Int32) ((i1 * (8 : Int32)) + i2) <|
        some (gA ob 32 ((i1 * (8 : Int32)) + i2))
      else
        some (0 : Int32)
    else
      some (0 : Int32)
theorem X_mapCol_p {C : Ctx} {top : Nat} {a : Nat} {H : List (Nat × Nat × Rec)} {ob : Rec} {res : Int32} (i1 : Int32) (i2 : Int32) (hf : X_mapCol ob i1 i2 = some res) : Runs C B30 0 0 0 [vr a, vi i1, vi i2] [] (top, (a, 45, ob) :: H) (Ans (some (.int res)) (top, (a, 45, ob) :: H)) := by
  delta X_mapCol at hf
  refine za d30_0 rfl <| ?_
  refine ite_el hf (fun hc1 hf => ?_) (fun hc1 hf => ?_)
  · refine zk (pc' := 20) d30_1 (tlt hc1).1 (by decide) <| ?_
    obtain rfl := Option.some.inj hf
    exact zc d30_20 ci_0 <| zn d30_21 rfl ⟨by decide, by decide⟩ ⟨rfl, rfl⟩
  · refine zl d30_1 (flt hc1).1 <| ?_
    refine za d30_4 rfl <| zb d30_5 rfl <| ze d30_6 fA_31 w87 (by decide) <| za d30_9 rfl <| ?_
    refine chk_el hf fun hi2 hf => ?_
    refine zh d30_10 fA_31 (by decide) hi2 <| ?_
    refine ite_el hf (fun hc3 hf => ?_) (fun hc3 hf => ?_)
    · refine zg d30_11 (tlt hc3).2.1 <| ?_
      refine za d30_14 rfl <| zj d30_15 cb_8 <| ?_
      refine ite_el hf (fun hc4 hf => ?_) (fun hc4 hf => ?_)
      · refine zf (pc' := 22) d30_17 (tlt hc4).1 (by decide) <| ?_
        refine zb d30_22 rfl <| ze d30_23 fA_32 w89 (by decide) <| za d30_26 rfl <| zj d30_27 cb_8 <| zy d30_29 <| za d30_30 rfl <| zu d30_31 <| ?_
        refine chk_el hf fun hi5 hf => ?_
        obtain rfl := Option.some.inj hf
        exact zh d30_32 fA_32 (by decide) hi5 <| zn d30_33 rfl ⟨by decide, by decide⟩ ⟨rfl, rfl⟩
      · refine zg d30_17 (flt hc4).1 <| ?_
        obtain rfl := Option.some.inj hf
        exact zc d30_20 ci_0 <| zn d30_21 rfl ⟨by decide, by decide⟩ ⟨rfl, rfl⟩
    · refine zf (pc' := 20) d30_11 (flt hc3).2.1 (by decide) <| ?_
      obtain rfl := Option.some.inj hf
      exact zc d30_20 ci_0 <| zn d30_21 rfl ⟨by decide, by decide⟩ ⟨rfl, rfl⟩
theorem X_mapCol_pay {C : Ctx} {top : Nat} {a : Nat} {H : List (Nat × Nat × Rec)} {ob : Rec} {res : Int32} {i1 : Int32} {i2 : Int32} (hf : X_mapCol ob i1 i2 = some res) : Pays C B30 [.ref a, .int i1, .int i2] (top, (a, 45, ob) :: H) (Ans (some (.int res)) (top, (a, 45, ob) :: H)) :=
  Pays.of pnK (Nat.le_of_ble_eq_true rfl) (P := [vr a, vi i1, vi i2]) 0 rfl (X_mapCol_p i1 i2 hf)
def X_substitute_b30 (ob : Rec) (i1 : Int32) (i2 : Int32) (i3 : Int32) : Option (Rec) :=
  chk (512 : Int32) i1 <|
  if ((gA ob 39 i1) &&& (2 : Int32)) = (0 : Int32) then
    some ob
  else
    chk (512 : Int32) i1 <|
    (X_mapCol ob i2 ((gA ob 38 i1) - i3)).bind fun r4 =>
    chk (512 : Int32) i1 <|
    some (sA ob 38 i1 r4)
theorem X_substitute_b30_p {C : Ctx} {top : Nat} {a : Nat} {H : List (Nat × Nat × Rec)} {res : Rec} (ob : Rec) (i1 : Int32) (i2 : Int32) (i3 : Int32) (hf : X_substitute_b30 ob i1 i2 i3 = some res) : Runs C B29 0 0 30 [vr a, vi i1, vi i2, vi i3] [] (top, (a, 45, ob) :: H) (Ans none (top, (a, 45, res) :: H)) := by
  delta X_substitute_b30 at hf
  refine zb d29_30 rfl <| ze d29_31 fA_39 w103 (by decide) <| za d29_34 rfl <| ?_
  refine chk_el hf fun hi1 hf => ?_
  refine zh d29_35 fA_39 (by decide) hi1 <| zc d29_36 ci_2 <| zA d29_37 <| ?_
  refine ite_el hf (fun hc2 hf => ?_) (fun hc2 hf => ?_)
  · refine zk (pc' := 60) d29_38 (teq hc2).1 (by decide) <| ?_
    obtain rfl := Option.some.inj hf
    exact zt d29_60 rfl ⟨by decide, by decide⟩ ⟨rfl, rfl⟩
  · refine zl d29_38 (feq hc2).1 <| ?_
    refine zb d29_41 rfl <| ze d29_42 fA_38 w101 (by decide) <| za d29_45 rfl <| zb d29_46 rfl <| za d29_47 rfl <| zb d29_48 rfl <| ze d29_49 fA_38 w101 (by decide) <| za d29_52 rfl <| ?_
    refine chk_el hf fun hi3 hf => ?_
    refine zh d29_53 fA_38 (by decide) hi3 <| za d29_54 rfl <| Runs.isub d29_55 <| ?_
    refine bind_el hf fun r4 hg5 hf => ?_
    refine zm (N := B30) (W := 2) (as := [.int i2, .int ((gA ob 38 i1) - i3)]) (S' := [.int i1, .ref (a + 1 + 38)]) d29_56 w254 w255 w256 rfl cw30 ar30 rk29_30_2 (by decide) rfl rfl (X_mapCol_pay hg5) <| ans1 <| ?_
    refine chk_el hf fun hi6 hf => ?_
    obtain rfl := Option.some.inj hf
    exact zq d29_59 fA_38 (by decide) hi6 <| zt d29_60 rfl ⟨by decide, by decide⟩ ⟨rfl, rfl⟩
def X_substitute (ob : Rec) (i1 : Int32) (i2 : Int32) (i3 : Int32) : Option (Rec) :=
  chk (512 : Int32) i1 <|
  if ((gA ob 39 i1) &&& (1 : Int32)) = (0 : Int32) then
    X_substitute_b30 ob i1 i2 i3
  else
    chk (512 : Int32) i1 <|
    (X_mapCol ob i2 ((gA ob 37 i1) - i3)).bind fun r10 =>
    chk (512 : Int32) i1 <|
    X_substitute_b30 (sA ob 37 i1 r10) i1 i2 i3
theorem X_substitute_p {C : Ctx} {top : Nat} {a : Nat} {H : List (Nat × Nat × Rec)} {res : Rec} (ob : Rec) (i1 : Int32) (i2 : Int32) (i3 : Int32) (hf : X_substitute ob i1 i2 i3 = some res) : Runs C B29 0 0 0 [vr a, vi i1, vi i2, vi i3] [] (top, (a, 45, ob) :: H) (Ans none (top, (a, 45, res) :: H)) := by
  delta X_substitute at hf
  refine zb d29_0 rfl <| ze d29_1 fA_39 w103 (by decide) <| za d29_4 rfl <| ?_
  refine chk_el hf fun hi7 hf => ?_
  refine zh d29_5 fA_39 (by decide) hi7 <| zc d29_6 ci_1 <| zA d29_7 <| ?_
  refine ite_el hf (fun hc8 hf => ?_) (fun hc8 hf => ?_)
  · exact zk (pc' := 30) d29_8 (teq hc8).1 (by decide) <| X_substitute_b30_p ob i1 i2 i3 hf
  · refine zl d29_8 (feq hc8).1 <| ?_
    refine zb d29_11 rfl <| ze d29_12 fA_37 w99 (by decide) <| za d29_15 rfl <| zb d29_16 rfl <| za d29_17 rfl <| zb d29_18 rfl <| ze d29_19 fA_37 w99 (by decide) <| za d29_22 rfl <| ?_
    refine chk_el hf fun hi9 hf => ?_
    refine zh d29_23 fA_37 (by decide) hi9 <| za d29_24 rfl <| Runs.isub d29_25 <| ?_
    refine bind_el hf fun r10 hg11 hf => ?_
    refine zm (N := B30) (W := 2) (as := [.int i2, .int ((gA ob 37 i1) - i3)]) (S' := [.int i1, .ref (a + 1 + 37)]) d29_26 w254 w255 w256 rfl cw30 ar30 rk29_30_2 (by decide) rfl rfl (X_mapCol_pay hg11) <| ans1 <| ?_
    refine chk_el hf fun hi12 hf => ?_
    exact zq d29_29 fA_37 (by decide) hi12 <| X_substitute_b30_p (sA ob 37 i1 r10) i1 i2 i3 hf
theorem X_substitute_pay {C : Ctx} {top : Nat} {a : Nat} {H : List (Nat × Nat × Rec)} {res : Rec} {ob : Rec} {i1 : Int32} {i2 : Int32} {i3 : Int32} (hf : X_substitute ob i1 i2 i3 = some res) : Pays C B29 [.ref a, .int i1, .int i2, .int i3] (top, (a, 45, ob) :: H) (Ans none (top, (a, 45, res) :: H)) :=
  Pays.of pnK (Nat.le_of_ble_eq_true rfl) (P := [vr a, vi i1, vi i2, vi i3]) 0 rfl (X_substitute_p ob i1 i2 i3 hf)
def X_applySelect_w2 (NF : Nat) (k2 : Rec → Int32 → Int32 → Int32 → Option (Rec)) (ob : Rec) (i1 : Int32) (i2 : Int32) (i3 : Int32) : Option (Rec) :=
  chk (32 : Int32) i2 <|
  if i3 < (gA ob 14 i2) then
    if i3 < (64 : Int32) then
      chk (32 : Int32) i2 <|
      bind2 (X_copyAtom ob ((gA ob 13 i2) + i3)) fun r5 q6 =>
      if r5 < (0 : Int32) then
        some (sI q6 18 (1 : Int32))
      else
        (X_substitute q6 r5 i1 (0 : Int32)).bind fun q9 =>
        (X_prepend q9 ((2 : Int32) * i1) r5).bind fun q11 =>
        k2 q11 i1 i2 (i3 + (1 : Int32))
    else
      some ob
  else
    some ob
def X_applySelect_l2 (NF : Nat) : Nat → Rec → Int32 → Int32 → Int32 → Option (Rec)
  | 0, _, _, _, _ => none
  | n + 1, ob, i1, i2, i3 => X_applySelect_w2 NF (X_applySelect_l2 NF n) ob i1 i2 i3
theorem X_applySelect_w2_p {C : Ctx} {top : Nat} {a : Nat} {H : List (Nat × Nat × Rec)} {res : Rec} {NF : Nat} (k2 : Rec → Int32 → Int32 → Int32 → Option (Rec)) (hk2 : ∀ (ob : Rec) (i1 : Int32) (i2 : Int32) (i3 : Int32), k2 ob i1 i2 i3 = some res → Runs C B28 0 0 2 [vr a, vi i1, vi i2, vi i3, vn] [] (top, (a, 45, ob) :: H) (Ans none (top, (a, 45, res) :: H))) (ob : Rec) (i1 : Int32) (i2 : Int32) (i3 : Int32) (hf : X_applySelect_w2 NF k2 ob i1 i2 i3 = some res) : Runs C B28 0 0 2 [vr a, vi i1, vi i2, vi i3, vn] [] (top, (a, 45, ob) :: H) (Ans none (top, (a, 45, res) :: H)) := by
  delta X_applySelect_w2 at hf
  refine za d28_2 rfl <| zb d28_3 rfl <| ze d28_4 fA_14 w52 (by decide) <| za d28_7 rfl <| ?_
  refine chk_el hf fun hi1 hf => ?_
  refine zh d28_8 fA_14 (by decide) hi1 <| ?_
  refine ite_el hf (fun hc2 hf => ?_) (fun hc2 hf => ?_)
  · refine zg d28_9 (tlt hc2).2.1 <| ?_
    refine za d28_12 rfl <| zj d28_13 cb_64 <| ?_
    refine ite_el hf (fun hc3 hf => ?_) (fun hc3 hf => ?_)
    · refine zg d28_15 (tlt hc3).2.1 <| ?_
      refine zb d28_18 rfl <| zb d28_19 rfl <| ze d28_20 fA_13 w50 (by decide) <| za d28_23 rfl <| ?_
      refine chk_el hf fun hi4 hf => ?_
      refine zh d28_24 fA_13 (by decide) hi4 <| za d28_25 rfl <| zu d28_26 <| ?_
      refine bind2_el hf fun r5 q6 hg7 hf => ?_
      refine zm (N := B26) (W := 0) (as := [.int ((gA ob 13 i2) + i3)]) (S' := []) d28_27 w238 w239 w240 rfl cw26 ar26 rk28_26_0 (by decide) rfl rfl (X_copyAtom_pay hg7) <| ans1 <| zi (P' := [vr a, vi i1, vi i2, vi i3, vi r5]) d28_30 (by decide) rfl <| zd d28_32 rfl <| ?_
      refine ite_el hf (fun hc8 hf => ?_) (fun hc8 hf => ?_)
      · refine zl d28_34 (tlt hc8).2.1 <| ?_
        obtain rfl := Option.some.inj hf
        exact zb d28_37 rfl <| zc d28_38 ci_1 <| Runs.putZ (y := (1 : Int32)) d28_39 w208 fS_18 (Or.inl w209) rfl <| zt d28_42 rfl ⟨by decide, by decide⟩ ⟨rfl, rfl⟩
      · refine zk (pc' := 43) d28_34 (flt hc8).2.1 (by decide) <| ?_
        refine zb d28_43 rfl <| zd d28_44 rfl <| za d28_46 rfl <| zc d28_47 ci_0 <| ?_
        refine bind_el hf fun q9 hg10 hf => ?_
        refine zm (N := B29) (W := 0) (as := [.int r5, .int i1, .int (0 : Int32)]) (S' := []) d28_48 w250 w251 w252 rfl cw29 ar29 rk28_29_0 (by decide) rfl rfl (X_substitute_pay hg10) <| ans0 <| zb d28_51 rfl <| zc d28_52 ci_2 <| za d28_53 rfl <| zy d28_54 <| zd d28_55 rfl <| ?_
        refine bind_el hf fun q11 hg12 hf => ?_
        exact zm (N := B27) (W := 0) (as := [.int ((2 : Int32) * i1), .int r5]) (S' := []) d28_57 w242 w243 w244 rfl cw27 ar27 rk28_27_0 (by decide) rfl rfl (X_prepend_pay hg12) <| ans0 <| zv (P' := [vr a, vi i1, vi i2, vi (i3 + (1 : Int32)), vi r5]) d28_60 ci_1 rfl (by decide) rfl <| zo (pc' := 2) d28_63 (by decide) <| zp [true, true, true, true, false] rfl <| hk2 q11 i1 i2 (i3 + (1 : Int32)) hf
    · refine zf (pc' := 66) d28_15 (flt hc3).2.1 (by decide) <| ?_
      obtain rfl := Option.some.inj hf
      exact zt d28_66 rfl ⟨by decide, by decide⟩ ⟨rfl, rfl⟩
  · refine zf (pc' := 66) d28_9 (flt hc2).2.1 (by decide) <| ?_
    obtain rfl := Option.some.inj hf
    exact zt d28_66 rfl ⟨by decide, by decide⟩ ⟨rfl, rfl⟩
theorem X_applySelect_l2_p {C : Ctx} {top : Nat} {a : Nat} {H : List (Nat × Nat × Rec)} {res : Rec} {NF : Nat} (n : Nat) (ob : Rec) (i1 : Int32) (i2 : Int32) (i3 : Int32) (hf : X_applySelect_l2 NF n ob i1 i2 i3 = some res) : Runs C B28 0 0 2 [vr a, vi i1, vi i2, vi i3, vn] [] (top, (a, 45, ob) :: H) (Ans none (top, (a, 45, res) :: H)) := by
  induction n generalizing ob i1 i2 i3 with
  | zero => cases (show (none : Option (Rec)) = some res from hf)
  | succ n ih => exact X_applySelect_w2_p (X_applySelect_l2 NF n) (fun ob i1 i2 i3 h => ih _ _ _ _ h) ob i1 i2 i3 hf
def X_applySelect (NF : Nat) (ob : Rec) (i1 : Int32) (i2 : Int32) : Option (Rec) :=
  X_applySelect_l2 NF NF ob i1 i2 (0 : Int32)
theorem X_applySelect_p {C : Ctx} {top : Nat} {a : Nat} {H : List (Nat × Nat × Rec)} {res : Rec} {NF : Nat} (ob : Rec) (i1 : Int32) (i2 : Int32) (hf : X_applySelect NF ob i1 i2 = some res) : Runs C B28 0 0 0 [vr a, vi i1, vi i2, vn, vn] [] (top, (a, 45, ob) :: H) (Ans none (top, (a, 45, res) :: H)) := by
  delta X_applySelect at hf
  exact zc d28_0 ci_0 <| zr (P' := [vr a, vi i1, vi i2, vi (0 : Int32), vn]) d28_1 (by decide) rfl <| X_applySelect_l2_p NF ob i1 i2 (0 : Int32) hf
theorem X_applySelect_pay {C : Ctx} {top : Nat} {a : Nat} {H : List (Nat × Nat × Rec)} {res : Rec} {NF : Nat} {ob : Rec} {i1 : Int32} {i2 : Int32} (hf : X_applySelect NF ob i1 i2 = some res) : Pays C B28 [.ref a, .int i1, .int i2] (top, (a, 45, ob) :: H) (Ans none (top, (a, 45, res) :: H)) :=
  Pays.of pnK (Nat.le_of_ble_eq_true rfl) (P := [vr a, vi i1, vi i2, vn, vn]) 2 rfl (X_applySelect_p ob i1 i2 hf)
def X_buildStep (NF : Nat) (ob : Rec) : Option (Rec) :=
  chk (64 : Int32) ((gI ob 16) - (1 : Int32)) <|
  chk (32 : Int32) (gA ob 41 ((gI ob 16) - (1 : Int32))) <|
  if (gA ob 7 (gA ob 41 ((gI ob 16) - (1 : Int32)))) = (0 : Int32) then
    chk (32 : Int32) (gA ob 41 ((gI ob 16) - (1 : Int32))) <|
    bind2 (X_newScanPlan NF (sI ob 16 ((gI ob 16) - (1 : Int32))) ((gA ob 9 (gA ob 41 ((gI ob 16) - (1 : Int32)))) &&& (3 : Int32))) fun r5 q6 =>
    (X_pushResult q6 r5).bind fun q8 =>
    some q8
  else
    if (gA ob 7 (gA ob 41 ((gI ob 16) - (1 : Int32)))) = (3 : Int32) then
      (X_joinStep NF ob ((gI ob 16) - (1 : Int32)) (gA ob 41 ((gI ob 16) - (1 : Int32)))).bind fun q11 =>
      some q11
    else
      chk (64 : Int32) ((gI ob 16) - (1 : Int32)) <|
      if (gA ob 42 ((gI ob 16) - (1 : Int32))) = (0 : Int32) then
        chk (64 : Int32) ((gI ob 16) - (1 : Int32)) <|
        chk (32 : Int32) (gA ob 41 ((gI ob 16) - (1 : Int32))) <|
        (X_pushNode (sA ob 42 ((gI ob 16) - (1 : Int32)) (1 : Int32)) (gA ob 9 (gA ob 41 ((gI ob 16) - (1 : Int32))))).bind fun q17 =>
        some q17
      else
        if (0 : Int32) < (gI ob 17) then
          chk (64 : Int32) ((gI ob 17) - (1 : Int32)) <|
          if (gA ob 7 (gA ob 41 ((gI ob 16) - (1 : Int32)))) = (1 : Int32) then
            (X_applySelect NF (sI ob 16 ((gI ob 16) - (1 : Int32))) (gA ob 43 ((gI ob 17) - (1 : Int32))) (gA ob 41 ((gI ob 16) - (1 : Int32)))).bind fun q22 =>
            some q22
          else
            if (gA ob 7 (gA ob 41 ((gI ob 16) - (1 : Int32)))) = (2 : Int32) then
              none
            else
              some (sI ob 16 ((gI ob 16) - (1 : Int32)))
        else
          some (sI (sI ob 16 ((gI ob 16) - (1 : Int32))) 18 (1 : Int32))
theorem X_buildStep_p {C : Ctx} {top : Nat} {a : Nat} {H : List (Nat × Nat × Rec)} {res : Rec} {NF : Nat} (ob : Rec) (hf : X_buildStep NF ob = some res) : Runs C B20 0 0 0 [vr a, vn, vn, vn, vn] [] (top, (a, 45, ob) :: H) (Ans none (top, (a, 45, res) :: H)) := by
  delta X_buildStep at hf
  refine zb d20_0 rfl <| zs d20_1 w204 fS_16 <| zc d20_4 ci_1 <| Runs.isub d20_5 <| zr (P' := [vr a, vi ((gI ob 16) - (1 : Int32)), vn, vn, vn]) d20_6 (by decide) rfl <| zb d20_7 rfl <| ze d20_8 fA_41 w107 (by decide) <| za d20_11 rfl <| ?_
  refine chk_el hf fun hi1 hf => ?_
  refine zh d20_12 fA_41 (by decide) hi1 <| zr (P' := [vr a, vi ((gI ob 16) - (1 : Int32)), vi (gA ob 41 ((gI ob 16) - (1 : Int32))), vn, vn]) d20_13 (by decide) rfl <| zb d20_14 rfl <| ze d20_15 fA_7 w38 (by decide) <| za d20_18 rfl <| ?_
  refine chk_el hf fun hi2 hf => ?_
  refine zh d20_19 fA_7 (by decide) hi2 <| zr (P' := [vr a, vi ((gI ob 16) - (1 : Int32)), vi (gA ob 41 ((gI ob 16) - (1 : Int32))), vi (gA ob 7 (gA ob 41 ((gI ob 16) - (1 : Int32)))), vn]) d20_20 (by decide) rfl <| za d20_21 rfl <| ?_
  refine ite_el hf (fun hc3 hf => ?_) (fun hc3 hf => ?_)
  · refine zl d20_22 (teq hc3).2 <| ?_
    refine zb d20_25 rfl <| za d20_26 rfl <| zB d20_27 w204 fS_16 (Or.inl w205) <| zb d20_30 rfl <| zb d20_31 rfl <| ze d20_32 fA_9 w42 (by decide) <| za d20_35 rfl <| ?_
    refine chk_el hf fun hi4 hf => ?_
    refine zh d20_36 fA_9 (by decide) hi4 <| zc d20_37 ci_3 <| zA d20_38 <| ?_
    refine bind2_el hf fun r5 q6 hg7 hf => ?_
    refine zm (N := B22) (W := 0) (as := [.int ((gA ob 9 (gA ob 41 ((gI ob 16) - (1 : Int32)))) &&& (3 : Int32))]) (S' := []) d20_39 w222 w223 w224 rfl cw22 ar22 rk20_22_0 (by decide) rfl rfl (X_newScanPlan_pay hg7) <| ans1 <| zi (P' := [vr a, vi ((gI ob 16) - (1 : Int32)), vi (gA ob 41 ((gI ob 16) - (1 : Int32))), vi (gA ob 7 (gA ob 41 ((gI ob 16) - (1 : Int32)))), vi r5]) d20_42 (by decide) rfl <| zb d20_44 rfl <| zd d20_45 rfl <| ?_
    refine bind_el hf fun q8 hg9 hf => ?_
    obtain rfl := Option.some.inj hf
    exact zm (N := B24) (W := 0) (as := [.int r5]) (S' := []) d20_47 w230 w231 w232 rfl cw24 ar24 rk20_24_0 (by decide) rfl rfl (X_pushResult_pay hg9) <| ans0 <| zt d20_50 rfl ⟨by decide, by decide⟩ ⟨rfl, rfl⟩
  · refine zk (pc' := 51) d20_22 (feq hc3).2 (by decide) <| ?_
    refine za d20_51 rfl <| zc d20_52 ci_3 <| ?_
    refine ite_el hf (fun hc10 hf => ?_) (fun hc10 hf => ?_)
    · refine zg d20_53 (teq hc10).2 <| ?_
      refine zb d20_56 rfl <| za d20_57 rfl <| za d20_58 rfl <| ?_
      refine bind_el hf fun q11 hg12 hf => ?_
      obtain rfl := Option.some.inj hf
      exact zm (N := B21) (W := 0) (as := [.int ((gI ob 16) - (1 : Int32)), .int (gA ob 41 ((gI ob 16) - (1 : Int32)))]) (S' := []) d20_59 w218 w219 w220 rfl cw21 ar21 rk20_21_0 (by decide) rfl rfl (X_joinStep_pay hg12) <| ans0 <| zt d20_62 rfl ⟨by decide, by decide⟩ ⟨rfl, rfl⟩
    · refine zf (pc' := 63) d20_53 (feq hc10).2 (by decide) <| ?_
      refine zb d20_63 rfl <| ze d20_64 fA_42 w109 (by decide) <| za d20_67 rfl <| ?_
      refine chk_el hf fun hi13 hf => ?_
      refine zh d20_68 fA_42 (by decide) hi13 <| ?_
      refine ite_el hf (fun hc14 hf => ?_) (fun hc14 hf => ?_)
      · refine zl d20_69 (teq hc14).2 <| ?_
        refine zb d20_72 rfl <| ze d20_73 fA_42 w109 (by decide) <| za d20_76 rfl <| zc d20_77 ci_1 <| ?_
        refine chk_el hf fun hi15 hf => ?_
        refine zq d20_78 fA_42 (by decide) hi15 <| zb d20_79 rfl <| zb d20_80 rfl <| ze d20_81 fA_9 w42 (by decide) <| za d20_84 rfl <| ?_
        refine chk_el hf fun hi16 hf => ?_
        refine zh d20_85 fA_9 (by decide) hi16 <| ?_
        refine bind_el hf fun q17 hg18 hf => ?_
        obtain rfl := Option.some.inj hf
        exact zm (N := B19) (W := 0) (as := [.int (gA ob 9 (gA ob 41 ((gI ob 16) - (1 : Int32))))]) (S' := []) d20_86 w210 w211 w212 rfl cw19 ar19 rk20_19_0 (by decide) rfl rfl (X_pushNode_pay hg18) <| ans0 <| zt d20_89 rfl ⟨by decide, by decide⟩ ⟨rfl, rfl⟩
      · refine zk (pc' := 90) d20_69 (feq hc14).2 (by decide) <| ?_
        refine zb d20_90 rfl <| za d20_91 rfl <| zB d20_92 w204 fS_16 (Or.inl w205) <| zb d20_95 rfl <| zs d20_96 w206 fS_17 <| ?_
        refine ite_el hf (fun hc19 hf => ?_) (fun hc19 hf => ?_)
        · refine zk (pc' := 108) d20_99 (tlt hc19).2.2.1 (by decide) <| ?_
          refine zb d20_108 rfl <| ze d20_109 fA_43 w111 (by decide) <| zb d20_112 rfl <| zs d20_113 w206 fS_17 <| zc d20_116 ci_1 <| Runs.isub d20_117 <| ?_
          refine chk_el hf fun hi20 hf => ?_
          refine zh d20_118 fA_43 (by decide) hi20 <| zi (P' := [vr a, vi ((gI ob 16) - (1 : Int32)), vi (gA ob 41 ((gI ob 16) - (1 : Int32))), vi (gA ob 7 (gA ob 41 ((gI ob 16) - (1 : Int32)))), vi (gA ob 43 ((gI ob 17) - (1 : Int32)))]) d20_119 (by decide) rfl <| za d20_121 rfl <| zc d20_122 ci_1 <| ?_
          refine ite_el hf (fun hc21 hf => ?_) (fun hc21 hf => ?_)
          · refine zg d20_123 (teq hc21).2 <| ?_
            refine zb d20_126 rfl <| zd d20_127 rfl <| za d20_129 rfl <| ?_
            refine bind_el hf fun q22 hg23 hf => ?_
            obtain rfl := Option.some.inj hf
            exact zm (N := B28) (W := 0) (as := [.int (gA ob 43 ((gI ob 17) - (1 : Int32))), .int (gA ob 41 ((gI ob 16) - (1 : Int32)))]) (S' := []) d20_130 w246 w247 w248 rfl cw28 ar28 rk20_28_0 (by decide) rfl rfl (X_applySelect_pay hg23) <| ans0 <| zo (pc' := 148) d20_133 (by decide) <| zt d20_148 rfl ⟨by decide, by decide⟩ ⟨rfl, rfl⟩
          · refine zf (pc' := 136) d20_123 (feq hc21).2 (by decide) <| ?_
            refine za d20_136 rfl <| zc d20_137 ci_2 <| ?_
            refine ite_el hf (fun hc24 hf => ?_) (fun hc24 hf => ?_)
            · refine zg d20_138 (teq hc24).2 <| ?_
              cases hf
            · refine zf (pc' := 148) d20_138 (feq hc24).2 (by decide) <| ?_
              obtain rfl := Option.some.inj hf
              exact zt d20_148 rfl ⟨by decide, by decide⟩ ⟨rfl, rfl⟩
        · refine zl d20_99 (flt hc19).2.2.1 <| ?_
          obtain rfl := Option.some.inj hf
          exact zb d20_102 rfl <| zc d20_103 ci_1 <| Runs.putZ (y := (1 : Int32)) d20_104 w208 fS_18 (Or.inl w209) rfl <| zt d20_107 rfl ⟨by decide, by decide⟩ ⟨rfl, rfl⟩
theorem X_buildStep_pay {C : Ctx} {top : Nat} {a : Nat} {H : List (Nat × Nat × Rec)} {res : Rec} {NF : Nat} {ob : Rec} (hf : X_buildStep NF ob = some res) : Pays C B20 [.ref a] (top, (a, 45, ob) :: H) (Ans none (top, (a, 45, res) :: H)) :=
  Pays.of pnK (Nat.le_of_ble_eq_true rfl) (P := [vr a, vn, vn, vn, vn]) 4 rfl (X_buildStep_p ob hf)
def X_buildPlan_b63 (NF : Nat) (ob : Rec) : Option (Int32 × Rec) :=
  if (gI ob 18) = (0 : Int32) then
    if (gI ob 16) = (0 : Int32) then
      if (gI ob 17) = (1 : Int32) then
        if (0 : Int32) < (gI ob 14) then
          some ((1 : Int32), ob)
        else
          some ((0 : Int32), ob)
      else
        some ((0 : Int32), ob)
    else
      some ((0 : Int32), ob)
  else
    some ((0 : Int32), ob)
theorem X_buildPlan_b63_p {C : Ctx} {top : Nat} {a : Nat} {H : List (Nat × Nat × Rec)} {res : Int32 × Rec} {NF : Nat} (ob : Rec) (hf : X_buildPlan_b63 NF ob = some res) : Runs C B18 0 0 63 [vr a, vn, vn] [] (top, (a, 45, ob) :: H) (Ans (some (.int res.1)) (top, (a, 45, res.2) :: H)) := by
  delta X_buildPlan_b63 at hf
  refine zb d18_63 rfl <| zs d18_64 w208 fS_18 <| ?_
  refine ite_el hf (fun hc6 hf => ?_) (fun hc6 hf => ?_)
  · refine zl d18_67 (teq hc6).2 <| ?_
    refine zb d18_70 rfl <| zs d18_71 w204 fS_16 <| ?_
    refine ite_el hf (fun hc7 hf => ?_) (fun hc7 hf => ?_)
    · refine zl d18_74 (teq hc7).2 <| ?_
      refine zb d18_77 rfl <| zs d18_78 w206 fS_17 <| zc d18_81 ci_1 <| ?_
      refine ite_el hf (fun hc8 hf => ?_) (fun hc8 hf => ?_)
      · refine zg d18_82 (teq hc8).2 <| ?_
        refine zb d18_85 rfl <| zs d18_86 w200 fS_14 <| ?_
        refine ite_el hf (fun hc9 hf => ?_) (fun hc9 hf => ?_)
        · refine zl d18_89 (tlt hc9).2.2.2 <| ?_
          obtain rfl := Option.some.inj hf
          exact zc d18_92 ci_1 <| zo (pc' := 97) d18_93 (by decide) <| zw (y := (1 : Int32)) d18_97 rfl ⟨by decide, by decide⟩ rfl ⟨rfl, rfl⟩
        · refine zk (pc' := 96) d18_89 (flt hc9).2.2.2 (by decide) <| ?_
          obtain rfl := Option.some.inj hf
          exact zc d18_96 ci_0 <| zw (y := (0 : Int32)) d18_97 rfl ⟨by decide, by decide⟩ rfl ⟨rfl, rfl⟩
      · refine zf (pc' := 96) d18_82 (feq hc8).2 (by decide) <| ?_
        obtain rfl := Option.some.inj hf
        exact zc d18_96 ci_0 <| zw (y := (0 : Int32)) d18_97 rfl ⟨by decide, by decide⟩ rfl ⟨rfl, rfl⟩
    · refine zk (pc' := 96) d18_74 (feq hc7).2 (by decide) <| ?_
      obtain rfl := Option.some.inj hf
      exact zc d18_96 ci_0 <| zw (y := (0 : Int32)) d18_97 rfl ⟨by decide, by decide⟩ rfl ⟨rfl, rfl⟩
  · refine zk (pc' := 96) d18_67 (feq hc6).2 (by decide) <| ?_
    obtain rfl := Option.some.inj hf
    exact zc d18_96 ci_0 <| zw (y := (0 : Int32)) d18_97 rfl ⟨by decide, by decide⟩ rfl ⟨rfl, rfl⟩
def X_buildPlan_w32 (NF : Nat) (k32 : Rec → Int32 → Option (Int32 × Rec)) (ob : Rec) (i2 : Int32) : Option (Int32 × Rec) :=
  if i2 < (4096 : Int32) then
    if (0 : Int32) < (gI ob 16) then
      if (gI ob 18) = (0 : Int32) then
        (X_buildStep NF ob).bind fun q4 =>
        k32 q4 (i2 + (1 : Int32))
      else
        X_buildPlan_b63 NF ob
    else
      X_buildPlan_b63 NF ob
  else
    X_buildPlan_b63 NF ob
def X_buildPlan_l32 (NF : Nat) : Nat → Rec → Int32 → Option (Int32 × Rec)
  | 0, _, _ => none
  | n + 1, ob, i2 => X_buildPlan_w32 NF (X_buildPlan_l32 NF n) ob i2
theorem X_buildPlan_w32_p {C : Ctx} {top : Nat} {a : Nat} {H : List (Nat × Nat × Rec)} {res : Int32 × Rec} {NF : Nat} (k32 : Rec → Int32 → Option (Int32 × Rec)) (hk32 : ∀ (ob : Rec) (i2 : Int32), k32 ob i2 = some res → Runs C B18 0 0 32 [vr a, vn, vi i2] [] (top, (a, 45, ob) :: H) (Ans (some (.int res.1)) (top, (a, 45, res.2) :: H))) (ob : Rec) (i2 : Int32) (hf : X_buildPlan_w32 NF k32 ob i2 = some res) : Runs C B18 0 0 32 [vr a, vn, vi i2] [] (top, (a, 45, ob) :: H) (Ans (some (.int res.1)) (top, (a, 45, res.2) :: H)) := by
  delta X_buildPlan_w32 at hf
  refine za d18_32 rfl <| zC d18_33 cs_4096 <| ?_
  refine ite_el hf (fun hc1 hf => ?_) (fun hc1 hf => ?_)
  · refine zg d18_36 (tlt hc1).2.1 <| ?_
    refine zb d18_39 rfl <| zs d18_40 w204 fS_16 <| ?_
    refine ite_el hf (fun hc2 hf => ?_) (fun hc2 hf => ?_)
    · refine zl d18_43 (tlt hc2).2.2.2 <| ?_
      refine zb d18_46 rfl <| zs d18_47 w208 fS_18 <| ?_
      refine ite_el hf (fun hc3 hf => ?_) (fun hc3 hf => ?_)
      · refine zl d18_50 (teq hc3).2 <| ?_
        refine zb d18_53 rfl <| ?_
        refine bind_el hf fun q4 hg5 hf => ?_
        exact zm (N := B20) (W := 0) (as := []) (S' := []) d18_54 w214 w215 w216 rfl cw20 ar20 rk18_20_0 (by decide) rfl rfl (X_buildStep_pay hg5) <| ans0 <| zv (P' := [vr a, vn, vi (i2 + (1 : Int32))]) d18_57 ci_1 rfl (by decide) rfl <| zo (pc' := 32) d18_60 (by decide) <| hk32 q4 (i2 + (1 : Int32)) hf
      · exact zk (pc' := 63) d18_50 (feq hc3).2 (by decide) <| zp [true, false, false] rfl <| X_buildPlan_b63_p ob hf
    · exact zk (pc' := 63) d18_43 (flt hc2).2.2.2 (by decide) <| zp [true, false, false] rfl <| X_buildPlan_b63_p ob hf
  · exact zf (pc' := 63) d18_36 (flt hc1).2.1 (by decide) <| zp [true, false, false] rfl <| X_buildPlan_b63_p ob hf
theorem X_buildPlan_l32_p {C : Ctx} {top : Nat} {a : Nat} {H : List (Nat × Nat × Rec)} {res : Int32 × Rec} {NF : Nat} (n : Nat) (ob : Rec) (i2 : Int32) (hf : X_buildPlan_l32 NF n ob i2 = some res) : Runs C B18 0 0 32 [vr a, vn, vi i2] [] (top, (a, 45, ob) :: H) (Ans (some (.int res.1)) (top, (a, 45, res.2) :: H)) := by
  induction n generalizing ob i2 with
  | zero => cases (show (none : Option (Int32 × Rec)) = some res from hf)
  | succ n ih => exact X_buildPlan_w32_p (X_buildPlan_l32 NF n) (fun ob i2 h => ih _ _ h) ob i2 hf
def X_buildPlan (NF : Nat) (ob : Rec) (i1 : Int32) : Option (Int32 × Rec) :=
  (X_pushNode (sI (sI (sI (sI (sI ob 14 (0 : Int32)) 15 (0 : Int32)) 16 (0 : Int32)) 17 (0 : Int32)) 18 (0 : Int32)) i1).bind fun q10 =>
  X_buildPlan_l32 NF NF q10 (0 : Int32)
theorem X_buildPlan_p {C : Ctx} {top : Nat} {a : Nat} {H : List (Nat × Nat × Rec)} {res : Int32 × Rec} {NF : Nat} (ob : Rec) (i1 : Int32) (hf : X_buildPlan NF ob i1 = some res) : Runs C B18 0 0 0 [vr a, vi i1, vn] [] (top, (a, 45, ob) :: H) (Ans (some (.int res.1)) (top, (a, 45, res.2) :: H)) := by
  delta X_buildPlan at hf
  refine zb d18_0 rfl <| zc d18_1 ci_0 <| zB d18_2 w200 fS_14 (Or.inl w201) <| zb d18_5 rfl <| zc d18_6 ci_0 <| zB d18_7 w202 fS_15 (Or.inl w203) <| zb d18_10 rfl <| zc d18_11 ci_0 <| zB d18_12 w204 fS_16 (Or.inl w205) <| zb d18_15 rfl <| zc d18_16 ci_0 <| zB d18_17 w206 fS_17 (Or.inl w207) <| ?_
  refine zb d18_20 rfl <| zc d18_21 ci_0 <| Runs.putZ (y := (0 : Int32)) d18_22 w208 fS_18 (Or.inl w209) rfl <| zb d18_25 rfl <| za d18_26 rfl <| ?_
  refine bind_el hf fun q10 hg11 hf => ?_
  exact zm (N := B19) (W := 0) (as := [.int i1]) (S' := []) d18_27 w210 w211 w212 rfl cw19 ar19 rk18_19_0 (by decide) rfl rfl (X_pushNode_pay hg11) <| ans0 <| zc d18_30 ci_0 <| zr (P' := [vr a, vi i1, vi (0 : Int32)]) d18_31 (by decide) rfl <| zp [true, false, true] rfl <| X_buildPlan_l32_p NF q10 (0 : Int32) hf
theorem X_buildPlan_pay {C : Ctx} {top : Nat} {a : Nat} {H : List (Nat × Nat × Rec)} {res : Int32 × Rec} {NF : Nat} {ob : Rec} {i1 : Int32} (hf : X_buildPlan NF ob i1 = some res) : Pays C B18 [.ref a, .int i1] (top, (a, 45, ob) :: H) (Ans (some (.int res.1)) (top, (a, 45, res.2) :: H)) :=
  Pays.of pnK (Nat.le_of_ble_eq_true rfl) (P := [vr a, vi i1, vn]) 1 rfl (X_buildPlan_p ob i1 hf)
def X_cell (ob : Rec) (i1 : Int32) : Option (Int32) :=
  if i1 < (0 : Int32) then
    some (-2147483648 : Int32)
  else
    if i1 < (16 : Int32) then
      chk (16 : Int32) i1 <|
      some (gA ob 24 i1)
    else
      some (-2147483648 : Int32)
theorem X_cell_p {C : Ctx} {top : Nat} {a : Nat} {H : List (Nat × Nat × Rec)} {ob : Rec} {res : Int32} (i1 : Int32) (hf : X_cell ob i1 = some res) : Runs C B52 0 0 0 [vr a, vi i1] [] (top, (a, 45, ob) :: H) (Ans (some (.int res)) (top, (a, 45, ob) :: H)) := by
  delta X_cell at hf
  refine za d52_0 rfl <| ?_
  refine ite_el hf (fun hc1 hf => ?_) (fun hc1 hf => ?_)
  · refine zk (pc' := 10) d52_1 (tlt hc1).1 (by decide) <| ?_
    obtain rfl := Option.some.inj hf
    exact Runs.ldc d52_10 w346 <| zn d52_12 rfl ⟨by decide, by decide⟩ ⟨rfl, rfl⟩
  · refine zl d52_1 (flt hc1).1 <| ?_
    refine za d52_4 rfl <| zj d52_5 cb_16 <| ?_
    refine ite_el hf (fun hc2 hf => ?_) (fun hc2 hf => ?_)
    · refine zf (pc' := 13) d52_7 (tlt hc2).1 (by decide) <| ?_
      refine zb d52_13 rfl <| ze d52_14 fA_24 w73 (by decide) <| za d52_17 rfl <| ?_
      refine chk_el hf fun hi3 hf => ?_
      obtain rfl := Option.some.inj hf
      exact zh d52_18 fA_24 (by decide) hi3 <| zn d52_19 rfl ⟨by decide, by decide⟩ ⟨rfl, rfl⟩
    · refine zg d52_7 (flt hc2).1 <| ?_
      obtain rfl := Option.some.inj hf
      exact Runs.ldc d52_10 w346 <| zn d52_12 rfl ⟨by decide, by decide⟩ ⟨rfl, rfl⟩
theorem X_cell_pay {C : Ctx} {top : Nat} {a : Nat} {H : List (Nat × Nat × Rec)} {ob : Rec} {res : Int32} {i1 : Int32} (hf : X_cell ob i1 = some res) : Pays C B52 [.ref a, .int i1] (top, (a, 45, ob) :: H) (Ans (some (.int res)) (top, (a, 45, ob) :: H)) :=
  Pays.of pnK (Nat.le_of_ble_eq_true rfl) (P := [vr a, vi i1]) 0 rfl (X_cell_p i1 hf)
def X_compare (ob : Rec) (i1 : Int32) (i2 : Int32) (i3 : Int32) : Option (Int32) :=
  if i1 = (0 : Int32) then
    if i2 = i3 then
      some (1 : Int32)
    else
      some (0 : Int32)
  else
    if i1 = (1 : Int32) then
      if i2 = i3 then
        some (0 : Int32)
      else
        some (1 : Int32)
    else
      if i1 = (2 : Int32) then
        if i2 < i3 then
          some (1 : Int32)
        else
          some (0 : Int32)
      else
        if i1 = (3 : Int32) then
          if i3 < i2 then
            some (0 : Int32)
          else
            some (1 : Int32)
        else
          if i1 = (4 : Int32) then
            if i3 < i2 then
              some (1 : Int32)
            else
              some (0 : Int32)
          else
            if i2 < i3 then
              some (0 : Int32)
            else
              some (1 : Int32)
theorem X_compare_p {C : Ctx} {top : Nat} {a : Nat} {H : List (Nat × Nat × Rec)} {ob : Rec} {res : Int32} (i1 : Int32) (i2 : Int32) (i3 : Int32) (hf : X_compare ob i1 i2 i3 = some res) : Runs C B53 0 0 0 [vr a, vi i1, vi i2, vi i3] [] (top, (a, 45, ob) :: H) (Ans (some (.int res)) (top, (a, 45, ob) :: H)) := by
  delta X_compare at hf
  refine za d53_0 rfl <| ?_
  refine ite_el hf (fun hc1 hf => ?_) (fun hc1 hf => ?_)
  · refine zl d53_1 (teq hc1).2 <| ?_
    refine za d53_4 rfl <| za d53_5 rfl <| ?_
    refine ite_el hf (fun hc2 hf => ?_) (fun hc2 hf => ?_)
    · refine zg d53_6 (teq hc2).2 <| ?_
      obtain rfl := Option.some.inj hf
      exact zc d53_9 ci_1 <| zo (pc' := 14) d53_10 (by decide) <| zw (y := (1 : Int32)) d53_14 rfl ⟨by decide, by decide⟩ rfl ⟨rfl, rfl⟩
    · refine zf (pc' := 13) d53_6 (feq hc2).2 (by decide) <| ?_
      obtain rfl := Option.some.inj hf
      exact zc d53_13 ci_0 <| zw (y := (0 : Int32)) d53_14 rfl ⟨by decide, by decide⟩ rfl ⟨rfl, rfl⟩
  · refine zk (pc' := 15) d53_1 (feq hc1).2 (by decide) <| ?_
    refine za d53_15 rfl <| zc d53_16 ci_1 <| ?_
    refine ite_el hf (fun hc3 hf => ?_) (fun hc3 hf => ?_)
    · refine zg d53_17 (teq hc3).2 <| ?_
      refine za d53_20 rfl <| za d53_21 rfl <| ?_
      refine ite_el hf (fun hc4 hf => ?_) (fun hc4 hf => ?_)
      · refine zf (pc' := 29) d53_22 (teq hc4).1 (by decide) <| ?_
        obtain rfl := Option.some.inj hf
        exact zc d53_29 ci_0 <| zw (y := (0 : Int32)) d53_30 rfl ⟨by decide, by decide⟩ rfl ⟨rfl, rfl⟩
      · refine zg d53_22 (feq hc4).1 <| ?_
        obtain rfl := Option.some.inj hf
        exact zc d53_25 ci_1 <| zo (pc' := 30) d53_26 (by decide) <| zw (y := (1 : Int32)) d53_30 rfl ⟨by decide, by decide⟩ rfl ⟨rfl, rfl⟩
    · refine zf (pc' := 31) d53_17 (feq hc3).2 (by decide) <| ?_
      refine za d53_31 rfl <| zc d53_32 ci_2 <| ?_
      refine ite_el hf (fun hc5 hf => ?_) (fun hc5 hf => ?_)
      · refine zg d53_33 (teq hc5).2 <| ?_
        refine za d53_36 rfl <| za d53_37 rfl <| ?_
        refine ite_el hf (fun hc6 hf => ?_) (fun hc6 hf => ?_)
        · refine zg d53_38 (tlt hc6).2.1 <| ?_
          obtain rfl := Option.some.inj hf
          exact zc d53_41 ci_1 <| zo (pc' := 46) d53_42 (by decide) <| zw (y := (1 : Int32)) d53_46 rfl ⟨by decide, by decide⟩ rfl ⟨rfl, rfl⟩
        · refine zf (pc' := 45) d53_38 (flt hc6).2.1 (by decide) <| ?_
          obtain rfl := Option.some.inj hf
          exact zc d53_45 ci_0 <| zw (y := (0 : Int32)) d53_46 rfl ⟨by decide, by decide⟩ rfl ⟨rfl, rfl⟩
      · refine zf (pc' := 47) d53_33 (feq hc5).2 (by decide) <| ?_
        refine za d53_47 rfl <| zc d53_48 ci_3 <| ?_
        refine ite_el hf (fun hc7 hf => ?_) (fun hc7 hf => ?_)
        · refine zg d53_49 (teq hc7).2 <| ?_
          refine za d53_52 rfl <| za d53_53 rfl <| ?_
          refine ite_el hf (fun hc8 hf => ?_) (fun hc8 hf => ?_)
          · refine zf (pc' := 61) d53_54 (tlt hc8).2.2.1 (by decide) <| ?_
            obtain rfl := Option.some.inj hf
            exact zc d53_61 ci_0 <| zw (y := (0 : Int32)) d53_62 rfl ⟨by decide, by decide⟩ rfl ⟨rfl, rfl⟩
          · refine zg d53_54 (flt hc8).2.2.1 <| ?_
            obtain rfl := Option.some.inj hf
            exact zc d53_57 ci_1 <| zo (pc' := 62) d53_58 (by decide) <| zw (y := (1 : Int32)) d53_62 rfl ⟨by decide, by decide⟩ rfl ⟨rfl, rfl⟩
        · refine zf (pc' := 63) d53_49 (feq hc7).2 (by decide) <| ?_
          refine za d53_63 rfl <| zc d53_64 ci_4 <| ?_
          refine ite_el hf (fun hc9 hf => ?_) (fun hc9 hf => ?_)
          · refine zg d53_65 (teq hc9).2 <| ?_
            refine za d53_68 rfl <| za d53_69 rfl <| ?_
            refine ite_el hf (fun hc10 hf => ?_) (fun hc10 hf => ?_)
            · refine zg d53_70 (tlt hc10).2.2.2 <| ?_
              obtain rfl := Option.some.inj hf
              exact zc d53_73 ci_1 <| zo (pc' := 78) d53_74 (by decide) <| zw (y := (1 : Int32)) d53_78 rfl ⟨by decide, by decide⟩ rfl ⟨rfl, rfl⟩
            · refine zf (pc' := 77) d53_70 (flt hc10).2.2.2 (by decide) <| ?_
              obtain rfl := Option.some.inj hf
              exact zc d53_77 ci_0 <| zw (y := (0 : Int32)) d53_78 rfl ⟨by decide, by decide⟩ rfl ⟨rfl, rfl⟩
          · refine zf (pc' := 79) d53_65 (feq hc9).2 (by decide) <| ?_
            refine za d53_79 rfl <| za d53_80 rfl <| ?_
            refine ite_el hf (fun hc11 hf => ?_) (fun hc11 hf => ?_)
            · refine zf (pc' := 88) d53_81 (tlt hc11).1 (by decide) <| ?_
              obtain rfl := Option.some.inj hf
              exact zc d53_88 ci_0 <| zw (y := (0 : Int32)) d53_89 rfl ⟨by decide, by decide⟩ rfl ⟨rfl, rfl⟩
            · refine zg d53_81 (flt hc11).1 <| ?_
              obtain rfl := Option.some.inj hf
              exact zc d53_84 ci_1 <| zo (pc' := 89) d53_85 (by decide) <| zw (y := (1 : Int32)) d53_89 rfl ⟨by decide, by decide⟩ rfl ⟨rfl, rfl⟩
theorem X_compare_pay {C : Ctx} {top : Nat} {a : Nat} {H : List (Nat × Nat × Rec)} {ob : Rec} {res : Int32} {i1 : Int32} {i2 : Int32} {i3 : Int32} (hf : X_compare ob i1 i2 i3 = some res) : Pays C B53 [.ref a, .int i1, .int i2, .int i3] (top, (a, 45, ob) :: H) (Ans (some (.int res)) (top, (a, 45, ob) :: H)) :=
  Pays.of pnK (Nat.le_of_ble_eq_true rfl) (P := [vr a, vi i1, vi i2, vi i3]) 0 rfl (X_compare_p i1 i2 i3 hf)
def X_evalAtom_b72 (ob : Rec) (i1 : Int32) (i5 : Int32) (i6 : Int32) : Option (Int32) :=
  if i5 = (-2147483648 : Int32) then
    some (0 : Int32)
  else
    if i6 = (-2147483648 : Int32) then
      some (0 : Int32)
    else
      (X_compare ob i1 i5 i6).bind fun r10 =>
      some (r10 &&& 1)
theorem X_evalAtom_b72_p {C : Ctx} {top : Nat} {a : Nat} {H : List (Nat × Nat × Rec)} {ob : Rec} {res : Int32} (i1 : Int32) (i5 : Int32) (i6 : Int32) (hf : X_evalAtom_b72 ob i1 i5 i6 = some res) : Runs C B51 0 0 72 [vr a, vi i1, vn, vn, vn, vi i5, vi i6] [] (top, (a, 45, ob) :: H) (Ans (some (.int res)) (top, (a, 45, ob) :: H)) := by
  delta X_evalAtom_b72 at hf
  refine zd d51_72 rfl <| Runs.ldc d51_74 w346 <| ?_
  refine ite_el hf (fun hc8 hf => ?_) (fun hc8 hf => ?_)
  · refine zf (pc' := 86) d51_76 (teq hc8).1 (by decide) <| ?_
    obtain rfl := Option.some.inj hf
    exact zc d51_86 ci_0 <| zw (y := (0 : Int32)) d51_87 rfl ⟨by decide, by decide⟩ rfl ⟨rfl, rfl⟩
  · refine zg d51_76 (feq hc8).1 <| ?_
    refine zd d51_79 rfl <| Runs.ldc d51_81 w346 <| ?_
    refine ite_el hf (fun hc9 hf => ?_) (fun hc9 hf => ?_)
    · refine zg d51_83 (teq hc9).2 <| ?_
      obtain rfl := Option.some.inj hf
      exact zc d51_86 ci_0 <| zw (y := (0 : Int32)) d51_87 rfl ⟨by decide, by decide⟩ rfl ⟨rfl, rfl⟩
    · refine zf (pc' := 88) d51_83 (feq hc9).2 (by decide) <| ?_
      refine zb d51_88 rfl <| za d51_89 rfl <| zd d51_90 rfl <| zd d51_92 rfl <| ?_
      refine bind_el hf fun r10 hg11 hf => ?_
      obtain rfl := Option.some.inj hf
      exact zm (N := B53) (W := 0) (as := [.int i1, .int i5, .int i6]) (S' := []) d51_94 w347 w348 w349 rfl cw53 ar53 rk51_53_0 (by decide) rfl rfl (X_compare_pay hg11) <| ans1 <| zw (y := (r10 &&& 1)) d51_97 rfl ⟨by decide, by decide⟩ rfl ⟨rfl, rfl⟩
def X_evalAtom_b17 (ob : Rec) (i1 : Int32) (i3 : Int32) (i4 : Int32) (i5 : Int32) : Option (Int32) :=
  if i1 = (6 : Int32) then
    if i5 = (-2147483648 : Int32) then
      some (1 : Int32)
    else
      some (0 : Int32)
  else
    if i1 = (7 : Int32) then
      if i5 = (-2147483648 : Int32) then
        some (0 : Int32)
      else
        some (1 : Int32)
    else
      if (i4 &&& (2 : Int32)) = (0 : Int32) then
        X_evalAtom_b72 ob i1 i5 i3
      else
        (X_cell ob i3).bind fun r6 =>
        X_evalAtom_b72 ob i1 i5 r6
theorem X_evalAtom_b17_p {C : Ctx} {top : Nat} {a : Nat} {H : List (Nat × Nat × Rec)} {ob : Rec} {res : Int32} (i1 : Int32) (i3 : Int32) (i4 : Int32) (i5 : Int32) (hf : X_evalAtom_b17 ob i1 i3 i4 i5 = some res) : Runs C B51 0 0 17 [vr a, vi i1, vn, vi i3, vi i4, vi i5, vn] [] (top, (a, 45, ob) :: H) (Ans (some (.int res)) (top, (a, 45, ob) :: H)) := by
  delta X_evalAtom_b17 at hf
  refine za d51_17 rfl <| zj d51_18 cb_6 <| ?_
  refine ite_el hf (fun hc1 hf => ?_) (fun hc1 hf => ?_)
  · refine zg d51_20 (teq hc1).2 <| ?_
    refine zd d51_23 rfl <| Runs.ldc d51_25 w346 <| ?_
    refine ite_el hf (fun hc2 hf => ?_) (fun hc2 hf => ?_)
    · refine zg d51_27 (teq hc2).2 <| ?_
      obtain rfl := Option.some.inj hf
      exact zc d51_30 ci_1 <| zo (pc' := 35) d51_31 (by decide) <| zw (y := (1 : Int32)) d51_35 rfl ⟨by decide, by decide⟩ rfl ⟨rfl, rfl⟩
    · refine zf (pc' := 34) d51_27 (feq hc2).2 (by decide) <| ?_
      obtain rfl := Option.some.inj hf
      exact zc d51_34 ci_0 <| zw (y := (0 : Int32)) d51_35 rfl ⟨by decide, by decide⟩ rfl ⟨rfl, rfl⟩
  · refine zf (pc' := 36) d51_20 (feq hc1).2 (by decide) <| ?_
    refine za d51_36 rfl <| zj d51_37 cb_7 <| ?_
    refine ite_el hf (fun hc3 hf => ?_) (fun hc3 hf => ?_)
    · refine zg d51_39 (teq hc3).2 <| ?_
      refine zd d51_42 rfl <| Runs.ldc d51_44 w346 <| ?_
      refine ite_el hf (fun hc4 hf => ?_) (fun hc4 hf => ?_)
      · refine zf (pc' := 53) d51_46 (teq hc4).1 (by decide) <| ?_
        obtain rfl := Option.some.inj hf
        exact zc d51_53 ci_0 <| zw (y := (0 : Int32)) d51_54 rfl ⟨by decide, by decide⟩ rfl ⟨rfl, rfl⟩
      · refine zg d51_46 (feq hc4).1 <| ?_
        obtain rfl := Option.some.inj hf
        exact zc d51_49 ci_1 <| zo (pc' := 54) d51_50 (by decide) <| zw (y := (1 : Int32)) d51_54 rfl ⟨by decide, by decide⟩ rfl ⟨rfl, rfl⟩
    · refine zf (pc' := 55) d51_39 (feq hc3).2 (by decide) <| ?_
      refine za d51_55 rfl <| zi (P' := [vr a, vi i1, vn, vi i3, vi i4, vi i5, vi i3]) d51_56 (by decide) rfl <| zd d51_58 rfl <| zc d51_60 ci_2 <| zA d51_61 <| ?_
      refine ite_el hf (fun hc5 hf => ?_) (fun hc5 hf => ?_)
      · exact zk (pc' := 72) d51_62 (teq hc5).1 (by decide) <| zp [true, true, false, false, false, true, true] rfl <| X_evalAtom_b72_p i1 i5 i3 hf
      · refine zl d51_62 (feq hc5).1 <| ?_
        refine zb d51_65 rfl <| za d51_66 rfl <| ?_
        refine bind_el hf fun r6 hg7 hf => ?_
        exact zm (N := B52) (W := 0) (as := [.int i3]) (S' := []) d51_67 w342 w343 w344 rfl cw52 ar52 rk51_52_0 (by decide) rfl rfl (X_cell_pay hg7) <| ans1 <| zi (P' := [vr a, vi i1, vn, vi i3, vi i4, vi i5, vi r6]) d51_70 (by decide) rfl <| zp [true, true, false, false, false, true, true] rfl <| X_evalAtom_b72_p i1 i5 r6 hf
def X_evalAtom (ob : Rec) (i1 : Int32) (i2 : Int32) (i3 : Int32) (i4 : Int32) : Option (Int32) :=
  if (i4 &&& (1 : Int32)) = (0 : Int32) then
    X_evalAtom_b17 ob i1 i3 i4 i2
  else
    (X_cell ob i2).bind fun r13 =>
    X_evalAtom_b17 ob i1 i3 i4 r13
theorem X_evalAtom_p {C : Ctx} {top : Nat} {a : Nat} {H : List (Nat × Nat × Rec)} {ob : Rec} {res : Int32} (i1 : Int32) (i2 : Int32) (i3 : Int32) (i4 : Int32) (hf : X_evalAtom ob i1 i2 i3 i4 = some res) : Runs C B51 0 0 0 [vr a, vi i1, vi i2, vi i3, vi i4, vn, vn] [] (top, (a, 45, ob) :: H) (Ans (some (.int res)) (top, (a, 45, ob) :: H)) := by
  delta X_evalAtom at hf
  refine za d51_0 rfl <| zi (P' := [vr a, vi i1, vi i2, vi i3, vi i4, vi i2, vn]) d51_1 (by decide) rfl <| zd d51_3 rfl <| zc d51_5 ci_1 <| zA d51_6 <| ?_
  refine ite_el hf (fun hc12 hf => ?_) (fun hc12 hf => ?_)
  · exact zk (pc' := 17) d51_7 (teq hc12).1 (by decide) <| zp [true, true, false, true, true, true, false] rfl <| X_evalAtom_b17_p i1 i3 i4 i2 hf
  · refine zl d51_7 (feq hc12).1 <| ?_
    refine zb d51_10 rfl <| za d51_11 rfl <| ?_
    refine bind_el hf fun r13 hg14 hf => ?_
    exact zm (N := B52) (W := 0) (as := [.int i2]) (S' := []) d51_12 w342 w343 w344 rfl cw52 ar52 rk51_52_0 (by decide) rfl rfl (X_cell_pay hg14) <| ans1 <| zi (P' := [vr a, vi i1, vi i2, vi i3, vi i4, vi r13, vn]) d51_15 (by decide) rfl <| zp [true, true, false, true, true, true, false] rfl <| X_evalAtom_b17_p i1 i3 i4 r13 hf
theorem X_evalAtom_pay {C : Ctx} {top : Nat} {a : Nat} {H : List (Nat × Nat × Rec)} {ob : Rec} {res : Int32} {i1 : Int32} {i2 : Int32} {i3 : Int32} {i4 : Int32} (hf : X_evalAtom ob i1 i2 i3 i4 = some res) : Pays C B51 [.ref a, .int i1, .int i2, .int i3, .int i4] (top, (a, 45, ob) :: H) (Ans (some (.int res)) (top, (a, 45, ob) :: H)) :=
  Pays.of pnK (Nat.le_of_ble_eq_true rfl) (P := [vr a, vi i1, vi i2, vi i3, vi i4, vn, vn]) 2 rfl (X_evalAtom_p i1 i2 i3 i4 hf)
def X_constTruth (ob : Rec) (i1 : Int32) : Option (Int32) :=
  chk (512 : Int32) i1 <|
  if ((gA ob 39 i1) &&& (1 : Int32)) = (0 : Int32) then
    chk (512 : Int32) i1 <|
    if ((gA ob 39 i1) &&& (2 : Int32)) = (0 : Int32) then
      chk (512 : Int32) i1 <|
      chk (512 : Int32) i1 <|
      chk (512 : Int32) i1 <|
      chk (512 : Int32) i1 <|
      (X_evalAtom ob (gA ob 36 i1) (gA ob 37 i1) (gA ob 38 i1) (gA ob 39 i1)).bind fun r9 =>
      if r9 = (0 : Int32) then
        some (0 : Int32)
      else
        some (1 : Int32)
    else
      some (-1 : Int32)
  else
    some (-1 : Int32)
theorem X_constTruth_p {C : Ctx} {top : Nat} {a : Nat} {H : List (Nat × Nat × Rec)} {ob : Rec} {res : Int32} (i1 : Int32) (hf : X_constTruth ob i1 = some res) : Runs C B34 0 0 0 [vr a, vi i1] [] (top, (a, 45, ob) :: H) (Ans (some (.int res)) (top, (a, 45, ob) :: H)) := by
  delta X_constTruth at hf
  refine zb d34_0 rfl <| ze d34_1 fA_39 w103 (by decide) <| za d34_4 rfl <| ?_
  refine chk_el hf fun hi1 hf => ?_
  refine zh d34_5 fA_39 (by decide) hi1 <| zc d34_6 ci_1 <| zA d34_7 <| ?_
  refine ite_el hf (fun hc2 hf => ?_) (fun hc2 hf => ?_)
  · refine zl d34_8 (teq hc2).2 <| ?_
    refine zb d34_11 rfl <| ze d34_12 fA_39 w103 (by decide) <| za d34_15 rfl <| ?_
    refine chk_el hf fun hi3 hf => ?_
    refine zh d34_16 fA_39 (by decide) hi3 <| zc d34_17 ci_2 <| zA d34_18 <| ?_
    refine ite_el hf (fun hc4 hf => ?_) (fun hc4 hf => ?_)
    · refine zk (pc' := 24) d34_19 (teq hc4).1 (by decide) <| ?_
      refine zb d34_24 rfl <| zb d34_25 rfl <| ze d34_26 fA_36 w97 (by decide) <| za d34_29 rfl <| ?_
      refine chk_el hf fun hi5 hf => ?_
      refine zh d34_30 fA_36 (by decide) hi5 <| zb d34_31 rfl <| ze d34_32 fA_37 w99 (by decide) <| za d34_35 rfl <| ?_
      refine chk_el hf fun hi6 hf => ?_
      refine zh d34_36 fA_37 (by decide) hi6 <| zb d34_37 rfl <| ze d34_38 fA_38 w101 (by decide) <| za d34_41 rfl <| ?_
      refine chk_el hf fun hi7 hf => ?_
      refine zh d34_42 fA_38 (by decide) hi7 <| zb d34_43 rfl <| ze d34_44 fA_39 w103 (by decide) <| za d34_47 rfl <| ?_
      refine chk_el hf fun hi8 hf => ?_
      refine zh d34_48 fA_39 (by decide) hi8 <| ?_
      refine bind_el hf fun r9 hg10 hf => ?_
      refine zm (N := B51) (W := 0) (as := [.int (gA ob 36 i1), .int (gA ob 37 i1), .int (gA ob 38 i1), .int (gA ob 39 i1)]) (S' := []) d34_49 w338 w339 w340 rfl cw51 ar51 rk34_51_0 (by decide) rfl rfl (X_evalAtom_pay hg10) <| ans1 <| ?_
      refine ite_el hf (fun hc11 hf => ?_) (fun hc11 hf => ?_)
      · refine zk (pc' := 57) d34_52 (teq hc11).1 (by decide) <| ?_
        obtain rfl := Option.some.inj hf
        exact zc d34_57 ci_0 <| zn d34_58 rfl ⟨by decide, by decide⟩ ⟨rfl, rfl⟩
      · refine zl d34_52 (feq hc11).1 <| ?_
        obtain rfl := Option.some.inj hf
        exact zc d34_55 ci_1 <| zn d34_56 rfl ⟨by decide, by decide⟩ ⟨rfl, rfl⟩
    · refine zl d34_19 (feq hc4).1 <| ?_
      obtain rfl := Option.some.inj hf
      exact zc d34_22 ci_m1 <| zn d34_23 rfl ⟨by decide, by decide⟩ ⟨rfl, rfl⟩
  · refine zk (pc' := 22) d34_8 (feq hc2).2 (by decide) <| ?_
    obtain rfl := Option.some.inj hf
    exact zc d34_22 ci_m1 <| zn d34_23 rfl ⟨by decide, by decide⟩ ⟨rfl, rfl⟩
theorem X_constTruth_pay {C : Ctx} {top : Nat} {a : Nat} {H : List (Nat × Nat × Rec)} {ob : Rec} {res : Int32} {i1 : Int32} (hf : X_constTruth ob i1 = some res) : Pays C B34 [.ref a, .int i1] (top, (a, 45, ob) :: H) (Ans (some (.int res)) (top, (a, 45, ob) :: H)) :=
  Pays.of pnK (Nat.le_of_ble_eq_true rfl) (P := [vr a, vi i1]) 0 rfl (X_constTruth_p i1 hf)
def X_foldList_b65 (NF : Nat) (k17 : Rec → Int32 → Int32 → Int32 → Int32 → Option (Rec)) (ob : Rec) (i1 : Int32) (i2 : Int32) (i3 : Int32) (i4 : Int32) (i5 : Int32) : Option (Rec) :=
  (X_prepend ob i1 i3).bind fun q10 =>
  k17 q10 i1 i2 i5 (i4 + (1 : Int32))
theorem X_foldList_b65_p {C : Ctx} {top : Nat} {a : Nat} {H : List (Nat × Nat × Rec)} {res : Rec} {NF : Nat} (k17 : Rec → Int32 → Int32 → Int32 → Int32 → Option (Rec)) (hk17 : ∀ (ob : Rec) (i1 : Int32) (i2 : Int32) (i3 : Int32) (i4 : Int32), k17 ob i1 i2 i3 i4 = some res → Runs C B33 0 0 17 [vr a, vi i1, vi i2, vi i3, vi i4, vn, vn] [] (top, (a, 45, ob) :: H) (Ans none (top, (a, 45, res) :: H))) (ob : Rec) (i1 : Int32) (i2 : Int32) (i3 : Int32) (i4 : Int32) (i5 : Int32) (hf : X_foldList_b65 NF k17 ob i1 i2 i3 i4 i5 = some res) : Runs C B33 0 0 65 [vr a, vi i1, vi i2, vi i3, vi i4, vi i5, vn] [] (top, (a, 45, ob) :: H) (Ans none (top, (a, 45, res) :: H)) := by
  delta X_foldList_b65 at hf
  refine zb d33_65 rfl <| za d33_66 rfl <| za d33_67 rfl <| ?_
  refine bind_el hf fun q10 hg11 hf => ?_
  exact zm (N := B27) (W := 0) (as := [.int i1, .int i3]) (S' := []) d33_68 w242 w243 w244 rfl cw27 ar27 rk33_27_0 (by decide) rfl rfl (X_prepend_pay hg11) <| ans0 <| zo (pc' := 88) d33_71 (by decide) <| zd d33_88 rfl <| zr (P' := [vr a, vi i1, vi i2, vi i5, vi i4, vi i5, vn]) d33_90 (by decide) rfl <| zv (P' := [vr a, vi i1, vi i2, vi i5, vi (i4 + (1 : Int32)), vi i5, vn]) d33_91 ci_1 rfl (by decide) rfl <| zo (pc' := 17) d33_94 (by decide) <| zp [true, true, true, true, true, false, false] rfl <| hk17 q10 i1 i2 i5 (i4 + (1 : Int32)) hf
def X_foldList_b74 (NF : Nat) (k17 : Rec → Int32 → Int32 → Int32 → Int32 → Option (Rec)) (ob : Rec) (i1 : Int32) (i2 : Int32) (i4 : Int32) (i5 : Int32) (i6 : Int32) : Option (Rec) :=
  if i6 = (0 : Int32) then
    chk (16 : Int32) (i1 >>> ((1 : Int32) &&& 31)) <|
    k17 (sA ob 34 (i1 >>> ((1 : Int32) &&& 31)) (1 : Int32)) i1 i2 i5 (i4 + (1 : Int32))
  else
    k17 ob i1 i2 i5 (i4 + (1 : Int32))
theorem X_foldList_b74_p {C : Ctx} {top : Nat} {a : Nat} {H : List (Nat × Nat × Rec)} {res : Rec} {NF : Nat} (k17 : Rec → Int32 → Int32 → Int32 → Int32 → Option (Rec)) (hk17 : ∀ (ob : Rec) (i1 : Int32) (i2 : Int32) (i3 : Int32) (i4 : Int32), k17 ob i1 i2 i3 i4 = some res → Runs C B33 0 0 17 [vr a, vi i1, vi i2, vi i3, vi i4, vn, vn] [] (top, (a, 45, ob) :: H) (Ans none (top, (a, 45, res) :: H))) (ob : Rec) (i1 : Int32) (i2 : Int32) (i4 : Int32) (i5 : Int32) (i6 : Int32) (hf : X_foldList_b74 NF k17 ob i1 i2 i4 i5 i6 = some res) : Runs C B33 0 0 74 [vr a, vi i1, vi i2, vn, vi i4, vi i5, vi i6] [] (top, (a, 45, ob) :: H) (Ans none (top, (a, 45, res) :: H)) := by
  delta X_foldList_b74 at hf
  refine zd d33_74 rfl <| ?_
  refine ite_el hf (fun hc12 hf => ?_) (fun hc12 hf => ?_)
  · refine zl d33_76 (teq hc12).2 <| ?_
    refine zb d33_79 rfl <| ze d33_80 fA_34 w93 (by decide) <| za d33_83 rfl <| zc d33_84 ci_1 <| Runs.ishr d33_85 <| zc d33_86 ci_1 <| ?_
    refine chk_el hf fun hi13 hf => ?_
    exact Runs.bastoreA (y := (1 : Int32)) d33_87 fA_34 (by decide) hi13 rfl <| zd d33_88 rfl <| zr (P' := [vr a, vi i1, vi i2, vi i5, vi i4, vi i5, vi i6]) d33_90 (by decide) rfl <| zv (P' := [vr a, vi i1, vi i2, vi i5, vi (i4 + (1 : Int32)), vi i5, vi i6]) d33_91 ci_1 rfl (by decide) rfl <| zo (pc' := 17) d33_94 (by decide) <| zp [true, true, true, true, true, false, false] rfl <| hk17 (sA ob 34 (i1 >>> ((1 : Int32) &&& 31)) (1 : Int32)) i1 i2 i5 (i4 + (1 : Int32)) hf
  · refine zk (pc' := 88) d33_76 (feq hc12).2 (by decide) <| ?_
    exact zd d33_88 rfl <| zr (P' := [vr a, vi i1, vi i2, vi i5, vi i4, vi i5, vi i6]) d33_90 (by decide) rfl <| zv (P' := [vr a, vi i1, vi i2, vi i5, vi (i4 + (1 : Int32)), vi i5, vi i6]) d33_91 ci_1 rfl (by decide) rfl <| zo (pc' := 17) d33_94 (by decide) <| zp [true, true, true, true, true, false, false] rfl <| hk17 ob i1 i2 i5 (i4 + (1 : Int32)) hf
def X_foldList_w17 (NF : Nat) (k17 : Rec → Int32 → Int32 → Int32 → Int32 → Option (Rec)) (ob : Rec) (i1 : Int32) (i2 : Int32) (i3 : Int32) (i4 : Int32) : Option (Rec) :=
  if i4 < (512 : Int32) then
    if i3 < (0 : Int32) then
      some ob
    else
      if i3 < (512 : Int32) then
        chk (512 : Int32) i3 <|
        (X_constTruth ob i3).bind fun r5 =>
        if r5 < (0 : Int32) then
          X_foldList_b65 NF k17 ob i1 i2 i3 i4 (gA ob 40 i3)
        else
          if r5 = (0 : Int32) then
            if i2 = (0 : Int32) then
              X_foldList_b74 NF k17 ob i1 i2 i4 (gA ob 40 i3) r5
            else
              X_foldList_b65 NF k17 ob i1 i2 i3 i4 (gA ob 40 i3)
          else
            X_foldList_b74 NF k17 ob i1 i2 i4 (gA ob 40 i3) r5
      else
        some ob
  else
    some ob
def X_foldList_l17 (NF : Nat) : Nat → Rec → Int32 → Int32 → Int32 → Int32 → Option (Rec)
  | 0, _, _, _, _, _ => none
  | n + 1, ob, i1, i2, i3, i4 => X_foldList_w17 NF (X_foldList_l17 NF n) ob i1 i2 i3 i4
theorem X_foldList_w17_p {C : Ctx} {top : Nat} {a : Nat} {H : List (Nat × Nat × Rec)} {res : Rec} {NF : Nat} (k17 : Rec → Int32 → Int32 → Int32 → Int32 → Option (Rec)) (hk17 : ∀ (ob : Rec) (i1 : Int32) (i2 : Int32) (i3 : Int32) (i4 : Int32), k17 ob i1 i2 i3 i4 = some res → Runs C B33 0 0 17 [vr a, vi i1, vi i2, vi i3, vi i4, vn, vn] [] (top, (a, 45, ob) :: H) (Ans none (top, (a, 45, res) :: H))) (ob : Rec) (i1 : Int32) (i2 : Int32) (i3 : Int32) (i4 : Int32) (hf : X_foldList_w17 NF k17 ob i1 i2 i3 i4 = some res) : Runs C B33 0 0 17 [vr a, vi i1, vi i2, vi i3, vi i4, vn, vn] [] (top, (a, 45, ob) :: H) (Ans none (top, (a, 45, res) :: H)) := by
  delta X_foldList_w17 at hf
  refine zd d33_17 rfl <| zC d33_19 cs_512 <| ?_
  refine ite_el hf (fun hc1 hf => ?_) (fun hc1 hf => ?_)
  · refine zg d33_22 (tlt hc1).2.1 <| ?_
    refine za d33_25 rfl <| ?_
    refine ite_el hf (fun hc2 hf => ?_) (fun hc2 hf => ?_)
    · refine zk (pc' := 97) d33_26 (tlt hc2).1 (by decide) <| ?_
      obtain rfl := Option.some.inj hf
      exact zt d33_97 rfl ⟨by decide, by decide⟩ ⟨rfl, rfl⟩
    · refine zl d33_26 (flt hc2).1 <| ?_
      refine za d33_29 rfl <| zC d33_30 cs_512 <| ?_
      refine ite_el hf (fun hc3 hf => ?_) (fun hc3 hf => ?_)
      · refine zg d33_33 (tlt hc3).2.1 <| ?_
        refine zb d33_36 rfl <| ze d33_37 fA_40 w105 (by decide) <| za d33_40 rfl <| ?_
        refine chk_el hf fun hi4 hf => ?_
        refine zh d33_41 fA_40 (by decide) hi4 <| zi (P' := [vr a, vi i1, vi i2, vi i3, vi i4, vi (gA ob 40 i3), vn]) d33_42 (by decide) rfl <| zb d33_44 rfl <| za d33_45 rfl <| ?_
        refine bind_el hf fun r5 hg6 hf => ?_
        refine zm (N := B34) (W := 0) (as := [.int i3]) (S' := []) d33_46 w270 w271 w272 rfl cw34 ar34 rk33_34_0 (by decide) rfl rfl (X_constTruth_pay hg6) <| ans1 <| zi (P' := [vr a, vi i1, vi i2, vi i3, vi i4, vi (gA ob 40 i3), vi r5]) d33_49 (by decide) rfl <| zd d33_51 rfl <| ?_
        refine ite_el hf (fun hc7 hf => ?_) (fun hc7 hf => ?_)
        · exact zk (pc' := 65) d33_53 (tlt hc7).1 (by decide) <| zp [true, true, true, true, true, true, false] rfl <| X_foldList_b65_p k17 hk17 ob i1 i2 i3 i4 (gA ob 40 i3) hf
        · refine zl d33_53 (flt hc7).1 <| ?_
          refine zd d33_56 rfl <| ?_
          refine ite_el hf (fun hc8 hf => ?_) (fun hc8 hf => ?_)
          · refine zl d33_58 (teq hc8).2 <| ?_
            refine za d33_61 rfl <| ?_
            refine ite_el hf (fun hc9 hf => ?_) (fun hc9 hf => ?_)
            · exact zk (pc' := 74) d33_62 (teq hc9).1 (by decide) <| zp [true, true, true, false, true, true, true] rfl <| X_foldList_b74_p k17 hk17 ob i1 i2 i4 (gA ob 40 i3) r5 hf
            · exact zl d33_62 (feq hc9).1 <| zp [true, true, true, true, true, true, false] rfl <| X_foldList_b65_p k17 hk17 ob i1 i2 i3 i4 (gA ob 40 i3) hf
          · exact zk (pc' := 74) d33_58 (feq hc8).2 (by decide) <| zp [true, true, true, false, true, true, true] rfl <| X_foldList_b74_p k17 hk17 ob i1 i2 i4 (gA ob 40 i3) r5 hf
      · refine zf (pc' := 97) d33_33 (flt hc3).2.1 (by decide) <| ?_
        obtain rfl := Option.some.inj hf
        exact zt d33_97 rfl ⟨by decide, by decide⟩ ⟨rfl, rfl⟩
  · refine zf (pc' := 97) d33_22 (flt hc1).2.1 (by decide) <| ?_
    obtain rfl := Option.some.inj hf
    exact zt d33_97 rfl ⟨by decide, by decide⟩ ⟨rfl, rfl⟩
theorem X_foldList_l17_p {C : Ctx} {top : Nat} {a : Nat} {H : List (Nat × Nat × Rec)} {res : Rec} {NF : Nat} (n : Nat) (ob : Rec) (i1 : Int32) (i2 : Int32) (i3 : Int32) (i4 : Int32) (hf : X_foldList_l17 NF n ob i1 i2 i3 i4 = some res) : Runs C B33 0 0 17 [vr a, vi i1, vi i2, vi i3, vi i4, vn, vn] [] (top, (a, 45, ob) :: H) (Ans none (top, (a, 45, res) :: H)) := by
  induction n generalizing ob i1 i2 i3 i4 with
  | zero => cases (show (none : Option (Rec)) = some res from hf)
  | succ n ih => exact X_foldList_w17_p (X_foldList_l17 NF n) (fun ob i1 i2 i3 i4 h => ih _ _ _ _ _ h) ob i1 i2 i3 i4 hf
def X_foldList (NF : Nat) (ob : Rec) (i1 : Int32) (i2 : Int32) : Option (Rec) :=
  chk (32 : Int32) i1 <|
  chk (32 : Int32) i1 <|
  X_foldList_l17 NF NF (sA ob 35 i1 (-1 : Int32)) i1 i2 (gA ob 35 i1) (0 : Int32)
theorem X_foldList_p {C : Ctx} {top : Nat} {a : Nat} {H : List (Nat × Nat × Rec)} {res : Rec} {NF : Nat} (ob : Rec) (i1 : Int32) (i2 : Int32) (hf : X_foldList NF ob i1 i2 = some res) : Runs C B33 0 0 0 [vr a, vi i1, vi i2, vn, vn, vn, vn] [] (top, (a, 45, ob) :: H) (Ans none (top, (a, 45, res) :: H)) := by
  delta X_foldList at hf
  refine zb d33_0 rfl <| ze d33_1 fA_35 w95 (by decide) <| za d33_4 rfl <| ?_
  refine chk_el hf fun hi14 hf => ?_
  refine zh d33_5 fA_35 (by decide) hi14 <| zr (P' := [vr a, vi i1, vi i2, vi (gA ob 35 i1), vn, vn, vn]) d33_6 (by decide) rfl <| zb d33_7 rfl <| ze d33_8 fA_35 w95 (by decide) <| za d33_11 rfl <| zc d33_12 ci_m1 <| ?_
  refine chk_el hf fun hi15 hf => ?_
  exact zq d33_13 fA_35 (by decide) hi15 <| zc d33_14 ci_0 <| zi (P' := [vr a, vi i1, vi i2, vi (gA ob 35 i1), vi (0 : Int32), vn, vn]) d33_15 (by decide) rfl <| X_foldList_l17_p NF (sA ob 35 i1 (-1 : Int32)) i1 i2 (gA ob 35 i1) (0 : Int32) hf
theorem X_foldList_pay {C : Ctx} {top : Nat} {a : Nat} {H : List (Nat × Nat × Rec)} {res : Rec} {NF : Nat} {ob : Rec} {i1 : Int32} {i2 : Int32} (hf : X_foldList NF ob i1 i2 = some res) : Pays C B33 [.ref a, .int i1, .int i2] (top, (a, 45, ob) :: H) (Ans none (top, (a, 45, res) :: H)) :=
  Pays.of pnK (Nat.le_of_ble_eq_true rfl) (P := [vr a, vi i1, vi i2, vn, vn, vn, vn]) 4 rfl (X_foldList_p ob i1 i2 hf)
def X_sideOf_b31 (ob : Rec) (i1 : Int32) (i2 : Int32) (i3 : Int32) : Option (Int32) :=
  chk (512 : Int32) i1 <|
  if ((gA ob 39 i1) &&& (2 : Int32)) = (0 : Int32) then
    some i3
  else
    chk (512 : Int32) i1 <|
    if (gA ob 38 i1) < i2 then
      some (i3 ||| (1 : Int32))
    else
      some (i3 ||| (2 : Int32))
theorem X_sideOf_b31_p {C : Ctx} {top : Nat} {a : Nat} {H : List (Nat × Nat × Rec)} {ob : Rec} {res : Int32} (i1 : Int32) (i2 : Int32) (i3 : Int32) (hf : X_sideOf_b31 ob i1 i2 i3 = some res) : Runs C B36 0 0 31 [vr a, vi i1, vi i2, vi i3] [] (top, (a, 45, ob) :: H) (Ans (some (.int res)) (top, (a, 45, ob) :: H)) := by
  delta X_sideOf_b31 at hf
  refine zb d36_31 rfl <| ze d36_32 fA_39 w103 (by decide) <| za d36_35 rfl <| ?_
  refine chk_el hf fun hi1 hf => ?_
  refine zh d36_36 fA_39 (by decide) hi1 <| zc d36_37 ci_2 <| zA d36_38 <| ?_
  refine ite_el hf (fun hc2 hf => ?_) (fun hc2 hf => ?_)
  · refine zk (pc' := 60) d36_39 (teq hc2).1 (by decide) <| ?_
    obtain rfl := Option.some.inj hf
    exact za d36_60 rfl <| zn d36_61 rfl ⟨by decide, by decide⟩ ⟨rfl, rfl⟩
  · refine zl d36_39 (feq hc2).1 <| ?_
    refine za d36_42 rfl <| zb d36_43 rfl <| ze d36_44 fA_38 w101 (by decide) <| za d36_47 rfl <| ?_
    refine chk_el hf fun hi3 hf => ?_
    refine zh d36_48 fA_38 (by decide) hi3 <| za d36_49 rfl <| ?_
    refine ite_el hf (fun hc4 hf => ?_) (fun hc4 hf => ?_)
    · refine zg d36_50 (tlt hc4).2.1 <| ?_
      obtain rfl := Option.some.inj hf
      exact zc d36_53 ci_1 <| zo (pc' := 58) d36_54 (by decide) <| Runs.ior d36_58 <| zr (P' := [vr a, vi i1, vi i2, vi (i3 ||| (1 : Int32))]) d36_59 (by decide) rfl <| za d36_60 rfl <| zn d36_61 rfl ⟨by decide, by decide⟩ ⟨rfl, rfl⟩
    · refine zf (pc' := 57) d36_50 (flt hc4).2.1 (by decide) <| ?_
      obtain rfl := Option.some.inj hf
      exact zc d36_57 ci_2 <| Runs.ior d36_58 <| zr (P' := [vr a, vi i1, vi i2, vi (i3 ||| (2 : Int32))]) d36_59 (by decide) rfl <| za d36_60 rfl <| zn d36_61 rfl ⟨by decide, by decide⟩ ⟨rfl, rfl⟩
def X_sideOf (ob : Rec) (i1 : Int32) (i2 : Int32) : Option (Int32) :=
  chk (512 : Int32) i1 <|
  if ((gA ob 39 i1) &&& (1 : Int32)) = (0 : Int32) then
    X_sideOf_b31 ob i1 i2 (0 : Int32)
  else
    chk (512 : Int32) i1 <|
    if (gA ob 37 i1) < i2 then
      X_sideOf_b31 ob i1 i2 ((0 : Int32) ||| (1 : Int32))
    else
      X_sideOf_b31 ob i1 i2 ((0 : Int32) ||| (2 : Int32))
theorem X_sideOf_p {C : Ctx} {top : Nat} {a : Nat} {H : List (Nat × Nat × Rec)} {ob : Rec} {res : Int32} (i1 : Int32) (i2 : Int32) (hf : X_sideOf ob i1 i2 = some res) : Runs C B36 0 0 0 [vr a, vi i1, vi i2, vn] [] (top, (a, 45, ob) :: H) (Ans (some (.int res)) (top, (a, 45, ob) :: H)) := by
  delta X_sideOf at hf
  refine zc d36_0 ci_0 <| zr (P' := [vr a, vi i1, vi i2, vi (0 : Int32)]) d36_1 (by decide) rfl <| zb d36_2 rfl <| ze d36_3 fA_39 w103 (by decide) <| za d36_6 rfl <| ?_
  refine chk_el hf fun hi5 hf => ?_
  refine zh d36_7 fA_39 (by decide) hi5 <| zc d36_8 ci_1 <| zA d36_9 <| ?_
  refine ite_el hf (fun hc6 hf => ?_) (fun hc6 hf => ?_)
  · exact zk (pc' := 31) d36_10 (teq hc6).1 (by decide) <| X_sideOf_b31_p i1 i2 (0 : Int32) hf
  · refine zl d36_10 (feq hc6).1 <| ?_
    refine za d36_13 rfl <| zb d36_14 rfl <| ze d36_15 fA_37 w99 (by decide) <| za d36_18 rfl <| ?_
    refine chk_el hf fun hi7 hf => ?_
    refine zh d36_19 fA_37 (by decide) hi7 <| za d36_20 rfl <| ?_
    refine ite_el hf (fun hc8 hf => ?_) (fun hc8 hf => ?_)
    · refine zg d36_21 (tlt hc8).2.1 <| ?_
      exact zc d36_24 ci_1 <| zo (pc' := 29) d36_25 (by decide) <| Runs.ior d36_29 <| zr (P' := [vr a, vi i1, vi i2, vi ((0 : Int32) ||| (1 : Int32))]) d36_30 (by decide) rfl <| X_sideOf_b31_p i1 i2 ((0 : Int32) ||| (1 : Int32)) hf
    · refine zf (pc' := 28) d36_21 (flt hc8).2.1 (by decide) <| ?_
      exact zc d36_28 ci_2 <| Runs.ior d36_29 <| zr (P' := [vr a, vi i1, vi i2, vi ((0 : Int32) ||| (2 : Int32))]) d36_30 (by decide) rfl <| X_sideOf_b31_p i1 i2 ((0 : Int32) ||| (2 : Int32)) hf
theorem X_sideOf_pay {C : Ctx} {top : Nat} {a : Nat} {H : List (Nat × Nat × Rec)} {ob : Rec} {res : Int32} {i1 : Int32} {i2 : Int32} (hf : X_sideOf ob i1 i2 = some res) : Pays C B36 [.ref a, .int i1, .int i2] (top, (a, 45, ob) :: H) (Ans (some (.int res)) (top, (a, 45, ob) :: H)) :=
  Pays.of pnK (Nat.le_of_ble_eq_true rfl) (P := [vr a, vi i1, vi i2, vn]) 1 rfl (X_sideOf_p i1 i2 hf)
def X_listRejectsRight_w10 (NF : Nat) (ob : Rec) (k10 : Int32 → Int32 → Int32 → Option (Int32)) (i2 : Int32) (i3 : Int32) (i4 : Int32) : Option (Int32) :=
  if i4 < (512 : Int32) then
    if i3 < (0 : Int32) then
      some (0 : Int32)
    else
      if i3 < (512 : Int32) then
        (X_sideOf ob i3 i2).bind fun r4 =>
        if (r4 &&& (2 : Int32)) = (0 : Int32) then
          chk (512 : Int32) i3 <|
          k10 i2 (gA ob 40 i3) (i4 + (1 : Int32))
        else
          chk (512 : Int32) i3 <|
          if (gA ob 36 i3) = (6 : Int32) then
            chk (512 : Int32) i3 <|
            k10 i2 (gA ob 40 i3) (i4 + (1 : Int32))
          else
            some (1 : Int32)
      else
        some (0 : Int32)
  else
    some (0 : Int32)
def X_listRejectsRight_l10 (NF : Nat) (ob : Rec) : Nat → Int32 → Int32 → Int32 → Option (Int32)
  | 0, _, _, _ => none
  | n + 1, i2, i3, i4 => X_listRejectsRight_w10 NF ob (X_listRejectsRight_l10 NF ob n) i2 i3 i4
theorem X_listRejectsRight_w10_p {C : Ctx} {top : Nat} {a : Nat} {H : List (Nat × Nat × Rec)} {ob : Rec} {res : Int32} {NF : Nat} (k10 : Int32 → Int32 → Int32 → Option (Int32)) (hk10 : ∀ (i2 : Int32) (i3 : Int32) (i4 : Int32), k10 i2 i3 i4 = some res → Runs C B35 0 0 10 [vr a, vn, vi i2, vi i3, vi i4, vn] [] (top, (a, 45, ob) :: H) (Ans (some (.int res)) (top, (a, 45, ob) :: H))) (i2 : Int32) (i3 : Int32) (i4 : Int32) (hf : X_listRejectsRight_w10 NF ob k10 i2 i3 i4 = some res) : Runs C B35 0 0 10 [vr a, vn, vi i2, vi i3, vi i4, vn] [] (top, (a, 45, ob) :: H) (Ans (some (.int res)) (top, (a, 45, ob) :: H)) := by
  delta X_listRejectsRight_w10 at hf
  refine zd d35_10 rfl <| zC d35_12 cs_512 <| ?_
  refine ite_el hf (fun hc1 hf => ?_) (fun hc1 hf => ?_)
  · refine zg d35_15 (tlt hc1).2.1 <| ?_
    refine za d35_18 rfl <| ?_
    refine ite_el hf (fun hc2 hf => ?_) (fun hc2 hf => ?_)
    · refine zk (pc' := 70) d35_19 (tlt hc2).1 (by decide) <| ?_
      obtain rfl := Option.some.inj hf
      exact zc d35_70 ci_0 <| zw (y := (0 : Int32)) d35_71 rfl ⟨by decide, by decide⟩ rfl ⟨rfl, rfl⟩
    · refine zl d35_19 (flt hc2).1 <| ?_
      refine za d35_22 rfl <| zC d35_23 cs_512 <| ?_
      refine ite_el hf (fun hc3 hf => ?_) (fun hc3 hf => ?_)
      · refine zg d35_26 (tlt hc3).2.1 <| ?_
        refine zb d35_29 rfl <| za d35_30 rfl <| za d35_31 rfl <| ?_
        refine bind_el hf fun r4 hg5 hf => ?_
        refine zm (N := B36) (W := 0) (as := [.int i3, .int i2]) (S' := []) d35_32 w278 w279 w280 rfl cw36 ar36 rk35_36_0 (by decide) rfl rfl (X_sideOf_pay hg5) <| ans1 <| zi (P' := [vr a, vn, vi i2, vi i3, vi i4, vi r4]) d35_35 (by decide) rfl <| zd d35_37 rfl <| zc d35_39 ci_2 <| zA d35_40 <| ?_
        refine ite_el hf (fun hc6 hf => ?_) (fun hc6 hf => ?_)
        · refine zk (pc' := 57) d35_41 (teq hc6).1 (by decide) <| ?_
          refine zb d35_57 rfl <| ze d35_58 fA_40 w105 (by decide) <| za d35_61 rfl <| ?_
          refine chk_el hf fun hi7 hf => ?_
          exact zh d35_62 fA_40 (by decide) hi7 <| zr (P' := [vr a, vn, vi i2, vi (gA ob 40 i3), vi i4, vi r4]) d35_63 (by decide) rfl <| zv (P' := [vr a, vn, vi i2, vi (gA ob 40 i3), vi (i4 + (1 : Int32)), vi r4]) d35_64 ci_1 rfl (by decide) rfl <| zo (pc' := 10) d35_67 (by decide) <| zp [true, false, true, true, true, false] rfl <| hk10 i2 (gA ob 40 i3) (i4 + (1 : Int32)) hf
        · refine zl d35_41 (feq hc6).1 <| ?_
          refine zb d35_44 rfl <| ze d35_45 fA_36 w97 (by decide) <| za d35_48 rfl <| ?_
          refine chk_el hf fun hi8 hf => ?_
          refine zh d35_49 fA_36 (by decide) hi8 <| zj d35_50 cb_6 <| ?_
          refine ite_el hf (fun hc9 hf => ?_) (fun hc9 hf => ?_)
          · refine zf (pc' := 57) d35_52 (teq hc9).1 (by decide) <| ?_
            refine zb d35_57 rfl <| ze d35_58 fA_40 w105 (by decide) <| za d35_61 rfl <| ?_
            refine chk_el hf fun hi10 hf => ?_
            exact zh d35_62 fA_40 (by decide) hi10 <| zr (P' := [vr a, vn, vi i2, vi (gA ob 40 i3), vi i4, vi r4]) d35_63 (by decide) rfl <| zv (P' := [vr a, vn, vi i2, vi (gA ob 40 i3), vi (i4 + (1 : Int32)), vi r4]) d35_64 ci_1 rfl (by decide) rfl <| zo (pc' := 10) d35_67 (by decide) <| zp [true, false, true, true, true, false] rfl <| hk10 i2 (gA ob 40 i3) (i4 + (1 : Int32)) hf
          · refine zg d35_52 (feq hc9).1 <| ?_
            obtain rfl := Option.some.inj hf
            exact zc d35_55 ci_1 <| zw (y := (1 : Int32)) d35_56 rfl ⟨by decide, by decide⟩ rfl ⟨rfl, rfl⟩
      · refine zf (pc' := 70) d35_26 (flt hc3).2.1 (by decide) <| ?_
        obtain rfl := Option.some.inj hf
        exact zc d35_70 ci_0 <| zw (y := (0 : Int32)) d35_71 rfl ⟨by decide, by decide⟩ rfl ⟨rfl, rfl⟩
  · refine zf (pc' := 70) d35_15 (flt hc1).2.1 (by decide) <| ?_
    obtain rfl := Option.some.inj hf
    exact zc d35_70 ci_0 <| zw (y := (0 : Int32)) d35_71 rfl ⟨by decide, by decide⟩ rfl ⟨rfl, rfl⟩
theorem X_listRejectsRight_l10_p {C : Ctx} {top : Nat} {a : Nat} {H : List (Nat × Nat × Rec)} {ob : Rec} {res : Int32} {NF : Nat} (n : Nat) (i2 : Int32) (i3 : Int32) (i4 : Int32) (hf : X_listRejectsRight_l10 NF ob n i2 i3 i4 = some res) : Runs C B35 0 0 10 [vr a, vn, vi i2, vi i3, vi i4, vn] [] (top, (a, 45, ob) :: H) (Ans (some (.int res)) (top, (a, 45, ob) :: H)) := by
  induction n generalizing i2 i3 i4 with
  | zero => cases (show (none : Option (Int32)) = some res from hf)
  | succ n ih => exact X_listRejectsRight_w10_p (X_listRejectsRight_l10 NF ob n) (fun i2 i3 i4 h => ih _ _ _ h) i2 i3 i4 hf
def X_listRejectsRight (NF : Nat) (ob : Rec) (i1 : Int32) (i2 : Int32) : Option (Int32) :=
  chk (32 : Int32) i1 <|
  X_listRejectsRight_l10 NF ob NF i2 (gA ob 35 i1) (0 : Int32)
theorem X_listRejectsRight_p {C : Ctx} {top : Nat} {a : Nat} {H : List (Nat × Nat × Rec)} {ob : Rec} {res : Int32} {NF : Nat} (i1 : Int32) (i2 : Int32) (hf : X_listRejectsRight NF ob i1 i2 = some res) : Runs C B35 0 0 0 [vr a, vi i1, vi i2, vn, vn, vn] [] (top, (a, 45, ob) :: H) (Ans (some (.int res)) (top, (a, 45, ob) :: H)) := by
  delta X_listRejectsRight at hf
  refine zb d35_0 rfl <| ze d35_1 fA_35 w95 (by decide) <| za d35_4 rfl <| ?_
  refine chk_el hf fun hi11 hf => ?_
  exact zh d35_5 fA_35 (by decide) hi11 <| zr (P' := [vr a, vi i1, vi i2, vi (gA ob 35 i1), vn, vn]) d35_6 (by decide) rfl <| zc d35_7 ci_0 <| zi (P' := [vr a, vi i1, vi i2, vi (gA ob 35 i1), vi (0 : Int32), vn]) d35_8 (by decide) rfl <| zp [true, false, true, true, true, false] rfl <| X_listRejectsRight_l10_p NF i2 (gA ob 35 i1) (0 : Int32) hf
theorem X_listRejectsRight_pay {C : Ctx} {top : Nat} {a : Nat} {H : List (Nat × Nat × Rec)} {ob : Rec} {res : Int32} {NF : Nat} {i1 : Int32} {i2 : Int32} (hf : X_listRejectsRight NF ob i1 i2 = some res) : Pays C B35 [.ref a, .int i1, .int i2] (top, (a, 45, ob) :: H) (Ans (some (.int res)) (top, (a, 45, ob) :: H)) :=
  Pays.of pnK (Nat.le_of_ble_eq_true rfl) (P := [vr a, vi i1, vi i2, vn, vn, vn]) 3 rfl (X_listRejectsRight_p i1 i2 hf)
def X_distribute_b102 (NF : Nat) (k47 : Rec → Int32 → Int32 → Int32 → Int32 → Int32 → Int32 → Int32 → Int32 → Option (Rec)) (ob : Rec) (i2 : Int32) (i3 : Int32) (i4 : Int32) (i5 : Int32) (i6 : Int32) (i7 : Int32) (i8 : Int32) (i9 : Int32) (i10 : Int32) : Option (Rec) :=
  (X_substitute ob i8 i6 (0 : Int32)).bind fun q14 =>
  (X_prepend q14 ((2 : Int32) * i6) i8).bind fun q16 =>
  k47 q16 i2 i3 i4 i5 i6 i7 i10 (i9 + (1 : Int32))
theorem X_distribute_b102_p {C : Ctx} {top : Nat} {a : Nat} {H : List (Nat × Nat × Rec)} {res : Rec} {NF : Nat} (k47 : Rec → Int32 → Int32 → Int32 → Int32 → Int32 → Int32 → Int32 → Int32 → Option (Rec)) (hk47 : ∀ (ob : Rec) (i2 : Int32) (i3 : Int32) (i4 : Int32) (i5 : Int32) (i6 : Int32) (i7 : Int32) (i8 : Int32) (i9 : Int32), k47 ob i2 i3 i4 i5 i6 i7 i8 i9 = some res → Runs C B37 0 0 47 [vr a, vn, vi i2, vi i3, vi i4, vi i5, vi i6, vi i7, vi i8, vi i9, vn, vn] [] (top, (a, 45, ob) :: H) (Ans none (top, (a, 45, res) :: H))) (ob : Rec) (i2 : Int32) (i3 : Int32) (i4 : Int32) (i5 : Int32) (i6 : Int32) (i7 : Int32) (i8 : Int32) (i9 : Int32) (i10 : Int32) (hf : X_distribute_b102 NF k47 ob i2 i3 i4 i5 i6 i7 i8 i9 i10 = some res) : Runs C B37 0 0 102 [vr a, vn, vi i2, vi i3, vi i4, vi i5, vi i6, vi i7, vi i8, vi i9, vi i10, vn] [] (top, (a, 45, ob) :: H) (Ans none (top, (a, 45, res) :: H)) := by
  delta X_distribute_b102 at hf
  refine zb d37_102 rfl <| zd d37_103 rfl <| zd d37_105 rfl <| zc d37_107 ci_0 <| ?_
  refine bind_el hf fun q14 hg15 hf => ?_
  refine zm (N := B29) (W := 0) (as := [.int i8, .int i6, .int (0 : Int32)]) (S' := []) d37_108 w250 w251 w252 rfl cw29 ar29 rk37_29_0 (by decide) rfl rfl (X_substitute_pay hg15) <| ans0 <| zb d37_111 rfl <| zc d37_112 ci_2 <| zd d37_113 rfl <| zy d37_115 <| zd d37_116 rfl <| ?_
  refine bind_el hf fun q16 hg17 hf => ?_
  exact zm (N := B27) (W := 0) (as := [.int ((2 : Int32) * i6), .int i8]) (S' := []) d37_118 w242 w243 w244 rfl cw27 ar27 rk37_27_0 (by decide) rfl rfl (X_prepend_pay hg17) <| ans0 <| zo (pc' := 169) d37_121 (by decide) <| zd d37_169 rfl <| zi (P' := [vr a, vn, vi i2, vi i3, vi i4, vi i5, vi i6, vi i7, vi i10, vi i9, vi i10, vn]) d37_171 (by decide) rfl <| zv (P' := [vr a, vn, vi i2, vi i3, vi i4, vi i5, vi i6, vi i7, vi i10, vi (i9 + (1 : Int32)), vi i10, vn]) d37_173 ci_1 rfl (by decide) rfl <| zo (pc' := 47) d37_176 (by decide) <| zp [true, false, true, true, true, true, true, true, true, true, false, false] rfl <| hk47 q16 i2 i3 i4 i5 i6 i7 i10 (i9 + (1 : Int32)) hf
def X_distribute_b140 (NF : Nat) (k47 : Rec → Int32 → Int32 → Int32 → Int32 → Int32 → Int32 → Int32 → Int32 → Option (Rec)) (ob : Rec) (i2 : Int32) (i3 : Int32) (i4 : Int32) (i5 : Int32) (i6 : Int32) (i7 : Int32) (i8 : Int32) (i9 : Int32) (i10 : Int32) : Option (Rec) :=
  (X_substitute ob i8 i7 i3).bind fun q21 =>
  (X_prepend q21 ((2 : Int32) * i7) i8).bind fun q23 =>
  k47 q23 i2 i3 i4 i5 i6 i7 i10 (i9 + (1 : Int32))
theorem X_distribute_b140_p {C : Ctx} {top : Nat} {a : Nat} {H : List (Nat × Nat × Rec)} {res : Rec} {NF : Nat} (k47 : Rec → Int32 → Int32 → Int32 → Int32 → Int32 → Int32 → Int32 → Int32 → Option (Rec)) (hk47 : ∀ (ob : Rec) (i2 : Int32) (i3 : Int32) (i4 : Int32) (i5 : Int32) (i6 : Int32) (i7 : Int32) (i8 : Int32) (i9 : Int32), k47 ob i2 i3 i4 i5 i6 i7 i8 i9 = some res → Runs C B37 0 0 47 [vr a, vn, vi i2, vi i3, vi i4, vi i5, vi i6, vi i7, vi i8, vi i9, vn, vn] [] (top, (a, 45, ob) :: H) (Ans none (top, (a, 45, res) :: H))) (ob : Rec) (i2 : Int32) (i3 : Int32) (i4 : Int32) (i5 : Int32) (i6 : Int32) (i7 : Int32) (i8 : Int32) (i9 : Int32) (i10 : Int32) (hf : X_distribute_b140 NF k47 ob i2 i3 i4 i5 i6 i7 i8 i9 i10 = some res) : Runs C B37 0 0 140 [vr a, vn, vi i2, vi i3, vi i4, vi i5, vi i6, vi i7, vi i8, vi i9, vi i10, vn] [] (top, (a, 45, ob) :: H) (Ans none (top, (a, 45, res) :: H)) := by
  delta X_distribute_b140 at hf
  refine zb d37_140 rfl <| zd d37_141 rfl <| zd d37_143 rfl <| za d37_145 rfl <| ?_
  refine bind_el hf fun q21 hg22 hf => ?_
  refine zm (N := B29) (W := 0) (as := [.int i8, .int i7, .int i3]) (S' := []) d37_146 w250 w251 w252 rfl cw29 ar29 rk37_29_0 (by decide) rfl rfl (X_substitute_pay hg22) <| ans0 <| zb d37_149 rfl <| zc d37_150 ci_2 <| zd d37_151 rfl <| zy d37_153 <| zd d37_154 rfl <| ?_
  refine bind_el hf fun q23 hg24 hf => ?_
  exact zm (N := B27) (W := 0) (as := [.int ((2 : Int32) * i7), .int i8]) (S' := []) d37_156 w242 w243 w244 rfl cw27 ar27 rk37_27_0 (by decide) rfl rfl (X_prepend_pay hg24) <| ans0 <| zo (pc' := 169) d37_159 (by decide) <| zd d37_169 rfl <| zi (P' := [vr a, vn, vi i2, vi i3, vi i4, vi i5, vi i6, vi i7, vi i10, vi i9, vi i10, vn]) d37_171 (by decide) rfl <| zv (P' := [vr a, vn, vi i2, vi i3, vi i4, vi i5, vi i6, vi i7, vi i10, vi (i9 + (1 : Int32)), vi i10, vn]) d37_173 ci_1 rfl (by decide) rfl <| zo (pc' := 47) d37_176 (by decide) <| zp [true, false, true, true, true, true, true, true, true, true, false, false] rfl <| hk47 q23 i2 i3 i4 i5 i6 i7 i10 (i9 + (1 : Int32)) hf
def X_distribute_b162 (NF : Nat) (k47 : Rec → Int32 → Int32 → Int32 → Int32 → Int32 → Int32 → Int32 → Int32 → Option (Rec)) (ob : Rec) (i2 : Int32) (i3 : Int32) (i4 : Int32) (i5 : Int32) (i6 : Int32) (i7 : Int32) (i8 : Int32) (i9 : Int32) (i10 : Int32) : Option (Rec) :=
  (X_prepend ob i2 i8).bind fun q25 =>
  k47 q25 i2 i3 i4 i5 i6 i7 i10 (i9 + (1 : Int32))
theorem X_distribute_b162_p {C : Ctx} {top : Nat} {a : Nat} {H : List (Nat × Nat × Rec)} {res : Rec} {NF : Nat} (k47 : Rec → Int32 → Int32 → Int32 → Int32 → Int32 → Int32 → Int32 → Int32 → Option (Rec)) (hk47 : ∀ (ob : Rec) (i2 : Int32) (i3 : Int32) (i4 : Int32) (i5 : Int32) (i6 : Int32) (i7 : Int32) (i8 : Int32) (i9 : Int32), k47 ob i2 i3 i4 i5 i6 i7 i8 i9 = some res → Runs C B37 0 0 47 [vr a, vn, vi i2, vi i3, vi i4, vi i5, vi i6, vi i7, vi i8, vi i9, vn, vn] [] (top, (a, 45, ob) :: H) (Ans none (top, (a, 45, res) :: H))) (ob : Rec) (i2 : Int32) (i3 : Int32) (i4 : Int32) (i5 : Int32) (i6 : Int32) (i7 : Int32) (i8 : Int32) (i9 : Int32) (i10 : Int32) (hf : X_distribute_b162 NF k47 ob i2 i3 i4 i5 i6 i7 i8 i9 i10 = some res) : Runs C B37 0 0 162 [vr a, vn, vi i2, vi i3, vi i4, vi i5, vi i6, vi i7, vi i8, vi i9, vi i10, vn] [] (top, (a, 45, ob) :: H) (Ans none (top, (a, 45, res) :: H)) := by
  delta X_distribute_b162 at hf
  refine zb d37_162 rfl <| za d37_163 rfl <| zd d37_164 rfl <| ?_
  refine bind_el hf fun q25 hg26 hf => ?_
  exact zm (N := B27) (W := 0) (as := [.int i2, .int i8]) (S' := []) d37_166 w242 w243 w244 rfl cw27 ar27 rk37_27_0 (by decide) rfl rfl (X_prepend_pay hg26) <| ans0 <| zd d37_169 rfl <| zi (P' := [vr a, vn, vi i2, vi i3, vi i4, vi i5, vi i6, vi i7, vi i10, vi i9, vi i10, vn]) d37_171 (by decide) rfl <| zv (P' := [vr a, vn, vi i2, vi i3, vi i4, vi i5, vi i6, vi i7, vi i10, vi (i9 + (1 : Int32)), vi i10, vn]) d37_173 ci_1 rfl (by decide) rfl <| zo (pc' := 47) d37_176 (by decide) <| zp [true, false, true, true, true, true, true, true, true, true, false, false] rfl <| hk47 q25 i2 i3 i4 i5 i6 i7 i10 (i9 + (1 : Int32)) hf
def X_distribute_b124 (NF : Nat) (k47 : Rec → Int32 → Int32 → Int32 → Int32 → Int32 → Int32 → Int32 → Int32 → Option (Rec)) (ob : Rec) (i2 : Int32) (i3 : Int32) (i4 : Int32) (i5 : Int32) (i6 : Int32) (i7 : Int32) (i8 : Int32) (i9 : Int32) (i10 : Int32) (i11 : Int32) : Option (Rec) :=
  if i11 = (2 : Int32) then
    if i4 = (0 : Int32) then
      if i5 = (0 : Int32) then
        X_distribute_b140 NF k47 ob i2 i3 i4 i5 i6 i7 i8 i9 i10
      else
        X_distribute_b162 NF k47 ob i2 i3 i4 i5 i6 i7 i8 i9 i10
    else
      X_distribute_b140 NF k47 ob i2 i3 i4 i5 i6 i7 i8 i9 i10
  else
    X_distribute_b162 NF k47 ob i2 i3 i4 i5 i6 i7 i8 i9 i10
theorem X_distribute_b124_p {C : Ctx} {top : Nat} {a : Nat} {H : List (Nat × Nat × Rec)} {res : Rec} {NF : Nat} (k47 : Rec → Int32 → Int32 → Int32 → Int32 → Int32 → Int32 → Int32 → Int32 → Option (Rec)) (hk47 : ∀ (ob : Rec) (i2 : Int32) (i3 : Int32) (i4 : Int32) (i5 : Int32) (i6 : Int32) (i7 : Int32) (i8 : Int32) (i9 : Int32), k47 ob i2 i3 i4 i5 i6 i7 i8 i9 = some res → Runs C B37 0 0 47 [vr a, vn, vi i2, vi i3, vi i4, vi i5, vi i6, vi i7, vi i8, vi i9, vn, vn] [] (top, (a, 45, ob) :: H) (Ans none (top, (a, 45, res) :: H))) (ob : Rec) (i2 : Int32) (i3 : Int32) (i4 : Int32) (i5 : Int32) (i6 : Int32) (i7 : Int32) (i8 : Int32) (i9 : Int32) (i10 : Int32) (i11 : Int32) (hf : X_distribute_b124 NF k47 ob i2 i3 i4 i5 i6 i7 i8 i9 i10 i11 = some res) : Runs C B37 0 0 124 [vr a, vn, vi i2, vi i3, vi i4, vi i5, vi i6, vi i7, vi i8, vi i9, vi i10, vi i11] [] (top, (a, 45, ob) :: H) (Ans none (top, (a, 45, res) :: H)) := by
  delta X_distribute_b124 at hf
  refine zd d37_124 rfl <| zc d37_126 ci_2 <| ?_
  refine ite_el hf (fun hc18 hf => ?_) (fun hc18 hf => ?_)
  · refine zg d37_127 (teq hc18).2 <| ?_
    refine zd d37_130 rfl <| ?_
    refine ite_el hf (fun hc19 hf => ?_) (fun hc19 hf => ?_)
    · refine zl d37_132 (teq hc19).2 <| ?_
      refine zd d37_135 rfl <| ?_
      refine ite_el hf (fun hc20 hf => ?_) (fun hc20 hf => ?_)
      · exact zl d37_137 (teq hc20).2 <| zp [true, false, true, true, true, true, true, true, true, true, true, false] rfl <| X_distribute_b140_p k47 hk47 ob i2 i3 i4 i5 i6 i7 i8 i9 i10 hf
      · exact zk (pc' := 162) d37_137 (feq hc20).2 (by decide) <| zp [true, false, true, true, true, true, true, true, true, true, true, false] rfl <| X_distribute_b162_p k47 hk47 ob i2 i3 i4 i5 i6 i7 i8 i9 i10 hf
    · exact zk (pc' := 140) d37_132 (feq hc19).2 (by decide) <| zp [true, false, true, true, true, true, true, true, true, true, true, false] rfl <| X_distribute_b140_p k47 hk47 ob i2 i3 i4 i5 i6 i7 i8 i9 i10 hf
  · exact zf (pc' := 162) d37_127 (feq hc18).2 (by decide) <| zp [true, false, true, true, true, true, true, true, true, true, true, false] rfl <| X_distribute_b162_p k47 hk47 ob i2 i3 i4 i5 i6 i7 i8 i9 i10 hf
def X_distribute_w47 (NF : Nat) (k47 : Rec → Int32 → Int32 → Int32 → Int32 → Int32 → Int32 → Int32 → Int32 → Option (Rec)) (ob : Rec) (i2 : Int32) (i3 : Int32) (i4 : Int32) (i5 : Int32) (i6 : Int32) (i7 : Int32) (i8 : Int32) (i9 : Int32) : Option (Rec) :=
  if i9 < (512 : Int32) then
    if i8 < (0 : Int32) then
      some ob
    else
      if i8 < (512 : Int32) then
        chk (512 : Int32) i8 <|
        (X_sideOf ob i8 i3).bind fun r9 =>
        if r9 = (1 : Int32) then
          if i4 = (0 : Int32) then
            if i5 = (0 : Int32) then
              X_distribute_b124 NF k47 ob i2 i3 i4 i5 i6 i7 i8 i9 (gA ob 40 i8) r9
            else
              X_distribute_b102 NF k47 ob i2 i3 i4 i5 i6 i7 i8 i9 (gA ob 40 i8)
          else
            X_distribute_b102 NF k47 ob i2 i3 i4 i5 i6 i7 i8 i9 (gA ob 40 i8)
        else
          X_distribute_b124 NF k47 ob i2 i3 i4 i5 i6 i7 i8 i9 (gA ob 40 i8) r9
      else
        some ob
  else
    some ob
def X_distribute_l47 (NF : Nat) : Nat → Rec → Int32 → Int32 → Int32 → Int32 → Int32 → Int32 → Int32 → Int32 → Option (Rec)
  | 0, _, _, _, _, _, _, _, _, _ => none
  | n + 1, ob, i2, i3, i4, i5, i6, i7, i8, i9 => X_distribute_w47 NF (X_distribute_l47 NF n) ob i2 i3 i4 i5 i6 i7 i8 i9
theorem X_distribute_w47_p {C : Ctx} {top : Nat} {a : Nat} {H : List (Nat × Nat × Rec)} {res : Rec} {NF : Nat} (k47 : Rec → Int32 → Int32 → Int32 → Int32 → Int32 → Int32 → Int32 → Int32 → Option (Rec)) (hk47 : ∀ (ob : Rec) (i2 : Int32) (i3 : Int32) (i4 : Int32) (i5 : Int32) (i6 : Int32) (i7 : Int32) (i8 : Int32) (i9 : Int32), k47 ob i2 i3 i4 i5 i6 i7 i8 i9 = some res → Runs C B37 0 0 47 [vr a, vn, vi i2, vi i3, vi i4, vi i5, vi i6, vi i7, vi i8, vi i9, vn, vn] [] (top, (a, 45, ob) :: H) (Ans none (top, (a, 45, res) :: H))) (ob : Rec) (i2 : Int32) (i3 : Int32) (i4 : Int32) (i5 : Int32) (i6 : Int32) (i7 : Int32) (i8 : Int32) (i9 : Int32) (hf : X_distribute_w47 NF k47 ob i2 i3 i4 i5 i6 i7 i8 i9 = some res) : Runs C B37 0 0 47 [vr a, vn, vi i2, vi i3, vi i4, vi i5, vi i6, vi i7, vi i8, vi i9, vn, vn] [] (top, (a, 45, ob) :: H) (Ans none (top, (a, 45, res) :: H)) := by
  delta X_distribute_w47 at hf
  refine zd d37_47 rfl <| zC d37_49 cs_512 <| ?_
  refine ite_el hf (fun hc5 hf => ?_) (fun hc5 hf => ?_)
  · refine zg d37_52 (tlt hc5).2.1 <| ?_
    refine zd d37_55 rfl <| ?_
    refine ite_el hf (fun hc6 hf => ?_) (fun hc6 hf => ?_)
    · refine zk (pc' := 179) d37_57 (tlt hc6).1 (by decide) <| ?_
      obtain rfl := Option.some.inj hf
      exact zt d37_179 rfl ⟨by decide, by decide⟩ ⟨rfl, rfl⟩
    · refine zl d37_57 (flt hc6).1 <| ?_
      refine zd d37_60 rfl <| zC d37_62 cs_512 <| ?_
      refine ite_el hf (fun hc7 hf => ?_) (fun hc7 hf => ?_)
      · refine zg d37_65 (tlt hc7).2.1 <| ?_
        refine zb d37_68 rfl <| ze d37_69 fA_40 w105 (by decide) <| zd d37_72 rfl <| ?_
        refine chk_el hf fun hi8 hf => ?_
        refine zh d37_74 fA_40 (by decide) hi8 <| zi (P' := [vr a, vn, vi i2, vi i3, vi i4, vi i5, vi i6, vi i7, vi i8, vi i9, vi (gA ob 40 i8), vn]) d37_75 (by decide) rfl <| zb d37_77 rfl <| zd d37_78 rfl <| za d37_80 rfl <| ?_
        refine bind_el hf fun r9 hg10 hf => ?_
        refine zm (N := B36) (W := 0) (as := [.int i8, .int i3]) (S' := []) d37_81 w278 w279 w280 rfl cw36 ar36 rk37_36_0 (by decide) rfl rfl (X_sideOf_pay hg10) <| ans1 <| zi (P' := [vr a, vn, vi i2, vi i3, vi i4, vi i5, vi i6, vi i7, vi i8, vi i9, vi (gA ob 40 i8), vi r9]) d37_84 (by decide) rfl <| zd d37_86 rfl <| zc d37_88 ci_1 <| ?_
        refine ite_el hf (fun hc11 hf => ?_) (fun hc11 hf => ?_)
        · refine zg d37_89 (teq hc11).2 <| ?_
          refine zd d37_92 rfl <| ?_
          refine ite_el hf (fun hc12 hf => ?_) (fun hc12 hf => ?_)
          · refine zl d37_94 (teq hc12).2 <| ?_
            refine zd d37_97 rfl <| ?_
            refine ite_el hf (fun hc13 hf => ?_) (fun hc13 hf => ?_)
            · exact zk (pc' := 124) d37_99 (teq hc13).1 (by decide) <| X_distribute_b124_p k47 hk47 ob i2 i3 i4 i5 i6 i7 i8 i9 (gA ob 40 i8) r9 hf
            · exact zl d37_99 (feq hc13).1 <| zp [true, false, true, true, true, true, true, true, true, true, true, false] rfl <| X_distribute_b102_p k47 hk47 ob i2 i3 i4 i5 i6 i7 i8 i9 (gA ob 40 i8) hf
          · exact zk (pc' := 102) d37_94 (feq hc12).2 (by decide) <| zp [true, false, true, true, true, true, true, true, true, true, true, false] rfl <| X_distribute_b102_p k47 hk47 ob i2 i3 i4 i5 i6 i7 i8 i9 (gA ob 40 i8) hf
        · exact zf (pc' := 124) d37_89 (feq hc11).2 (by decide) <| X_distribute_b124_p k47 hk47 ob i2 i3 i4 i5 i6 i7 i8 i9 (gA ob 40 i8) r9 hf
      · refine zf (pc' := 179) d37_65 (flt hc7).2.1 (by decide) <| ?_
        obtain rfl := Option.some.inj hf
        exact zt d37_179 rfl ⟨by decide, by decide⟩ ⟨rfl, rfl⟩
  · refine zf (pc' := 179) d37_52 (flt hc5).2.1 (by decide) <| ?_
    obtain rfl := Option.some.inj hf
    exact zt d37_179 rfl ⟨by decide, by decide⟩ ⟨rfl, rfl⟩
theorem X_distribute_l47_p {C : Ctx} {top : Nat} {a : Nat} {H : List (Nat × Nat × Rec)} {res : Rec} {NF : Nat} (n : Nat) (ob : Rec) (i2 : Int32) (i3 : Int32) (i4 : Int32) (i5 : Int32) (i6 : Int32) (i7 : Int32) (i8 : Int32) (i9 : Int32) (hf : X_distribute_l47 NF n ob i2 i3 i4 i5 i6 i7 i8 i9 = some res) : Runs C B37 0 0 47 [vr a, vn, vi i2, vi i3, vi i4, vi i5, vi i6, vi i7, vi i8, vi i9, vn, vn] [] (top, (a, 45, ob) :: H) (Ans none (top, (a, 45, res) :: H)) := by
  induction n generalizing ob i2 i3 i4 i5 i6 i7 i8 i9 with
  | zero => cases (show (none : Option (Rec)) = some res from hf)
  | succ n ih => exact X_distribute_w47_p (X_distribute_l47 NF n) (fun ob i2 i3 i4 i5 i6 i7 i8 i9 h => ih _ _ _ _ _ _ _ _ _ h) ob i2 i3 i4 i5 i6 i7 i8 i9 hf
def X_distribute_b11 (NF : Nat) (ob : Rec) (i1 : Int32) (i2 : Int32) (i3 : Int32) (i4 : Int32) (t0 : Int32) : Option (Rec) :=
  chk (16 : Int32) i1 <|
  chk (16 : Int32) i1 <|
  chk (32 : Int32) i2 <|
  chk (32 : Int32) i2 <|
  X_distribute_l47 NF NF (sA ob 35 i2 (-1 : Int32)) i2 i3 i4 t0 (gA ob 28 i1) (gA ob 29 i1) (gA ob 35 i2) (0 : Int32)
theorem X_distribute_b11_p {C : Ctx} {top : Nat} {a : Nat} {H : List (Nat × Nat × Rec)} {res : Rec} {NF : Nat} (ob : Rec) (i1 : Int32) (i2 : Int32) (i3 : Int32) (i4 : Int32) (t0 : Int32) (hf : X_distribute_b11 NF ob i1 i2 i3 i4 t0 = some res) : Runs C B37 0 0 11 [vr a, vi i1, vi i2, vi i3, vi i4, vn, vn, vn, vn, vn, vn, vn] [.int t0] (top, (a, 45, ob) :: H) (Ans none (top, (a, 45, res) :: H)) := by
  delta X_distribute_b11 at hf
  refine zi (P' := [vr a, vi i1, vi i2, vi i3, vi i4, vi t0, vn, vn, vn, vn, vn, vn]) d37_11 (by decide) rfl <| zb d37_13 rfl <| ze d37_14 fA_28 w81 (by decide) <| za d37_17 rfl <| ?_
  refine chk_el hf fun hi1 hf => ?_
  refine zh d37_18 fA_28 (by decide) hi1 <| zi (P' := [vr a, vi i1, vi i2, vi i3, vi i4, vi t0, vi (gA ob 28 i1), vn, vn, vn, vn, vn]) d37_19 (by decide) rfl <| zb d37_21 rfl <| ze d37_22 fA_29 w83 (by decide) <| za d37_25 rfl <| ?_
  refine chk_el hf fun hi2 hf => ?_
  refine zh d37_26 fA_29 (by decide) hi2 <| zi (P' := [vr a, vi i1, vi i2, vi i3, vi i4, vi t0, vi (gA ob 28 i1), vi (gA ob 29 i1), vn, vn, vn, vn]) d37_27 (by decide) rfl <| zb d37_29 rfl <| ze d37_30 fA_35 w95 (by decide) <| za d37_33 rfl <| ?_
  refine chk_el hf fun hi3 hf => ?_
  refine zh d37_34 fA_35 (by decide) hi3 <| zi (P' := [vr a, vi i1, vi i2, vi i3, vi i4, vi t0, vi (gA ob 28 i1), vi (gA ob 29 i1), vi (gA ob 35 i2), vn, vn, vn]) d37_35 (by decide) rfl <| zb d37_37 rfl <| ze d37_38 fA_35 w95 (by decide) <| za d37_41 rfl <| zc d37_42 ci_m1 <| ?_
  refine chk_el hf fun hi4 hf => ?_
  exact zq d37_43 fA_35 (by decide) hi4 <| zc d37_44 ci_0 <| zi (P' := [vr a, vi i1, vi i2, vi i3, vi i4, vi t0, vi (gA ob 28 i1), vi (gA ob 29 i1), vi (gA ob 35 i2), vi (0 : Int32), vn, vn]) d37_45 (by decide) rfl <| zp [true, false, true, true, true, true, true, true, true, true, false, false] rfl <| X_distribute_l47_p NF (sA ob 35 i2 (-1 : Int32)) i2 i3 i4 t0 (gA ob 28 i1) (gA ob 29 i1) (gA ob 35 i2) (0 : Int32) hf
def X_distribute (NF : Nat) (ob : Rec) (i1 : Int32) (i2 : Int32) (i3 : Int32) (i4 : Int32) : Option (Rec) :=
  if (i2 &&& (1 : Int32)) = (0 : Int32) then
    X_distribute_b11 NF ob i1 i2 i3 i4 (1 : Int32)
  else
    X_distribute_b11 NF ob i1 i2 i3 i4 (0 : Int32)
theorem X_distribute_p {C : Ctx} {top : Nat} {a : Nat} {H : List (Nat × Nat × Rec)} {res : Rec} {NF : Nat} (ob : Rec) (i1 : Int32) (i2 : Int32) (i3 : Int32) (i4 : Int32) (hf : X_distribute NF ob i1 i2 i3 i4 = some res) : Runs C B37 0 0 0 [vr a, vi i1, vi i2, vi i3, vi i4, vn, vn, vn, vn, vn, vn, vn] [] (top, (a, 45, ob) :: H) (Ans none (top, (a, 45, res) :: H)) := by
  delta X_distribute at hf
  refine za d37_0 rfl <| zc d37_1 ci_1 <| zA d37_2 <| ?_
  refine ite_el hf (fun hc27 hf => ?_) (fun hc27 hf => ?_)
  · refine zl d37_3 (teq hc27).2 <| ?_
    exact zc d37_6 ci_1 <| zo (pc' := 11) d37_7 (by decide) <| X_distribute_b11_p ob i1 i2 i3 i4 (1 : Int32) hf
  · refine zk (pc' := 10) d37_3 (feq hc27).2 (by decide) <| ?_
    exact zc d37_10 ci_0 <| X_distribute_b11_p ob i1 i2 i3 i4 (0 : Int32) hf
theorem X_distribute_pay {C : Ctx} {top : Nat} {a : Nat} {H : List (Nat × Nat × Rec)} {res : Rec} {NF : Nat} {ob : Rec} {i1 : Int32} {i2 : Int32} {i3 : Int32} {i4 : Int32} (hf : X_distribute NF ob i1 i2 i3 i4 = some res) : Pays C B37 [.ref a, .int i1, .int i2, .int i3, .int i4] (top, (a, 45, ob) :: H) (Ans none (top, (a, 45, res) :: H)) :=
  Pays.of pnK (Nat.le_of_ble_eq_true rfl) (P := [vr a, vi i1, vi i2, vi i3, vi i4, vn, vn, vn, vn, vn, vn, vn]) 7 rfl (X_distribute_p ob i1 i2 i3 i4 hf)
def X_pushJoin_b83 (NF : Nat) (ob : Rec) (i1 : Int32) (i2 : Int32) (i3 : Int32) (i4 : Int32) (i5 : Int32) : Option (Rec) :=
  if i4 = (0 : Int32) then
    (X_distribute NF ob i1 i2 i5 i4).bind fun q12 =>
    (X_distribute NF q12 i1 i3 i5 i4).bind fun q14 =>
    some q14
  else
    none
theorem X_pushJoin_b83_p {C : Ctx} {top : Nat} {a : Nat} {H : List (Nat × Nat × Rec)} {res : Rec} {NF : Nat} (ob : Rec) (i1 : Int32) (i2 : Int32) (i3 : Int32) (i4 : Int32) (i5 : Int32) (hf : X_pushJoin_b83 NF ob i1 i2 i3 i4 i5 = some res) : Runs C B32 0 0 83 [vr a, vi i1, vi i2, vi i3, vi i4, vi i5] [] (top, (a, 45, ob) :: H) (Ans none (top, (a, 45, res) :: H)) := by
  delta X_pushJoin_b83 at hf
  refine zd d32_83 rfl <| ?_
  refine ite_el hf (fun hc11 hf => ?_) (fun hc11 hf => ?_)
  · refine zk (pc' := 94) d32_85 (teq hc11).1 (by decide) <| ?_
    refine zb d32_94 rfl <| za d32_95 rfl <| za d32_96 rfl <| zd d32_97 rfl <| zd d32_99 rfl <| ?_
    refine bind_el hf fun q12 hg13 hf => ?_
    refine zm (N := B37) (W := 0) (as := [.int i1, .int i2, .int i5, .int i4]) (S' := []) d32_101 w282 w283 w284 rfl cw37 ar37 rk32_37_0 (by decide) rfl rfl (X_distribute_pay hg13) <| ans0 <| zb d32_104 rfl <| za d32_105 rfl <| za d32_106 rfl <| zd d32_107 rfl <| zd d32_109 rfl <| ?_
    refine bind_el hf fun q14 hg15 hf => ?_
    obtain rfl := Option.some.inj hf
    exact zm (N := B37) (W := 0) (as := [.int i1, .int i3, .int i5, .int i4]) (S' := []) d32_111 w282 w283 w284 rfl cw37 ar37 rk32_37_0 (by decide) rfl rfl (X_distribute_pay hg15) <| ans0 <| zt d32_114 rfl ⟨by decide, by decide⟩ ⟨rfl, rfl⟩
  · refine zl d32_85 (feq hc11).1 <| ?_
    cases hf
def X_pushJoin_b42 (NF : Nat) (ob : Rec) (i1 : Int32) (i2 : Int32) (i3 : Int32) (i4 : Int32) (t1 : Int32) (t2 : Int32) : Option (Rec) :=
  (X_foldList NF ob t1 t2).bind fun q2 =>
  chk (16 : Int32) i1 <|
  chk (16 : Int32) (gA q2 28 i1) <|
  if i4 = (0 : Int32) then
    (X_listRejectsRight NF q2 i2 (gA q2 31 (gA q2 28 i1))).bind fun r7 =>
    if r7 = (0 : Int32) then
      X_pushJoin_b83 NF q2 i1 i2 i3 i4 (gA q2 31 (gA q2 28 i1))
    else
      chk (16 : Int32) i1 <|
      X_pushJoin_b83 NF (sA q2 30 i1 (0 : Int32)) i1 i2 i3 (1 : Int32) (gA q2 31 (gA q2 28 i1))
  else
    X_pushJoin_b83 NF q2 i1 i2 i3 i4 (gA q2 31 (gA q2 28 i1))
theorem X_pushJoin_b42_p {C : Ctx} {top : Nat} {a : Nat} {H : List (Nat × Nat × Rec)} {res : Rec} {NF : Nat} (ob : Rec) (i1 : Int32) (i2 : Int32) (i3 : Int32) (i4 : Int32) (t1 : Int32) (t2 : Int32) (hf : X_pushJoin_b42 NF ob i1 i2 i3 i4 t1 t2 = some res) : Runs C B32 0 0 42 [vr a, vi i1, vi i2, vi i3, vi i4, vn] [.int t2, .int t1, .ref a] (top, (a, 45, ob) :: H) (Ans none (top, (a, 45, res) :: H)) := by
  delta X_pushJoin_b42 at hf
  refine bind_el hf fun q2 hg3 hf => ?_
  refine zm (N := B33) (W := 0) (as := [.int t1, .int t2]) (S' := []) d32_42 w266 w267 w268 rfl cw33 ar33 rk32_33_0 (by decide) rfl rfl (X_foldList_pay hg3) <| ans0 <| zb d32_45 rfl <| ze d32_46 fA_31 w87 (by decide) <| zb d32_49 rfl <| ze d32_50 fA_28 w81 (by decide) <| za d32_53 rfl <| ?_
  refine chk_el hf fun hi4 hf => ?_
  refine zh d32_54 fA_28 (by decide) hi4 <| ?_
  refine chk_el hf fun hi5 hf => ?_
  refine zh d32_55 fA_31 (by decide) hi5 <| zi (P' := [vr a, vi i1, vi i2, vi i3, vi i4, vi (gA q2 31 (gA q2 28 i1))]) d32_56 (by decide) rfl <| zd d32_58 rfl <| ?_
  refine ite_el hf (fun hc6 hf => ?_) (fun hc6 hf => ?_)
  · refine zl d32_60 (teq hc6).2 <| ?_
    refine zb d32_63 rfl <| za d32_64 rfl <| zd d32_65 rfl <| ?_
    refine bind_el hf fun r7 hg8 hf => ?_
    refine zm (N := B35) (W := 0) (as := [.int i2, .int (gA q2 31 (gA q2 28 i1))]) (S' := []) d32_67 w274 w275 w276 rfl cw35 ar35 rk32_35_0 (by decide) rfl rfl (X_listRejectsRight_pay hg8) <| ans1 <| ?_
    refine ite_el hf (fun hc9 hf => ?_) (fun hc9 hf => ?_)
    · exact zk (pc' := 83) d32_70 (teq hc9).1 (by decide) <| X_pushJoin_b83_p q2 i1 i2 i3 i4 (gA q2 31 (gA q2 28 i1)) hf
    · refine zl d32_70 (feq hc9).1 <| ?_
      refine zb d32_73 rfl <| ze d32_74 fA_30 w85 (by decide) <| za d32_77 rfl <| zc d32_78 ci_0 <| ?_
      refine chk_el hf fun hi10 hf => ?_
      exact zq d32_79 fA_30 (by decide) hi10 <| zc d32_80 ci_1 <| zi (P' := [vr a, vi i1, vi i2, vi i3, vi (1 : Int32), vi (gA q2 31 (gA q2 28 i1))]) d32_81 (by decide) rfl <| X_pushJoin_b83_p (sA q2 30 i1 (0 : Int32)) i1 i2 i3 (1 : Int32) (gA q2 31 (gA q2 28 i1)) hf
  · exact zk (pc' := 83) d32_60 (feq hc6).2 (by decide) <| X_pushJoin_b83_p q2 i1 i2 i3 i4 (gA q2 31 (gA q2 28 i1)) hf
def X_pushJoin_b28 (NF : Nat) (ob : Rec) (i1 : Int32) (i2 : Int32) (i3 : Int32) (t0 : Int32) : Option (Rec) :=
  if t0 = (0 : Int32) then
    X_pushJoin_b42 NF ob i1 i2 i3 t0 i3 (1 : Int32)
  else
    X_pushJoin_b42 NF ob i1 i2 i3 t0 i3 (0 : Int32)
theorem X_pushJoin_b28_p {C : Ctx} {top : Nat} {a : Nat} {H : List (Nat × Nat × Rec)} {res : Rec} {NF : Nat} (ob : Rec) (i1 : Int32) (i2 : Int32) (i3 : Int32) (t0 : Int32) (hf : X_pushJoin_b28 NF ob i1 i2 i3 t0 = some res) : Runs C B32 0 0 28 [vr a, vi i1, vi i2, vi i3, vn, vn] [.int t0] (top, (a, 45, ob) :: H) (Ans none (top, (a, 45, res) :: H)) := by
  delta X_pushJoin_b28 at hf
  refine zi (P' := [vr a, vi i1, vi i2, vi i3, vi t0, vn]) d32_28 (by decide) rfl <| zb d32_30 rfl <| za d32_31 rfl <| zd d32_32 rfl <| ?_
  refine ite_el hf (fun hc1 hf => ?_) (fun hc1 hf => ?_)
  · refine zl d32_34 (teq hc1).2 <| ?_
    exact zc d32_37 ci_1 <| zo (pc' := 42) d32_38 (by decide) <| X_pushJoin_b42_p ob i1 i2 i3 t0 i3 (1 : Int32) hf
  · refine zk (pc' := 41) d32_34 (feq hc1).2 (by decide) <| ?_
    exact zc d32_41 ci_0 <| X_pushJoin_b42_p ob i1 i2 i3 t0 i3 (0 : Int32) hf
def X_pushJoin (NF : Nat) (ob : Rec) (i1 : Int32) : Option (Rec) :=
  (X_foldList NF ob ((2 : Int32) * i1) (0 : Int32)).bind fun q16 =>
  chk (16 : Int32) i1 <|
  if (gA q16 30 i1) = (0 : Int32) then
    X_pushJoin_b28 NF q16 i1 ((2 : Int32) * i1) (((2 : Int32) * i1) + (1 : Int32)) (1 : Int32)
  else
    X_pushJoin_b28 NF q16 i1 ((2 : Int32) * i1) (((2 : Int32) * i1) + (1 : Int32)) (0 : Int32)
theorem X_pushJoin_p {C : Ctx} {top : Nat} {a : Nat} {H : List (Nat × Nat × Rec)} {res : Rec} {NF : Nat} (ob : Rec) (i1 : Int32) (hf : X_pushJoin NF ob i1 = some res) : Runs C B32 0 0 0 [vr a, vi i1, vn, vn, vn, vn] [] (top, (a, 45, ob) :: H) (Ans none (top, (a, 45, res) :: H)) := by
  delta X_pushJoin at hf
  refine zc d32_0 ci_2 <| za d32_1 rfl <| zy d32_2 <| zr (P' := [vr a, vi i1, vi ((2 : Int32) * i1), vn, vn, vn]) d32_3 (by decide) rfl <| za d32_4 rfl <| zc d32_5 ci_1 <| zu d32_6 <| zr (P' := [vr a, vi i1, vi ((2 : Int32) * i1), vi (((2 : Int32) * i1) + (1 : Int32)), vn, vn]) d32_7 (by decide) rfl <| zb d32_8 rfl <| za d32_9 rfl <| zc d32_10 ci_0 <| ?_
  refine bind_el hf fun q16 hg17 hf => ?_
  refine zm (N := B33) (W := 0) (as := [.int ((2 : Int32) * i1), .int (0 : Int32)]) (S' := []) d32_11 w266 w267 w268 rfl cw33 ar33 rk32_33_0 (by decide) rfl rfl (X_foldList_pay hg17) <| ans0 <| zb d32_14 rfl <| ze d32_15 fA_30 w85 (by decide) <| za d32_18 rfl <| ?_
  refine chk_el hf fun hi18 hf => ?_
  refine zh d32_19 fA_30 (by decide) hi18 <| ?_
  refine ite_el hf (fun hc19 hf => ?_) (fun hc19 hf => ?_)
  · refine zl d32_20 (teq hc19).2 <| ?_
    exact zc d32_23 ci_1 <| zo (pc' := 28) d32_24 (by decide) <| X_pushJoin_b28_p q16 i1 ((2 : Int32) * i1) (((2 : Int32) * i1) + (1 : Int32)) (1 : Int32) hf
  · refine zk (pc' := 27) d32_20 (feq hc19).2 (by decide) <| ?_
    exact zc d32_27 ci_0 <| X_pushJoin_b28_p q16 i1 ((2 : Int32) * i1) (((2 : Int32) * i1) + (1 : Int32)) (0 : Int32) hf
theorem X_pushJoin_pay {C : Ctx} {top : Nat} {a : Nat} {H : List (Nat × Nat × Rec)} {res : Rec} {NF : Nat} {ob : Rec} {i1 : Int32} (hf : X_pushJoin NF ob i1 = some res) : Pays C B32 [.ref a, .int i1] (top, (a, 45, ob) :: H) (Ans none (top, (a, 45, res) :: H)) :=
  Pays.of pnK (Nat.le_of_ble_eq_true rfl) (P := [vr a, vi i1, vn, vn, vn, vn]) 4 rfl (X_pushJoin_p ob i1 hf)
def X_pushdownAll_w7 (NF : Nat) (k7 : Rec → Int32 → Option (Rec)) (ob : Rec) (i1 : Int32) : Option (Rec) :=
  if i1 < (0 : Int32) then
    some ob
  else
    chk (16 : Int32) i1 <|
    if (gA ob 26 i1) = (0 : Int32) then
      (X_foldList NF ob ((2 : Int32) * i1) (0 : Int32)).bind fun q4 =>
      k7 q4 (i1 + (-1 : Int32))
    else
      (X_pushJoin NF ob i1).bind fun q6 =>
      k7 q6 (i1 + (-1 : Int32))
def X_pushdownAll_l7 (NF : Nat) : Nat → Rec → Int32 → Option (Rec)
  | 0, _, _ => none
  | n + 1, ob, i1 => X_pushdownAll_w7 NF (X_pushdownAll_l7 NF n) ob i1
theorem X_pushdownAll_w7_p {C : Ctx} {top : Nat} {a : Nat} {H : List (Nat × Nat × Rec)} {res : Rec} {NF : Nat} (k7 : Rec → Int32 → Option (Rec)) (hk7 : ∀ (ob : Rec) (i1 : Int32), k7 ob i1 = some res → Runs C B31 0 0 7 [vr a, vi i1] [] (top, (a, 45, ob) :: H) (Ans none (top, (a, 45, res) :: H))) (ob : Rec) (i1 : Int32) (hf : X_pushdownAll_w7 NF k7 ob i1 = some res) : Runs C B31 0 0 7 [vr a, vi i1] [] (top, (a, 45, ob) :: H) (Ans none (top, (a, 45, res) :: H)) := by
  delta X_pushdownAll_w7 at hf
  refine za d31_7 rfl <| ?_
  refine ite_el hf (fun hc1 hf => ?_) (fun hc1 hf => ?_)
  · refine zk (pc' := 42) d31_8 (tlt hc1).1 (by decide) <| ?_
    obtain rfl := Option.some.inj hf
    exact zt d31_42 rfl ⟨by decide, by decide⟩ ⟨rfl, rfl⟩
  · refine zl d31_8 (flt hc1).1 <| ?_
    refine zb d31_11 rfl <| ze d31_12 fA_26 w77 (by decide) <| za d31_15 rfl <| ?_
    refine chk_el hf fun hi2 hf => ?_
    refine zh d31_16 fA_26 (by decide) hi2 <| ?_
    refine ite_el hf (fun hc3 hf => ?_) (fun hc3 hf => ?_)
    · refine zl d31_17 (teq hc3).2 <| ?_
      refine zb d31_20 rfl <| zc d31_21 ci_2 <| za d31_22 rfl <| zy d31_23 <| zc d31_24 ci_0 <| ?_
      refine bind_el hf fun q4 hg5 hf => ?_
      exact zm (N := B33) (W := 0) (as := [.int ((2 : Int32) * i1), .int (0 : Int32)]) (S' := []) d31_25 w266 w267 w268 rfl cw33 ar33 rk31_33_0 (by decide) rfl rfl (X_foldList_pay hg5) <| ans0 <| zo (pc' := 36) d31_28 (by decide) <| zv (P' := [vr a, vi (i1 + (-1 : Int32))]) d31_36 ci_m1 rfl (by decide) rfl <| zo (pc' := 7) d31_39 (by decide) <| hk7 q4 (i1 + (-1 : Int32)) hf
    · refine zk (pc' := 31) d31_17 (feq hc3).2 (by decide) <| ?_
      refine zb d31_31 rfl <| za d31_32 rfl <| ?_
      refine bind_el hf fun q6 hg7 hf => ?_
      exact zm (N := B32) (W := 0) (as := [.int i1]) (S' := []) d31_33 w262 w263 w264 rfl cw32 ar32 rk31_32_0 (by decide) rfl rfl (X_pushJoin_pay hg7) <| ans0 <| zv (P' := [vr a, vi (i1 + (-1 : Int32))]) d31_36 ci_m1 rfl (by decide) rfl <| zo (pc' := 7) d31_39 (by decide) <| hk7 q6 (i1 + (-1 : Int32)) hf
theorem X_pushdownAll_l7_p {C : Ctx} {top : Nat} {a : Nat} {H : List (Nat × Nat × Rec)} {res : Rec} {NF : Nat} (n : Nat) (ob : Rec) (i1 : Int32) (hf : X_pushdownAll_l7 NF n ob i1 = some res) : Runs C B31 0 0 7 [vr a, vi i1] [] (top, (a, 45, ob) :: H) (Ans none (top, (a, 45, res) :: H)) := by
  induction n generalizing ob i1 with
  | zero => cases (show (none : Option (Rec)) = some res from hf)
  | succ n ih => exact X_pushdownAll_w7_p (X_pushdownAll_l7 NF n) (fun ob i1 h => ih _ _ h) ob i1 hf
def X_pushdownAll (NF : Nat) (ob : Rec) : Option (Rec) :=
  X_pushdownAll_l7 NF NF ob ((gI ob 14) - (1 : Int32))
theorem X_pushdownAll_p {C : Ctx} {top : Nat} {a : Nat} {H : List (Nat × Nat × Rec)} {res : Rec} {NF : Nat} (ob : Rec) (hf : X_pushdownAll NF ob = some res) : Runs C B31 0 0 0 [vr a, vn] [] (top, (a, 45, ob) :: H) (Ans none (top, (a, 45, res) :: H)) := by
  delta X_pushdownAll at hf
  exact zb d31_0 rfl <| zs d31_1 w200 fS_14 <| zc d31_4 ci_1 <| Runs.isub d31_5 <| zr (P' := [vr a, vi ((gI ob 14) - (1 : Int32))]) d31_6 (by decide) rfl <| X_pushdownAll_l7_p NF ob ((gI ob 14) - (1 : Int32)) hf
theorem X_pushdownAll_pay {C : Ctx} {top : Nat} {a : Nat} {H : List (Nat × Nat × Rec)} {res : Rec} {NF : Nat} {ob : Rec} (hf : X_pushdownAll NF ob = some res) : Pays C B31 [.ref a] (top, (a, 45, ob) :: H) (Ans none (top, (a, 45, res) :: H)) :=
  Pays.of pnK (Nat.le_of_ble_eq_true rfl) (P := [vr a, vn]) 1 rfl (X_pushdownAll_p ob hf)
def X_compactMap_w5 (NF : Nat) (k5 : Rec → Int32 → Int32 → Int32 → Int32 → Option (Rec)) (ob : Rec) (i1 : Int32) (i2 : Int32) (i3 : Int32) (i4 : Int32) : Option (Rec) :=
  chk (16 : Int32) i1 <|
  if i4 < (gA ob 31 i1) then
    if i4 < (8 : Int32) then
      if (((i2.toUInt32 >>> (i4 &&& 31).toUInt32).toInt32) &&& (1 : Int32)) = (0 : Int32) then
        k5 ob i1 i2 i3 (i4 + (1 : Int32))
      else
        chk (128 : Int32) ((i1 * (8 : Int32)) + i4) <|
        chk (128 : Int32) ((i1 * (8 : Int32)) + i3) <|
        k5 (sA ob 32 ((i1 * (8 : Int32)) + i3) (gA ob 32 ((i1 * (8 : Int32)) + i4))) i1 i2 (i3 + (1 : Int32)) (i4 + (1 : Int32))
    else
      chk (16 : Int32) i1 <|
      some (sA ob 31 i1 i3)
  else
    chk (16 : Int32) i1 <|
    some (sA ob 31 i1 i3)
def X_compactMap_l5 (NF : Nat) : Nat → Rec → Int32 → Int32 → Int32 → Int32 → Option (Rec)
  | 0, _, _, _, _, _ => none
  | n + 1, ob, i1, i2, i3, i4 => X_compactMap_w5 NF (X_compactMap_l5 NF n) ob i1 i2 i3 i4
theorem X_compactMap_w5_p {C : Ctx} {top : Nat} {a : Nat} {H : List (Nat × Nat × Rec)} {res : Rec} {NF : Nat} (k5 : Rec → Int32 → Int32 → Int32 → Int32 → Option (Rec)) (hk5 : ∀ (ob : Rec) (i1 : Int32) (i2 : Int32) (i3 : Int32) (i4 : Int32), k5 ob i1 i2 i3 i4 = some res → Runs C B39 0 0 5 [vr a, vi i1, vi i2, vi i3, vi i4] [] (top, (a, 45, ob) :: H) (Ans none (top, (a, 45, res) :: H))) (ob : Rec) (i1 : Int32) (i2 : Int32) (i3 : Int32) (i4 : Int32) (hf : X_compactMap_w5 NF k5 ob i1 i2 i3 i4 = some res) : Runs C B39 0 0 5 [vr a, vi i1, vi i2, vi i3, vi i4] [] (top, (a, 45, ob) :: H) (Ans none (top, (a, 45, res) :: H)) := by
  delta X_compactMap_w5 at hf
  refine zd d39_5 rfl <| zb d39_7 rfl <| ze d39_8 fA_31 w87 (by decide) <| za d39_11 rfl <| ?_
  refine chk_el hf fun hi1 hf => ?_
  refine zh d39_12 fA_31 (by decide) hi1 <| ?_
  refine ite_el hf (fun hc2 hf => ?_) (fun hc2 hf => ?_)
  · refine zg d39_13 (tlt hc2).2.1 <| ?_
    refine zd d39_16 rfl <| zj d39_18 cb_8 <| ?_
    refine ite_el hf (fun hc3 hf => ?_) (fun hc3 hf => ?_)
    · refine zg d39_20 (tlt hc3).2.1 <| ?_
      refine za d39_23 rfl <| zd d39_24 rfl <| Runs.iushr d39_26 <| zc d39_27 ci_1 <| zA d39_28 <| ?_
      refine ite_el hf (fun hc4 hf => ?_) (fun hc4 hf => ?_)
      · refine zk (pc' := 58) d39_29 (teq hc4).1 (by decide) <| ?_
        exact zv (P' := [vr a, vi i1, vi i2, vi i3, vi (i4 + (1 : Int32))]) d39_58 ci_1 rfl (by decide) rfl <| zo (pc' := 5) d39_61 (by decide) <| hk5 ob i1 i2 i3 (i4 + (1 : Int32)) hf
      · refine zl d39_29 (feq hc4).1 <| ?_
        refine zb d39_32 rfl <| ze d39_33 fA_32 w89 (by decide) <| za d39_36 rfl <| zj d39_37 cb_8 <| zy d39_39 <| za d39_40 rfl <| zu d39_41 <| zb d39_42 rfl <| ze d39_43 fA_32 w89 (by decide) <| za d39_46 rfl <| zj d39_47 cb_8 <| zy d39_49 <| ?_
        refine zd d39_50 rfl <| zu d39_52 <| ?_
        refine chk_el hf fun hi5 hf => ?_
        refine zh d39_53 fA_32 (by decide) hi5 <| ?_
        refine chk_el hf fun hi6 hf => ?_
        exact zq d39_54 fA_32 (by decide) hi6 <| zv (P' := [vr a, vi i1, vi i2, vi (i3 + (1 : Int32)), vi i4]) d39_55 ci_1 rfl (by decide) rfl <| zv (P' := [vr a, vi i1, vi i2, vi (i3 + (1 : Int32)), vi (i4 + (1 : Int32))]) d39_58 ci_1 rfl (by decide) rfl <| zo (pc' := 5) d39_61 (by decide) <| hk5 (sA ob 32 ((i1 * (8 : Int32)) + i3) (gA ob 32 ((i1 * (8 : Int32)) + i4))) i1 i2 (i3 + (1 : Int32)) (i4 + (1 : Int32)) hf
    · refine zf (pc' := 64) d39_20 (flt hc3).2.1 (by decide) <| ?_
      refine zb d39_64 rfl <| ze d39_65 fA_31 w87 (by decide) <| za d39_68 rfl <| za d39_69 rfl <| ?_
      refine chk_el hf fun hi7 hf => ?_
      obtain rfl := Option.some.inj hf
      exact zq d39_70 fA_31 (by decide) hi7 <| zt d39_71 rfl ⟨by decide, by decide⟩ ⟨rfl, rfl⟩
  · refine zf (pc' := 64) d39_13 (flt hc2).2.1 (by decide) <| ?_
    refine zb d39_64 rfl <| ze d39_65 fA_31 w87 (by decide) <| za d39_68 rfl <| za d39_69 rfl <| ?_
    refine chk_el hf fun hi8 hf => ?_
    obtain rfl := Option.some.inj hf
    exact zq d39_70 fA_31 (by decide) hi8 <| zt d39_71 rfl ⟨by decide, by decide⟩ ⟨rfl, rfl⟩
theorem X_compactMap_l5_p {C : Ctx} {top : Nat} {a : Nat} {H : List (Nat × Nat × Rec)} {res : Rec} {NF : Nat} (n : Nat) (ob : Rec) (i1 : Int32) (i2 : Int32) (i3 : Int32) (i4 : Int32) (hf : X_compactMap_l5 NF n ob i1 i2 i3 i4 = some res) : Runs C B39 0 0 5 [vr a, vi i1, vi i2, vi i3, vi i4] [] (top, (a, 45, ob) :: H) (Ans none (top, (a, 45, res) :: H)) := by
  induction n generalizing ob i1 i2 i3 i4 with
  | zero => cases (show (none : Option (Rec)) = some res from hf)
  | succ n ih => exact X_compactMap_w5_p (X_compactMap_l5 NF n) (fun ob i1 i2 i3 i4 h => ih _ _ _ _ _ h) ob i1 i2 i3 i4 hf
def X_compactMap (NF : Nat) (ob : Rec) (i1 : Int32) (i2 : Int32) : Option (Rec) :=
  X_compactMap_l5 NF NF ob i1 i2 (0 : Int32) (0 : Int32)
theorem X_compactMap_p {C : Ctx} {top : Nat} {a : Nat} {H : List (Nat × Nat × Rec)} {res : Rec} {NF : Nat} (ob : Rec) (i1 : Int32) (i2 : Int32) (hf : X_compactMap NF ob i1 i2 = some res) : Runs C B39 0 0 0 [vr a, vi i1, vi i2, vn, vn] [] (top, (a, 45, ob) :: H) (Ans none (top, (a, 45, res) :: H)) := by
  delta X_compactMap at hf
  exact zc d39_0 ci_0 <| zr (P' := [vr a, vi i1, vi i2, vi (0 : Int32), vn]) d39_1 (by decide) rfl <| zc d39_2 ci_0 <| zi (P' := [vr a, vi i1, vi i2, vi (0 : Int32), vi (0 : Int32)]) d39_3 (by decide) rfl <| X_compactMap_l5_p NF ob i1 i2 (0 : Int32) (0 : Int32) hf
theorem X_compactMap_pay {C : Ctx} {top : Nat} {a : Nat} {H : List (Nat × Nat × Rec)} {res : Rec} {NF : Nat} {ob : Rec} {i1 : Int32} {i2 : Int32} (hf : X_compactMap NF ob i1 i2 = some res) : Pays C B39 [.ref a, .int i1, .int i2] (top, (a, 45, ob) :: H) (Ans none (top, (a, 45, res) :: H)) :=
  Pays.of pnK (Nat.le_of_ble_eq_true rfl) (P := [vr a, vi i1, vi i2, vn, vn]) 2 rfl (X_compactMap_p ob i1 i2 hf)
def X_usedMapMask_w4 (NF : Nat) (ob : Rec) (k4 : Int32 → Int32 → Int32 → Option (Int32)) (i1 : Int32) (i2 : Int32) (i3 : Int32) : Option (Int32) :=
  chk (16 : Int32) i1 <|
  if i3 < (gA ob 31 i1) then
    if i3 < (8 : Int32) then
      chk (128 : Int32) ((i1 * (8 : Int32)) + i3) <|
      k4 i1 (i2 ||| ((1 : Int32) <<< (((gA ob 32 ((i1 * (8 : Int32)) + i3)) &&& (7 : Int32)) &&& 31))) (i3 + (1 : Int32))
    else
      some i2
  else
    some i2
def X_usedMapMask_l4 (NF : Nat) (ob : Rec) : Nat → Int32 → Int32 → Int32 → Option (Int32)
  | 0, _, _, _ => none
  | n + 1, i1, i2, i3 => X_usedMapMask_w4 NF ob (X_usedMapMask_l4 NF ob n) i1 i2 i3
theorem X_usedMapMask_w4_p {C : Ctx} {top : Nat} {a : Nat} {H : List (Nat × Nat × Rec)} {ob : Rec} {res : Int32} {NF : Nat} (k4 : Int32 → Int32 → Int32 → Option (Int32)) (hk4 : ∀ (i1 : Int32) (i2 : Int32) (i3 : Int32), k4 i1 i2 i3 = some res → Runs C B41 0 0 4 [vr a, vi i1, vi i2, vi i3] [] (top, (a, 45, ob) :: H) (Ans (some (.int res)) (top, (a, 45, ob) :: H))) (i1 : Int32) (i2 : Int32) (i3 : Int32) (hf : X_usedMapMask_w4 NF ob k4 i1 i2 i3 = some res) : Runs C B41 0 0 4 [vr a, vi i1, vi i2, vi i3] [] (top, (a, 45, ob) :: H) (Ans (some (.int res)) (top, (a, 45, ob) :: H)) := by
  delta X_usedMapMask_w4 at hf
  refine za d41_4 rfl <| zb d41_5 rfl <| ze d41_6 fA_31 w87 (by decide) <| za d41_9 rfl <| ?_
  refine chk_el hf fun hi1 hf => ?_
  refine zh d41_10 fA_31 (by decide) hi1 <| ?_
  refine ite_el hf (fun hc2 hf => ?_) (fun hc2 hf => ?_)
  · refine zg d41_11 (tlt hc2).2.1 <| ?_
    refine za d41_14 rfl <| zj d41_15 cb_8 <| ?_
    refine ite_el hf (fun hc3 hf => ?_) (fun hc3 hf => ?_)
    · refine zg d41_17 (tlt hc3).2.1 <| ?_
      refine za d41_20 rfl <| zc d41_21 ci_1 <| zb d41_22 rfl <| ze d41_23 fA_32 w89 (by decide) <| za d41_26 rfl <| zj d41_27 cb_8 <| zy d41_29 <| za d41_30 rfl <| zu d41_31 <| ?_
      refine chk_el hf fun hi4 hf => ?_
      exact zh d41_32 fA_32 (by decide) hi4 <| zj d41_33 cb_7 <| zA d41_35 <| Runs.ishl d41_36 <| Runs.ior d41_37 <| zr (P' := [vr a, vi i1, vi (i2 ||| ((1 : Int32) <<< (((gA ob 32 ((i1 * (8 : Int32)) + i3)) &&& (7 : Int32)) &&& 31))), vi i3]) d41_38 (by decide) rfl <| zv (P' := [vr a, vi i1, vi (i2 ||| ((1 : Int32) <<< (((gA ob 32 ((i1 * (8 : Int32)) + i3)) &&& (7 : Int32)) &&& 31))), vi (i3 + (1 : Int32))]) d41_39 ci_1 rfl (by decide) rfl <| zo (pc' := 4) d41_42 (by decide) <| hk4 i1 (i2 ||| ((1 : Int32) <<< (((gA ob 32 ((i1 * (8 : Int32)) + i3)) &&& (7 : Int32)) &&& 31))) (i3 + (1 : Int32)) hf
    · refine zf (pc' := 45) d41_17 (flt hc3).2.1 (by decide) <| ?_
      obtain rfl := Option.some.inj hf
      exact za d41_45 rfl <| zn d41_46 rfl ⟨by decide, by decide⟩ ⟨rfl, rfl⟩
  · refine zf (pc' := 45) d41_11 (flt hc2).2.1 (by decide) <| ?_
    obtain rfl := Option.some.inj hf
    exact za d41_45 rfl <| zn d41_46 rfl ⟨by decide, by decide⟩ ⟨rfl, rfl⟩
theorem X_usedMapMask_l4_p {C : Ctx} {top : Nat} {a : Nat} {H : List (Nat × Nat × Rec)} {ob : Rec} {res : Int32} {NF : Nat} (n : Nat) (i1 : Int32) (i2 : Int32) (i3 : Int32) (hf : X_usedMapMask_l4 NF ob n i1 i2 i3 = some res) : Runs C B41 0 0 4 [vr a, vi i1, vi i2, vi i3] [] (top, (a, 45, ob) :: H) (Ans (some (.int res)) (top, (a, 45, ob) :: H)) := by
  induction n generalizing i1 i2 i3 with
  | zero => cases (show (none : Option (Int32)) = some res from hf)
  | succ n ih => exact X_usedMapMask_w4_p (X_usedMapMask_l4 NF ob n) (fun i1 i2 i3 h => ih _ _ _ h) i1 i2 i3 hf
def X_usedMapMask (NF : Nat) (ob : Rec) (i1 : Int32) : Option (Int32) :=
  X_usedMapMask_l4 NF ob NF i1 (0 : Int32) (0 : Int32)
theorem X_usedMapMask_p {C : Ctx} {top : Nat} {a : Nat} {H : List (Nat × Nat × Rec)} {ob : Rec} {res : Int32} {NF : Nat} (i1 : Int32) (hf : X_usedMapMask NF ob i1 = some res) : Runs C B41 0 0 0 [vr a, vi i1, vn, vn] [] (top, (a, 45, ob) :: H) (Ans (some (.int res)) (top, (a, 45, ob) :: H)) := by
  delta X_usedMapMask at hf
  exact zc d41_0 ci_0 <| zr (P' := [vr a, vi i1, vi (0 : Int32), vn]) d41_1 (by decide) rfl <| zc d41_2 ci_0 <| zr (P' := [vr a, vi i1, vi (0 : Int32), vi (0 : Int32)]) d41_3 (by decide) rfl <| X_usedMapMask_l4_p NF i1 (0 : Int32) (0 : Int32) hf
theorem X_usedMapMask_pay {C : Ctx} {top : Nat} {a : Nat} {H : List (Nat × Nat × Rec)} {ob : Rec} {res : Int32} {NF : Nat} {i1 : Int32} (hf : X_usedMapMask NF ob i1 = some res) : Pays C B41 [.ref a, .int i1] (top, (a, 45, ob) :: H) (Ans (some (.int res)) (top, (a, 45, ob) :: H)) :=
  Pays.of pnK (Nat.le_of_ble_eq_true rfl) (P := [vr a, vi i1, vn, vn]) 2 rfl (X_usedMapMask_p i1 hf)
def X_usedListMask_b56 (NF : Nat) (ob : Rec) (k12 : Int32 → Int32 → Int32 → Option (Int32)) (i2 : Int32) (i3 : Int32) (i4 : Int32) : Option (Int32) :=
  chk (512 : Int32) i3 <|
  if ((gA ob 39 i3) &&& (2 : Int32)) = (0 : Int32) then
    chk (512 : Int32) i3 <|
    k12 i2 (gA ob 40 i3) (i4 + (1 : Int32))
  else
    chk (512 : Int32) i3 <|
    chk (512 : Int32) i3 <|
    k12 (i2 ||| ((1 : Int32) <<< (((gA ob 38 i3) &&& (7 : Int32)) &&& 31))) (gA ob 40 i3) (i4 + (1 : Int32))
theorem X_usedListMask_b56_p {C : Ctx} {top : Nat} {a : Nat} {H : List (Nat × Nat × Rec)} {ob : Rec} {res : Int32} {NF : Nat} (k12 : Int32 → Int32 → Int32 → Option (Int32)) (hk12 : ∀ (i2 : Int32) (i3 : Int32) (i4 : Int32), k12 i2 i3 i4 = some res → Runs C B42 0 0 12 [vr a, vn, vi i2, vi i3, vi i4] [] (top, (a, 45, ob) :: H) (Ans (some (.int res)) (top, (a, 45, ob) :: H))) (i2 : Int32) (i3 : Int32) (i4 : Int32) (hf : X_usedListMask_b56 NF ob k12 i2 i3 i4 = some res) : Runs C B42 0 0 56 [vr a, vn, vi i2, vi i3, vi i4] [] (top, (a, 45, ob) :: H) (Ans (some (.int res)) (top, (a, 45, ob) :: H)) := by
  delta X_usedListMask_b56 at hf
  refine zb d42_56 rfl <| ze d42_57 fA_39 w103 (by decide) <| za d42_60 rfl <| ?_
  refine chk_el hf fun hi7 hf => ?_
  refine zh d42_61 fA_39 (by decide) hi7 <| zc d42_62 ci_2 <| zA d42_63 <| ?_
  refine ite_el hf (fun hc8 hf => ?_) (fun hc8 hf => ?_)
  · refine zk (pc' := 81) d42_64 (teq hc8).1 (by decide) <| ?_
    refine zb d42_81 rfl <| ze d42_82 fA_40 w105 (by decide) <| za d42_85 rfl <| ?_
    refine chk_el hf fun hi9 hf => ?_
    exact zh d42_86 fA_40 (by decide) hi9 <| zr (P' := [vr a, vn, vi i2, vi (gA ob 40 i3), vi i4]) d42_87 (by decide) rfl <| zv (P' := [vr a, vn, vi i2, vi (gA ob 40 i3), vi (i4 + (1 : Int32))]) d42_88 ci_1 rfl (by decide) rfl <| zo (pc' := 12) d42_91 (by decide) <| hk12 i2 (gA ob 40 i3) (i4 + (1 : Int32)) hf
  · refine zl d42_64 (feq hc8).1 <| ?_
    refine za d42_67 rfl <| zc d42_68 ci_1 <| zb d42_69 rfl <| ze d42_70 fA_38 w101 (by decide) <| za d42_73 rfl <| ?_
    refine chk_el hf fun hi10 hf => ?_
    refine zh d42_74 fA_38 (by decide) hi10 <| zj d42_75 cb_7 <| zA d42_77 <| Runs.ishl d42_78 <| Runs.ior d42_79 <| zr (P' := [vr a, vn, vi (i2 ||| ((1 : Int32) <<< (((gA ob 38 i3) &&& (7 : Int32)) &&& 31))), vi i3, vi i4]) d42_80 (by decide) rfl <| zb d42_81 rfl <| ze d42_82 fA_40 w105 (by decide) <| za d42_85 rfl <| ?_
    refine chk_el hf fun hi11 hf => ?_
    exact zh d42_86 fA_40 (by decide) hi11 <| zr (P' := [vr a, vn, vi (i2 ||| ((1 : Int32) <<< (((gA ob 38 i3) &&& (7 : Int32)) &&& 31))), vi (gA ob 40 i3), vi i4]) d42_87 (by decide) rfl <| zv (P' := [vr a, vn, vi (i2 ||| ((1 : Int32) <<< (((gA ob 38 i3) &&& (7 : Int32)) &&& 31))), vi (gA ob 40 i3), vi (i4 + (1 : Int32))]) d42_88 ci_1 rfl (by decide) rfl <| zo (pc' := 12) d42_91 (by decide) <| hk12 (i2 ||| ((1 : Int32) <<< (((gA ob 38 i3) &&& (7 : Int32)) &&& 31))) (gA ob 40 i3) (i4 + (1 : Int32)) hf
def X_usedListMask_w12 (NF : Nat) (ob : Rec) (k12 : Int32 → Int32 → Int32 → Option (Int32)) (i2 : Int32) (i3 : Int32) (i4 : Int32) : Option (Int32) :=
  if i4 < (512 : Int32) then
    if i3 < (0 : Int32) then
      some i2
    else
      if i3 < (512 : Int32) then
        chk (512 : Int32) i3 <|
        if ((gA ob 39 i3) &&& (1 : Int32)) = (0 : Int32) then
          X_usedListMask_b56 NF ob k12 i2 i3 i4
        else
          chk (512 : Int32) i3 <|
          X_usedListMask_b56 NF ob k12 (i2 ||| ((1 : Int32) <<< (((gA ob 37 i3) &&& (7 : Int32)) &&& 31))) i3 i4
      else
        some i2
  else
    some i2
def X_usedListMask_l12 (NF : Nat) (ob : Rec) : Nat → Int32 → Int32 → Int32 → Option (Int32)
  | 0, _, _, _ => none
  | n + 1, i2, i3, i4 => X_usedListMask_w12 NF ob (X_usedListMask_l12 NF ob n) i2 i3 i4
theorem X_usedListMask_w12_p {C : Ctx} {top : Nat} {a : Nat} {H : List (Nat × Nat × Rec)} {ob : Rec} {res : Int32} {NF : Nat} (k12 : Int32 → Int32 → Int32 → Option (Int32)) (hk12 : ∀ (i2 : Int32) (i3 : Int32) (i4 : Int32), k12 i2 i3 i4 = some res → Runs C B42 0 0 12 [vr a, vn, vi i2, vi i3, vi i4] [] (top, (a, 45, ob) :: H) (Ans (some (.int res)) (top, (a, 45, ob) :: H))) (i2 : Int32) (i3 : Int32) (i4 : Int32) (hf : X_usedListMask_w12 NF ob k12 i2 i3 i4 = some res) : Runs C B42 0 0 12 [vr a, vn, vi i2, vi i3, vi i4] [] (top, (a, 45, ob) :: H) (Ans (some (.int res)) (top, (a, 45, ob) :: H)) := by
  delta X_usedListMask_w12 at hf
  refine zd d42_12 rfl <| zC d42_14 cs_512 <| ?_
  refine ite_el hf (fun hc1 hf => ?_) (fun hc1 hf => ?_)
  · refine zg d42_17 (tlt hc1).2.1 <| ?_
    refine za d42_20 rfl <| ?_
    refine ite_el hf (fun hc2 hf => ?_) (fun hc2 hf => ?_)
    · refine zk (pc' := 94) d42_21 (tlt hc2).1 (by decide) <| ?_
      obtain rfl := Option.some.inj hf
      exact za d42_94 rfl <| zn d42_95 rfl ⟨by decide, by decide⟩ ⟨rfl, rfl⟩
    · refine zl d42_21 (flt hc2).1 <| ?_
      refine za d42_24 rfl <| zC d42_25 cs_512 <| ?_
      refine ite_el hf (fun hc3 hf => ?_) (fun hc3 hf => ?_)
      · refine zg d42_28 (tlt hc3).2.1 <| ?_
        refine zb d42_31 rfl <| ze d42_32 fA_39 w103 (by decide) <| za d42_35 rfl <| ?_
        refine chk_el hf fun hi4 hf => ?_
        refine zh d42_36 fA_39 (by decide) hi4 <| zc d42_37 ci_1 <| zA d42_38 <| ?_
        refine ite_el hf (fun hc5 hf => ?_) (fun hc5 hf => ?_)
        · exact zk (pc' := 56) d42_39 (teq hc5).1 (by decide) <| X_usedListMask_b56_p k12 hk12 i2 i3 i4 hf
        · refine zl d42_39 (feq hc5).1 <| ?_
          refine za d42_42 rfl <| zc d42_43 ci_1 <| zb d42_44 rfl <| ze d42_45 fA_37 w99 (by decide) <| za d42_48 rfl <| ?_
          refine chk_el hf fun hi6 hf => ?_
          exact zh d42_49 fA_37 (by decide) hi6 <| zj d42_50 cb_7 <| zA d42_52 <| Runs.ishl d42_53 <| Runs.ior d42_54 <| zr (P' := [vr a, vn, vi (i2 ||| ((1 : Int32) <<< (((gA ob 37 i3) &&& (7 : Int32)) &&& 31))), vi i3, vi i4]) d42_55 (by decide) rfl <| X_usedListMask_b56_p k12 hk12 (i2 ||| ((1 : Int32) <<< (((gA ob 37 i3) &&& (7 : Int32)) &&& 31))) i3 i4 hf
      · refine zf (pc' := 94) d42_28 (flt hc3).2.1 (by decide) <| ?_
        obtain rfl := Option.some.inj hf
        exact za d42_94 rfl <| zn d42_95 rfl ⟨by decide, by decide⟩ ⟨rfl, rfl⟩
  · refine zf (pc' := 94) d42_17 (flt hc1).2.1 (by decide) <| ?_
    obtain rfl := Option.some.inj hf
    exact za d42_94 rfl <| zn d42_95 rfl ⟨by decide, by decide⟩ ⟨rfl, rfl⟩
theorem X_usedListMask_l12_p {C : Ctx} {top : Nat} {a : Nat} {H : List (Nat × Nat × Rec)} {ob : Rec} {res : Int32} {NF : Nat} (n : Nat) (i2 : Int32) (i3 : Int32) (i4 : Int32) (hf : X_usedListMask_l12 NF ob n i2 i3 i4 = some res) : Runs C B42 0 0 12 [vr a, vn, vi i2, vi i3, vi i4] [] (top, (a, 45, ob) :: H) (Ans (some (.int res)) (top, (a, 45, ob) :: H)) := by
  induction n generalizing i2 i3 i4 with
  | zero => cases (show (none : Option (Int32)) = some res from hf)
  | succ n ih => exact X_usedListMask_w12_p (X_usedListMask_l12 NF ob n) (fun i2 i3 i4 h => ih _ _ _ h) i2 i3 i4 hf
def X_usedListMask (NF : Nat) (ob : Rec) (i1 : Int32) : Option (Int32) :=
  chk (32 : Int32) i1 <|
  X_usedListMask_l12 NF ob NF (0 : Int32) (gA ob 35 i1) (0 : Int32)
theorem X_usedListMask_p {C : Ctx} {top : Nat} {a : Nat} {H : List (Nat × Nat × Rec)} {ob : Rec} {res : Int32} {NF : Nat} (i1 : Int32) (hf : X_usedListMask NF ob i1 = some res) : Runs C B42 0 0 0 [vr a, vi i1, vn, vn, vn] [] (top, (a, 45, ob) :: H) (Ans (some (.int res)) (top, (a, 45, ob) :: H)) := by
  delta X_usedListMask at hf
  refine zc d42_0 ci_0 <| zr (P' := [vr a, vi i1, vi (0 : Int32), vn, vn]) d42_1 (by decide) rfl <| zb d42_2 rfl <| ze d42_3 fA_35 w95 (by decide) <| za d42_6 rfl <| ?_
  refine chk_el hf fun hi12 hf => ?_
  exact zh d42_7 fA_35 (by decide) hi12 <| zr (P' := [vr a, vi i1, vi (0 : Int32), vi (gA ob 35 i1), vn]) d42_8 (by decide) rfl <| zc d42_9 ci_0 <| zi (P' := [vr a, vi i1, vi (0 : Int32), vi (gA ob 35 i1), vi (0 : Int32)]) d42_10 (by decide) rfl <| zp [true, false, true, true, true] rfl <| X_usedListMask_l12_p NF (0 : Int32) (gA ob 35 i1) (0 : Int32) hf
theorem X_usedListMask_pay {C : Ctx} {top : Nat} {a : Nat} {H : List (Nat × Nat × Rec)} {ob : Rec} {res : Int32} {NF : Nat} {i1 : Int32} (hf : X_usedListMask NF ob i1 = some res) : Pays C B42 [.ref a, .int i1] (top, (a, 45, ob) :: H) (Ans (some (.int res)) (top, (a, 45, ob) :: H)) :=
  Pays.of pnK (Nat.le_of_ble_eq_true rfl) (P := [vr a, vi i1, vn, vn, vn]) 3 rfl (X_usedListMask_p i1 hf)
def X_popcount_w4 (NF : Nat) (ob : Rec) (k4 : Int32 → Int32 → Int32 → Option (Int32)) (i1 : Int32) (i2 : Int32) (i3 : Int32) : Option (Int32) :=
  if i3 < (8 : Int32) then
    k4 i1 (i2 + (((i1.toUInt32 >>> (i3 &&& 31).toUInt32).toInt32) &&& (1 : Int32))) (i3 + (1 : Int32))
  else
    some i2
def X_popcount_l4 (NF : Nat) (ob : Rec) : Nat → Int32 → Int32 → Int32 → Option (Int32)
  | 0, _, _, _ => none
  | n + 1, i1, i2, i3 => X_popcount_w4 NF ob (X_popcount_l4 NF ob n) i1 i2 i3
theorem X_popcount_w4_p {C : Ctx} {top : Nat} {a : Nat} {H : List (Nat × Nat × Rec)} {ob : Rec} {res : Int32} {NF : Nat} (k4 : Int32 → Int32 → Int32 → Option (Int32)) (hk4 : ∀ (i1 : Int32) (i2 : Int32) (i3 : Int32), k4 i1 i2 i3 = some res → Runs C B45 0 0 4 [vn, vi i1, vi i2, vi i3] [] (top, (a, 45, ob) :: H) (Ans (some (.int res)) (top, (a, 45, ob) :: H))) (i1 : Int32) (i2 : Int32) (i3 : Int32) (hf : X_popcount_w4 NF ob k4 i1 i2 i3 = some res) : Runs C B45 0 0 4 [vn, vi i1, vi i2, vi i3] [] (top, (a, 45, ob) :: H) (Ans (some (.int res)) (top, (a, 45, ob) :: H)) := by
  delta X_popcount_w4 at hf
  refine za d45_4 rfl <| zj d45_5 cb_8 <| ?_
  refine ite_el hf (fun hc1 hf => ?_) (fun hc1 hf => ?_)
  · refine zg d45_7 (tlt hc1).2.1 <| ?_
    exact za d45_10 rfl <| za d45_11 rfl <| za d45_12 rfl <| Runs.iushr d45_13 <| zc d45_14 ci_1 <| zA d45_15 <| zu d45_16 <| zr (P' := [vn, vi i1, vi (i2 + (((i1.toUInt32 >>> (i3 &&& 31).toUInt32).toInt32) &&& (1 : Int32))), vi i3]) d45_17 (by decide) rfl <| zv (P' := [vn, vi i1, vi (i2 + (((i1.toUInt32 >>> (i3 &&& 31).toUInt32).toInt32) &&& (1 : Int32))), vi (i3 + (1 : Int32))]) d45_18 ci_1 rfl (by decide) rfl <| zo (pc' := 4) d45_21 (by decide) <| hk4 i1 (i2 + (((i1.toUInt32 >>> (i3 &&& 31).toUInt32).toInt32) &&& (1 : Int32))) (i3 + (1 : Int32)) hf
  · refine zf (pc' := 24) d45_7 (flt hc1).2.1 (by decide) <| ?_
    obtain rfl := Option.some.inj hf
    exact za d45_24 rfl <| zn d45_25 rfl ⟨by decide, by decide⟩ ⟨rfl, rfl⟩
theorem X_popcount_l4_p {C : Ctx} {top : Nat} {a : Nat} {H : List (Nat × Nat × Rec)} {ob : Rec} {res : Int32} {NF : Nat} (n : Nat) (i1 : Int32) (i2 : Int32) (i3 : Int32) (hf : X_popcount_l4 NF ob n i1 i2 i3 = some res) : Runs C B45 0 0 4 [vn, vi i1, vi i2, vi i3] [] (top, (a, 45, ob) :: H) (Ans (some (.int res)) (top, (a, 45, ob) :: H)) := by
  induction n generalizing i1 i2 i3 with
  | zero => cases (show (none : Option (Int32)) = some res from hf)
  | succ n ih => exact X_popcount_w4_p (X_popcount_l4 NF ob n) (fun i1 i2 i3 h => ih _ _ _ h) i1 i2 i3 hf
def X_popcount (NF : Nat) (ob : Rec) (i1 : Int32) : Option (Int32) :=
  X_popcount_l4 NF ob NF i1 (0 : Int32) (0 : Int32)
theorem X_popcount_p {C : Ctx} {top : Nat} {a : Nat} {H : List (Nat × Nat × Rec)} {ob : Rec} {res : Int32} {NF : Nat} (i1 : Int32) (hf : X_popcount NF ob i1 = some res) : Runs C B45 0 0 0 [vr a, vi i1, vn, vn] [] (top, (a, 45, ob) :: H) (Ans (some (.int res)) (top, (a, 45, ob) :: H)) := by
  delta X_popcount at hf
  exact zc d45_0 ci_0 <| zr (P' := [vr a, vi i1, vi (0 : Int32), vn]) d45_1 (by decide) rfl <| zc d45_2 ci_0 <| zr (P' := [vr a, vi i1, vi (0 : Int32), vi (0 : Int32)]) d45_3 (by decide) rfl <| zp [false, true, true, true] rfl <| X_popcount_l4_p NF i1 (0 : Int32) (0 : Int32) hf
theorem X_popcount_pay {C : Ctx} {top : Nat} {a : Nat} {H : List (Nat × Nat × Rec)} {ob : Rec} {res : Int32} {NF : Nat} {i1 : Int32} (hf : X_popcount NF ob i1 = some res) : Pays C B45 [.ref a, .int i1] (top, (a, 45, ob) :: H) (Ans (some (.int res)) (top, (a, 45, ob) :: H)) :=
  Pays.of pnK (Nat.le_of_ble_eq_true rfl) (P := [vr a, vi i1, vn, vn]) 2 rfl (X_popcount_p i1 hf)
def X_newCol (NF : Nat) (ob : Rec) (i1 : Int32) (i2 : Int32) (i3 : Int32) (i4 : Int32) : Option (Int32) :=
  if i1 < i2 then
    (X_popcount NF ob (i3 &&& (((1 : Int32) <<< (i1 &&& 31)) - (1 : Int32)))).bind fun r2 =>
    some r2
  else
    (X_popcount NF ob i3).bind fun r4 =>
    (X_popcount NF ob (i4 &&& (((1 : Int32) <<< ((i1 - i2) &&& 31)) - (1 : Int32)))).bind fun r6 =>
    some (r4 + r6)
theorem X_newCol_p {C : Ctx} {top : Nat} {a : Nat} {H : List (Nat × Nat × Rec)} {ob : Rec} {res : Int32} {NF : Nat} (i1 : Int32) (i2 : Int32) (i3 : Int32) (i4 : Int32) (hf : X_newCol NF ob i1 i2 i3 i4 = some res) : Runs C B44 0 0 0 [vr a, vi i1, vi i2, vi i3, vi i4, vn] [] (top, (a, 45, ob) :: H) (Ans (some (.int res)) (top, (a, 45, ob) :: H)) := by
  delta X_newCol at hf
  refine za d44_0 rfl <| za d44_1 rfl <| ?_
  refine ite_el hf (fun hc1 hf => ?_) (fun hc1 hf => ?_)
  · refine zg d44_2 (tlt hc1).2.1 <| ?_
    refine zb d44_5 rfl <| za d44_6 rfl <| zc d44_7 ci_1 <| za d44_8 rfl <| Runs.ishl d44_9 <| zc d44_10 ci_1 <| Runs.isub d44_11 <| zA d44_12 <| ?_
    refine bind_el hf fun r2 hg3 hf => ?_
    obtain rfl := Option.some.inj hf
    exact zm (N := B45) (W := 0) (as := [.int (i3 &&& (((1 : Int32) <<< (i1 &&& 31)) - (1 : Int32)))]) (S' := []) d44_13 w314 w315 w316 rfl cw45 ar45 rk44_45_0 (by decide) rfl rfl (X_popcount_pay hg3) <| ans1 <| zn d44_16 rfl ⟨by decide, by decide⟩ ⟨rfl, rfl⟩
  · refine zf (pc' := 17) d44_2 (flt hc1).2.1 (by decide) <| ?_
    refine zd d44_17 rfl <| zc d44_19 ci_1 <| za d44_20 rfl <| za d44_21 rfl <| Runs.isub d44_22 <| Runs.ishl d44_23 <| zc d44_24 ci_1 <| Runs.isub d44_25 <| zA d44_26 <| zi (P' := [vr a, vi i1, vi i2, vi i3, vi i4, vi (i4 &&& (((1 : Int32) <<< ((i1 - i2) &&& 31)) - (1 : Int32)))]) d44_27 (by decide) rfl <| zb d44_29 rfl <| za d44_30 rfl <| ?_
    refine bind_el hf fun r4 hg5 hf => ?_
    refine zm (N := B45) (W := 0) (as := [.int i3]) (S' := []) d44_31 w314 w315 w316 rfl cw45 ar45 rk44_45_0 (by decide) rfl rfl (X_popcount_pay hg5) <| ans1 <| zb d44_34 rfl <| zd d44_35 rfl <| ?_
    refine bind_el hf fun r6 hg7 hf => ?_
    obtain rfl := Option.some.inj hf
    exact zm (N := B45) (W := 1) (as := [.int (i4 &&& (((1 : Int32) <<< ((i1 - i2) &&& 31)) - (1 : Int32)))]) (S' := [.int r4]) d44_37 w314 w315 w316 rfl cw45 ar45 rk44_45_1 (by decide) rfl rfl (X_popcount_pay hg7) <| ans1 <| zu d44_40 <| zn d44_41 rfl ⟨by decide, by decide⟩ ⟨rfl, rfl⟩
theorem X_newCol_pay {C : Ctx} {top : Nat} {a : Nat} {H : List (Nat × Nat × Rec)} {ob : Rec} {res : Int32} {NF : Nat} {i1 : Int32} {i2 : Int32} {i3 : Int32} {i4 : Int32} (hf : X_newCol NF ob i1 i2 i3 i4 = some res) : Pays C B44 [.ref a, .int i1, .int i2, .int i3, .int i4] (top, (a, 45, ob) :: H) (Ans (some (.int res)) (top, (a, 45, ob) :: H)) :=
  Pays.of pnK (Nat.le_of_ble_eq_true rfl) (P := [vr a, vi i1, vi i2, vi i3, vi i4, vn]) 1 rfl (X_newCol_p i1 i2 i3 i4 hf)
def X_renumberMap_w3 (NF : Nat) (k3 : Rec → Int32 → Int32 → Int32 → Int32 → Int32 → Option (Rec)) (ob : Rec) (i1 : Int32) (i2 : Int32) (i3 : Int32) (i4 : Int32) (i5 : Int32) : Option (Rec) :=
  chk (16 : Int32) i1 <|
  if i5 < (gA ob 31 i1) then
    if i5 < (8 : Int32) then
      chk (128 : Int32) ((i1 * (8 : Int32)) + i5) <|
      (X_newCol NF ob (gA ob 32 ((i1 * (8 : Int32)) + i5)) i2 i3 i4).bind fun r5 =>
      chk (128 : Int32) ((i1 * (8 : Int32)) + i5) <|
      k3 (sA ob 32 ((i1 * (8 : Int32)) + i5) r5) i1 i2 i3 i4 (i5 + (1 : Int32))
    else
      some ob
  else
    some ob
def X_renumberMap_l3 (NF : Nat) : Nat → Rec → Int32 → Int32 → Int32 → Int32 → Int32 → Option (Rec)
  | 0, _, _, _, _, _, _ => none
  | n + 1, ob, i1, i2, i3, i4, i5 => X_renumberMap_w3 NF (X_renumberMap_l3 NF n) ob i1 i2 i3 i4 i5
theorem X_renumberMap_w3_p {C : Ctx} {top : Nat} {a : Nat} {H : List (Nat × Nat × Rec)} {res : Rec} {NF : Nat} (k3 : Rec → Int32 → Int32 → Int32 → Int32 → Int32 → Option (Rec)) (hk3 : ∀ (ob : Rec) (i1 : Int32) (i2 : Int32) (i3 : Int32) (i4 : Int32) (i5 : Int32), k3 ob i1 i2 i3 i4 i5 = some res → Runs C B43 0 0 3 [vr a, vi i1, vi i2, vi i3, vi i4, vi i5] [] (top, (a, 45, ob) :: H) (Ans none (top, (a, 45, res) :: H))) (ob : Rec) (i1 : Int32) (i2 : Int32) (i3 : Int32) (i4 : Int32) (i5 : Int32) (hf : X_renumberMap_w3 NF k3 ob i1 i2 i3 i4 i5 = some res) : Runs C B43 0 0 3 [vr a, vi i1, vi i2, vi i3, vi i4, vi i5] [] (top, (a, 45, ob) :: H) (Ans none (top, (a, 45, res) :: H)) := by
  delta X_renumberMap_w3 at hf
  refine zd d43_3 rfl <| zb d43_5 rfl <| ze d43_6 fA_31 w87 (by decide) <| za d43_9 rfl <| ?_
  refine chk_el hf fun hi1 hf => ?_
  refine zh d43_10 fA_31 (by decide) hi1 <| ?_
  refine ite_el hf (fun hc2 hf => ?_) (fun hc2 hf => ?_)
  · refine zg d43_11 (tlt hc2).2.1 <| ?_
    refine zd d43_14 rfl <| zj d43_16 cb_8 <| ?_
    refine ite_el hf (fun hc3 hf => ?_) (fun hc3 hf => ?_)
    · refine zg d43_18 (tlt hc3).2.1 <| ?_
      refine zb d43_21 rfl <| ze d43_22 fA_32 w89 (by decide) <| za d43_25 rfl <| zj d43_26 cb_8 <| zy d43_28 <| zd d43_29 rfl <| zu d43_31 <| zb d43_32 rfl <| zb d43_33 rfl <| ze d43_34 fA_32 w89 (by decide) <| za d43_37 rfl <| zj d43_38 cb_8 <| ?_
      refine zy d43_40 <| zd d43_41 rfl <| zu d43_43 <| ?_
      refine chk_el hf fun hi4 hf => ?_
      refine zh d43_44 fA_32 (by decide) hi4 <| za d43_45 rfl <| za d43_46 rfl <| zd d43_47 rfl <| ?_
      refine bind_el hf fun r5 hg6 hf => ?_
      refine zm (N := B44) (W := 2) (as := [.int (gA ob 32 ((i1 * (8 : Int32)) + i5)), .int i2, .int i3, .int i4]) (S' := [.int ((i1 * (8 : Int32)) + i5), .ref (a + 1 + 32)]) d43_49 w310 w311 w312 rfl cw44 ar44 rk43_44_2 (by decide) rfl rfl (X_newCol_pay hg6) <| ans1 <| ?_
      refine chk_el hf fun hi7 hf => ?_
      exact zq d43_52 fA_32 (by decide) hi7 <| zv (P' := [vr a, vi i1, vi i2, vi i3, vi i4, vi (i5 + (1 : Int32))]) d43_53 ci_1 rfl (by decide) rfl <| zo (pc' := 3) d43_56 (by decide) <| hk3 (sA ob 32 ((i1 * (8 : Int32)) + i5) r5) i1 i2 i3 i4 (i5 + (1 : Int32)) hf
    · refine zf (pc' := 59) d43_18 (flt hc3).2.1 (by decide) <| ?_
      obtain rfl := Option.some.inj hf
      exact zt d43_59 rfl ⟨by decide, by decide⟩ ⟨rfl, rfl⟩
  · refine zf (pc' := 59) d43_11 (flt hc2).2.1 (by decide) <| ?_
    obtain rfl := Option.some.inj hf
    exact zt d43_59 rfl ⟨by decide, by decide⟩ ⟨rfl, rfl⟩
theorem X_renumberMap_l3_p {C : Ctx} {top : Nat} {a : Nat} {H : List (Nat × Nat × Rec)} {res : Rec} {NF : Nat} (n : Nat) (ob : Rec) (i1 : Int32) (i2 : Int32) (i3 : Int32) (i4 : Int32) (i5 : Int32) (hf : X_renumberMap_l3 NF n ob i1 i2 i3 i4 i5 = some res) : Runs C B43 0 0 3 [vr a, vi i1, vi i2, vi i3, vi i4, vi i5] [] (top, (a, 45, ob) :: H) (Ans none (top, (a, 45, res) :: H)) := by
  induction n generalizing ob i1 i2 i3 i4 i5 with
  | zero => cases (show (none : Option (Rec)) = some res from hf)
  | succ n ih => exact X_renumberMap_w3_p (X_renumberMap_l3 NF n) (fun ob i1 i2 i3 i4 i5 h => ih _ _ _ _ _ _ h) ob i1 i2 i3 i4 i5 hf
def X_renumberMap (NF : Nat) (ob : Rec) (i1 : Int32) (i2 : Int32) (i3 : Int32) (i4 : Int32) : Option (Rec) :=
  X_renumberMap_l3 NF NF ob i1 i2 i3 i4 (0 : Int32)
theorem X_renumberMap_p {C : Ctx} {top : Nat} {a : Nat} {H : List (Nat × Nat × Rec)} {res : Rec} {NF : Nat} (ob : Rec) (i1 : Int32) (i2 : Int32) (i3 : Int32) (i4 : Int32) (hf : X_renumberMap NF ob i1 i2 i3 i4 = some res) : Runs C B43 0 0 0 [vr a, vi i1, vi i2, vi i3, vi i4, vn] [] (top, (a, 45, ob) :: H) (Ans none (top, (a, 45, res) :: H)) := by
  delta X_renumberMap at hf
  exact zc d43_0 ci_0 <| zi (P' := [vr a, vi i1, vi i2, vi i3, vi i4, vi (0 : Int32)]) d43_1 (by decide) rfl <| X_renumberMap_l3_p NF ob i1 i2 i3 i4 (0 : Int32) hf
theorem X_renumberMap_pay {C : Ctx} {top : Nat} {a : Nat} {H : List (Nat × Nat × Rec)} {res : Rec} {NF : Nat} {ob : Rec} {i1 : Int32} {i2 : Int32} {i3 : Int32} {i4 : Int32} (hf : X_renumberMap NF ob i1 i2 i3 i4 = some res) : Pays C B43 [.ref a, .int i1, .int i2, .int i3, .int i4] (top, (a, 45, ob) :: H) (Ans none (top, (a, 45, res) :: H)) :=
  Pays.of pnK (Nat.le_of_ble_eq_true rfl) (P := [vr a, vi i1, vi i2, vi i3, vi i4, vn]) 1 rfl (X_renumberMap_p ob i1 i2 i3 i4 hf)
def X_renumberList_b66 (NF : Nat) (k11 : Rec → Int32 → Int32 → Int32 → Int32 → Int32 → Option (Rec)) (ob : Rec) (i2 : Int32) (i3 : Int32) (i4 : Int32) (i5 : Int32) (i6 : Int32) : Option (Rec) :=
  chk (512 : Int32) i5 <|
  if ((gA ob 39 i5) &&& (2 : Int32)) = (0 : Int32) then
    chk (512 : Int32) i5 <|
    k11 ob i2 i3 i4 (gA ob 40 i5) (i6 + (1 : Int32))
  else
    chk (512 : Int32) i5 <|
    (X_newCol NF ob (gA ob 38 i5) i2 i3 i4).bind fun r14 =>
    chk (512 : Int32) i5 <|
    chk (512 : Int32) i5 <|
    k11 (sA ob 38 i5 r14) i2 i3 i4 (gA ob 40 i5) (i6 + (1 : Int32))
theorem X_renumberList_b66_p {C : Ctx} {top : Nat} {a : Nat} {H : List (Nat × Nat × Rec)} {res : Rec} {NF : Nat} (k11 : Rec → Int32 → Int32 → Int32 → Int32 → Int32 → Option (Rec)) (hk11 : ∀ (ob : Rec) (i2 : Int32) (i3 : Int32) (i4 : Int32) (i5 : Int32) (i6 : Int32), k11 ob i2 i3 i4 i5 i6 = some res → Runs C B46 0 0 11 [vr a, vn, vi i2, vi i3, vi i4, vi i5, vi i6] [] (top, (a, 45, ob) :: H) (Ans none (top, (a, 45, res) :: H))) (ob : Rec) (i2 : Int32) (i3 : Int32) (i4 : Int32) (i5 : Int32) (i6 : Int32) (hf : X_renumberList_b66 NF k11 ob i2 i3 i4 i5 i6 = some res) : Runs C B46 0 0 66 [vr a, vn, vi i2, vi i3, vi i4, vi i5, vi i6] [] (top, (a, 45, ob) :: H) (Ans none (top, (a, 45, res) :: H)) := by
  delta X_renumberList_b66 at hf
  refine zb d46_66 rfl <| ze d46_67 fA_39 w103 (by decide) <| zd d46_70 rfl <| ?_
  refine chk_el hf fun hi10 hf => ?_
  refine zh d46_72 fA_39 (by decide) hi10 <| zc d46_73 ci_2 <| zA d46_74 <| ?_
  refine ite_el hf (fun hc11 hf => ?_) (fun hc11 hf => ?_)
  · refine zk (pc' := 100) d46_75 (teq hc11).1 (by decide) <| ?_
    refine zb d46_100 rfl <| ze d46_101 fA_40 w105 (by decide) <| zd d46_104 rfl <| ?_
    refine chk_el hf fun hi12 hf => ?_
    exact zh d46_106 fA_40 (by decide) hi12 <| zi (P' := [vr a, vn, vi i2, vi i3, vi i4, vi (gA ob 40 i5), vi i6]) d46_107 (by decide) rfl <| zv (P' := [vr a, vn, vi i2, vi i3, vi i4, vi (gA ob 40 i5), vi (i6 + (1 : Int32))]) d46_109 ci_1 rfl (by decide) rfl <| zo (pc' := 11) d46_112 (by decide) <| hk11 ob i2 i3 i4 (gA ob 40 i5) (i6 + (1 : Int32)) hf
  · refine zl d46_75 (feq hc11).1 <| ?_
    refine zb d46_78 rfl <| ze d46_79 fA_38 w101 (by decide) <| zd d46_82 rfl <| zb d46_84 rfl <| zb d46_85 rfl <| ze d46_86 fA_38 w101 (by decide) <| zd d46_89 rfl <| ?_
    refine chk_el hf fun hi13 hf => ?_
    refine zh d46_91 fA_38 (by decide) hi13 <| za d46_92 rfl <| za d46_93 rfl <| zd d46_94 rfl <| ?_
    refine bind_el hf fun r14 hg15 hf => ?_
    refine zm (N := B44) (W := 2) (as := [.int (gA ob 38 i5), .int i2, .int i3, .int i4]) (S' := [.int i5, .ref (a + 1 + 38)]) d46_96 w310 w311 w312 rfl cw44 ar44 rk46_44_2 (by decide) rfl rfl (X_newCol_pay hg15) <| ans1 <| ?_
    refine chk_el hf fun hi16 hf => ?_
    refine zq d46_99 fA_38 (by decide) hi16 <| zb d46_100 rfl <| ze d46_101 fA_40 w105 (by decide) <| zd d46_104 rfl <| ?_
    refine chk_el hf fun hi17 hf => ?_
    exact zh d46_106 fA_40 (by decide) hi17 <| zi (P' := [vr a, vn, vi i2, vi i3, vi i4, vi (gA ob 40 i5), vi i6]) d46_107 (by decide) rfl <| zv (P' := [vr a, vn, vi i2, vi i3, vi i4, vi (gA ob 40 i5), vi (i6 + (1 : Int32))]) d46_109 ci_1 rfl (by decide) rfl <| zo (pc' := 11) d46_112 (by decide) <| hk11 (sA ob 38 i5 r14) i2 i3 i4 (gA ob 40 i5) (i6 + (1 : Int32)) hf
def X_renumberList_w11 (NF : Nat) (k11 : Rec → Int32 → Int32 → Int32 → Int32 → Int32 → Option (Rec)) (ob : Rec) (i2 : Int32) (i3 : Int32) (i4 : Int32) (i5 : Int32) (i6 : Int32) : Option (Rec) :=
  if i6 < (512 : Int32) then
    if i5 < (0 : Int32) then
      some ob
    else
      if i5 < (512 : Int32) then
        chk (512 : Int32) i5 <|
        if ((gA ob 39 i5) &&& (1 : Int32)) = (0 : Int32) then
          X_renumberList_b66 NF k11 ob i2 i3 i4 i5 i6
        else
          chk (512 : Int32) i5 <|
          (X_newCol NF ob (gA ob 37 i5) i2 i3 i4).bind fun r7 =>
          chk (512 : Int32) i5 <|
          X_renumberList_b66 NF k11 (sA ob 37 i5 r7) i2 i3 i4 i5 i6
      else
        some ob
  else
    some ob
def X_renumberList_l11 (NF : Nat) : Nat → Rec → Int32 → Int32 → Int32 → Int32 → Int32 → Option (Rec)
  | 0, _, _, _, _, _, _ => none
  | n + 1, ob, i2, i3, i4, i5, i6 => X_renumberList_w11 NF (X_renumberList_l11 NF n) ob i2 i3 i4 i5 i6
theorem X_renumberList_w11_p {C : Ctx} {top : Nat} {a : Nat} {H : List (Nat × Nat × Rec)} {res : Rec} {NF : Nat} (k11 : Rec → Int32 → Int32 → Int32 → Int32 → Int32 → Option (Rec)) (hk11 : ∀ (ob : Rec) (i2 : Int32) (i3 : Int32) (i4 : Int32) (i5 : Int32) (i6 : Int32), k11 ob i2 i3 i4 i5 i6 = some res → Runs C B46 0 0 11 [vr a, vn, vi i2, vi i3, vi i4, vi i5, vi i6] [] (top, (a, 45, ob) :: H) (Ans none (top, (a, 45, res) :: H))) (ob : Rec) (i2 : Int32) (i3 : Int32) (i4 : Int32) (i5 : Int32) (i6 : Int32) (hf : X_renumberList_w11 NF k11 ob i2 i3 i4 i5 i6 = some res) : Runs C B46 0 0 11 [vr a, vn, vi i2, vi i3, vi i4, vi i5, vi i6] [] (top, (a, 45, ob) :: H) (Ans none (top, (a, 45, res) :: H)) := by
  delta X_renumberList_w11 at hf
  refine zd d46_11 rfl <| zC d46_13 cs_512 <| ?_
  refine ite_el hf (fun hc1 hf => ?_) (fun hc1 hf => ?_)
  · refine zg d46_16 (tlt hc1).2.1 <| ?_
    refine zd d46_19 rfl <| ?_
    refine ite_el hf (fun hc2 hf => ?_) (fun hc2 hf => ?_)
    · refine zk (pc' := 115) d46_21 (tlt hc2).1 (by decide) <| ?_
      obtain rfl := Option.some.inj hf
      exact zt d46_115 rfl ⟨by decide, by decide⟩ ⟨rfl, rfl⟩
    · refine zl d46_21 (flt hc2).1 <| ?_
      refine zd d46_24 rfl <| zC d46_26 cs_512 <| ?_
      refine ite_el hf (fun hc3 hf => ?_) (fun hc3 hf => ?_)
      · refine zg d46_29 (tlt hc3).2.1 <| ?_
        refine zb d46_32 rfl <| ze d46_33 fA_39 w103 (by decide) <| zd d46_36 rfl <| ?_
        refine chk_el hf fun hi4 hf => ?_
        refine zh d46_38 fA_39 (by decide) hi4 <| zc d46_39 ci_1 <| zA d46_40 <| ?_
        refine ite_el hf (fun hc5 hf => ?_) (fun hc5 hf => ?_)
        · exact zk (pc' := 66) d46_41 (teq hc5).1 (by decide) <| X_renumberList_b66_p k11 hk11 ob i2 i3 i4 i5 i6 hf
        · refine zl d46_41 (feq hc5).1 <| ?_
          refine zb d46_44 rfl <| ze d46_45 fA_37 w99 (by decide) <| zd d46_48 rfl <| zb d46_50 rfl <| zb d46_51 rfl <| ze d46_52 fA_37 w99 (by decide) <| zd d46_55 rfl <| ?_
          refine chk_el hf fun hi6 hf => ?_
          refine zh d46_57 fA_37 (by decide) hi6 <| za d46_58 rfl <| za d46_59 rfl <| zd d46_60 rfl <| ?_
          refine bind_el hf fun r7 hg8 hf => ?_
          refine zm (N := B44) (W := 2) (as := [.int (gA ob 37 i5), .int i2, .int i3, .int i4]) (S' := [.int i5, .ref (a + 1 + 37)]) d46_62 w310 w311 w312 rfl cw44 ar44 rk46_44_2 (by decide) rfl rfl (X_newCol_pay hg8) <| ans1 <| ?_
          refine chk_el hf fun hi9 hf => ?_
          exact zq d46_65 fA_37 (by decide) hi9 <| X_renumberList_b66_p k11 hk11 (sA ob 37 i5 r7) i2 i3 i4 i5 i6 hf
      · refine zf (pc' := 115) d46_29 (flt hc3).2.1 (by decide) <| ?_
        obtain rfl := Option.some.inj hf
        exact zt d46_115 rfl ⟨by decide, by decide⟩ ⟨rfl, rfl⟩
  · refine zf (pc' := 115) d46_16 (flt hc1).2.1 (by decide) <| ?_
    obtain rfl := Option.some.inj hf
    exact zt d46_115 rfl ⟨by decide, by decide⟩ ⟨rfl, rfl⟩
theorem X_renumberList_l11_p {C : Ctx} {top : Nat} {a : Nat} {H : List (Nat × Nat × Rec)} {res : Rec} {NF : Nat} (n : Nat) (ob : Rec) (i2 : Int32) (i3 : Int32) (i4 : Int32) (i5 : Int32) (i6 : Int32) (hf : X_renumberList_l11 NF n ob i2 i3 i4 i5 i6 = some res) : Runs C B46 0 0 11 [vr a, vn, vi i2, vi i3, vi i4, vi i5, vi i6] [] (top, (a, 45, ob) :: H) (Ans none (top, (a, 45, res) :: H)) := by
  induction n generalizing ob i2 i3 i4 i5 i6 with
  | zero => cases (show (none : Option (Rec)) = some res from hf)
  | succ n ih => exact X_renumberList_w11_p (X_renumberList_l11 NF n) (fun ob i2 i3 i4 i5 i6 h => ih _ _ _ _ _ _ h) ob i2 i3 i4 i5 i6 hf
def X_renumberList (NF : Nat) (ob : Rec) (i1 : Int32) (i2 : Int32) (i3 : Int32) (i4 : Int32) : Option (Rec) :=
  chk (32 : Int32) i1 <|
  X_renumberList_l11 NF NF ob i2 i3 i4 (gA ob 35 i1) (0 : Int32)
theorem X_renumberList_p {C : Ctx} {top : Nat} {a : Nat} {H : List (Nat × Nat × Rec)} {res : Rec} {NF : Nat} (ob : Rec) (i1 : Int32) (i2 : Int32) (i3 : Int32) (i4 : Int32) (hf : X_renumberList NF ob i1 i2 i3 i4 = some res) : Runs C B46 0 0 0 [vr a, vi i1, vi i2, vi i3, vi i4, vn, vn] [] (top, (a, 45, ob) :: H) (Ans none (top, (a, 45, res) :: H)) := by
  delta X_renumberList at hf
  refine zb d46_0 rfl <| ze d46_1 fA_35 w95 (by decide) <| za d46_4 rfl <| ?_
  refine chk_el hf fun hi18 hf => ?_
  exact zh d46_5 fA_35 (by decide) hi18 <| zi (P' := [vr a, vi i1, vi i2, vi i3, vi i4, vi (gA ob 35 i1), vn]) d46_6 (by decide) rfl <| zc d46_8 ci_0 <| zi (P' := [vr a, vi i1, vi i2, vi i3, vi i4, vi (gA ob 35 i1), vi (0 : Int32)]) d46_9 (by decide) rfl <| zp [true, false, true, true, true, true, true] rfl <| X_renumberList_l11_p NF ob i2 i3 i4 (gA ob 35 i1) (0 : Int32) hf
theorem X_renumberList_pay {C : Ctx} {top : Nat} {a : Nat} {H : List (Nat × Nat × Rec)} {res : Rec} {NF : Nat} {ob : Rec} {i1 : Int32} {i2 : Int32} {i3 : Int32} {i4 : Int32} (hf : X_renumberList NF ob i1 i2 i3 i4 = some res) : Pays C B46 [.ref a, .int i1, .int i2, .int i3, .int i4] (top, (a, 45, ob) :: H) (Ans none (top, (a, 45, res) :: H)) :=
  Pays.of pnK (Nat.le_of_ble_eq_true rfl) (P := [vr a, vi i1, vi i2, vi i3, vi i4, vn, vn]) 2 rfl (X_renumberList_p ob i1 i2 i3 i4 hf)
def X_pruneJoinInputs_b104 (NF : Nat) (ob : Rec) (i1 : Int32) (i2 : Int32) (i3 : Int32) (i4 : Int32) (i7 : Int32) (i8 : Int32) : Option (Rec) :=
  chk (16 : Int32) i2 <|
  chk (16 : Int32) i3 <|
  (X_renumberMap NF (sA (sA ob 33 i2 i7) 33 i3 i8) i1 i4 i7 i8).bind fun q4 =>
  (X_renumberList NF q4 ((2 : Int32) * i1) i4 i7 i8).bind fun q6 =>
  (X_renumberList NF q6 (((2 : Int32) * i1) + (1 : Int32)) i4 i7 i8).bind fun q8 =>
  some q8
theorem X_pruneJoinInputs_b104_p {C : Ctx} {top : Nat} {a : Nat} {H : List (Nat × Nat × Rec)} {res : Rec} {NF : Nat} (ob : Rec) (i1 : Int32) (i2 : Int32) (i3 : Int32) (i4 : Int32) (i7 : Int32) (i8 : Int32) (hf : X_pruneJoinInputs_b104 NF ob i1 i2 i3 i4 i7 i8 = some res) : Runs C B40 0 0 104 [vr a, vi i1, vi i2, vi i3, vi i4, vn, vn, vi i7, vi i8] [] (top, (a, 45, ob) :: H) (Ans none (top, (a, 45, res) :: H)) := by
  delta X_pruneJoinInputs_b104 at hf
  refine zb d40_104 rfl <| ze d40_105 fA_33 w91 (by decide) <| za d40_108 rfl <| zd d40_109 rfl <| ?_
  refine chk_el hf fun hi2 hf => ?_
  refine zq d40_111 fA_33 (by decide) hi2 <| zb d40_112 rfl <| ze d40_113 fA_33 w91 (by decide) <| za d40_116 rfl <| zd d40_117 rfl <| ?_
  refine chk_el hf fun hi3 hf => ?_
  refine zq d40_119 fA_33 (by decide) hi3 <| zb d40_120 rfl <| za d40_121 rfl <| zd d40_122 rfl <| zd d40_124 rfl <| zd d40_126 rfl <| ?_
  refine bind_el hf fun q4 hg5 hf => ?_
  refine zm (N := B43) (W := 0) (as := [.int i1, .int i4, .int i7, .int i8]) (S' := []) d40_128 w306 w307 w308 rfl cw43 ar43 rk40_43_0 (by decide) rfl rfl (X_renumberMap_pay hg5) <| ans0 <| zb d40_131 rfl <| zc d40_132 ci_2 <| za d40_133 rfl <| zy d40_134 <| zd d40_135 rfl <| zd d40_137 rfl <| zd d40_139 rfl <| ?_
  refine bind_el hf fun q6 hg7 hf => ?_
  refine zm (N := B46) (W := 0) (as := [.int ((2 : Int32) * i1), .int i4, .int i7, .int i8]) (S' := []) d40_141 w318 w319 w320 rfl cw46 ar46 rk40_46_0 (by decide) rfl rfl (X_renumberList_pay hg7) <| ans0 <| zb d40_144 rfl <| zc d40_145 ci_2 <| za d40_146 rfl <| zy d40_147 <| zc d40_148 ci_1 <| zu d40_149 <| zd d40_150 rfl <| zd d40_152 rfl <| zd d40_154 rfl <| ?_
  refine bind_el hf fun q8 hg9 hf => ?_
  obtain rfl := Option.some.inj hf
  exact zm (N := B46) (W := 0) (as := [.int (((2 : Int32) * i1) + (1 : Int32)), .int i4, .int i7, .int i8]) (S' := []) d40_156 w318 w319 w320 rfl cw46 ar46 rk40_46_0 (by decide) rfl rfl (X_renumberList_pay hg9) <| ans0 <| zt d40_159 rfl ⟨by decide, by decide⟩ ⟨rfl, rfl⟩
def X_pruneJoinInputs_b96 (NF : Nat) (ob : Rec) (i1 : Int32) (i2 : Int32) (i3 : Int32) (i4 : Int32) (i7 : Int32) (i8 : Int32) : Option (Rec) :=
  if i8 = (0 : Int32) then
    X_pruneJoinInputs_b104 NF ob i1 i2 i3 i4 i7 (1 : Int32)
  else
    X_pruneJoinInputs_b104 NF ob i1 i2 i3 i4 i7 i8
theorem X_pruneJoinInputs_b96_p {C : Ctx} {top : Nat} {a : Nat} {H : List (Nat × Nat × Rec)} {res : Rec} {NF : Nat} (ob : Rec) (i1 : Int32) (i2 : Int32) (i3 : Int32) (i4 : Int32) (i7 : Int32) (i8 : Int32) (hf : X_pruneJoinInputs_b96 NF ob i1 i2 i3 i4 i7 i8 = some res) : Runs C B40 0 0 96 [vr a, vi i1, vi i2, vi i3, vi i4, vn, vn, vi i7, vi i8] [] (top, (a, 45, ob) :: H) (Ans none (top, (a, 45, res) :: H)) := by
  delta X_pruneJoinInputs_b96 at hf
  refine zd d40_96 rfl <| ?_
  refine ite_el hf (fun hc1 hf => ?_) (fun hc1 hf => ?_)
  · refine zl d40_98 (teq hc1).2 <| ?_
    exact zc d40_101 ci_1 <| zi (P' := [vr a, vi i1, vi i2, vi i3, vi i4, vn, vn, vi i7, vi (1 : Int32)]) d40_102 (by decide) rfl <| X_pruneJoinInputs_b104_p ob i1 i2 i3 i4 i7 (1 : Int32) hf
  · exact zk (pc' := 104) d40_98 (feq hc1).2 (by decide) <| X_pruneJoinInputs_b104_p ob i1 i2 i3 i4 i7 i8 hf
def X_pruneJoinInputs (NF : Nat) (ob : Rec) (i1 : Int32) : Option (Rec) :=
  chk (16 : Int32) i1 <|
  chk (16 : Int32) i1 <|
  chk (16 : Int32) (gA ob 28 i1) <|
  chk (16 : Int32) (gA ob 29 i1) <|
  (X_usedMapMask NF ob i1).bind fun r14 =>
  (X_usedListMask NF ob ((2 : Int32) * i1)).bind fun r16 =>
  (X_usedListMask NF ob (((2 : Int32) * i1) + (1 : Int32))).bind fun r18 =>
  (some (((((r14 ||| r16) ||| r18).toUInt32 >>> ((gA ob 31 (gA ob 28 i1)) &&& 31).toUInt32).toInt32) &&& (((1 : Int32) <<< ((gA ob 31 (gA ob 29 i1)) &&& 31)) - (1 : Int32)))).bind fun v20 =>
  if (((r14 ||| r16) ||| r18) &&& (((1 : Int32) <<< ((gA ob 31 (gA ob 28 i1)) &&& 31)) - (1 : Int32))) = (0 : Int32) then
    X_pruneJoinInputs_b96 NF ob i1 (gA ob 28 i1) (gA ob 29 i1) (gA ob 31 (gA ob 28 i1)) (1 : Int32) v20
  else
    X_pruneJoinInputs_b96 NF ob i1 (gA ob 28 i1) (gA ob 29 i1) (gA ob 31 (gA ob 28 i1)) (((r14 ||| r16) ||| r18) &&& (((1 : Int32) <<< ((gA ob 31 (gA ob 28 i1)) &&& 31)) - (1 : Int32))) v20
theorem X_pruneJoinInputs_p {C : Ctx} {top : Nat} {a : Nat} {H : List (Nat × Nat × Rec)} {res : Rec} {NF : Nat} (ob : Rec) (i1 : Int32) (hf : X_pruneJoinInputs NF ob i1 = some res) : Runs C B40 0 0 0 [vr a, vi i1, vn, vn, vn, vn, vn, vn, vn] [] (top, (a, 45, ob) :: H) (Ans none (top, (a, 45, res) :: H)) := by
  delta X_pruneJoinInputs at hf
  refine zb d40_0 rfl <| ze d40_1 fA_28 w81 (by decide) <| za d40_4 rfl <| ?_
  refine chk_el hf fun hi10 hf => ?_
  refine zh d40_5 fA_28 (by decide) hi10 <| zr (P' := [vr a, vi i1, vi (gA ob 28 i1), vn, vn, vn, vn, vn, vn]) d40_6 (by decide) rfl <| zb d40_7 rfl <| ze d40_8 fA_29 w83 (by decide) <| za d40_11 rfl <| ?_
  refine chk_el hf fun hi11 hf => ?_
  refine zh d40_12 fA_29 (by decide) hi11 <| zr (P' := [vr a, vi i1, vi (gA ob 28 i1), vi (gA ob 29 i1), vn, vn, vn, vn, vn]) d40_13 (by decide) rfl <| zb d40_14 rfl <| ze d40_15 fA_31 w87 (by decide) <| za d40_18 rfl <| ?_
  refine chk_el hf fun hi12 hf => ?_
  refine zh d40_19 fA_31 (by decide) hi12 <| zi (P' := [vr a, vi i1, vi (gA ob 28 i1), vi (gA ob 29 i1), vi (gA ob 31 (gA ob 28 i1)), vn, vn, vn, vn]) d40_20 (by decide) rfl <| zb d40_22 rfl <| ze d40_23 fA_31 w87 (by decide) <| za d40_26 rfl <| ?_
  refine chk_el hf fun hi13 hf => ?_
  refine zh d40_27 fA_31 (by decide) hi13 <| zi (P' := [vr a, vi i1, vi (gA ob 28 i1), vi (gA ob 29 i1), vi (gA ob 31 (gA ob 28 i1)), vi (gA ob 31 (gA ob 29 i1)), vn, vn, vn]) d40_28 (by decide) rfl <| zb d40_30 rfl <| za d40_31 rfl <| ?_
  refine bind_el hf fun r14 hg15 hf => ?_
  refine zm (N := B41) (W := 0) (as := [.int i1]) (S' := []) d40_32 w298 w299 w300 rfl cw41 ar41 rk40_41_0 (by decide) rfl rfl (X_usedMapMask_pay hg15) <| ans1 <| zi (P' := [vr a, vi i1, vi (gA ob 28 i1), vi (gA ob 29 i1), vi (gA ob 31 (gA ob 28 i1)), vi (gA ob 31 (gA ob 29 i1)), vi r14, vn, vn]) d40_35 (by decide) rfl <| zd d40_37 rfl <| zb d40_39 rfl <| zc d40_40 ci_2 <| za d40_41 rfl <| zy d40_42 <| ?_
  refine bind_el hf fun r16 hg17 hf => ?_
  refine zm (N := B42) (W := 1) (as := [.int ((2 : Int32) * i1)]) (S' := [.int r14]) d40_43 w302 w303 w304 rfl cw42 ar42 rk40_42_1 (by decide) rfl rfl (X_usedListMask_pay hg17) <| ans1 <| Runs.ior d40_46 <| zi (P' := [vr a, vi i1, vi (gA ob 28 i1), vi (gA ob 29 i1), vi (gA ob 31 (gA ob 28 i1)), vi (gA ob 31 (gA ob 29 i1)), vi (r14 ||| r16), vn, vn]) d40_47 (by decide) rfl <| zd d40_49 rfl <| zb d40_51 rfl <| zc d40_52 ci_2 <| za d40_53 rfl <| zy d40_54 <| zc d40_55 ci_1 <| zu d40_56 <| ?_
  refine bind_el hf fun r18 hg19 hf => ?_
  refine zm (N := B42) (W := 1) (as := [.int (((2 : Int32) * i1) + (1 : Int32))]) (S' := [.int (r14 ||| r16)]) d40_57 w302 w303 w304 rfl cw42 ar42 rk40_42_1 (by decide) rfl rfl (X_usedListMask_pay hg19) <| ans1 <| Runs.ior d40_60 <| zi (P' := [vr a, vi i1, vi (gA ob 28 i1), vi (gA ob 29 i1), vi (gA ob 31 (gA ob 28 i1)), vi (gA ob 31 (gA ob 29 i1)), vi ((r14 ||| r16) ||| r18), vn, vn]) d40_61 (by decide) rfl <| zd d40_63 rfl <| zc d40_65 ci_1 <| zd d40_66 rfl <| Runs.ishl d40_68 <| zc d40_69 ci_1 <| Runs.isub d40_70 <| zA d40_71 <| zi (P' := [vr a, vi i1, vi (gA ob 28 i1), vi (gA ob 29 i1), vi (gA ob 31 (gA ob 28 i1)), vi (gA ob 31 (gA ob 29 i1)), vi ((r14 ||| r16) ||| r18), vi (((r14 ||| r16) ||| r18) &&& (((1 : Int32) <<< ((gA ob 31 (gA ob 28 i1)) &&& 31)) - (1 : Int32))), vn]) d40_72 (by decide) rfl <| zd d40_74 rfl <| ?_
  refine zd d40_76 rfl <| Runs.iushr d40_78 <| zc d40_79 ci_1 <| zd d40_80 rfl <| Runs.ishl d40_82 <| zc d40_83 ci_1 <| Runs.isub d40_84 <| zA d40_85 <| ?_
  refine bind_el hf fun v20 hv20 hf => ?_
  rw [Option.some.inj hv20]
  refine zi (P' := [vr a, vi i1, vi (gA ob 28 i1), vi (gA ob 29 i1), vi (gA ob 31 (gA ob 28 i1)), vi (gA ob 31 (gA ob 29 i1)), vi ((r14 ||| r16) ||| r18), vi (((r14 ||| r16) ||| r18) &&& (((1 : Int32) <<< ((gA ob 31 (gA ob 28 i1)) &&& 31)) - (1 : Int32))), vi v20]) d40_86 (by decide) rfl <| zd d40_88 rfl <| ?_
  refine ite_el hf (fun hc21 hf => ?_) (fun hc21 hf => ?_)
  · refine zl d40_90 (teq hc21).2 <| ?_
    exact zc d40_93 ci_1 <| zi (P' := [vr a, vi i1, vi (gA ob 28 i1), vi (gA ob 29 i1), vi (gA ob 31 (gA ob 28 i1)), vi (gA ob 31 (gA ob 29 i1)), vi ((r14 ||| r16) ||| r18), vi (1 : Int32), vi v20]) d40_94 (by decide) rfl <| zp [true, true, true, true, true, false, false, true, true] rfl <| X_pruneJoinInputs_b96_p ob i1 (gA ob 28 i1) (gA ob 29 i1) (gA ob 31 (gA ob 28 i1)) (1 : Int32) v20 hf
  · exact zk (pc' := 96) d40_90 (feq hc21).2 (by decide) <| zp [true, true, true, true, true, false, false, true, true] rfl <| X_pruneJoinInputs_b96_p ob i1 (gA ob 28 i1) (gA ob 29 i1) (gA ob 31 (gA ob 28 i1)) (((r14 ||| r16) ||| r18) &&& (((1 : Int32) <<< ((gA ob 31 (gA ob 28 i1)) &&& 31)) - (1 : Int32))) v20 hf
theorem X_pruneJoinInputs_pay {C : Ctx} {top : Nat} {a : Nat} {H : List (Nat × Nat × Rec)} {res : Rec} {NF : Nat} {ob : Rec} {i1 : Int32} (hf : X_pruneJoinInputs NF ob i1 = some res) : Pays C B40 [.ref a, .int i1] (top, (a, 45, ob) :: H) (Ans none (top, (a, 45, res) :: H)) :=
  Pays.of pnK (Nat.le_of_ble_eq_true rfl) (P := [vr a, vi i1, vn, vn, vn, vn, vn, vn, vn]) 7 rfl (X_pruneJoinInputs_p ob i1 hf)
def X_pruneAll_w18 (NF : Nat) (k18 : Rec → Int32 → Option (Rec)) (ob : Rec) (i2 : Int32) : Option (Rec) :=
  if i2 < (0 : Int32) then
    some ob
  else
    chk (16 : Int32) i2 <|
    (X_compactMap NF ob i2 (gA ob 33 i2)).bind fun q3 =>
    chk (16 : Int32) i2 <|
    if (gA q3 26 i2) = (1 : Int32) then
      (X_pruneJoinInputs NF q3 i2).bind fun q7 =>
      k18 q7 (i2 + (-1 : Int32))
    else
      k18 q3 (i2 + (-1 : Int32))
def X_pruneAll_l18 (NF : Nat) : Nat → Rec → Int32 → Option (Rec)
  | 0, _, _ => none
  | n + 1, ob, i2 => X_pruneAll_w18 NF (X_pruneAll_l18 NF n) ob i2
theorem X_pruneAll_w18_p {C : Ctx} {top : Nat} {a : Nat} {H : List (Nat × Nat × Rec)} {res : Rec} {NF : Nat} (k18 : Rec → Int32 → Option (Rec)) (hk18 : ∀ (ob : Rec) (i2 : Int32), k18 ob i2 = some res → Runs C B38 0 0 18 [vr a, vn, vi i2] [] (top, (a, 45, ob) :: H) (Ans none (top, (a, 45, res) :: H))) (ob : Rec) (i2 : Int32) (hf : X_pruneAll_w18 NF k18 ob i2 = some res) : Runs C B38 0 0 18 [vr a, vn, vi i2] [] (top, (a, 45, ob) :: H) (Ans none (top, (a, 45, res) :: H)) := by
  delta X_pruneAll_w18 at hf
  refine za d38_18 rfl <| ?_
  refine ite_el hf (fun hc1 hf => ?_) (fun hc1 hf => ?_)
  · refine zk (pc' := 54) d38_19 (tlt hc1).1 (by decide) <| ?_
    obtain rfl := Option.some.inj hf
    exact zt d38_54 rfl ⟨by decide, by decide⟩ ⟨rfl, rfl⟩
  · refine zl d38_19 (flt hc1).1 <| ?_
    refine zb d38_22 rfl <| za d38_23 rfl <| zb d38_24 rfl <| ze d38_25 fA_33 w91 (by decide) <| za d38_28 rfl <| ?_
    refine chk_el hf fun hi2 hf => ?_
    refine zh d38_29 fA_33 (by decide) hi2 <| ?_
    refine bind_el hf fun q3 hg4 hf => ?_
    refine zm (N := B39) (W := 0) (as := [.int i2, .int (gA ob 33 i2)]) (S' := []) d38_30 w290 w291 w292 rfl cw39 ar39 rk38_39_0 (by decide) rfl rfl (X_compactMap_pay hg4) <| ans0 <| zb d38_33 rfl <| ze d38_34 fA_26 w77 (by decide) <| za d38_37 rfl <| ?_
    refine chk_el hf fun hi5 hf => ?_
    refine zh d38_38 fA_26 (by decide) hi5 <| zc d38_39 ci_1 <| ?_
    refine ite_el hf (fun hc6 hf => ?_) (fun hc6 hf => ?_)
    · refine zg d38_40 (teq hc6).2 <| ?_
      refine zb d38_43 rfl <| za d38_44 rfl <| ?_
      refine bind_el hf fun q7 hg8 hf => ?_
      exact zm (N := B40) (W := 0) (as := [.int i2]) (S' := []) d38_45 w294 w295 w296 rfl cw40 ar40 rk38_40_0 (by decide) rfl rfl (X_pruneJoinInputs_pay hg8) <| ans0 <| zv (P' := [vr a, vn, vi (i2 + (-1 : Int32))]) d38_48 ci_m1 rfl (by decide) rfl <| zo (pc' := 18) d38_51 (by decide) <| hk18 q7 (i2 + (-1 : Int32)) hf
    · refine zf (pc' := 48) d38_40 (feq hc6).2 (by decide) <| ?_
      exact zv (P' := [vr a, vn, vi (i2 + (-1 : Int32))]) d38_48 ci_m1 rfl (by decide) rfl <| zo (pc' := 18) d38_51 (by decide) <| hk18 q3 (i2 + (-1 : Int32)) hf
theorem X_pruneAll_l18_p {C : Ctx} {top : Nat} {a : Nat} {H : List (Nat × Nat × Rec)} {res : Rec} {NF : Nat} (n : Nat) (ob : Rec) (i2 : Int32) (hf : X_pruneAll_l18 NF n ob i2 = some res) : Runs C B38 0 0 18 [vr a, vn, vi i2] [] (top, (a, 45, ob) :: H) (Ans none (top, (a, 45, res) :: H)) := by
  induction n generalizing ob i2 with
  | zero => cases (show (none : Option (Rec)) = some res from hf)
  | succ n ih => exact X_pruneAll_w18_p (X_pruneAll_l18 NF n) (fun ob i2 h => ih _ _ h) ob i2 hf
def X_pruneAll (NF : Nat) (ob : Rec) (i1 : Int32) : Option (Rec) :=
  chk (16 : Int32) i1 <|
  chk (16 : Int32) i1 <|
  X_pruneAll_l18 NF NF (sA ob 33 i1 (((1 : Int32) <<< ((gA ob 31 i1) &&& 31)) - (1 : Int32))) i1
theorem X_pruneAll_p {C : Ctx} {top : Nat} {a : Nat} {H : List (Nat × Nat × Rec)} {res : Rec} {NF : Nat} (ob : Rec) (i1 : Int32) (hf : X_pruneAll NF ob i1 = some res) : Runs C B38 0 0 0 [vr a, vi i1, vn] [] (top, (a, 45, ob) :: H) (Ans none (top, (a, 45, res) :: H)) := by
  delta X_pruneAll at hf
  refine zb d38_0 rfl <| ze d38_1 fA_33 w91 (by decide) <| za d38_4 rfl <| zc d38_5 ci_1 <| zb d38_6 rfl <| ze d38_7 fA_31 w87 (by decide) <| za d38_10 rfl <| ?_
  refine chk_el hf fun hi9 hf => ?_
  refine zh d38_11 fA_31 (by decide) hi9 <| Runs.ishl d38_12 <| zc d38_13 ci_1 <| Runs.isub d38_14 <| ?_
  refine chk_el hf fun hi10 hf => ?_
  exact zq d38_15 fA_33 (by decide) hi10 <| za d38_16 rfl <| zr (P' := [vr a, vi i1, vi i1]) d38_17 (by decide) rfl <| zp [true, false, true] rfl <| X_pruneAll_l18_p NF (sA ob 33 i1 (((1 : Int32) <<< ((gA ob 31 i1) &&& 31)) - (1 : Int32))) i1 hf
theorem X_pruneAll_pay {C : Ctx} {top : Nat} {a : Nat} {H : List (Nat × Nat × Rec)} {res : Rec} {NF : Nat} {ob : Rec} {i1 : Int32} (hf : X_pruneAll NF ob i1 = some res) : Pays C B38 [.ref a, .int i1] (top, (a, 45, ob) :: H) (Ans none (top, (a, 45, res) :: H)) :=
  Pays.of pnK (Nat.le_of_ble_eq_true rfl) (P := [vr a, vi i1, vn]) 1 rfl (X_pruneAll_p ob i1 hf)
def X_loadTableRow_w12 (NF : Nat) (k12 : Rec → Int32 → Int32 → Option (Rec)) (ob : Rec) (i3 : Int32) (i4 : Int32) : Option (Rec) :=
  if i4 < (3 : Int32) then
    chk (96 : Int32) (i3 + i4) <|
    chk (16 : Int32) i4 <|
    k12 (sA ob 24 i4 (gA ob 2 (i3 + i4))) i3 (i4 + (1 : Int32))
  else
    some ob
def X_loadTableRow_l12 (NF : Nat) : Nat → Rec → Int32 → Int32 → Option (Rec)
  | 0, _, _, _ => none
  | n + 1, ob, i3, i4 => X_loadTableRow_w12 NF (X_loadTableRow_l12 NF n) ob i3 i4
theorem X_loadTableRow_w12_p {C : Ctx} {top : Nat} {a : Nat} {H : List (Nat × Nat × Rec)} {res : Rec} {NF : Nat} (k12 : Rec → Int32 → Int32 → Option (Rec)) (hk12 : ∀ (ob : Rec) (i3 : Int32) (i4 : Int32), k12 ob i3 i4 = some res → Runs C B49 0 0 12 [vr a, vn, vn, vi i3, vi i4] [] (top, (a, 45, ob) :: H) (Ans none (top, (a, 45, res) :: H))) (ob : Rec) (i3 : Int32) (i4 : Int32) (hf : X_loadTableRow_w12 NF k12 ob i3 i4 = some res) : Runs C B49 0 0 12 [vr a, vn, vn, vi i3, vi i4] [] (top, (a, 45, ob) :: H) (Ans none (top, (a, 45, res) :: H)) := by
  delta X_loadTableRow_w12 at hf
  refine zd d49_12 rfl <| zc d49_14 ci_3 <| ?_
  refine ite_el hf (fun hc1 hf => ?_) (fun hc1 hf => ?_)
  · refine zg d49_15 (tlt hc1).2.1 <| ?_
    refine zb d49_18 rfl <| ze d49_19 fA_24 w73 (by decide) <| zd d49_22 rfl <| zb d49_24 rfl <| ze d49_25 fA_2 w28 (by decide) <| za d49_28 rfl <| zd d49_29 rfl <| zu d49_31 <| ?_
    refine chk_el hf fun hi2 hf => ?_
    refine zh d49_32 fA_2 (by decide) hi2 <| ?_
    refine chk_el hf fun hi3 hf => ?_
    exact zq d49_33 fA_24 (by decide) hi3 <| zv (P' := [vr a, vn, vn, vi i3, vi (i4 + (1 : Int32))]) d49_34 ci_1 rfl (by decide) rfl <| zo (pc' := 12) d49_37 (by decide) <| hk12 (sA ob 24 i4 (gA ob 2 (i3 + i4))) i3 (i4 + (1 : Int32)) hf
  · refine zf (pc' := 40) d49_15 (flt hc1).2.1 (by decide) <| ?_
    obtain rfl := Option.some.inj hf
    exact zt d49_40 rfl ⟨by decide, by decide⟩ ⟨rfl, rfl⟩
theorem X_loadTableRow_l12_p {C : Ctx} {top : Nat} {a : Nat} {H : List (Nat × Nat × Rec)} {res : Rec} {NF : Nat} (n : Nat) (ob : Rec) (i3 : Int32) (i4 : Int32) (hf : X_loadTableRow_l12 NF n ob i3 i4 = some res) : Runs C B49 0 0 12 [vr a, vn, vn, vi i3, vi i4] [] (top, (a, 45, ob) :: H) (Ans none (top, (a, 45, res) :: H)) := by
  induction n generalizing ob i3 i4 with
  | zero => cases (show (none : Option (Rec)) = some res from hf)
  | succ n ih => exact X_loadTableRow_w12_p (X_loadTableRow_l12 NF n) (fun ob i3 i4 h => ih _ _ _ h) ob i3 i4 hf
def X_loadTableRow (NF : Nat) (ob : Rec) (i1 : Int32) (i2 : Int32) : Option (Rec) :=
  X_loadTableRow_l12 NF NF ob ((i1 * (24 : Int32)) + (i2 * (3 : Int32))) (0 : Int32)
theorem X_loadTableRow_p {C : Ctx} {top : Nat} {a : Nat} {H : List (Nat × Nat × Rec)} {res : Rec} {NF : Nat} (ob : Rec) (i1 : Int32) (i2 : Int32) (hf : X_loadTableRow NF ob i1 i2 = some res) : Runs C B49 0 0 0 [vr a, vi i1, vi i2, vn, vn] [] (top, (a, 45, ob) :: H) (Ans none (top, (a, 45, res) :: H)) := by
  delta X_loadTableRow at hf
  exact za d49_0 rfl <| zj d49_1 cb_24 <| zy d49_3 <| za d49_4 rfl <| zc d49_5 ci_3 <| zy d49_6 <| zu d49_7 <| zr (P' := [vr a, vi i1, vi i2, vi ((i1 * (24 : Int32)) + (i2 * (3 : Int32))), vn]) d49_8 (by decide) rfl <| zc d49_9 ci_0 <| zi (P' := [vr a, vi i1, vi i2, vi ((i1 * (24 : Int32)) + (i2 * (3 : Int32))), vi (0 : Int32)]) d49_10 (by decide) rfl <| zp [true, false, false, true, true] rfl <| X_loadTableRow_l12_p NF ob ((i1 * (24 : Int32)) + (i2 * (3 : Int32))) (0 : Int32) hf
theorem X_loadTableRow_pay {C : Ctx} {top : Nat} {a : Nat} {H : List (Nat × Nat × Rec)} {res : Rec} {NF : Nat} {ob : Rec} {i1 : Int32} {i2 : Int32} (hf : X_loadTableRow NF ob i1 i2 = some res) : Pays C B49 [.ref a, .int i1, .int i2] (top, (a, 45, ob) :: H) (Ans none (top, (a, 45, res) :: H)) :=
  Pays.of pnK (Nat.le_of_ble_eq_true rfl) (P := [vr a, vi i1, vi i2, vn, vn]) 2 rfl (X_loadTableRow_p ob i1 i2 hf)
def X_listHolds_w9 (NF : Nat) (ob : Rec) (k9 : Int32 → Int32 → Option (Int32)) (i2 : Int32) (i3 : Int32) : Option (Int32) :=
  if i3 < (512 : Int32) then
    if i2 < (0 : Int32) then
      some (1 : Int32)
    else
      if i2 < (512 : Int32) then
        chk (512 : Int32) i2 <|
        chk (512 : Int32) i2 <|
        chk (512 : Int32) i2 <|
        chk (512 : Int32) i2 <|
        (X_evalAtom ob (gA ob 36 i2) (gA ob 37 i2) (gA ob 38 i2) (gA ob 39 i2)).bind fun r8 =>
        if r8 = (0 : Int32) then
          some (0 : Int32)
        else
          chk (512 : Int32) i2 <|
          k9 (gA ob 40 i2) (i3 + (1 : Int32))
      else
        some (1 : Int32)
  else
    some (1 : Int32)
def X_listHolds_l9 (NF : Nat) (ob : Rec) : Nat → Int32 → Int32 → Option (Int32)
  | 0, _, _ => none
  | n + 1, i2, i3 => X_listHolds_w9 NF ob (X_listHolds_l9 NF ob n) i2 i3
theorem X_listHolds_w9_p {C : Ctx} {top : Nat} {a : Nat} {H : List (Nat × Nat × Rec)} {ob : Rec} {res : Int32} {NF : Nat} (k9 : Int32 → Int32 → Option (Int32)) (hk9 : ∀ (i2 : Int32) (i3 : Int32), k9 i2 i3 = some res → Runs C B50 0 0 9 [vr a, vn, vi i2, vi i3] [] (top, (a, 45, ob) :: H) (Ans (some (.int res)) (top, (a, 45, ob) :: H))) (i2 : Int32) (i3 : Int32) (hf : X_listHolds_w9 NF ob k9 i2 i3 = some res) : Runs C B50 0 0 9 [vr a, vn, vi i2, vi i3] [] (top, (a, 45, ob) :: H) (Ans (some (.int res)) (top, (a, 45, ob) :: H)) := by
  delta X_listHolds_w9 at hf
  refine za d50_9 rfl <| zC d50_10 cs_512 <| ?_
  refine ite_el hf (fun hc1 hf => ?_) (fun hc1 hf => ?_)
  · refine zg d50_13 (tlt hc1).2.1 <| ?_
    refine za d50_16 rfl <| ?_
    refine ite_el hf (fun hc2 hf => ?_) (fun hc2 hf => ?_)
    · refine zk (pc' := 73) d50_17 (tlt hc2).1 (by decide) <| ?_
      obtain rfl := Option.some.inj hf
      exact zc d50_73 ci_1 <| zw (y := (1 : Int32)) d50_74 rfl ⟨by decide, by decide⟩ rfl ⟨rfl, rfl⟩
    · refine zl d50_17 (flt hc2).1 <| ?_
      refine za d50_20 rfl <| zC d50_21 cs_512 <| ?_
      refine ite_el hf (fun hc3 hf => ?_) (fun hc3 hf => ?_)
      · refine zg d50_24 (tlt hc3).2.1 <| ?_
        refine zb d50_27 rfl <| zb d50_28 rfl <| ze d50_29 fA_36 w97 (by decide) <| za d50_32 rfl <| ?_
        refine chk_el hf fun hi4 hf => ?_
        refine zh d50_33 fA_36 (by decide) hi4 <| zb d50_34 rfl <| ze d50_35 fA_37 w99 (by decide) <| za d50_38 rfl <| ?_
        refine chk_el hf fun hi5 hf => ?_
        refine zh d50_39 fA_37 (by decide) hi5 <| zb d50_40 rfl <| ze d50_41 fA_38 w101 (by decide) <| za d50_44 rfl <| ?_
        refine chk_el hf fun hi6 hf => ?_
        refine zh d50_45 fA_38 (by decide) hi6 <| zb d50_46 rfl <| ze d50_47 fA_39 w103 (by decide) <| za d50_50 rfl <| ?_
        refine chk_el hf fun hi7 hf => ?_
        refine zh d50_51 fA_39 (by decide) hi7 <| ?_
        refine bind_el hf fun r8 hg9 hf => ?_
        refine zm (N := B51) (W := 0) (as := [.int (gA ob 36 i2), .int (gA ob 37 i2), .int (gA ob 38 i2), .int (gA ob 39 i2)]) (S' := []) d50_52 w338 w339 w340 rfl cw51 ar51 rk50_51_0 (by decide) rfl rfl (X_evalAtom_pay hg9) <| ans1 <| ?_
        refine ite_el hf (fun hc10 hf => ?_) (fun hc10 hf => ?_)
        · refine zl d50_55 (teq hc10).2 <| ?_
          obtain rfl := Option.some.inj hf
          exact zc d50_58 ci_0 <| zw (y := (0 : Int32)) d50_59 rfl ⟨by decide, by decide⟩ rfl ⟨rfl, rfl⟩
        · refine zk (pc' := 60) d50_55 (feq hc10).2 (by decide) <| ?_
          refine zb d50_60 rfl <| ze d50_61 fA_40 w105 (by decide) <| za d50_64 rfl <| ?_
          refine chk_el hf fun hi11 hf => ?_
          exact zh d50_65 fA_40 (by decide) hi11 <| zr (P' := [vr a, vn, vi (gA ob 40 i2), vi i3]) d50_66 (by decide) rfl <| zv (P' := [vr a, vn, vi (gA ob 40 i2), vi (i3 + (1 : Int32))]) d50_67 ci_1 rfl (by decide) rfl <| zo (pc' := 9) d50_70 (by decide) <| hk9 (gA ob 40 i2) (i3 + (1 : Int32)) hf
      · refine zf (pc' := 73) d50_24 (flt hc3).2.1 (by decide) <| ?_
        obtain rfl := Option.some.inj hf
        exact zc d50_73 ci_1 <| zw (y := (1 : Int32)) d50_74 rfl ⟨by decide, by decide⟩ rfl ⟨rfl, rfl⟩
  · refine zf (pc' := 73) d50_13 (flt hc1).2.1 (by decide) <| ?_
    obtain rfl := Option.some.inj hf
    exact zc d50_73 ci_1 <| zw (y := (1 : Int32)) d50_74 rfl ⟨by decide, by decide⟩ rfl ⟨rfl, rfl⟩
theorem X_listHolds_l9_p {C : Ctx} {top : Nat} {a : Nat} {H : List (Nat × Nat × Rec)} {ob : Rec} {res : Int32} {NF : Nat} (n : Nat) (i2 : Int32) (i3 : Int32) (hf : X_listHolds_l9 NF ob n i2 i3 = some res) : Runs C B50 0 0 9 [vr a, vn, vi i2, vi i3] [] (top, (a, 45, ob) :: H) (Ans (some (.int res)) (top, (a, 45, ob) :: H)) := by
  induction n generalizing i2 i3 with
  | zero => cases (show (none : Option (Int32)) = some res from hf)
  | succ n ih => exact X_listHolds_w9_p (X_listHolds_l9 NF ob n) (fun i2 i3 h => ih _ _ h) i2 i3 hf
def X_listHolds (NF : Nat) (ob : Rec) (i1 : Int32) : Option (Int32) :=
  chk (32 : Int32) i1 <|
  X_listHolds_l9 NF ob NF (gA ob 35 i1) (0 : Int32)
theorem X_listHolds_p {C : Ctx} {top : Nat} {a : Nat} {H : List (Nat × Nat × Rec)} {ob : Rec} {res : Int32} {NF : Nat} (i1 : Int32) (hf : X_listHolds NF ob i1 = some res) : Runs C B50 0 0 0 [vr a, vi i1, vn, vn] [] (top, (a, 45, ob) :: H) (Ans (some (.int res)) (top, (a, 45, ob) :: H)) := by
  delta X_listHolds at hf
  refine zb d50_0 rfl <| ze d50_1 fA_35 w95 (by decide) <| za d50_4 rfl <| ?_
  refine chk_el hf fun hi12 hf => ?_
  exact zh d50_5 fA_35 (by decide) hi12 <| zr (P' := [vr a, vi i1, vi (gA ob 35 i1), vn]) d50_6 (by decide) rfl <| zc d50_7 ci_0 <| zr (P' := [vr a, vi i1, vi (gA ob 35 i1), vi (0 : Int32)]) d50_8 (by decide) rfl <| zp [true, false, true, true] rfl <| X_listHolds_l9_p NF (gA ob 35 i1) (0 : Int32) hf
theorem X_listHolds_pay {C : Ctx} {top : Nat} {a : Nat} {H : List (Nat × Nat × Rec)} {ob : Rec} {res : Int32} {NF : Nat} {i1 : Int32} (hf : X_listHolds NF ob i1 = some res) : Pays C B50 [.ref a, .int i1] (top, (a, 45, ob) :: H) (Ans (some (.int res)) (top, (a, 45, ob) :: H)) :=
  Pays.of pnK (Nat.le_of_ble_eq_true rfl) (P := [vr a, vi i1, vn, vn]) 2 rfl (X_listHolds_p i1 hf)
def X_emitMapped_w22 (NF : Nat) (k22 : Rec → Int32 → Int32 → Int32 → Int32 → Option (Int32 × Rec)) (ob : Rec) (i1 : Int32) (i2 : Int32) (i3 : Int32) (i4 : Int32) : Option (Int32 × Rec) :=
  chk (16 : Int32) i1 <|
  if i4 < (gA ob 31 i1) then
    if i4 < (8 : Int32) then
      chk (128 : Int32) ((i1 * (8 : Int32)) + i4) <|
      (X_cell ob (gA ob 32 ((i1 * (8 : Int32)) + i4))).bind fun r5 =>
      chk (16384 : Int32) (i3 + i4) <|
      k22 (sA ob 22 (i3 + i4) r5) i1 i2 i3 (i4 + (1 : Int32))
    else
      some ((i2 + (1 : Int32)), ob)
  else
    some ((i2 + (1 : Int32)), ob)
def X_emitMapped_l22 (NF : Nat) : Nat → Rec → Int32 → Int32 → Int32 → Int32 → Option (Int32 × Rec)
  | 0, _, _, _, _, _ => none
  | n + 1, ob, i1, i2, i3, i4 => X_emitMapped_w22 NF (X_emitMapped_l22 NF n) ob i1 i2 i3 i4
theorem X_emitMapped_w22_p {C : Ctx} {top : Nat} {a : Nat} {H : List (Nat × Nat × Rec)} {res : Int32 × Rec} {NF : Nat} (k22 : Rec → Int32 → Int32 → Int32 → Int32 → Option (Int32 × Rec)) (hk22 : ∀ (ob : Rec) (i1 : Int32) (i2 : Int32) (i3 : Int32) (i4 : Int32), k22 ob i1 i2 i3 i4 = some res → Runs C B54 0 0 22 [vr a, vi i1, vi i2, vi i3, vi i4] [] (top, (a, 45, ob) :: H) (Ans (some (.int res.1)) (top, (a, 45, res.2) :: H))) (ob : Rec) (i1 : Int32) (i2 : Int32) (i3 : Int32) (i4 : Int32) (hf : X_emitMapped_w22 NF k22 ob i1 i2 i3 i4 = some res) : Runs C B54 0 0 22 [vr a, vi i1, vi i2, vi i3, vi i4] [] (top, (a, 45, ob) :: H) (Ans (some (.int res.1)) (top, (a, 45, res.2) :: H)) := by
  delta X_emitMapped_w22 at hf
  refine zd d54_22 rfl <| zb d54_24 rfl <| ze d54_25 fA_31 w87 (by decide) <| za d54_28 rfl <| ?_
  refine chk_el hf fun hi1 hf => ?_
  refine zh d54_29 fA_31 (by decide) hi1 <| ?_
  refine ite_el hf (fun hc2 hf => ?_) (fun hc2 hf => ?_)
  · refine zg d54_30 (tlt hc2).2.1 <| ?_
    refine zd d54_33 rfl <| zj d54_35 cb_8 <| ?_
    refine ite_el hf (fun hc3 hf => ?_) (fun hc3 hf => ?_)
    · refine zg d54_37 (tlt hc3).2.1 <| ?_
      refine zb d54_40 rfl <| ze d54_41 fA_22 w69 (by decide) <| za d54_44 rfl <| zd d54_45 rfl <| zu d54_47 <| zb d54_48 rfl <| zb d54_49 rfl <| ze d54_50 fA_32 w89 (by decide) <| za d54_53 rfl <| zj d54_54 cb_8 <| zy d54_56 <| zd d54_57 rfl <| ?_
      refine zu d54_59 <| ?_
      refine chk_el hf fun hi4 hf => ?_
      refine zh d54_60 fA_32 (by decide) hi4 <| ?_
      refine bind_el hf fun r5 hg6 hf => ?_
      refine zm (N := B52) (W := 2) (as := [.int (gA ob 32 ((i1 * (8 : Int32)) + i4))]) (S' := [.int (i3 + i4), .ref (a + 1 + 22)]) d54_61 w342 w343 w344 rfl cw52 ar52 rk54_52_2 (by decide) rfl rfl (X_cell_pay hg6) <| ans1 <| ?_
      refine chk_el hf fun hi7 hf => ?_
      exact zq d54_64 fA_22 (by decide) hi7 <| zv (P' := [vr a, vi i1, vi i2, vi i3, vi (i4 + (1 : Int32))]) d54_65 ci_1 rfl (by decide) rfl <| zo (pc' := 22) d54_68 (by decide) <| hk22 (sA ob 22 (i3 + i4) r5) i1 i2 i3 (i4 + (1 : Int32)) hf
    · refine zf (pc' := 71) d54_37 (flt hc3).2.1 (by decide) <| ?_
      obtain rfl := Option.some.inj hf
      exact za d54_71 rfl <| zc d54_72 ci_1 <| zu d54_73 <| zn d54_74 rfl ⟨by decide, by decide⟩ ⟨rfl, rfl⟩
  · refine zf (pc' := 71) d54_30 (flt hc2).2.1 (by decide) <| ?_
    obtain rfl := Option.some.inj hf
    exact za d54_71 rfl <| zc d54_72 ci_1 <| zu d54_73 <| zn d54_74 rfl ⟨by decide, by decide⟩ ⟨rfl, rfl⟩
theorem X_emitMapped_l22_p {C : Ctx} {top : Nat} {a : Nat} {H : List (Nat × Nat × Rec)} {res : Int32 × Rec} {NF : Nat} (n : Nat) (ob : Rec) (i1 : Int32) (i2 : Int32) (i3 : Int32) (i4 : Int32) (hf : X_emitMapped_l22 NF n ob i1 i2 i3 i4 = some res) : Runs C B54 0 0 22 [vr a, vi i1, vi i2, vi i3, vi i4] [] (top, (a, 45, ob) :: H) (Ans (some (.int res.1)) (top, (a, 45, res.2) :: H)) := by
  induction n generalizing ob i1 i2 i3 i4 with
  | zero => cases (show (none : Option (Int32 × Rec)) = some res from hf)
  | succ n ih => exact X_emitMapped_w22_p (X_emitMapped_l22 NF n) (fun ob i1 i2 i3 i4 h => ih _ _ _ _ _ h) ob i1 i2 i3 i4 hf
def X_emitMapped (NF : Nat) (ob : Rec) (i1 : Int32) (i2 : Int32) : Option (Int32 × Rec) :=
  if i2 < (64 : Int32) then
    X_emitMapped_l22 NF NF ob i1 i2 ((i1 * (512 : Int32)) + (i2 * (8 : Int32))) (0 : Int32)
  else
    some (i2, ob)
theorem X_emitMapped_p {C : Ctx} {top : Nat} {a : Nat} {H : List (Nat × Nat × Rec)} {res : Int32 × Rec} {NF : Nat} (ob : Rec) (i1 : Int32) (i2 : Int32) (hf : X_emitMapped NF ob i1 i2 = some res) : Runs C B54 0 0 0 [vr a, vi i1, vi i2, vn, vn] [] (top, (a, 45, ob) :: H) (Ans (some (.int res.1)) (top, (a, 45, res.2) :: H)) := by
  delta X_emitMapped at hf
  refine za d54_0 rfl <| zj d54_1 cb_64 <| ?_
  refine ite_el hf (fun hc8 hf => ?_) (fun hc8 hf => ?_)
  · refine zf (pc' := 8) d54_3 (tlt hc8).1 (by decide) <| ?_
    exact za d54_8 rfl <| zC d54_9 cs_512 <| zy d54_12 <| za d54_13 rfl <| zj d54_14 cb_8 <| zy d54_16 <| zu d54_17 <| zr (P' := [vr a, vi i1, vi i2, vi ((i1 * (512 : Int32)) + (i2 * (8 : Int32))), vn]) d54_18 (by decide) rfl <| zc d54_19 ci_0 <| zi (P' := [vr a, vi i1, vi i2, vi ((i1 * (512 : Int32)) + (i2 * (8 : Int32))), vi (0 : Int32)]) d54_20 (by decide) rfl <| X_emitMapped_l22_p NF ob i1 i2 ((i1 * (512 : Int32)) + (i2 * (8 : Int32))) (0 : Int32) hf
  · refine zg d54_3 (flt hc8).1 <| ?_
    obtain rfl := Option.some.inj hf
    exact za d54_6 rfl <| zn d54_7 rfl ⟨by decide, by decide⟩ ⟨rfl, rfl⟩
theorem X_emitMapped_pay {C : Ctx} {top : Nat} {a : Nat} {H : List (Nat × Nat × Rec)} {res : Int32 × Rec} {NF : Nat} {ob : Rec} {i1 : Int32} {i2 : Int32} (hf : X_emitMapped NF ob i1 i2 = some res) : Pays C B54 [.ref a, .int i1, .int i2] (top, (a, 45, ob) :: H) (Ans (some (.int res.1)) (top, (a, 45, res.2) :: H)) :=
  Pays.of pnK (Nat.le_of_ble_eq_true rfl) (P := [vr a, vi i1, vi i2, vn, vn]) 2 rfl (X_emitMapped_p ob i1 i2 hf)
def X_evalPlanScan_w14 (NF : Nat) (k14 : Rec → Int32 → Int32 → Int32 → Int32 → Option (Rec)) (ob : Rec) (i1 : Int32) (i2 : Int32) (i3 : Int32) (i4 : Int32) : Option (Rec) :=
  chk (4 : Int32) i2 <|
  if i4 < (gA ob 1 i2) then
    if i4 < (8 : Int32) then
      (X_loadTableRow NF ob i2 i4).bind fun q4 =>
      (X_listHolds NF q4 ((2 : Int32) * i1)).bind fun r6 =>
      if r6 = (0 : Int32) then
        k14 q4 i1 i2 i3 (i4 + (1 : Int32))
      else
        bind2 (X_emitMapped NF q4 i1 i3) fun r9 q10 =>
        k14 q10 i1 i2 r9 (i4 + (1 : Int32))
    else
      chk (32 : Int32) i1 <|
      some (sA ob 23 i1 i3)
  else
    chk (32 : Int32) i1 <|
    some (sA ob 23 i1 i3)
def X_evalPlanScan_l14 (NF : Nat) : Nat → Rec → Int32 → Int32 → Int32 → Int32 → Option (Rec)
  | 0, _, _, _, _, _ => none
  | n + 1, ob, i1, i2, i3, i4 => X_evalPlanScan_w14 NF (X_evalPlanScan_l14 NF n) ob i1 i2 i3 i4
theorem X_evalPlanScan_w14_p {C : Ctx} {top : Nat} {a : Nat} {H : List (Nat × Nat × Rec)} {res : Rec} {NF : Nat} (k14 : Rec → Int32 → Int32 → Int32 → Int32 → Option (Rec)) (hk14 : ∀ (ob : Rec) (i1 : Int32) (i2 : Int32) (i3 : Int32) (i4 : Int32), k14 ob i1 i2 i3 i4 = some res → Runs C B48 0 0 14 [vr a, vi i1, vi i2, vi i3, vi i4] [] (top, (a, 45, ob) :: H) (Ans none (top, (a, 45, res) :: H))) (ob : Rec) (i1 : Int32) (i2 : Int32) (i3 : Int32) (i4 : Int32) (hf : X_evalPlanScan_w14 NF k14 ob i1 i2 i3 i4 = some res) : Runs C B48 0 0 14 [vr a, vi i1, vi i2, vi i3, vi i4] [] (top, (a, 45, ob) :: H) (Ans none (top, (a, 45, res) :: H)) := by
  delta X_evalPlanScan_w14 at hf
  refine zd d48_14 rfl <| zb d48_16 rfl <| ze d48_17 fA_1 w26 (by decide) <| za d48_20 rfl <| ?_
  refine chk_el hf fun hi1 hf => ?_
  refine zh d48_21 fA_1 (by decide) hi1 <| ?_
  refine ite_el hf (fun hc2 hf => ?_) (fun hc2 hf => ?_)
  · refine zg d48_22 (tlt hc2).2.1 <| ?_
    refine zd d48_25 rfl <| zj d48_27 cb_8 <| ?_
    refine ite_el hf (fun hc3 hf => ?_) (fun hc3 hf => ?_)
    · refine zg d48_29 (tlt hc3).2.1 <| ?_
      refine zb d48_32 rfl <| za d48_33 rfl <| zd d48_34 rfl <| ?_
      refine bind_el hf fun q4 hg5 hf => ?_
      refine zm (N := B49) (W := 0) (as := [.int i2, .int i4]) (S' := []) d48_36 w330 w331 w332 rfl cw49 ar49 rk48_49_0 (by decide) rfl rfl (X_loadTableRow_pay hg5) <| ans0 <| zb d48_39 rfl <| zc d48_40 ci_2 <| za d48_41 rfl <| zy d48_42 <| ?_
      refine bind_el hf fun r6 hg7 hf => ?_
      refine zm (N := B50) (W := 0) (as := [.int ((2 : Int32) * i1)]) (S' := []) d48_43 w334 w335 w336 rfl cw50 ar50 rk48_50_0 (by decide) rfl rfl (X_listHolds_pay hg7) <| ans1 <| ?_
      refine ite_el hf (fun hc8 hf => ?_) (fun hc8 hf => ?_)
      · refine zk (pc' := 56) d48_46 (teq hc8).1 (by decide) <| ?_
        exact zv (P' := [vr a, vi i1, vi i2, vi i3, vi (i4 + (1 : Int32))]) d48_56 ci_1 rfl (by decide) rfl <| zo (pc' := 14) d48_59 (by decide) <| hk14 q4 i1 i2 i3 (i4 + (1 : Int32)) hf
      · refine zl d48_46 (feq hc8).1 <| ?_
        refine zb d48_49 rfl <| za d48_50 rfl <| za d48_51 rfl <| ?_
        refine bind2_el hf fun r9 q10 hg11 hf => ?_
        exact zm (N := B54) (W := 0) (as := [.int i1, .int i3]) (S' := []) d48_52 w351 w352 w353 rfl cw54 ar54 rk48_54_0 (by decide) rfl rfl (X_emitMapped_pay hg11) <| ans1 <| zr (P' := [vr a, vi i1, vi i2, vi r9, vi i4]) d48_55 (by decide) rfl <| zv (P' := [vr a, vi i1, vi i2, vi r9, vi (i4 + (1 : Int32))]) d48_56 ci_1 rfl (by decide) rfl <| zo (pc' := 14) d48_59 (by decide) <| hk14 q10 i1 i2 r9 (i4 + (1 : Int32)) hf
    · refine zf (pc' := 62) d48_29 (flt hc3).2.1 (by decide) <| ?_
      refine zb d48_62 rfl <| ze d48_63 fA_23 w71 (by decide) <| za d48_66 rfl <| za d48_67 rfl <| ?_
      refine chk_el hf fun hi12 hf => ?_
      obtain rfl := Option.some.inj hf
      exact zq d48_68 fA_23 (by decide) hi12 <| zt d48_69 rfl ⟨by decide, by decide⟩ ⟨rfl, rfl⟩
  · refine zf (pc' := 62) d48_22 (flt hc2).2.1 (by decide) <| ?_
    refine zb d48_62 rfl <| ze d48_63 fA_23 w71 (by decide) <| za d48_66 rfl <| za d48_67 rfl <| ?_
    refine chk_el hf fun hi13 hf => ?_
    obtain rfl := Option.some.inj hf
    exact zq d48_68 fA_23 (by decide) hi13 <| zt d48_69 rfl ⟨by decide, by decide⟩ ⟨rfl, rfl⟩
theorem X_evalPlanScan_l14_p {C : Ctx} {top : Nat} {a : Nat} {H : List (Nat × Nat × Rec)} {res : Rec} {NF : Nat} (n : Nat) (ob : Rec) (i1 : Int32) (i2 : Int32) (i3 : Int32) (i4 : Int32) (hf : X_evalPlanScan_l14 NF n ob i1 i2 i3 i4 = some res) : Runs C B48 0 0 14 [vr a, vi i1, vi i2, vi i3, vi i4] [] (top, (a, 45, ob) :: H) (Ans none (top, (a, 45, res) :: H)) := by
  induction n generalizing ob i1 i2 i3 i4 with
  | zero => cases (show (none : Option (Rec)) = some res from hf)
  | succ n ih => exact X_evalPlanScan_w14_p (X_evalPlanScan_l14 NF n) (fun ob i1 i2 i3 i4 h => ih _ _ _ _ _ h) ob i1 i2 i3 i4 hf
def X_evalPlanScan (NF : Nat) (ob : Rec) (i1 : Int32) : Option (Rec) :=
  chk (16 : Int32) i1 <|
  X_evalPlanScan_l14 NF NF ob i1 ((gA ob 27 i1) &&& (3 : Int32)) (0 : Int32) (0 : Int32)
theorem X_evalPlanScan_p {C : Ctx} {top : Nat} {a : Nat} {H : List (Nat × Nat × Rec)} {res : Rec} {NF : Nat} (ob : Rec) (i1 : Int32) (hf : X_evalPlanScan NF ob i1 = some res) : Runs C B48 0 0 0 [vr a, vi i1, vn, vn, vn] [] (top, (a, 45, ob) :: H) (Ans none (top, (a, 45, res) :: H)) := by
  delta X_evalPlanScan at hf
  refine zb d48_0 rfl <| ze d48_1 fA_27 w79 (by decide) <| za d48_4 rfl <| ?_
  refine chk_el hf fun hi14 hf => ?_
  exact zh d48_5 fA_27 (by decide) hi14 <| zc d48_6 ci_3 <| zA d48_7 <| zr (P' := [vr a, vi i1, vi ((gA ob 27 i1) &&& (3 : Int32)), vn, vn]) d48_8 (by decide) rfl <| zc d48_9 ci_0 <| zr (P' := [vr a, vi i1, vi ((gA ob 27 i1) &&& (3 : Int32)), vi (0 : Int32), vn]) d48_10 (by decide) rfl <| zc d48_11 ci_0 <| zi (P' := [vr a, vi i1, vi ((gA ob 27 i1) &&& (3 : Int32)), vi (0 : Int32), vi (0 : Int32)]) d48_12 (by decide) rfl <| X_evalPlanScan_l14_p NF ob i1 ((gA ob 27 i1) &&& (3 : Int32)) (0 : Int32) (0 : Int32) hf
theorem X_evalPlanScan_pay {C : Ctx} {top : Nat} {a : Nat} {H : List (Nat × Nat × Rec)} {res : Rec} {NF : Nat} {ob : Rec} {i1 : Int32} (hf : X_evalPlanScan NF ob i1 = some res) : Pays C B48 [.ref a, .int i1] (top, (a, 45, ob) :: H) (Ans none (top, (a, 45, res) :: H)) :=
  Pays.of pnK (Nat.le_of_ble_eq_true rfl) (P := [vr a, vi i1, vn, vn, vn]) 3 rfl (X_evalPlanScan_p ob i1 hf)
def X_loadRow_w15 (NF : Nat) (k15 : Rec → Int32 → Int32 → Int32 → Int32 → Option (Rec)) (ob : Rec) (i3 : Int32) (i4 : Int32) (i5 : Int32) (i6 : Int32) : Option (Rec) :=
  if i6 < i3 then
    if i6 < (8 : Int32) then
      if (i4 + i6) < (0 : Int32) then
        k15 ob i3 i4 i5 (i6 + (1 : Int32))
      else
        if (i4 + i6) < (16 : Int32) then
          chk (16384 : Int32) (i5 + i6) <|
          chk (16 : Int32) (i4 + i6) <|
          k15 (sA ob 24 (i4 + i6) (gA ob 22 (i5 + i6))) i3 i4 i5 (i6 + (1 : Int32))
        else
          k15 ob i3 i4 i5 (i6 + (1 : Int32))
    else
      some ob
  else
    some ob
def X_loadRow_l15 (NF : Nat) : Nat → Rec → Int32 → Int32 → Int32 → Int32 → Option (Rec)
  | 0, _, _, _, _, _ => none
  | n + 1, ob, i3, i4, i5, i6 => X_loadRow_w15 NF (X_loadRow_l15 NF n) ob i3 i4 i5 i6
theorem X_loadRow_w15_p {C : Ctx} {top : Nat} {a : Nat} {H : List (Nat × Nat × Rec)} {res : Rec} {NF : Nat} (k15 : Rec → Int32 → Int32 → Int32 → Int32 → Option (Rec)) (hk15 : ∀ (ob : Rec) (i3 : Int32) (i4 : Int32) (i5 : Int32) (i6 : Int32), k15 ob i3 i4 i5 i6 = some res → Runs C B56 0 0 15 [vr a, vn, vn, vi i3, vi i4, vi i5, vi i6] [] (top, (a, 45, ob) :: H) (Ans none (top, (a, 45, res) :: H))) (ob : Rec) (i3 : Int32) (i4 : Int32) (i5 : Int32) (i6 : Int32) (hf : X_loadRow_w15 NF k15 ob i3 i4 i5 i6 = some res) : Runs C B56 0 0 15 [vr a, vn, vn, vi i3, vi i4, vi i5, vi i6] [] (top, (a, 45, ob) :: H) (Ans none (top, (a, 45, res) :: H)) := by
  delta X_loadRow_w15 at hf
  refine zd d56_15 rfl <| za d56_17 rfl <| ?_
  refine ite_el hf (fun hc1 hf => ?_) (fun hc1 hf => ?_)
  · refine zg d56_18 (tlt hc1).2.1 <| ?_
    refine zd d56_21 rfl <| zj d56_23 cb_8 <| ?_
    refine ite_el hf (fun hc2 hf => ?_) (fun hc2 hf => ?_)
    · refine zg d56_25 (tlt hc2).2.1 <| ?_
      refine zd d56_28 rfl <| zd d56_30 rfl <| zu d56_32 <| ?_
      refine ite_el hf (fun hc3 hf => ?_) (fun hc3 hf => ?_)
      · refine zk (pc' := 66) d56_33 (tlt hc3).1 (by decide) <| ?_
        exact zv (P' := [vr a, vn, vn, vi i3, vi i4, vi i5, vi (i6 + (1 : Int32))]) d56_66 ci_1 rfl (by decide) rfl <| zo (pc' := 15) d56_69 (by decide) <| hk15 ob i3 i4 i5 (i6 + (1 : Int32)) hf
      · refine zl d56_33 (flt hc3).1 <| ?_
        refine zd d56_36 rfl <| zd d56_38 rfl <| zu d56_40 <| zj d56_41 cb_16 <| ?_
        refine ite_el hf (fun hc4 hf => ?_) (fun hc4 hf => ?_)
        · refine zg d56_43 (tlt hc4).2.1 <| ?_
          refine zb d56_46 rfl <| ze d56_47 fA_24 w73 (by decide) <| zd d56_50 rfl <| zd d56_52 rfl <| zu d56_54 <| zb d56_55 rfl <| ze d56_56 fA_22 w69 (by decide) <| zd d56_59 rfl <| zd d56_61 rfl <| zu d56_63 <| ?_
          refine chk_el hf fun hi5 hf => ?_
          refine zh d56_64 fA_22 (by decide) hi5 <| ?_
          refine chk_el hf fun hi6 hf => ?_
          exact zq d56_65 fA_24 (by decide) hi6 <| zv (P' := [vr a, vn, vn, vi i3, vi i4, vi i5, vi (i6 + (1 : Int32))]) d56_66 ci_1 rfl (by decide) rfl <| zo (pc' := 15) d56_69 (by decide) <| hk15 (sA ob 24 (i4 + i6) (gA ob 22 (i5 + i6))) i3 i4 i5 (i6 + (1 : Int32)) hf
        · refine zf (pc' := 66) d56_43 (flt hc4).2.1 (by decide) <| ?_
          exact zv (P' := [vr a, vn, vn, vi i3, vi i4, vi i5, vi (i6 + (1 : Int32))]) d56_66 ci_1 rfl (by decide) rfl <| zo (pc' := 15) d56_69 (by decide) <| hk15 ob i3 i4 i5 (i6 + (1 : Int32)) hf
    · refine zf (pc' := 72) d56_25 (flt hc2).2.1 (by decide) <| ?_
      obtain rfl := Option.some.inj hf
      exact zt d56_72 rfl ⟨by decide, by decide⟩ ⟨rfl, rfl⟩
  · refine zf (pc' := 72) d56_18 (flt hc1).2.1 (by decide) <| ?_
    obtain rfl := Option.some.inj hf
    exact zt d56_72 rfl ⟨by decide, by decide⟩ ⟨rfl, rfl⟩
theorem X_loadRow_l15_p {C : Ctx} {top : Nat} {a : Nat} {H : List (Nat × Nat × Rec)} {res : Rec} {NF : Nat} (n : Nat) (ob : Rec) (i3 : Int32) (i4 : Int32) (i5 : Int32) (i6 : Int32) (hf : X_loadRow_l15 NF n ob i3 i4 i5 i6 = some res) : Runs C B56 0 0 15 [vr a, vn, vn, vi i3, vi i4, vi i5, vi i6] [] (top, (a, 45, ob) :: H) (Ans none (top, (a, 45, res) :: H)) := by
  induction n generalizing ob i3 i4 i5 i6 with
  | zero => cases (show (none : Option (Rec)) = some res from hf)
  | succ n ih => exact X_loadRow_w15_p (X_loadRow_l15 NF n) (fun ob i3 i4 i5 i6 h => ih _ _ _ _ _ h) ob i3 i4 i5 i6 hf
def X_loadRow (NF : Nat) (ob : Rec) (i1 : Int32) (i2 : Int32) (i3 : Int32) (i4 : Int32) : Option (Rec) :=
  X_loadRow_l15 NF NF ob i3 i4 ((i1 * (512 : Int32)) + (i2 * (8 : Int32))) (0 : Int32)
theorem X_loadRow_p {C : Ctx} {top : Nat} {a : Nat} {H : List (Nat × Nat × Rec)} {res : Rec} {NF : Nat} (ob : Rec) (i1 : Int32) (i2 : Int32) (i3 : Int32) (i4 : Int32) (hf : X_loadRow NF ob i1 i2 i3 i4 = some res) : Runs C B56 0 0 0 [vr a, vi i1, vi i2, vi i3, vi i4, vn, vn] [] (top, (a, 45, ob) :: H) (Ans none (top, (a, 45, res) :: H)) := by
  delta X_loadRow at hf
  exact za d56_0 rfl <| zC d56_1 cs_512 <| zy d56_4 <| za d56_5 rfl <| zj d56_6 cb_8 <| zy d56_8 <| zu d56_9 <| zi (P' := [vr a, vi i1, vi i2, vi i3, vi i4, vi ((i1 * (512 : Int32)) + (i2 * (8 : Int32))), vn]) d56_10 (by decide) rfl <| zc d56_12 ci_0 <| zi (P' := [vr a, vi i1, vi i2, vi i3, vi i4, vi ((i1 * (512 : Int32)) + (i2 * (8 : Int32))), vi (0 : Int32)]) d56_13 (by decide) rfl <| zp [true, false, false, true, true, true, true] rfl <| X_loadRow_l15_p NF ob i3 i4 ((i1 * (512 : Int32)) + (i2 * (8 : Int32))) (0 : Int32) hf
theorem X_loadRow_pay {C : Ctx} {top : Nat} {a : Nat} {H : List (Nat × Nat × Rec)} {res : Rec} {NF : Nat} {ob : Rec} {i1 : Int32} {i2 : Int32} {i3 : Int32} {i4 : Int32} (hf : X_loadRow NF ob i1 i2 i3 i4 = some res) : Pays C B56 [.ref a, .int i1, .int i2, .int i3, .int i4] (top, (a, 45, ob) :: H) (Ans none (top, (a, 45, res) :: H)) :=
  Pays.of pnK (Nat.le_of_ble_eq_true rfl) (P := [vr a, vi i1, vi i2, vi i3, vi i4, vn, vn]) 2 rfl (X_loadRow_p ob i1 i2 i3 i4 hf)
def X_emitFiltered (NF : Nat) (ob : Rec) (i1 : Int32) (i2 : Int32) : Option (Int32 × Rec) :=
  (X_listHolds NF ob ((2 : Int32) * i1)).bind fun r1 =>
  if r1 = (0 : Int32) then
    some (i2, ob)
  else
    bind2 (X_emitMapped NF ob i1 i2) fun r4 q5 =>
    some (r4, q5)
theorem X_emitFiltered_p {C : Ctx} {top : Nat} {a : Nat} {H : List (Nat × Nat × Rec)} {res : Int32 × Rec} {NF : Nat} (ob : Rec) (i1 : Int32) (i2 : Int32) (hf : X_emitFiltered NF ob i1 i2 = some res) : Runs C B58 0 0 0 [vr a, vi i1, vi i2] [] (top, (a, 45, ob) :: H) (Ans (some (.int res.1)) (top, (a, 45, res.2) :: H)) := by
  delta X_emitFiltered at hf
  refine zb d58_0 rfl <| zc d58_1 ci_2 <| za d58_2 rfl <| zy d58_3 <| ?_
  refine bind_el hf fun r1 hg2 hf => ?_
  refine zm (N := B50) (W := 0) (as := [.int ((2 : Int32) * i1)]) (S' := []) d58_4 w334 w335 w336 rfl cw50 ar50 rk58_50_0 (by decide) rfl rfl (X_listHolds_pay hg2) <| ans1 <| ?_
  refine ite_el hf (fun hc3 hf => ?_) (fun hc3 hf => ?_)
  · refine zl d58_7 (teq hc3).2 <| ?_
    obtain rfl := Option.some.inj hf
    exact za d58_10 rfl <| zn d58_11 rfl ⟨by decide, by decide⟩ ⟨rfl, rfl⟩
  · refine zk (pc' := 12) d58_7 (feq hc3).2 (by decide) <| ?_
    refine zb d58_12 rfl <| za d58_13 rfl <| za d58_14 rfl <| ?_
    refine bind2_el hf fun r4 q5 hg6 hf => ?_
    obtain rfl := Option.some.inj hf
    exact zm (N := B54) (W := 0) (as := [.int i1, .int i2]) (S' := []) d58_15 w351 w352 w353 rfl cw54 ar54 rk58_54_0 (by decide) rfl rfl (X_emitMapped_pay hg6) <| ans1 <| zn d58_18 rfl ⟨by decide, by decide⟩ ⟨rfl, rfl⟩
theorem X_emitFiltered_pay {C : Ctx} {top : Nat} {a : Nat} {H : List (Nat × Nat × Rec)} {res : Int32 × Rec} {NF : Nat} {ob : Rec} {i1 : Int32} {i2 : Int32} (hf : X_emitFiltered NF ob i1 i2 = some res) : Pays C B58 [.ref a, .int i1, .int i2] (top, (a, 45, ob) :: H) (Ans (some (.int res.1)) (top, (a, 45, res.2) :: H)) :=
  Pays.of pnK (Nat.le_of_ble_eq_true rfl) (P := [vr a, vi i1, vi i2]) 0 rfl (X_emitFiltered_p ob i1 i2 hf)
def X_fillNull_w2 (NF : Nat) (k2 : Rec → Int32 → Int32 → Int32 → Option (Rec)) (ob : Rec) (i1 : Int32) (i2 : Int32) (i3 : Int32) : Option (Rec) :=
  if i3 < i2 then
    if i3 < (8 : Int32) then
      if (i1 + i3) < (0 : Int32) then
        k2 ob i1 i2 (i3 + (1 : Int32))
      else
        if (i1 + i3) < (16 : Int32) then
          chk (16 : Int32) (i1 + i3) <|
          k2 (sA ob 24 (i1 + i3) (-2147483648 : Int32)) i1 i2 (i3 + (1 : Int32))
        else
          k2 ob i1 i2 (i3 + (1 : Int32))
    else
      some ob
  else
    some ob
def X_fillNull_l2 (NF : Nat) : Nat → Rec → Int32 → Int32 → Int32 → Option (Rec)
  | 0, _, _, _, _ => none
  | n + 1, ob, i1, i2, i3 => X_fillNull_w2 NF (X_fillNull_l2 NF n) ob i1 i2 i3
theorem X_fillNull_w2_p {C : Ctx} {top : Nat} {a : Nat} {H : List (Nat × Nat × Rec)} {res : Rec} {NF : Nat} (k2 : Rec → Int32 → Int32 → Int32 → Option (Rec)) (hk2 : ∀ (ob : Rec) (i1 : Int32) (i2 : Int32) (i3 : Int32), k2 ob i1 i2 i3 = some res → Runs C B57 0 0 2 [vr a, vi i1, vi i2, vi i3] [] (top, (a, 45, ob) :: H) (Ans none (top, (a, 45, res) :: H))) (ob : Rec) (i1 : Int32) (i2 : Int32) (i3 : Int32) (hf : X_fillNull_w2 NF k2 ob i1 i2 i3 = some res) : Runs C B57 0 0 2 [vr a, vi i1, vi i2, vi i3] [] (top, (a, 45, ob) :: H) (Ans none (top, (a, 45, res) :: H)) := by
  delta X_fillNull_w2 at hf
  refine za d57_2 rfl <| za d57_3 rfl <| ?_
  refine ite_el hf (fun hc1 hf => ?_) (fun hc1 hf => ?_)
  · refine zg d57_4 (tlt hc1).2.1 <| ?_
    refine za d57_7 rfl <| zj d57_8 cb_8 <| ?_
    refine ite_el hf (fun hc2 hf => ?_) (fun hc2 hf => ?_)
    · refine zg d57_10 (tlt hc2).2.1 <| ?_
      refine za d57_13 rfl <| za d57_14 rfl <| zu d57_15 <| ?_
      refine ite_el hf (fun hc3 hf => ?_) (fun hc3 hf => ?_)
      · refine zk (pc' := 37) d57_16 (tlt hc3).1 (by decide) <| ?_
        exact zv (P' := [vr a, vi i1, vi i2, vi (i3 + (1 : Int32))]) d57_37 ci_1 rfl (by decide) rfl <| zo (pc' := 2) d57_40 (by decide) <| hk2 ob i1 i2 (i3 + (1 : Int32)) hf
      · refine zl d57_16 (flt hc3).1 <| ?_
        refine za d57_19 rfl <| za d57_20 rfl <| zu d57_21 <| zj d57_22 cb_16 <| ?_
        refine ite_el hf (fun hc4 hf => ?_) (fun hc4 hf => ?_)
        · refine zg d57_24 (tlt hc4).2.1 <| ?_
          refine zb d57_27 rfl <| ze d57_28 fA_24 w73 (by decide) <| za d57_31 rfl <| za d57_32 rfl <| zu d57_33 <| Runs.ldc d57_34 w346 <| ?_
          refine chk_el hf fun hi5 hf => ?_
          exact zq d57_36 fA_24 (by decide) hi5 <| zv (P' := [vr a, vi i1, vi i2, vi (i3 + (1 : Int32))]) d57_37 ci_1 rfl (by decide) rfl <| zo (pc' := 2) d57_40 (by decide) <| hk2 (sA ob 24 (i1 + i3) (-2147483648 : Int32)) i1 i2 (i3 + (1 : Int32)) hf
        · refine zf (pc' := 37) d57_24 (flt hc4).2.1 (by decide) <| ?_
          exact zv (P' := [vr a, vi i1, vi i2, vi (i3 + (1 : Int32))]) d57_37 ci_1 rfl (by decide) rfl <| zo (pc' := 2) d57_40 (by decide) <| hk2 ob i1 i2 (i3 + (1 : Int32)) hf
    · refine zf (pc' := 43) d57_10 (flt hc2).2.1 (by decide) <| ?_
      obtain rfl := Option.some.inj hf
      exact zt d57_43 rfl ⟨by decide, by decide⟩ ⟨rfl, rfl⟩
  · refine zf (pc' := 43) d57_4 (flt hc1).2.1 (by decide) <| ?_
    obtain rfl := Option.some.inj hf
    exact zt d57_43 rfl ⟨by decide, by decide⟩ ⟨rfl, rfl⟩
theorem X_fillNull_l2_p {C : Ctx} {top : Nat} {a : Nat} {H : List (Nat × Nat × Rec)} {res : Rec} {NF : Nat} (n : Nat) (ob : Rec) (i1 : Int32) (i2 : Int32) (i3 : Int32) (hf : X_fillNull_l2 NF n ob i1 i2 i3 = some res) : Runs C B57 0 0 2 [vr a, vi i1, vi i2, vi i3] [] (top, (a, 45, ob) :: H) (Ans none (top, (a, 45, res) :: H)) := by
  induction n generalizing ob i1 i2 i3 with
  | zero => cases (show (none : Option (Rec)) = some res from hf)
  | succ n ih => exact X_fillNull_w2_p (X_fillNull_l2 NF n) (fun ob i1 i2 i3 h => ih _ _ _ _ h) ob i1 i2 i3 hf
def X_fillNull (NF : Nat) (ob : Rec) (i1 : Int32) (i2 : Int32) : Option (Rec) :=
  X_fillNull_l2 NF NF ob i1 i2 (0 : Int32)
theorem X_fillNull_p {C : Ctx} {top : Nat} {a : Nat} {H : List (Nat × Nat × Rec)} {res : Rec} {NF : Nat} (ob : Rec) (i1 : Int32) (i2 : Int32) (hf : X_fillNull NF ob i1 i2 = some res) : Runs C B57 0 0 0 [vr a, vi i1, vi i2, vn] [] (top, (a, 45, ob) :: H) (Ans none (top, (a, 45, res) :: H)) := by
  delta X_fillNull at hf
  exact zc d57_0 ci_0 <| zr (P' := [vr a, vi i1, vi i2, vi (0 : Int32)]) d57_1 (by decide) rfl <| X_fillNull_l2_p NF ob i1 i2 (0 : Int32) hf
theorem X_fillNull_pay {C : Ctx} {top : Nat} {a : Nat} {H : List (Nat × Nat × Rec)} {res : Rec} {NF : Nat} {ob : Rec} {i1 : Int32} {i2 : Int32} (hf : X_fillNull NF ob i1 i2 = some res) : Pays C B57 [.ref a, .int i1, .int i2] (top, (a, 45, ob) :: H) (Ans none (top, (a, 45, res) :: H)) :=
  Pays.of pnK (Nat.le_of_ble_eq_true rfl) (P := [vr a, vi i1, vi i2, vn]) 1 rfl (X_fillNull_p ob i1 i2 hf)
def X_evalPlanJoin_b146 (NF : Nat) (k53 : Rec → Int32 → Int32 → Int32 → Int32 → Int32 → Int32 → Int32 → Int32 → Option (Rec)) (ob : Rec) (i1 : Int32) (i2 : Int32) (i3 : Int32) (i4 : Int32) (i5 : Int32) (i6 : Int32) (i7 : Int32) (i8 : Int32) (i9 : Int32) : Option (Rec) :=
  if i6 = (0 : Int32) then
    k53 ob i1 i2 i3 i4 i5 i6 i7 (i8 + (1 : Int32))
  else
    if i9 = (0 : Int32) then
      (X_fillNull NF ob i4 i5).bind fun q21 =>
      bind2 (X_emitFiltered NF q21 i1 i7) fun r23 q24 =>
      k53 q24 i1 i2 i3 i4 i5 i6 r23 (i8 + (1 : Int32))
    else
      k53 ob i1 i2 i3 i4 i5 i6 i7 (i8 + (1 : Int32))
theorem X_evalPlanJoin_b146_p {C : Ctx} {top : Nat} {a : Nat} {H : List (Nat × Nat × Rec)} {res : Rec} {NF : Nat} (k53 : Rec → Int32 → Int32 → Int32 → Int32 → Int32 → Int32 → Int32 → Int32 → Option (Rec)) (hk53 : ∀ (ob : Rec) (i1 : Int32) (i2 : Int32) (i3 : Int32) (i4 : Int32) (i5 : Int32) (i6 : Int32) (i7 : Int32) (i8 : Int32), k53 ob i1 i2 i3 i4 i5 i6 i7 i8 = some res → Runs C B55 0 0 53 [vr a, vi i1, vi i2, vi i3, vi i4, vi i5, vi i6, vi i7, vi i8, vn, vn] [] (top, (a, 45, ob) :: H) (Ans none (top, (a, 45, res) :: H))) (ob : Rec) (i1 : Int32) (i2 : Int32) (i3 : Int32) (i4 : Int32) (i5 : Int32) (i6 : Int32) (i7 : Int32) (i8 : Int32) (i9 : Int32) (hf : X_evalPlanJoin_b146 NF k53 ob i1 i2 i3 i4 i5 i6 i7 i8 i9 = some res) : Runs C B55 0 0 146 [vr a, vi i1, vi i2, vi i3, vi i4, vi i5, vi i6, vi i7, vi i8, vi i9, vn] [] (top, (a, 45, ob) :: H) (Ans none (top, (a, 45, res) :: H)) := by
  delta X_evalPlanJoin_b146 at hf
  refine zd d55_146 rfl <| ?_
  refine ite_el hf (fun hc19 hf => ?_) (fun hc19 hf => ?_)
  · refine zk (pc' := 173) d55_148 (teq hc19).1 (by decide) <| ?_
    exact zv (P' := [vr a, vi i1, vi i2, vi i3, vi i4, vi i5, vi i6, vi i7, vi (i8 + (1 : Int32)), vi i9, vn]) d55_173 ci_1 rfl (by decide) rfl <| zo (pc' := 53) d55_176 (by decide) <| zp [true, true, true, true, true, true, true, true, true, false, false] rfl <| hk53 ob i1 i2 i3 i4 i5 i6 i7 (i8 + (1 : Int32)) hf
  · refine zl d55_148 (feq hc19).1 <| ?_
    refine zd d55_151 rfl <| ?_
    refine ite_el hf (fun hc20 hf => ?_) (fun hc20 hf => ?_)
    · refine zl d55_153 (teq hc20).2 <| ?_
      refine zb d55_156 rfl <| zd d55_157 rfl <| zd d55_159 rfl <| ?_
      refine bind_el hf fun q21 hg22 hf => ?_
      refine zm (N := B57) (W := 0) (as := [.int i4, .int i5]) (S' := []) d55_161 w363 w364 w365 rfl cw57 ar57 rk55_57_0 (by decide) rfl rfl (X_fillNull_pay hg22) <| ans0 <| zb d55_164 rfl <| za d55_165 rfl <| zd d55_166 rfl <| ?_
      refine bind2_el hf fun r23 q24 hg25 hf => ?_
      exact zm (N := B58) (W := 0) (as := [.int i1, .int i7]) (S' := []) d55_168 w367 w368 w369 rfl cw58 ar58 rk55_58_0 (by decide) rfl rfl (X_emitFiltered_pay hg25) <| ans1 <| zi (P' := [vr a, vi i1, vi i2, vi i3, vi i4, vi i5, vi i6, vi r23, vi i8, vi i9, vn]) d55_171 (by decide) rfl <| zv (P' := [vr a, vi i1, vi i2, vi i3, vi i4, vi i5, vi i6, vi r23, vi (i8 + (1 : Int32)), vi i9, vn]) d55_173 ci_1 rfl (by decide) rfl <| zo (pc' := 53) d55_176 (by decide) <| zp [true, true, true, true, true, true, true, true, true, false, false] rfl <| hk53 q24 i1 i2 i3 i4 i5 i6 r23 (i8 + (1 : Int32)) hf
    · refine zk (pc' := 173) d55_153 (feq hc20).2 (by decide) <| ?_
      exact zv (P' := [vr a, vi i1, vi i2, vi i3, vi i4, vi i5, vi i6, vi i7, vi (i8 + (1 : Int32)), vi i9, vn]) d55_173 ci_1 rfl (by decide) rfl <| zo (pc' := 53) d55_176 (by decide) <| zp [true, true, true, true, true, true, true, true, true, false, false] rfl <| hk53 ob i1 i2 i3 i4 i5 i6 i7 (i8 + (1 : Int32)) hf
def X_evalPlanJoin_w87 (NF : Nat) (k53 : Rec → Int32 → Int32 → Int32 → Int32 → Int32 → Int32 → Int32 → Int32 → Option (Rec)) (k87 : Rec → Int32 → Int32 → Int32 → Int32 → Int32 → Int32 → Int32 → Int32 → Int32 → Int32 → Option (Rec)) (ob : Rec) (i1 : Int32) (i2 : Int32) (i3 : Int32) (i4 : Int32) (i5 : Int32) (i6 : Int32) (i7 : Int32) (i8 : Int32) (i9 : Int32) (i10 : Int32) : Option (Rec) :=
  chk (32 : Int32) i3 <|
  if i10 < (gA ob 23 i3) then
    if i10 < (64 : Int32) then
      (X_loadRow NF ob i3 i10 i5 i4).bind fun q11 =>
      (X_listHolds NF q11 (((2 : Int32) * i1) + (1 : Int32))).bind fun r13 =>
      if r13 = (0 : Int32) then
        k87 q11 i1 i2 i3 i4 i5 i6 i7 i8 i9 (i10 + (1 : Int32))
      else
        bind2 (X_emitFiltered NF q11 i1 i7) fun r16 q17 =>
        k87 q17 i1 i2 i3 i4 i5 i6 r16 i8 (1 : Int32) (i10 + (1 : Int32))
    else
      X_evalPlanJoin_b146 NF k53 ob i1 i2 i3 i4 i5 i6 i7 i8 i9
  else
    X_evalPlanJoin_b146 NF k53 ob i1 i2 i3 i4 i5 i6 i7 i8 i9
def X_evalPlanJoin_l87 (NF : Nat) (k53 : Rec → Int32 → Int32 → Int32 → Int32 → Int32 → Int32 → Int32 → Int32 → Option (Rec)) : Nat → Rec → Int32 → Int32 → Int32 → Int32 → Int32 → Int32 → Int32 → Int32 → Int32 → Int32 → Option (Rec)
  | 0, _, _, _, _, _, _, _, _, _, _, _ => none
  | n + 1, ob, i1, i2, i3, i4, i5, i6, i7, i8, i9, i10 => X_evalPlanJoin_w87 NF k53 (X_evalPlanJoin_l87 NF k53 n) ob i1 i2 i3 i4 i5 i6 i7 i8 i9 i10
theorem X_evalPlanJoin_w87_p {C : Ctx} {top : Nat} {a : Nat} {H : List (Nat × Nat × Rec)} {res : Rec} {NF : Nat} (k53 : Rec → Int32 → Int32 → Int32 → Int32 → Int32 → Int32 → Int32 → Int32 → Option (Rec)) (hk53 : ∀ (ob : Rec) (i1 : Int32) (i2 : Int32) (i3 : Int32) (i4 : Int32) (i5 : Int32) (i6 : Int32) (i7 : Int32) (i8 : Int32), k53 ob i1 i2 i3 i4 i5 i6 i7 i8 = some res → Runs C B55 0 0 53 [vr a, vi i1, vi i2, vi i3, vi i4, vi i5, vi i6, vi i7, vi i8, vn, vn] [] (top, (a, 45, ob) :: H) (Ans none (top, (a, 45, res) :: H))) (k87 : Rec → Int32 → Int32 → Int32 → Int32 → Int32 → Int32 → Int32 → Int32 → Int32 → Int32 → Option (Rec)) (hk87 : ∀ (ob : Rec) (i1 : Int32) (i2 : Int32) (i3 : Int32) (i4 : Int32) (i5 : Int32) (i6 : Int32) (i7 : Int32) (i8 : Int32) (i9 : Int32) (i10 : Int32), k87 ob i1 i2 i3 i4 i5 i6 i7 i8 i9 i10 = some res → Runs C B55 0 0 87 [vr a, vi i1, vi i2, vi i3, vi i4, vi i5, vi i6, vi i7, vi i8, vi i9, vi i10] [] (top, (a, 45, ob) :: H) (Ans none (top, (a, 45, res) :: H))) (ob : Rec) (i1 : Int32) (i2 : Int32) (i3 : Int32) (i4 : Int32) (i5 : Int32) (i6 : Int32) (i7 : Int32) (i8 : Int32) (i9 : Int32) (i10 : Int32) (hf : X_evalPlanJoin_w87 NF k53 k87 ob i1 i2 i3 i4 i5 i6 i7 i8 i9 i10 = some res) : Runs C B55 0 0 87 [vr a, vi i1, vi i2, vi i3, vi i4, vi i5, vi i6, vi i7, vi i8, vi i9, vi i10] [] (top, (a, 45, ob) :: H) (Ans none (top, (a, 45, res) :: H)) := by
  delta X_evalPlanJoin_w87 at hf
  refine zd d55_87 rfl <| zb d55_89 rfl <| ze d55_90 fA_23 w71 (by decide) <| za d55_93 rfl <| ?_
  refine chk_el hf fun hi8 hf => ?_
  refine zh d55_94 fA_23 (by decide) hi8 <| ?_
  refine ite_el hf (fun hc9 hf => ?_) (fun hc9 hf => ?_)
  · refine zg d55_95 (tlt hc9).2.1 <| ?_
    refine zd d55_98 rfl <| zj d55_100 cb_64 <| ?_
    refine ite_el hf (fun hc10 hf => ?_) (fun hc10 hf => ?_)
    · refine zg d55_102 (tlt hc10).2.1 <| ?_
      refine zb d55_105 rfl <| za d55_106 rfl <| zd d55_107 rfl <| zd d55_109 rfl <| zd d55_111 rfl <| ?_
      refine bind_el hf fun q11 hg12 hf => ?_
      refine zm (N := B56) (W := 0) (as := [.int i3, .int i10, .int i5, .int i4]) (S' := []) d55_113 w359 w360 w361 rfl cw56 ar56 rk55_56_0 (by decide) rfl rfl (X_loadRow_pay hg12) <| ans0 <| zb d55_116 rfl <| zc d55_117 ci_2 <| za d55_118 rfl <| zy d55_119 <| zc d55_120 ci_1 <| zu d55_121 <| ?_
      refine bind_el hf fun r13 hg14 hf => ?_
      refine zm (N := B50) (W := 0) (as := [.int (((2 : Int32) * i1) + (1 : Int32))]) (S' := []) d55_122 w334 w335 w336 rfl cw50 ar50 rk55_50_0 (by decide) rfl rfl (X_listHolds_pay hg14) <| ans1 <| ?_
      refine ite_el hf (fun hc15 hf => ?_) (fun hc15 hf => ?_)
      · refine zk (pc' := 140) d55_125 (teq hc15).1 (by decide) <| ?_
        exact zv (P' := [vr a, vi i1, vi i2, vi i3, vi i4, vi i5, vi i6, vi i7, vi i8, vi i9, vi (i10 + (1 : Int32))]) d55_140 ci_1 rfl (by decide) rfl <| zo (pc' := 87) d55_143 (by decide) <| hk87 q11 i1 i2 i3 i4 i5 i6 i7 i8 i9 (i10 + (1 : Int32)) hf
      · refine zl d55_125 (feq hc15).1 <| ?_
        refine zc d55_128 ci_1 <| zi (P' := [vr a, vi i1, vi i2, vi i3, vi i4, vi i5, vi i6, vi i7, vi i8, vi (1 : Int32), vi i10]) d55_129 (by decide) rfl <| zb d55_131 rfl <| za d55_132 rfl <| zd d55_133 rfl <| ?_
        refine bind2_el hf fun r16 q17 hg18 hf => ?_
        exact zm (N := B58) (W := 0) (as := [.int i1, .int i7]) (S' := []) d55_135 w367 w368 w369 rfl cw58 ar58 rk55_58_0 (by decide) rfl rfl (X_emitFiltered_pay hg18) <| ans1 <| zi (P' := [vr a, vi i1, vi i2, vi i3, vi i4, vi i5, vi i6, vi r16, vi i8, vi (1 : Int32), vi i10]) d55_138 (by decide) rfl <| zv (P' := [vr a, vi i1, vi i2, vi i3, vi i4, vi i5, vi i6, vi r16, vi i8, vi (1 : Int32), vi (i10 + (1 : Int32))]) d55_140 ci_1 rfl (by decide) rfl <| zo (pc' := 87) d55_143 (by decide) <| hk87 q17 i1 i2 i3 i4 i5 i6 r16 i8 (1 : Int32) (i10 + (1 : Int32)) hf
    · exact zf (pc' := 146) d55_102 (flt hc10).2.1 (by decide) <| zp [true, true, true, true, true, true, true, true, true, true, false] rfl <| X_evalPlanJoin_b146_p k53 hk53 ob i1 i2 i3 i4 i5 i6 i7 i8 i9 hf
  · exact zf (pc' := 146) d55_95 (flt hc9).2.1 (by decide) <| zp [true, true, true, true, true, true, true, true, true, true, false] rfl <| X_evalPlanJoin_b146_p k53 hk53 ob i1 i2 i3 i4 i5 i6 i7 i8 i9 hf
theorem X_evalPlanJoin_l87_p {C : Ctx} {top : Nat} {a : Nat} {H : List (Nat × Nat × Rec)} {res : Rec} {NF : Nat} (k53 : Rec → Int32 → Int32 → Int32 → Int32 → Int32 → Int32 → Int32 → Int32 → Option (Rec)) (hk53 : ∀ (ob : Rec) (i1 : Int32) (i2 : Int32) (i3 : Int32) (i4 : Int32) (i5 : Int32) (i6 : Int32) (i7 : Int32) (i8 : Int32), k53 ob i1 i2 i3 i4 i5 i6 i7 i8 = some res → Runs C B55 0 0 53 [vr a, vi i1, vi i2, vi i3, vi i4, vi i5, vi i6, vi i7, vi i8, vn, vn] [] (top, (a, 45, ob) :: H) (Ans none (top, (a, 45, res) :: H))) (n : Nat) (ob : Rec) (i1 : Int32) (i2 : Int32) (i3 : Int32) (i4 : Int32) (i5 : Int32) (i6 : Int32) (i7 : Int32) (i8 : Int32) (i9 : Int32) (i10 : Int32) (hf : X_evalPlanJoin_l87 NF k53 n ob i1 i2 i3 i4 i5 i6 i7 i8 i9 i10 = some res) : Runs C B55 0 0 87 [vr a, vi i1, vi i2, vi i3, vi i4, vi i5, vi i6, vi i7, vi i8, vi i9, vi i10] [] (top, (a, 45, ob) :: H) (Ans none (top, (a, 45, res) :: H)) := by
  induction n generalizing ob i1 i2 i3 i4 i5 i6 i7 i8 i9 i10 with
  | zero => cases (show (none : Option (Rec)) = some res from hf)
  | succ n ih => exact X_evalPlanJoin_w87_p k53 hk53 (X_evalPlanJoin_l87 NF k53 n) (fun ob i1 i2 i3 i4 i5 i6 i7 i8 i9 i10 h => ih _ _ _ _ _ _ _ _ _ _ _ h) ob i1 i2 i3 i4 i5 i6 i7 i8 i9 i10 hf
def X_evalPlanJoin_w53 (NF : Nat) (k53 : Rec → Int32 → Int32 → Int32 → Int32 → Int32 → Int32 → Int32 → Int32 → Option (Rec)) (ob : Rec) (i1 : Int32) (i2 : Int32) (i3 : Int32) (i4 : Int32) (i5 : Int32) (i6 : Int32) (i7 : Int32) (i8 : Int32) : Option (Rec) :=
  chk (32 : Int32) i2 <|
  if i8 < (gA ob 23 i2) then
    if i8 < (64 : Int32) then
      (X_loadRow NF ob i2 i8 i4 (0 : Int32)).bind fun q4 =>
      X_evalPlanJoin_l87 NF k53 NF q4 i1 i2 i3 i4 i5 i6 i7 i8 (0 : Int32) (0 : Int32)
    else
      chk (32 : Int32) i1 <|
      some (sA ob 23 i1 i7)
  else
    chk (32 : Int32) i1 <|
    some (sA ob 23 i1 i7)
def X_evalPlanJoin_l53 (NF : Nat) : Nat → Rec → Int32 → Int32 → Int32 → Int32 → Int32 → Int32 → Int32 → Int32 → Option (Rec)
  | 0, _, _, _, _, _, _, _, _, _ => none
  | n + 1, ob, i1, i2, i3, i4, i5, i6, i7, i8 => X_evalPlanJoin_w53 NF (X_evalPlanJoin_l53 NF n) ob i1 i2 i3 i4 i5 i6 i7 i8
theorem X_evalPlanJoin_w53_p {C : Ctx} {top : Nat} {a : Nat} {H : List (Nat × Nat × Rec)} {res : Rec} {NF : Nat} (k53 : Rec → Int32 → Int32 → Int32 → Int32 → Int32 → Int32 → Int32 → Int32 → Option (Rec)) (hk53 : ∀ (ob : Rec) (i1 : Int32) (i2 : Int32) (i3 : Int32) (i4 : Int32) (i5 : Int32) (i6 : Int32) (i7 : Int32) (i8 : Int32), k53 ob i1 i2 i3 i4 i5 i6 i7 i8 = some res → Runs C B55 0 0 53 [vr a, vi i1, vi i2, vi i3, vi i4, vi i5, vi i6, vi i7, vi i8, vn, vn] [] (top, (a, 45, ob) :: H) (Ans none (top, (a, 45, res) :: H))) (ob : Rec) (i1 : Int32) (i2 : Int32) (i3 : Int32) (i4 : Int32) (i5 : Int32) (i6 : Int32) (i7 : Int32) (i8 : Int32) (hf : X_evalPlanJoin_w53 NF k53 ob i1 i2 i3 i4 i5 i6 i7 i8 = some res) : Runs C B55 0 0 53 [vr a, vi i1, vi i2, vi i3, vi i4, vi i5, vi i6, vi i7, vi i8, vn, vn] [] (top, (a, 45, ob) :: H) (Ans none (top, (a, 45, res) :: H)) := by
  delta X_evalPlanJoin_w53 at hf
  refine zd d55_53 rfl <| zb d55_55 rfl <| ze d55_56 fA_23 w71 (by decide) <| za d55_59 rfl <| ?_
  refine chk_el hf fun hi1 hf => ?_
  refine zh d55_60 fA_23 (by decide) hi1 <| ?_
  refine ite_el hf (fun hc2 hf => ?_) (fun hc2 hf => ?_)
  · refine zg d55_61 (tlt hc2).2.1 <| ?_
    refine zd d55_64 rfl <| zj d55_66 cb_64 <| ?_
    refine ite_el hf (fun hc3 hf => ?_) (fun hc3 hf => ?_)
    · refine zg d55_68 (tlt hc3).2.1 <| ?_
      refine zb d55_71 rfl <| za d55_72 rfl <| zd d55_73 rfl <| zd d55_75 rfl <| zc d55_77 ci_0 <| ?_
      refine bind_el hf fun q4 hg5 hf => ?_
      exact zm (N := B56) (W := 0) (as := [.int i2, .int i8, .int i4, .int (0 : Int32)]) (S' := []) d55_78 w359 w360 w361 rfl cw56 ar56 rk55_56_0 (by decide) rfl rfl (X_loadRow_pay hg5) <| ans0 <| zc d55_81 ci_0 <| zi (P' := [vr a, vi i1, vi i2, vi i3, vi i4, vi i5, vi i6, vi i7, vi i8, vi (0 : Int32), vn]) d55_82 (by decide) rfl <| zc d55_84 ci_0 <| zi (P' := [vr a, vi i1, vi i2, vi i3, vi i4, vi i5, vi i6, vi i7, vi i8, vi (0 : Int32), vi (0 : Int32)]) d55_85 (by decide) rfl <| X_evalPlanJoin_l87_p k53 hk53 NF q4 i1 i2 i3 i4 i5 i6 i7 i8 (0 : Int32) (0 : Int32) hf
    · refine zf (pc' := 179) d55_68 (flt hc3).2.1 (by decide) <| ?_
      refine zb d55_179 rfl <| ze d55_180 fA_23 w71 (by decide) <| za d55_183 rfl <| zd d55_184 rfl <| ?_
      refine chk_el hf fun hi6 hf => ?_
      obtain rfl := Option.some.inj hf
      exact zq d55_186 fA_23 (by decide) hi6 <| zt d55_187 rfl ⟨by decide, by decide⟩ ⟨rfl, rfl⟩
  · refine zf (pc' := 179) d55_61 (flt hc2).2.1 (by decide) <| ?_
    refine zb d55_179 rfl <| ze d55_180 fA_23 w71 (by decide) <| za d55_183 rfl <| zd d55_184 rfl <| ?_
    refine chk_el hf fun hi7 hf => ?_
    obtain rfl := Option.some.inj hf
    exact zq d55_186 fA_23 (by decide) hi7 <| zt d55_187 rfl ⟨by decide, by decide⟩ ⟨rfl, rfl⟩
theorem X_evalPlanJoin_l53_p {C : Ctx} {top : Nat} {a : Nat} {H : List (Nat × Nat × Rec)} {res : Rec} {NF : Nat} (n : Nat) (ob : Rec) (i1 : Int32) (i2 : Int32) (i3 : Int32) (i4 : Int32) (i5 : Int32) (i6 : Int32) (i7 : Int32) (i8 : Int32) (hf : X_evalPlanJoin_l53 NF n ob i1 i2 i3 i4 i5 i6 i7 i8 = some res) : Runs C B55 0 0 53 [vr a, vi i1, vi i2, vi i3, vi i4, vi i5, vi i6, vi i7, vi i8, vn, vn] [] (top, (a, 45, ob) :: H) (Ans none (top, (a, 45, res) :: H)) := by
  induction n generalizing ob i1 i2 i3 i4 i5 i6 i7 i8 with
  | zero => cases (show (none : Option (Rec)) = some res from hf)
  | succ n ih => exact X_evalPlanJoin_w53_p (X_evalPlanJoin_l53 NF n) (fun ob i1 i2 i3 i4 i5 i6 i7 i8 h => ih _ _ _ _ _ _ _ _ _ h) ob i1 i2 i3 i4 i5 i6 i7 i8 hf
def X_evalPlanJoin (NF : Nat) (ob : Rec) (i1 : Int32) : Option (Rec) :=
  chk (16 : Int32) i1 <|
  chk (16 : Int32) i1 <|
  chk (16 : Int32) (gA ob 28 i1) <|
  chk (16 : Int32) (gA ob 29 i1) <|
  chk (16 : Int32) i1 <|
  if (gA ob 30 i1) = (1 : Int32) then
    X_evalPlanJoin_l53 NF NF ob i1 (gA ob 28 i1) (gA ob 29 i1) (gA ob 31 (gA ob 28 i1)) (gA ob 31 (gA ob 29 i1)) (1 : Int32) (0 : Int32) (0 : Int32)
  else
    X_evalPlanJoin_l53 NF NF ob i1 (gA ob 28 i1) (gA ob 29 i1) (gA ob 31 (gA ob 28 i1)) (gA ob 31 (gA ob 29 i1)) (0 : Int32) (0 : Int32) (0 : Int32)
theorem X_evalPlanJoin_p {C : Ctx} {top : Nat} {a : Nat} {H : List (Nat × Nat × Rec)} {res : Rec} {NF : Nat} (ob : Rec) (i1 : Int32) (hf : X_evalPlanJoin NF ob i1 = some res) : Runs C B55 0 0 0 [vr a, vi i1, vn, vn, vn, vn, vn, vn, vn, vn, vn] [] (top, (a, 45, ob) :: H) (Ans none (top, (a, 45, res) :: H)) := by
  delta X_evalPlanJoin at hf
  refine zb d55_0 rfl <| ze d55_1 fA_28 w81 (by decide) <| za d55_4 rfl <| ?_
  refine chk_el hf fun hi26 hf => ?_
  refine zh d55_5 fA_28 (by decide) hi26 <| zr (P' := [vr a, vi i1, vi (gA ob 28 i1), vn, vn, vn, vn, vn, vn, vn, vn]) d55_6 (by decide) rfl <| zb d55_7 rfl <| ze d55_8 fA_29 w83 (by decide) <| za d55_11 rfl <| ?_
  refine chk_el hf fun hi27 hf => ?_
  refine zh d55_12 fA_29 (by decide) hi27 <| zr (P' := [vr a, vi i1, vi (gA ob 28 i1), vi (gA ob 29 i1), vn, vn, vn, vn, vn, vn, vn]) d55_13 (by decide) rfl <| zb d55_14 rfl <| ze d55_15 fA_31 w87 (by decide) <| za d55_18 rfl <| ?_
  refine chk_el hf fun hi28 hf => ?_
  refine zh d55_19 fA_31 (by decide) hi28 <| zi (P' := [vr a, vi i1, vi (gA ob 28 i1), vi (gA ob 29 i1), vi (gA ob 31 (gA ob 28 i1)), vn, vn, vn, vn, vn, vn]) d55_20 (by decide) rfl <| zb d55_22 rfl <| ze d55_23 fA_31 w87 (by decide) <| za d55_26 rfl <| ?_
  refine chk_el hf fun hi29 hf => ?_
  refine zh d55_27 fA_31 (by decide) hi29 <| zi (P' := [vr a, vi i1, vi (gA ob 28 i1), vi (gA ob 29 i1), vi (gA ob 31 (gA ob 28 i1)), vi (gA ob 31 (gA ob 29 i1)), vn, vn, vn, vn, vn]) d55_28 (by decide) rfl <| zb d55_30 rfl <| ze d55_31 fA_30 w85 (by decide) <| za d55_34 rfl <| ?_
  refine chk_el hf fun hi30 hf => ?_
  refine zh d55_35 fA_30 (by decide) hi30 <| zc d55_36 ci_1 <| ?_
  refine ite_el hf (fun hc31 hf => ?_) (fun hc31 hf => ?_)
  · refine zg d55_37 (teq hc31).2 <| ?_
    exact zc d55_40 ci_1 <| zo (pc' := 45) d55_41 (by decide) <| zi (P' := [vr a, vi i1, vi (gA ob 28 i1), vi (gA ob 29 i1), vi (gA ob 31 (gA ob 28 i1)), vi (gA ob 31 (gA ob 29 i1)), vi (1 : Int32), vn, vn, vn, vn]) d55_45 (by decide) rfl <| zc d55_47 ci_0 <| zi (P' := [vr a, vi i1, vi (gA ob 28 i1), vi (gA ob 29 i1), vi (gA ob 31 (gA ob 28 i1)), vi (gA ob 31 (gA ob 29 i1)), vi (1 : Int32), vi (0 : Int32), vn, vn, vn]) d55_48 (by decide) rfl <| zc d55_50 ci_0 <| zi (P' := [vr a, vi i1, vi (gA ob 28 i1), vi (gA ob 29 i1), vi (gA ob 31 (gA ob 28 i1)), vi (gA ob 31 (gA ob 29 i1)), vi (1 : Int32), vi (0 : Int32), vi (0 : Int32), vn, vn]) d55_51 (by decide) rfl <| X_evalPlanJoin_l53_p NF ob i1 (gA ob 28 i1) (gA ob 29 i1) (gA ob 31 (gA ob 28 i1)) (gA ob 31 (gA ob 29 i1)) (1 : Int32) (0 : Int32) (0 : Int32) hf
  · refine zf (pc' := 44) d55_37 (feq hc31).2 (by decide) <| ?_
    exact zc d55_44 ci_0 <| zi (P' := [vr a, vi i1, vi (gA ob 28 i1), vi (gA ob 29 i1), vi (gA ob 31 (gA ob 28 i1)), vi (gA ob 31 (gA ob 29 i1)), vi (0 : Int32), vn, vn, vn, vn]) d55_45 (by decide) rfl <| zc d55_47 ci_0 <| zi (P' := [vr a, vi i1, vi (gA ob 28 i1), vi (gA ob 29 i1), vi (gA ob 31 (gA ob 28 i1)), vi (gA ob 31 (gA ob 29 i1)), vi (0 : Int32), vi (0 : Int32), vn, vn, vn]) d55_48 (by decide) rfl <| zc d55_50 ci_0 <| zi (P' := [vr a, vi i1, vi (gA ob 28 i1), vi (gA ob 29 i1), vi (gA ob 31 (gA ob 28 i1)), vi (gA ob 31 (gA ob 29 i1)), vi (0 : Int32), vi (0 : Int32), vi (0 : Int32), vn, vn]) d55_51 (by decide) rfl <| X_evalPlanJoin_l53_p NF ob i1 (gA ob 28 i1) (gA ob 29 i1) (gA ob 31 (gA ob 28 i1)) (gA ob 31 (gA ob 29 i1)) (0 : Int32) (0 : Int32) (0 : Int32) hf
theorem X_evalPlanJoin_pay {C : Ctx} {top : Nat} {a : Nat} {H : List (Nat × Nat × Rec)} {res : Rec} {NF : Nat} {ob : Rec} {i1 : Int32} (hf : X_evalPlanJoin NF ob i1 = some res) : Pays C B55 [.ref a, .int i1] (top, (a, 45, ob) :: H) (Ans none (top, (a, 45, res) :: H)) :=
  Pays.of pnK (Nat.le_of_ble_eq_true rfl) (P := [vr a, vi i1, vn, vn, vn, vn, vn, vn, vn, vn, vn]) 9 rfl (X_evalPlanJoin_p ob i1 hf)
def X_evalPlanAll_w2 (NF : Nat) (k2 : Rec → Int32 → Option (Rec)) (ob : Rec) (i1 : Int32) : Option (Rec) :=
  if i1 < (gI ob 14) then
    if i1 < (16 : Int32) then
      chk (32 : Int32) i1 <|
      chk (16 : Int32) i1 <|
      if (gA ob 34 i1) = (0 : Int32) then
        chk (16 : Int32) i1 <|
        if (gA ob 26 i1) = (0 : Int32) then
          (X_evalPlanScan NF (sA ob 23 i1 (0 : Int32)) i1).bind fun q8 =>
          k2 q8 (i1 + (1 : Int32))
        else
          (X_evalPlanJoin NF (sA ob 23 i1 (0 : Int32)) i1).bind fun q10 =>
          k2 q10 (i1 + (1 : Int32))
      else
        k2 (sA ob 23 i1 (0 : Int32)) (i1 + (1 : Int32))
    else
      some ob
  else
    some ob
def X_evalPlanAll_l2 (NF : Nat) : Nat → Rec → Int32 → Option (Rec)
  | 0, _, _ => none
  | n + 1, ob, i1 => X_evalPlanAll_w2 NF (X_evalPlanAll_l2 NF n) ob i1
theorem X_evalPlanAll_w2_p {C : Ctx} {top : Nat} {a : Nat} {H : List (Nat × Nat × Rec)} {res : Rec} {NF : Nat} (k2 : Rec → Int32 → Option (Rec)) (hk2 : ∀ (ob : Rec) (i1 : Int32), k2 ob i1 = some res → Runs C B47 0 0 2 [vr a, vi i1] [] (top, (a, 45, ob) :: H) (Ans none (top, (a, 45, res) :: H))) (ob : Rec) (i1 : Int32) (hf : X_evalPlanAll_w2 NF k2 ob i1 = some res) : Runs C B47 0 0 2 [vr a, vi i1] [] (top, (a, 45, ob) :: H) (Ans none (top, (a, 45, res) :: H)) := by
  delta X_evalPlanAll_w2 at hf
  refine za d47_2 rfl <| zb d47_3 rfl <| zs d47_4 w200 fS_14 <| ?_
  refine ite_el hf (fun hc1 hf => ?_) (fun hc1 hf => ?_)
  · refine zg d47_7 (tlt hc1).2.1 <| ?_
    refine za d47_10 rfl <| zj d47_11 cb_16 <| ?_
    refine ite_el hf (fun hc2 hf => ?_) (fun hc2 hf => ?_)
    · refine zg d47_13 (tlt hc2).2.1 <| ?_
      refine zb d47_16 rfl <| ze d47_17 fA_23 w71 (by decide) <| za d47_20 rfl <| zc d47_21 ci_0 <| ?_
      refine chk_el hf fun hi3 hf => ?_
      refine zq d47_22 fA_23 (by decide) hi3 <| zb d47_23 rfl <| ze d47_24 fA_34 w93 (by decide) <| za d47_27 rfl <| ?_
      refine chk_el hf fun hi4 hf => ?_
      refine Runs.baloadA d47_28 fA_34 (by decide) hi4 <| ?_
      refine ite_el hf (fun hc5 hf => ?_) (fun hc5 hf => ?_)
      · refine zk (pc' := 35) d47_29 (teq hc5).1 (by decide) <| ?_
        refine zb d47_35 rfl <| ze d47_36 fA_26 w77 (by decide) <| za d47_39 rfl <| ?_
        refine chk_el hf fun hi6 hf => ?_
        refine zh d47_40 fA_26 (by decide) hi6 <| ?_
        refine ite_el hf (fun hc7 hf => ?_) (fun hc7 hf => ?_)
        · refine zl d47_41 (teq hc7).2 <| ?_
          refine zb d47_44 rfl <| za d47_45 rfl <| ?_
          refine bind_el hf fun q8 hg9 hf => ?_
          exact zm (N := B48) (W := 0) (as := [.int i1]) (S' := []) d47_46 w326 w327 w328 rfl cw48 ar48 rk47_48_0 (by decide) rfl rfl (X_evalPlanScan_pay hg9) <| ans0 <| zo (pc' := 57) d47_49 (by decide) <| zv (P' := [vr a, vi (i1 + (1 : Int32))]) d47_57 ci_1 rfl (by decide) rfl <| zo (pc' := 2) d47_60 (by decide) <| hk2 q8 (i1 + (1 : Int32)) hf
        · refine zk (pc' := 52) d47_41 (feq hc7).2 (by decide) <| ?_
          refine zb d47_52 rfl <| za d47_53 rfl <| ?_
          refine bind_el hf fun q10 hg11 hf => ?_
          exact zm (N := B55) (W := 0) (as := [.int i1]) (S' := []) d47_54 w355 w356 w357 rfl cw55 ar55 rk47_55_0 (by decide) rfl rfl (X_evalPlanJoin_pay hg11) <| ans0 <| zv (P' := [vr a, vi (i1 + (1 : Int32))]) d47_57 ci_1 rfl (by decide) rfl <| zo (pc' := 2) d47_60 (by decide) <| hk2 q10 (i1 + (1 : Int32)) hf
      · refine zl d47_29 (feq hc5).1 <| ?_
        exact zo (pc' := 57) d47_32 (by decide) <| zv (P' := [vr a, vi (i1 + (1 : Int32))]) d47_57 ci_1 rfl (by decide) rfl <| zo (pc' := 2) d47_60 (by decide) <| hk2 (sA ob 23 i1 (0 : Int32)) (i1 + (1 : Int32)) hf
    · refine zf (pc' := 63) d47_13 (flt hc2).2.1 (by decide) <| ?_
      obtain rfl := Option.some.inj hf
      exact zt d47_63 rfl ⟨by decide, by decide⟩ ⟨rfl, rfl⟩
  · refine zf (pc' := 63) d47_7 (flt hc1).2.1 (by decide) <| ?_
    obtain rfl := Option.some.inj hf
    exact zt d47_63 rfl ⟨by decide, by decide⟩ ⟨rfl, rfl⟩
theorem X_evalPlanAll_l2_p {C : Ctx} {top : Nat} {a : Nat} {H : List (Nat × Nat × Rec)} {res : Rec} {NF : Nat} (n : Nat) (ob : Rec) (i1 : Int32) (hf : X_evalPlanAll_l2 NF n ob i1 = some res) : Runs C B47 0 0 2 [vr a, vi i1] [] (top, (a, 45, ob) :: H) (Ans none (top, (a, 45, res) :: H)) := by
  induction n generalizing ob i1 with
  | zero => cases (show (none : Option (Rec)) = some res from hf)
  | succ n ih => exact X_evalPlanAll_w2_p (X_evalPlanAll_l2 NF n) (fun ob i1 h => ih _ _ h) ob i1 hf
def X_evalPlanAll (NF : Nat) (ob : Rec) : Option (Rec) :=
  X_evalPlanAll_l2 NF NF ob (0 : Int32)
theorem X_evalPlanAll_p {C : Ctx} {top : Nat} {a : Nat} {H : List (Nat × Nat × Rec)} {res : Rec} {NF : Nat} (ob : Rec) (hf : X_evalPlanAll NF ob = some res) : Runs C B47 0 0 0 [vr a, vn] [] (top, (a, 45, ob) :: H) (Ans none (top, (a, 45, res) :: H)) := by
  delta X_evalPlanAll at hf
  exact zc d47_0 ci_0 <| zr (P' := [vr a, vi (0 : Int32)]) d47_1 (by decide) rfl <| X_evalPlanAll_l2_p NF ob (0 : Int32) hf
theorem X_evalPlanAll_pay {C : Ctx} {top : Nat} {a : Nat} {H : List (Nat × Nat × Rec)} {res : Rec} {NF : Nat} {ob : Rec} (hf : X_evalPlanAll NF ob = some res) : Pays C B47 [.ref a] (top, (a, 45, ob) :: H) (Ans none (top, (a, 45, res) :: H)) :=
  Pays.of pnK (Nat.le_of_ble_eq_true rfl) (P := [vr a, vn]) 1 rfl (X_evalPlanAll_p ob hf)
def X_runRewritten (NF : Nat) (ob : Rec) (i1 : Int32) : Option (Int32 × Rec) :=
  bind2 (X_buildPlan NF ob i1) fun r1 q2 =>
  if r1 = (0 : Int32) then
    some ((-1 : Int32), q2)
  else
    chk (64 : Int32) (0 : Int32) <|
    if (gA q2 43 (0 : Int32)) = ((gI q2 14) - (1 : Int32)) then
      chk (16 : Int32) ((gI q2 14) - (1 : Int32)) <|
      chk (32 : Int32) i1 <|
      if (gA q2 31 ((gI q2 14) - (1 : Int32))) = (gA q2 8 i1) then
        (X_pushdownAll NF q2).bind fun q10 =>
        (X_pruneAll NF q10 ((gI q2 14) - (1 : Int32))).bind fun q12 =>
        (X_evalPlanAll NF q12).bind fun q14 =>
        some (((gI q2 14) - (1 : Int32)), q14)
      else
        some ((-1 : Int32), q2)
    else
      some ((-1 : Int32), q2)
theorem X_runRewritten_p {C : Ctx} {top : Nat} {a : Nat} {H : List (Nat × Nat × Rec)} {res : Int32 × Rec} {NF : Nat} (ob : Rec) (i1 : Int32) (hf : X_runRewritten NF ob i1 = some res) : Runs C B17 0 0 0 [vr a, vi i1, vn] [] (top, (a, 45, ob) :: H) (Ans (some (.int res.1)) (top, (a, 45, res.2) :: H)) := by
  delta X_runRewritten at hf
  refine zb d17_0 rfl <| za d17_1 rfl <| ?_
  refine bind2_el hf fun r1 q2 hg3 hf => ?_
  refine zm (N := B18) (W := 0) (as := [.int i1]) (S' := []) d17_2 w196 w197 w198 rfl cw18 ar18 rk17_18_0 (by decide) rfl rfl (X_buildPlan_pay hg3) <| ans1 <| ?_
  refine ite_el hf (fun hc4 hf => ?_) (fun hc4 hf => ?_)
  · refine zl d17_5 (teq hc4).2 <| ?_
    obtain rfl := Option.some.inj hf
    exact zc d17_8 ci_m1 <| zn d17_9 rfl ⟨by decide, by decide⟩ ⟨rfl, rfl⟩
  · refine zk (pc' := 10) d17_5 (feq hc4).2 (by decide) <| ?_
    refine zb d17_10 rfl <| zs d17_11 w200 fS_14 <| zc d17_14 ci_1 <| Runs.isub d17_15 <| zr (P' := [vr a, vi i1, vi ((gI q2 14) - (1 : Int32))]) d17_16 (by decide) rfl <| zb d17_17 rfl <| ze d17_18 fA_43 w111 (by decide) <| zc d17_21 ci_0 <| ?_
    refine chk_el hf fun hi5 hf => ?_
    refine zh d17_22 fA_43 (by decide) hi5 <| za d17_23 rfl <| ?_
    refine ite_el hf (fun hc6 hf => ?_) (fun hc6 hf => ?_)
    · refine zg d17_24 (teq hc6).2 <| ?_
      refine zb d17_27 rfl <| ze d17_28 fA_31 w87 (by decide) <| za d17_31 rfl <| ?_
      refine chk_el hf fun hi7 hf => ?_
      refine zh d17_32 fA_31 (by decide) hi7 <| zb d17_33 rfl <| ze d17_34 fA_8 w40 (by decide) <| za d17_37 rfl <| ?_
      refine chk_el hf fun hi8 hf => ?_
      refine zh d17_38 fA_8 (by decide) hi8 <| ?_
      refine ite_el hf (fun hc9 hf => ?_) (fun hc9 hf => ?_)
      · refine zf (pc' := 44) d17_39 (teq hc9).1 (by decide) <| ?_
        refine zb d17_44 rfl <| ?_
        refine bind_el hf fun q10 hg11 hf => ?_
        refine zm (N := B31) (W := 0) (as := []) (S' := []) d17_45 w258 w259 w260 rfl cw31 ar31 rk17_31_0 (by decide) rfl rfl (X_pushdownAll_pay hg11) <| ans0 <| zb d17_48 rfl <| za d17_49 rfl <| ?_
        refine bind_el hf fun q12 hg13 hf => ?_
        refine zm (N := B38) (W := 0) (as := [.int ((gI q2 14) - (1 : Int32))]) (S' := []) d17_50 w286 w287 w288 rfl cw38 ar38 rk17_38_0 (by decide) rfl rfl (X_pruneAll_pay hg13) <| ans0 <| zb d17_53 rfl <| ?_
        refine bind_el hf fun q14 hg15 hf => ?_
        obtain rfl := Option.some.inj hf
        exact zm (N := B47) (W := 0) (as := []) (S' := []) d17_54 w322 w323 w324 rfl cw47 ar47 rk17_47_0 (by decide) rfl rfl (X_evalPlanAll_pay hg15) <| ans0 <| za d17_57 rfl <| zn d17_58 rfl ⟨by decide, by decide⟩ ⟨rfl, rfl⟩
      · refine zg d17_39 (feq hc9).1 <| ?_
        obtain rfl := Option.some.inj hf
        exact zc d17_42 ci_m1 <| zn d17_43 rfl ⟨by decide, by decide⟩ ⟨rfl, rfl⟩
    · refine zf (pc' := 42) d17_24 (feq hc6).2 (by decide) <| ?_
      obtain rfl := Option.some.inj hf
      exact zc d17_42 ci_m1 <| zn d17_43 rfl ⟨by decide, by decide⟩ ⟨rfl, rfl⟩
theorem X_runRewritten_pay {C : Ctx} {top : Nat} {a : Nat} {H : List (Nat × Nat × Rec)} {res : Int32 × Rec} {NF : Nat} {ob : Rec} {i1 : Int32} (hf : X_runRewritten NF ob i1 = some res) : Pays C B17 [.ref a, .int i1] (top, (a, 45, ob) :: H) (Ans (some (.int res.1)) (top, (a, 45, res.2) :: H)) :=
  Pays.of pnK (Nat.le_of_ble_eq_true rfl) (P := [vr a, vi i1, vn]) 1 rfl (X_runRewritten_p ob i1 hf)
def X_rowLess_w2 (NF : Nat) (ob : Rec) (k2 : Int32 → Int32 → Int32 → Option (Int32)) (i1 : Int32) (i2 : Int32) (i3 : Int32) : Option (Int32) :=
  if i3 < (gI ob 12) then
    if i3 < (8 : Int32) then
      chk (512 : Int32) ((i1 * (8 : Int32)) + i3) <|
      chk (512 : Int32) ((i2 * (8 : Int32)) + i3) <|
      if (gA ob 25 ((i1 * (8 : Int32)) + i3)) = (gA ob 25 ((i2 * (8 : Int32)) + i3)) then
        k2 i1 i2 (i3 + (1 : Int32))
      else
        if (gA ob 25 ((i1 * (8 : Int32)) + i3)) < (gA ob 25 ((i2 * (8 : Int32)) + i3)) then
          some (1 : Int32)
        else
          some (0 : Int32)
    else
      some (0 : Int32)
  else
    some (0 : Int32)
def X_rowLess_l2 (NF : Nat) (ob : Rec) : Nat → Int32 → Int32 → Int32 → Option (Int32)
  | 0, _, _, _ => none
  | n + 1, i1, i2, i3 => X_rowLess_w2 NF ob (X_rowLess_l2 NF ob n) i1 i2 i3
theorem X_rowLess_w2_p {C : Ctx} {top : Nat} {a : Nat} {H : List (Nat × Nat × Rec)} {ob : Rec} {res : Int32} {NF : Nat} (k2 : Int32 → Int32 → Int32 → Option (Int32)) (hk2 : ∀ (i1 : Int32) (i2 : Int32) (i3 : Int32), k2 i1 i2 i3 = some res → Runs C B63 0 0 2 [vr a, vi i1, vi i2, vi i3, vn, vn] [] (top, (a, 45, ob) :: H) (Ans (some (.int res)) (top, (a, 45, ob) :: H))) (i1 : Int32) (i2 : Int32) (i3 : Int32) (hf : X_rowLess_w2 NF ob k2 i1 i2 i3 = some res) : Runs C B63 0 0 2 [vr a, vi i1, vi i2, vi i3, vn, vn] [] (top, (a, 45, ob) :: H) (Ans (some (.int res)) (top, (a, 45, ob) :: H)) := by
  delta X_rowLess_w2 at hf
  refine za d63_2 rfl <| zb d63_3 rfl <| zs d63_4 w375 fS_12 <| ?_
  refine ite_el hf (fun hc1 hf => ?_) (fun hc1 hf => ?_)
  · refine zg d63_7 (tlt hc1).2.1 <| ?_
    refine za d63_10 rfl <| zj d63_11 cb_8 <| ?_
    refine ite_el hf (fun hc2 hf => ?_) (fun hc2 hf => ?_)
    · refine zg d63_13 (tlt hc2).2.1 <| ?_
      refine zb d63_16 rfl <| ze d63_17 fA_25 w75 (by decide) <| za d63_20 rfl <| zj d63_21 cb_8 <| zy d63_23 <| za d63_24 rfl <| zu d63_25 <| ?_
      refine chk_el hf fun hi3 hf => ?_
      refine zh d63_26 fA_25 (by decide) hi3 <| zi (P' := [vr a, vi i1, vi i2, vi i3, vi (gA ob 25 ((i1 * (8 : Int32)) + i3)), vn]) d63_27 (by decide) rfl <| zb d63_29 rfl <| ze d63_30 fA_25 w75 (by decide) <| za d63_33 rfl <| zj d63_34 cb_8 <| zy d63_36 <| za d63_37 rfl <| zu d63_38 <| ?_
      refine chk_el hf fun hi4 hf => ?_
      refine zh d63_39 fA_25 (by decide) hi4 <| zi (P' := [vr a, vi i1, vi i2, vi i3, vi (gA ob 25 ((i1 * (8 : Int32)) + i3)), vi (gA ob 25 ((i2 * (8 : Int32)) + i3))]) d63_40 (by decide) rfl <| zd d63_42 rfl <| zd d63_44 rfl <| ?_
      refine ite_el hf (fun hc5 hf => ?_) (fun hc5 hf => ?_)
      · refine zf (pc' := 62) d63_46 (teq hc5).1 (by decide) <| ?_
        exact zv (P' := [vr a, vi i1, vi i2, vi (i3 + (1 : Int32)), vi (gA ob 25 ((i1 * (8 : Int32)) + i3)), vi (gA ob 25 ((i2 * (8 : Int32)) + i3))]) d63_62 ci_1 rfl (by decide) rfl <| zo (pc' := 2) d63_65 (by decide) <| zp [true, true, true, true, false, false] rfl <| hk2 i1 i2 (i3 + (1 : Int32)) hf
      · refine zg d63_46 (feq hc5).1 <| ?_
        refine zd d63_49 rfl <| zd d63_51 rfl <| ?_
        refine ite_el hf (fun hc6 hf => ?_) (fun hc6 hf => ?_)
        · refine zg d63_53 (tlt hc6).2.1 <| ?_
          obtain rfl := Option.some.inj hf
          exact zc d63_56 ci_1 <| zo (pc' := 61) d63_57 (by decide) <| zw (y := (1 : Int32)) d63_61 rfl ⟨by decide, by decide⟩ rfl ⟨rfl, rfl⟩
        · refine zf (pc' := 60) d63_53 (flt hc6).2.1 (by decide) <| ?_
          obtain rfl := Option.some.inj hf
          exact zc d63_60 ci_0 <| zw (y := (0 : Int32)) d63_61 rfl ⟨by decide, by decide⟩ rfl ⟨rfl, rfl⟩
    · refine zf (pc' := 68) d63_13 (flt hc2).2.1 (by decide) <| ?_
      obtain rfl := Option.some.inj hf
      exact zc d63_68 ci_0 <| zw (y := (0 : Int32)) d63_69 rfl ⟨by decide, by decide⟩ rfl ⟨rfl, rfl⟩
  · refine zf (pc' := 68) d63_7 (flt hc1).2.1 (by decide) <| ?_
    obtain rfl := Option.some.inj hf
    exact zc d63_68 ci_0 <| zw (y := (0 : Int32)) d63_69 rfl ⟨by decide, by decide⟩ rfl ⟨rfl, rfl⟩
theorem X_rowLess_l2_p {C : Ctx} {top : Nat} {a : Nat} {H : List (Nat × Nat × Rec)} {ob : Rec} {res : Int32} {NF : Nat} (n : Nat) (i1 : Int32) (i2 : Int32) (i3 : Int32) (hf : X_rowLess_l2 NF ob n i1 i2 i3 = some res) : Runs C B63 0 0 2 [vr a, vi i1, vi i2, vi i3, vn, vn] [] (top, (a, 45, ob) :: H) (Ans (some (.int res)) (top, (a, 45, ob) :: H)) := by
  induction n generalizing i1 i2 i3 with
  | zero => cases (show (none : Option (Int32)) = some res from hf)
  | succ n ih => exact X_rowLess_w2_p (X_rowLess_l2 NF ob n) (fun i1 i2 i3 h => ih _ _ _ h) i1 i2 i3 hf
def X_rowLess (NF : Nat) (ob : Rec) (i1 : Int32) (i2 : Int32) : Option (Int32) :=
  X_rowLess_l2 NF ob NF i1 i2 (0 : Int32)
theorem X_rowLess_p {C : Ctx} {top : Nat} {a : Nat} {H : List (Nat × Nat × Rec)} {ob : Rec} {res : Int32} {NF : Nat} (i1 : Int32) (i2 : Int32) (hf : X_rowLess NF ob i1 i2 = some res) : Runs C B63 0 0 0 [vr a, vi i1, vi i2, vn, vn, vn] [] (top, (a, 45, ob) :: H) (Ans (some (.int res)) (top, (a, 45, ob) :: H)) := by
  delta X_rowLess at hf
  exact zc d63_0 ci_0 <| zr (P' := [vr a, vi i1, vi i2, vi (0 : Int32), vn, vn]) d63_1 (by decide) rfl <| X_rowLess_l2_p NF i1 i2 (0 : Int32) hf
theorem X_rowLess_pay {C : Ctx} {top : Nat} {a : Nat} {H : List (Nat × Nat × Rec)} {ob : Rec} {res : Int32} {NF : Nat} {i1 : Int32} {i2 : Int32} (hf : X_rowLess NF ob i1 i2 = some res) : Pays C B63 [.ref a, .int i1, .int i2] (top, (a, 45, ob) :: H) (Ans (some (.int res)) (top, (a, 45, ob) :: H)) :=
  Pays.of pnK (Nat.le_of_ble_eq_true rfl) (P := [vr a, vi i1, vi i2, vn, vn, vn]) 3 rfl (X_rowLess_p i1 i2 hf)
def X_swapRows_w2 (NF : Nat) (k2 : Rec → Int32 → Int32 → Int32 → Option (Rec)) (ob : Rec) (i1 : Int32) (i2 : Int32) (i3 : Int32) : Option (Rec) :=
  if i3 < (8 : Int32) then
    chk (512 : Int32) ((i1 * (8 : Int32)) + i3) <|
    chk (512 : Int32) ((i2 * (8 : Int32)) + i3) <|
    chk (512 : Int32) ((i1 * (8 : Int32)) + i3) <|
    chk (512 : Int32) ((i2 * (8 : Int32)) + i3) <|
    k2 (sA (sA ob 25 ((i1 * (8 : Int32)) + i3) (gA ob 25 ((i2 * (8 : Int32)) + i3))) 25 ((i2 * (8 : Int32)) + i3) (gA ob 25 ((i1 * (8 : Int32)) + i3))) i1 i2 (i3 + (1 : Int32))
  else
    some ob
def X_swapRows_l2 (NF : Nat) : Nat → Rec → Int32 → Int32 → Int32 → Option (Rec)
  | 0, _, _, _, _ => none
  | n + 1, ob, i1, i2, i3 => X_swapRows_w2 NF (X_swapRows_l2 NF n) ob i1 i2 i3
theorem X_swapRows_w2_p {C : Ctx} {top : Nat} {a : Nat} {H : List (Nat × Nat × Rec)} {res : Rec} {NF : Nat} (k2 : Rec → Int32 → Int32 → Int32 → Option (Rec)) (hk2 : ∀ (ob : Rec) (i1 : Int32) (i2 : Int32) (i3 : Int32), k2 ob i1 i2 i3 = some res → Runs C B64 0 0 2 [vr a, vi i1, vi i2, vi i3, vn] [] (top, (a, 45, ob) :: H) (Ans none (top, (a, 45, res) :: H))) (ob : Rec) (i1 : Int32) (i2 : Int32) (i3 : Int32) (hf : X_swapRows_w2 NF k2 ob i1 i2 i3 = some res) : Runs C B64 0 0 2 [vr a, vi i1, vi i2, vi i3, vn] [] (top, (a, 45, ob) :: H) (Ans none (top, (a, 45, res) :: H)) := by
  delta X_swapRows_w2 at hf
  refine za d64_2 rfl <| zj d64_3 cb_8 <| ?_
  refine ite_el hf (fun hc1 hf => ?_) (fun hc1 hf => ?_)
  · refine zg d64_5 (tlt hc1).2.1 <| ?_
    refine zb d64_8 rfl <| ze d64_9 fA_25 w75 (by decide) <| za d64_12 rfl <| zj d64_13 cb_8 <| zy d64_15 <| za d64_16 rfl <| zu d64_17 <| ?_
    refine chk_el hf fun hi2 hf => ?_
    refine zh d64_18 fA_25 (by decide) hi2 <| zi (P' := [vr a, vi i1, vi i2, vi i3, vi (gA ob 25 ((i1 * (8 : Int32)) + i3))]) d64_19 (by decide) rfl <| zb d64_21 rfl <| ze d64_22 fA_25 w75 (by decide) <| za d64_25 rfl <| zj d64_26 cb_8 <| zy d64_28 <| za d64_29 rfl <| zu d64_30 <| zb d64_31 rfl <| ze d64_32 fA_25 w75 (by decide) <| za d64_35 rfl <| ?_
    refine zj d64_36 cb_8 <| zy d64_38 <| za d64_39 rfl <| zu d64_40 <| ?_
    refine chk_el hf fun hi3 hf => ?_
    refine zh d64_41 fA_25 (by decide) hi3 <| ?_
    refine chk_el hf fun hi4 hf => ?_
    refine zq d64_42 fA_25 (by decide) hi4 <| zb d64_43 rfl <| ze d64_44 fA_25 w75 (by decide) <| za d64_47 rfl <| zj d64_48 cb_8 <| zy d64_50 <| za d64_51 rfl <| zu d64_52 <| zd d64_53 rfl <| ?_
    refine chk_el hf fun hi5 hf => ?_
    exact zq d64_55 fA_25 (by decide) hi5 <| zv (P' := [vr a, vi i1, vi i2, vi (i3 + (1 : Int32)), vi (gA ob 25 ((i1 * (8 : Int32)) + i3))]) d64_56 ci_1 rfl (by decide) rfl <| zo (pc' := 2) d64_59 (by decide) <| zp [true, true, true, true, false] rfl <| hk2 (sA (sA ob 25 ((i1 * (8 : Int32)) + i3) (gA ob 25 ((i2 * (8 : Int32)) + i3))) 25 ((i2 * (8 : Int32)) + i3) (gA ob 25 ((i1 * (8 : Int32)) + i3))) i1 i2 (i3 + (1 : Int32)) hf
  · refine zf (pc' := 62) d64_5 (flt hc1).2.1 (by decide) <| ?_
    obtain rfl := Option.some.inj hf
    exact zt d64_62 rfl ⟨by decide, by decide⟩ ⟨rfl, rfl⟩
theorem X_swapRows_l2_p {C : Ctx} {top : Nat} {a : Nat} {H : List (Nat × Nat × Rec)} {res : Rec} {NF : Nat} (n : Nat) (ob : Rec) (i1 : Int32) (i2 : Int32) (i3 : Int32) (hf : X_swapRows_l2 NF n ob i1 i2 i3 = some res) : Runs C B64 0 0 2 [vr a, vi i1, vi i2, vi i3, vn] [] (top, (a, 45, ob) :: H) (Ans none (top, (a, 45, res) :: H)) := by
  induction n generalizing ob i1 i2 i3 with
  | zero => cases (show (none : Option (Rec)) = some res from hf)
  | succ n ih => exact X_swapRows_w2_p (X_swapRows_l2 NF n) (fun ob i1 i2 i3 h => ih _ _ _ _ h) ob i1 i2 i3 hf
def X_swapRows (NF : Nat) (ob : Rec) (i1 : Int32) (i2 : Int32) : Option (Rec) :=
  X_swapRows_l2 NF NF ob i1 i2 (0 : Int32)
theorem X_swapRows_p {C : Ctx} {top : Nat} {a : Nat} {H : List (Nat × Nat × Rec)} {res : Rec} {NF : Nat} (ob : Rec) (i1 : Int32) (i2 : Int32) (hf : X_swapRows NF ob i1 i2 = some res) : Runs C B64 0 0 0 [vr a, vi i1, vi i2, vn, vn] [] (top, (a, 45, ob) :: H) (Ans none (top, (a, 45, res) :: H)) := by
  delta X_swapRows at hf
  exact zc d64_0 ci_0 <| zr (P' := [vr a, vi i1, vi i2, vi (0 : Int32), vn]) d64_1 (by decide) rfl <| X_swapRows_l2_p NF ob i1 i2 (0 : Int32) hf
theorem X_swapRows_pay {C : Ctx} {top : Nat} {a : Nat} {H : List (Nat × Nat × Rec)} {res : Rec} {NF : Nat} {ob : Rec} {i1 : Int32} {i2 : Int32} (hf : X_swapRows NF ob i1 i2 = some res) : Pays C B64 [.ref a, .int i1, .int i2] (top, (a, 45, ob) :: H) (Ans none (top, (a, 45, res) :: H)) :=
  Pays.of pnK (Nat.le_of_ble_eq_true rfl) (P := [vr a, vi i1, vi i2, vn, vn]) 2 rfl (X_swapRows_p ob i1 i2 hf)
def X_sortResult_w18 (NF : Nat) (k2 : Rec → Int32 → Option (Rec)) (k18 : Rec → Int32 → Int32 → Option (Rec)) (ob : Rec) (i1 : Int32) (i2 : Int32) : Option (Rec) :=
  if (0 : Int32) < i2 then
    (X_rowLess NF ob i2 (i2 - (1 : Int32))).bind fun r4 =>
    if r4 = (0 : Int32) then
      k2 ob (i1 + (1 : Int32))
    else
      (X_swapRows NF ob i2 (i2 - (1 : Int32))).bind fun q7 =>
      k18 q7 i1 (i2 + (-1 : Int32))
  else
    k2 ob (i1 + (1 : Int32))
def X_sortResult_l18 (NF : Nat) (k2 : Rec → Int32 → Option (Rec)) : Nat → Rec → Int32 → Int32 → Option (Rec)
  | 0, _, _, _ => none
  | n + 1, ob, i1, i2 => X_sortResult_w18 NF k2 (X_sortResult_l18 NF k2 n) ob i1 i2
theorem X_sortResult_w18_p {C : Ctx} {top : Nat} {a : Nat} {H : List (Nat × Nat × Rec)} {res : Rec} {NF : Nat} (k2 : Rec → Int32 → Option (Rec)) (hk2 : ∀ (ob : Rec) (i1 : Int32), k2 ob i1 = some res → Runs C B60 0 0 2 [vr a, vi i1, vn] [] (top, (a, 45, ob) :: H) (Ans none (top, (a, 45, res) :: H))) (k18 : Rec → Int32 → Int32 → Option (Rec)) (hk18 : ∀ (ob : Rec) (i1 : Int32) (i2 : Int32), k18 ob i1 i2 = some res → Runs C B60 0 0 18 [vr a, vi i1, vi i2] [] (top, (a, 45, ob) :: H) (Ans none (top, (a, 45, res) :: H))) (ob : Rec) (i1 : Int32) (i2 : Int32) (hf : X_sortResult_w18 NF k2 k18 ob i1 i2 = some res) : Runs C B60 0 0 18 [vr a, vi i1, vi i2] [] (top, (a, 45, ob) :: H) (Ans none (top, (a, 45, res) :: H)) := by
  delta X_sortResult_w18 at hf
  refine za d60_18 rfl <| ?_
  refine ite_el hf (fun hc3 hf => ?_) (fun hc3 hf => ?_)
  · refine zl d60_19 (tlt hc3).2.2.2 <| ?_
    refine zb d60_22 rfl <| za d60_23 rfl <| za d60_24 rfl <| zc d60_25 ci_1 <| Runs.isub d60_26 <| ?_
    refine bind_el hf fun r4 hg5 hf => ?_
    refine zm (N := B63) (W := 0) (as := [.int i2, .int (i2 - (1 : Int32))]) (S' := []) d60_27 w394 w395 w396 rfl cw63 ar63 rk60_63_0 (by decide) rfl rfl (X_rowLess_pay hg5) <| ans1 <| ?_
    refine ite_el hf (fun hc6 hf => ?_) (fun hc6 hf => ?_)
    · refine zk (pc' := 47) d60_30 (teq hc6).1 (by decide) <| ?_
      exact zv (P' := [vr a, vi (i1 + (1 : Int32)), vi i2]) d60_47 ci_1 rfl (by decide) rfl <| zo (pc' := 2) d60_50 (by decide) <| zp [true, true, false] rfl <| hk2 ob (i1 + (1 : Int32)) hf
    · refine zl d60_30 (feq hc6).1 <| ?_
      refine zb d60_33 rfl <| za d60_34 rfl <| za d60_35 rfl <| zc d60_36 ci_1 <| Runs.isub d60_37 <| ?_
      refine bind_el hf fun q7 hg8 hf => ?_
      exact zm (N := B64) (W := 0) (as := [.int i2, .int (i2 - (1 : Int32))]) (S' := []) d60_38 w398 w399 w400 rfl cw64 ar64 rk60_64_0 (by decide) rfl rfl (X_swapRows_pay hg8) <| ans0 <| zv (P' := [vr a, vi i1, vi (i2 + (-1 : Int32))]) d60_41 ci_m1 rfl (by decide) rfl <| zo (pc' := 18) d60_44 (by decide) <| hk18 q7 i1 (i2 + (-1 : Int32)) hf
  · refine zk (pc' := 47) d60_19 (flt hc3).2.2.2 (by decide) <| ?_
    exact zv (P' := [vr a, vi (i1 + (1 : Int32)), vi i2]) d60_47 ci_1 rfl (by decide) rfl <| zo (pc' := 2) d60_50 (by decide) <| zp [true, true, false] rfl <| hk2 ob (i1 + (1 : Int32)) hf
theorem X_sortResult_l18_p {C : Ctx} {top : Nat} {a : Nat} {H : List (Nat × Nat × Rec)} {res : Rec} {NF : Nat} (k2 : Rec → Int32 → Option (Rec)) (hk2 : ∀ (ob : Rec) (i1 : Int32), k2 ob i1 = some res → Runs C B60 0 0 2 [vr a, vi i1, vn] [] (top, (a, 45, ob) :: H) (Ans none (top, (a, 45, res) :: H))) (n : Nat) (ob : Rec) (i1 : Int32) (i2 : Int32) (hf : X_sortResult_l18 NF k2 n ob i1 i2 = some res) : Runs C B60 0 0 18 [vr a, vi i1, vi i2] [] (top, (a, 45, ob) :: H) (Ans none (top, (a, 45, res) :: H)) := by
  induction n generalizing ob i1 i2 with
  | zero => cases (show (none : Option (Rec)) = some res from hf)
  | succ n ih => exact X_sortResult_w18_p k2 hk2 (X_sortResult_l18 NF k2 n) (fun ob i1 i2 h => ih _ _ _ h) ob i1 i2 hf
def X_sortResult_w2 (NF : Nat) (k2 : Rec → Int32 → Option (Rec)) (ob : Rec) (i1 : Int32) : Option (Rec) :=
  if i1 < (gI ob 13) then
    if i1 < (64 : Int32) then
      X_sortResult_l18 NF k2 NF ob i1 i1
    else
      some ob
  else
    some ob
def X_sortResult_l2 (NF : Nat) : Nat → Rec → Int32 → Option (Rec)
  | 0, _, _ => none
  | n + 1, ob, i1 => X_sortResult_w2 NF (X_sortResult_l2 NF n) ob i1
theorem X_sortResult_w2_p {C : Ctx} {top : Nat} {a : Nat} {H : List (Nat × Nat × Rec)} {res : Rec} {NF : Nat} (k2 : Rec → Int32 → Option (Rec)) (hk2 : ∀ (ob : Rec) (i1 : Int32), k2 ob i1 = some res → Runs C B60 0 0 2 [vr a, vi i1, vn] [] (top, (a, 45, ob) :: H) (Ans none (top, (a, 45, res) :: H))) (ob : Rec) (i1 : Int32) (hf : X_sortResult_w2 NF k2 ob i1 = some res) : Runs C B60 0 0 2 [vr a, vi i1, vn] [] (top, (a, 45, ob) :: H) (Ans none (top, (a, 45, res) :: H)) := by
  delta X_sortResult_w2 at hf
  refine za d60_2 rfl <| zb d60_3 rfl <| zs d60_4 w377 fS_13 <| ?_
  refine ite_el hf (fun hc1 hf => ?_) (fun hc1 hf => ?_)
  · refine zg d60_7 (tlt hc1).2.1 <| ?_
    refine za d60_10 rfl <| zj d60_11 cb_64 <| ?_
    refine ite_el hf (fun hc2 hf => ?_) (fun hc2 hf => ?_)
    · refine zg d60_13 (tlt hc2).2.1 <| ?_
      exact za d60_16 rfl <| zr (P' := [vr a, vi i1, vi i1]) d60_17 (by decide) rfl <| X_sortResult_l18_p k2 hk2 NF ob i1 i1 hf
    · refine zf (pc' := 53) d60_13 (flt hc2).2.1 (by decide) <| ?_
      obtain rfl := Option.some.inj hf
      exact zt d60_53 rfl ⟨by decide, by decide⟩ ⟨rfl, rfl⟩
  · refine zf (pc' := 53) d60_7 (flt hc1).2.1 (by decide) <| ?_
    obtain rfl := Option.some.inj hf
    exact zt d60_53 rfl ⟨by decide, by decide⟩ ⟨rfl, rfl⟩
theorem X_sortResult_l2_p {C : Ctx} {top : Nat} {a : Nat} {H : List (Nat × Nat × Rec)} {res : Rec} {NF : Nat} (n : Nat) (ob : Rec) (i1 : Int32) (hf : X_sortResult_l2 NF n ob i1 = some res) : Runs C B60 0 0 2 [vr a, vi i1, vn] [] (top, (a, 45, ob) :: H) (Ans none (top, (a, 45, res) :: H)) := by
  induction n generalizing ob i1 with
  | zero => cases (show (none : Option (Rec)) = some res from hf)
  | succ n ih => exact X_sortResult_w2_p (X_sortResult_l2 NF n) (fun ob i1 h => ih _ _ h) ob i1 hf
def X_sortResult (NF : Nat) (ob : Rec) : Option (Rec) :=
  X_sortResult_l2 NF NF ob (1 : Int32)
theorem X_sortResult_p {C : Ctx} {top : Nat} {a : Nat} {H : List (Nat × Nat × Rec)} {res : Rec} {NF : Nat} (ob : Rec) (hf : X_sortResult NF ob = some res) : Runs C B60 0 0 0 [vr a, vn, vn] [] (top, (a, 45, ob) :: H) (Ans none (top, (a, 45, res) :: H)) := by
  delta X_sortResult at hf
  exact zc d60_0 ci_1 <| zr (P' := [vr a, vi (1 : Int32), vn]) d60_1 (by decide) rfl <| X_sortResult_l2_p NF ob (1 : Int32) hf
theorem X_sortResult_pay {C : Ctx} {top : Nat} {a : Nat} {H : List (Nat × Nat × Rec)} {res : Rec} {NF : Nat} {ob : Rec} (hf : X_sortResult NF ob = some res) : Pays C B60 [.ref a] (top, (a, 45, ob) :: H) (Ans none (top, (a, 45, res) :: H)) :=
  Pays.of pnK (Nat.le_of_ble_eq_true rfl) (P := [vr a, vn, vn]) 2 rfl (X_sortResult_p ob hf)
def X_storeResult_w51 (NF : Nat) (k42 : Rec → Int32 → Int32 → Int32 → Option (Int32 × Rec)) (k51 : Rec → Int32 → Int32 → Int32 → Int32 → Option (Int32 × Rec)) (ob : Rec) (i3 : Int32) (i4 : Int32) (i5 : Int32) (i6 : Int32) : Option (Int32 × Rec) :=
  if i6 < (8 : Int32) then
    chk (16384 : Int32) ((i4 + (i5 * (8 : Int32))) + i6) <|
    chk (512 : Int32) ((i5 * (8 : Int32)) + i6) <|
    k51 (sA ob 25 ((i5 * (8 : Int32)) + i6) (gA ob 22 ((i4 + (i5 * (8 : Int32))) + i6))) i3 i4 i5 (i6 + (1 : Int32))
  else
    k42 ob i3 i4 (i5 + (1 : Int32))
def X_storeResult_l51 (NF : Nat) (k42 : Rec → Int32 → Int32 → Int32 → Option (Int32 × Rec)) : Nat → Rec → Int32 → Int32 → Int32 → Int32 → Option (Int32 × Rec)
  | 0, _, _, _, _, _ => none
  | n + 1, ob, i3, i4, i5, i6 => X_storeResult_w51 NF k42 (X_storeResult_l51 NF k42 n) ob i3 i4 i5 i6
theorem X_storeResult_w51_p {C : Ctx} {top : Nat} {a : Nat} {H : List (Nat × Nat × Rec)} {res : Int32 × Rec} {NF : Nat} (k42 : Rec → Int32 → Int32 → Int32 → Option (Int32 × Rec)) (hk42 : ∀ (ob : Rec) (i3 : Int32) (i4 : Int32) (i5 : Int32), k42 ob i3 i4 i5 = some res → Runs C B59 0 0 42 [vr a, vn, vn, vi i3, vi i4, vi i5, vn] [] (top, (a, 45, ob) :: H) (Ans (some (.int res.1)) (top, (a, 45, res.2) :: H))) (k51 : Rec → Int32 → Int32 → Int32 → Int32 → Option (Int32 × Rec)) (hk51 : ∀ (ob : Rec) (i3 : Int32) (i4 : Int32) (i5 : Int32) (i6 : Int32), k51 ob i3 i4 i5 i6 = some res → Runs C B59 0 0 51 [vr a, vn, vn, vi i3, vi i4, vi i5, vi i6] [] (top, (a, 45, ob) :: H) (Ans (some (.int res.1)) (top, (a, 45, res.2) :: H))) (ob : Rec) (i3 : Int32) (i4 : Int32) (i5 : Int32) (i6 : Int32) (hf : X_storeResult_w51 NF k42 k51 ob i3 i4 i5 i6 = some res) : Runs C B59 0 0 51 [vr a, vn, vn, vi i3, vi i4, vi i5, vi i6] [] (top, (a, 45, ob) :: H) (Ans (some (.int res.1)) (top, (a, 45, res.2) :: H)) := by
  delta X_storeResult_w51 at hf
  refine zd d59_51 rfl <| zj d59_53 cb_8 <| ?_
  refine ite_el hf (fun hc4 hf => ?_) (fun hc4 hf => ?_)
  · refine zg d59_55 (tlt hc4).2.1 <| ?_
    refine zb d59_58 rfl <| ze d59_59 fA_25 w75 (by decide) <| zd d59_62 rfl <| zj d59_64 cb_8 <| zy d59_66 <| zd d59_67 rfl <| zu d59_69 <| zb d59_70 rfl <| ze d59_71 fA_22 w69 (by decide) <| zd d59_74 rfl <| zd d59_76 rfl <| zj d59_78 cb_8 <| ?_
    refine zy d59_80 <| zu d59_81 <| zd d59_82 rfl <| zu d59_84 <| ?_
    refine chk_el hf fun hi5 hf => ?_
    refine zh d59_85 fA_22 (by decide) hi5 <| ?_
    refine chk_el hf fun hi6 hf => ?_
    exact zq d59_86 fA_25 (by decide) hi6 <| zv (P' := [vr a, vn, vn, vi i3, vi i4, vi i5, vi (i6 + (1 : Int32))]) d59_87 ci_1 rfl (by decide) rfl <| zo (pc' := 51) d59_90 (by decide) <| hk51 (sA ob 25 ((i5 * (8 : Int32)) + i6) (gA ob 22 ((i4 + (i5 * (8 : Int32))) + i6))) i3 i4 i5 (i6 + (1 : Int32)) hf
  · refine zf (pc' := 93) d59_55 (flt hc4).2.1 (by decide) <| ?_
    exact zv (P' := [vr a, vn, vn, vi i3, vi i4, vi (i5 + (1 : Int32)), vi i6]) d59_93 ci_1 rfl (by decide) rfl <| zo (pc' := 42) d59_96 (by decide) <| zp [true, false, false, true, true, true, false] rfl <| hk42 ob i3 i4 (i5 + (1 : Int32)) hf
theorem X_storeResult_l51_p {C : Ctx} {top : Nat} {a : Nat} {H : List (Nat × Nat × Rec)} {res : Int32 × Rec} {NF : Nat} (k42 : Rec → Int32 → Int32 → Int32 → Option (Int32 × Rec)) (hk42 : ∀ (ob : Rec) (i3 : Int32) (i4 : Int32) (i5 : Int32), k42 ob i3 i4 i5 = some res → Runs C B59 0 0 42 [vr a, vn, vn, vi i3, vi i4, vi i5, vn] [] (top, (a, 45, ob) :: H) (Ans (some (.int res.1)) (top, (a, 45, res.2) :: H))) (n : Nat) (ob : Rec) (i3 : Int32) (i4 : Int32) (i5 : Int32) (i6 : Int32) (hf : X_storeResult_l51 NF k42 n ob i3 i4 i5 i6 = some res) : Runs C B59 0 0 51 [vr a, vn, vn, vi i3, vi i4, vi i5, vi i6] [] (top, (a, 45, ob) :: H) (Ans (some (.int res.1)) (top, (a, 45, res.2) :: H)) := by
  induction n generalizing ob i3 i4 i5 i6 with
  | zero => cases (show (none : Option (Int32 × Rec)) = some res from hf)
  | succ n ih => exact X_storeResult_w51_p k42 hk42 (X_storeResult_l51 NF k42 n) (fun ob i3 i4 i5 i6 h => ih _ _ _ _ _ h) ob i3 i4 i5 i6 hf
def X_storeResult_w42 (NF : Nat) (k42 : Rec → Int32 → Int32 → Int32 → Option (Int32 × Rec)) (ob : Rec) (i3 : Int32) (i4 : Int32) (i5 : Int32) : Option (Int32 × Rec) :=
  if i5 < i3 then
    X_storeResult_l51 NF k42 NF ob i3 i4 i5 (0 : Int32)
  else
    (X_sortResult NF ob).bind fun q2 =>
    some (i3, q2)
def X_storeResult_l42 (NF : Nat) : Nat → Rec → Int32 → Int32 → Int32 → Option (Int32 × Rec)
  | 0, _, _, _, _ => none
  | n + 1, ob, i3, i4, i5 => X_storeResult_w42 NF (X_storeResult_l42 NF n) ob i3 i4 i5
theorem X_storeResult_w42_p {C : Ctx} {top : Nat} {a : Nat} {H : List (Nat × Nat × Rec)} {res : Int32 × Rec} {NF : Nat} (k42 : Rec → Int32 → Int32 → Int32 → Option (Int32 × Rec)) (hk42 : ∀ (ob : Rec) (i3 : Int32) (i4 : Int32) (i5 : Int32), k42 ob i3 i4 i5 = some res → Runs C B59 0 0 42 [vr a, vn, vn, vi i3, vi i4, vi i5, vn] [] (top, (a, 45, ob) :: H) (Ans (some (.int res.1)) (top, (a, 45, res.2) :: H))) (ob : Rec) (i3 : Int32) (i4 : Int32) (i5 : Int32) (hf : X_storeResult_w42 NF k42 ob i3 i4 i5 = some res) : Runs C B59 0 0 42 [vr a, vn, vn, vi i3, vi i4, vi i5, vn] [] (top, (a, 45, ob) :: H) (Ans (some (.int res.1)) (top, (a, 45, res.2) :: H)) := by
  delta X_storeResult_w42 at hf
  refine zd d59_42 rfl <| za d59_44 rfl <| ?_
  refine ite_el hf (fun hc1 hf => ?_) (fun hc1 hf => ?_)
  · refine zg d59_45 (tlt hc1).2.1 <| ?_
    exact zc d59_48 ci_0 <| zi (P' := [vr a, vn, vn, vi i3, vi i4, vi i5, vi (0 : Int32)]) d59_49 (by decide) rfl <| X_storeResult_l51_p k42 hk42 NF ob i3 i4 i5 (0 : Int32) hf
  · refine zf (pc' := 99) d59_45 (flt hc1).2.1 (by decide) <| ?_
    refine zb d59_99 rfl <| ?_
    refine bind_el hf fun q2 hg3 hf => ?_
    obtain rfl := Option.some.inj hf
    exact zm (N := B60) (W := 0) (as := []) (S' := []) d59_100 w379 w380 w381 rfl cw60 ar60 rk59_60_0 (by decide) rfl rfl (X_sortResult_pay hg3) <| ans0 <| za d59_103 rfl <| zn d59_104 rfl ⟨by decide, by decide⟩ ⟨rfl, rfl⟩
theorem X_storeResult_l42_p {C : Ctx} {top : Nat} {a : Nat} {H : List (Nat × Nat × Rec)} {res : Int32 × Rec} {NF : Nat} (n : Nat) (ob : Rec) (i3 : Int32) (i4 : Int32) (i5 : Int32) (hf : X_storeResult_l42 NF n ob i3 i4 i5 = some res) : Runs C B59 0 0 42 [vr a, vn, vn, vi i3, vi i4, vi i5, vn] [] (top, (a, 45, ob) :: H) (Ans (some (.int res.1)) (top, (a, 45, res.2) :: H)) := by
  induction n generalizing ob i3 i4 i5 with
  | zero => cases (show (none : Option (Int32 × Rec)) = some res from hf)
  | succ n ih => exact X_storeResult_w42_p (X_storeResult_l42 NF n) (fun ob i3 i4 i5 h => ih _ _ _ _ h) ob i3 i4 i5 hf
def X_storeResult_b19 (NF : Nat) (ob : Rec) (i1 : Int32) (i2 : Int32) (i3 : Int32) : Option (Int32 × Rec) :=
  X_storeResult_l42 NF NF (sI (sI ob 12 i2) 13 i3) i3 ((i1 &&& (31 : Int32)) * (512 : Int32)) (0 : Int32)
theorem X_storeResult_b19_p {C : Ctx} {top : Nat} {a : Nat} {H : List (Nat × Nat × Rec)} {res : Int32 × Rec} {NF : Nat} (ob : Rec) (i1 : Int32) (i2 : Int32) (i3 : Int32) (hf : X_storeResult_b19 NF ob i1 i2 i3 = some res) : Runs C B59 0 0 19 [vr a, vi i1, vi i2, vi i3, vn, vn, vn] [] (top, (a, 45, ob) :: H) (Ans (some (.int res.1)) (top, (a, 45, res.2) :: H)) := by
  delta X_storeResult_b19 at hf
  refine zb d59_19 rfl <| za d59_20 rfl <| zB d59_21 w375 fS_12 (Or.inl w376) <| zb d59_24 rfl <| za d59_25 rfl <| zB d59_26 w377 fS_13 (Or.inl w378) <| za d59_29 rfl <| zj d59_30 cb_31 <| zA d59_32 <| zC d59_33 cs_512 <| zy d59_36 <| zi (P' := [vr a, vi i1, vi i2, vi i3, vi ((i1 &&& (31 : Int32)) * (512 : Int32)), vn, vn]) d59_37 (by decide) rfl <| ?_
  exact zc d59_39 ci_0 <| zi (P' := [vr a, vi i1, vi i2, vi i3, vi ((i1 &&& (31 : Int32)) * (512 : Int32)), vi (0 : Int32), vn]) d59_40 (by decide) rfl <| zp [true, false, false, true, true, true, false] rfl <| X_storeResult_l42_p NF (sI (sI ob 12 i2) 13 i3) i3 ((i1 &&& (31 : Int32)) * (512 : Int32)) (0 : Int32) hf
def X_storeResult (NF : Nat) (ob : Rec) (i1 : Int32) (i2 : Int32) : Option (Int32 × Rec) :=
  chk (32 : Int32) (i1 &&& (31 : Int32)) <|
  if (64 : Int32) < (gA ob 23 (i1 &&& (31 : Int32))) then
    X_storeResult_b19 NF ob i1 i2 (64 : Int32)
  else
    X_storeResult_b19 NF ob i1 i2 (gA ob 23 (i1 &&& (31 : Int32)))
theorem X_storeResult_p {C : Ctx} {top : Nat} {a : Nat} {H : List (Nat × Nat × Rec)} {res : Int32 × Rec} {NF : Nat} (ob : Rec) (i1 : Int32) (i2 : Int32) (hf : X_storeResult NF ob i1 i2 = some res) : Runs C B59 0 0 0 [vr a, vi i1, vi i2, vn, vn, vn, vn] [] (top, (a, 45, ob) :: H) (Ans (some (.int res.1)) (top, (a, 45, res.2) :: H)) := by
  delta X_storeResult at hf
  refine zb d59_0 rfl <| ze d59_1 fA_23 w71 (by decide) <| za d59_4 rfl <| zj d59_5 cb_31 <| zA d59_7 <| ?_
  refine chk_el hf fun hi7 hf => ?_
  refine zh d59_8 fA_23 (by decide) hi7 <| zr (P' := [vr a, vi i1, vi i2, vi (gA ob 23 (i1 &&& (31 : Int32))), vn, vn, vn]) d59_9 (by decide) rfl <| za d59_10 rfl <| zj d59_11 cb_64 <| ?_
  refine ite_el hf (fun hc8 hf => ?_) (fun hc8 hf => ?_)
  · refine zg d59_13 (tlt hc8).2.2.2 <| ?_
    exact zj d59_16 cb_64 <| zr (P' := [vr a, vi i1, vi i2, vi (64 : Int32), vn, vn, vn]) d59_18 (by decide) rfl <| X_storeResult_b19_p ob i1 i2 (64 : Int32) hf
  · exact zf (pc' := 19) d59_13 (flt hc8).2.2.2 (by decide) <| X_storeResult_b19_p ob i1 i2 (gA ob 23 (i1 &&& (31 : Int32))) hf
theorem X_storeResult_pay {C : Ctx} {top : Nat} {a : Nat} {H : List (Nat × Nat × Rec)} {res : Int32 × Rec} {NF : Nat} {ob : Rec} {i1 : Int32} {i2 : Int32} (hf : X_storeResult NF ob i1 i2 = some res) : Pays C B59 [.ref a, .int i1, .int i2] (top, (a, 45, ob) :: H) (Ans (some (.int res.1)) (top, (a, 45, res.2) :: H)) :=
  Pays.of pnK (Nat.le_of_ble_eq_true rfl) (P := [vr a, vi i1, vi i2, vn, vn, vn, vn]) 4 rfl (X_storeResult_p ob i1 i2 hf)
def X_query_b52 (NF : Nat) (ob : Rec) (i1 : Int32) (i3 : Int32) : Option (Int32 × Rec) :=
  if i3 < (0 : Int32) then
    none
  else
    chk (32 : Int32) i1 <|
    bind2 (X_storeResult NF ob i3 (gA ob 8 i1)) fun r3 q4 =>
    some (r3, q4)
theorem X_query_b52_p {C : Ctx} {top : Nat} {a : Nat} {H : List (Nat × Nat × Rec)} {res : Int32 × Rec} {NF : Nat} (ob : Rec) (i1 : Int32) (i3 : Int32) (hf : X_query_b52 NF ob i1 i3 = some res) : Runs C B14 0 0 52 [vr a, vi i1, vn, vi i3] [] (top, (a, 45, ob) :: H) (Ans (some (.int res.1)) (top, (a, 45, res.2) :: H)) := by
  delta X_query_b52 at hf
  refine za d14_52 rfl <| ?_
  refine ite_el hf (fun hc1 hf => ?_) (fun hc1 hf => ?_)
  · refine zl d14_53 (tlt hc1).2.1 <| ?_
    cases hf
  · refine zk (pc' := 62) d14_53 (flt hc1).2.1 (by decide) <| ?_
    refine zb d14_62 rfl <| za d14_63 rfl <| zb d14_64 rfl <| ze d14_65 fA_8 w40 (by decide) <| za d14_68 rfl <| ?_
    refine chk_el hf fun hi2 hf => ?_
    refine zh d14_69 fA_8 (by decide) hi2 <| ?_
    refine bind2_el hf fun r3 q4 hg5 hf => ?_
    obtain rfl := Option.some.inj hf
    exact zm (N := B59) (W := 0) (as := [.int i3, .int (gA ob 8 i1)]) (S' := []) d14_70 w371 w372 w373 rfl cw59 ar59 rk14_59_0 (by decide) rfl rfl (X_storeResult_pay hg5) <| ans1 <| zn d14_73 rfl ⟨by decide, by decide⟩ ⟨rfl, rfl⟩
def X_query (NF : Nat) (ob : Rec) (i1 : Int32) (i2 : Int32) : Option (Int32 × Rec) :=
  (X_nodeExists ob i1).bind fun r6 =>
  if r6 = (0 : Int32) then
    some ((-1 : Int32), ob)
  else
    if i2 < (0 : Int32) then
      some ((-1 : Int32), ob)
    else
      if (1 : Int32) < i2 then
        some ((-1 : Int32), ob)
      else
        (X_computeWeights NF ob).bind fun q11 =>
        chk (32 : Int32) i1 <|
        if (gI q11 8) < (gA q11 20 i1) then
          some ((-3 : Int32), q11)
        else
          if i2 = (1 : Int32) then
            bind2 (X_runRewritten NF q11 i1) fun r16 q17 =>
            X_query_b52 NF q17 i1 r16
          else
            X_query_b52 NF q11 i1 (-1 : Int32)
theorem X_query_p {C : Ctx} {top : Nat} {a : Nat} {H : List (Nat × Nat × Rec)} {res : Int32 × Rec} {NF : Nat} (ob : Rec) (i1 : Int32) (i2 : Int32) (hf : X_query NF ob i1 i2 = some res) : Runs C B14 0 0 0 [vr a, vi i1, vi i2, vn] [] (top, (a, 45, ob) :: H) (Ans (some (.int res.1)) (top, (a, 45, res.2) :: H)) := by
  delta X_query at hf
  refine zb d14_0 rfl <| za d14_1 rfl <| ?_
  refine bind_el hf fun r6 hg7 hf => ?_
  refine zm (N := B10) (W := 0) (as := [.int i1]) (S' := []) d14_2 w162 w163 w164 rfl cw10 ar10 rk14_10_0 (by decide) rfl rfl (X_nodeExists_pay hg7) <| ans1 <| ?_
  refine ite_el hf (fun hc8 hf => ?_) (fun hc8 hf => ?_)
  · refine zk (pc' := 17) d14_5 (teq hc8).1 (by decide) <| ?_
    obtain rfl := Option.some.inj hf
    exact zc d14_17 ci_m1 <| zn d14_18 rfl ⟨by decide, by decide⟩ ⟨rfl, rfl⟩
  · refine zl d14_5 (feq hc8).1 <| ?_
    refine za d14_8 rfl <| ?_
    refine ite_el hf (fun hc9 hf => ?_) (fun hc9 hf => ?_)
    · refine zk (pc' := 17) d14_9 (tlt hc9).1 (by decide) <| ?_
      obtain rfl := Option.some.inj hf
      exact zc d14_17 ci_m1 <| zn d14_18 rfl ⟨by decide, by decide⟩ ⟨rfl, rfl⟩
    · refine zl d14_9 (flt hc9).1 <| ?_
      refine za d14_12 rfl <| zc d14_13 ci_1 <| ?_
      refine ite_el hf (fun hc10 hf => ?_) (fun hc10 hf => ?_)
      · refine zg d14_14 (tlt hc10).2.2.2 <| ?_
        obtain rfl := Option.some.inj hf
        exact zc d14_17 ci_m1 <| zn d14_18 rfl ⟨by decide, by decide⟩ ⟨rfl, rfl⟩
      · refine zf (pc' := 19) d14_14 (flt hc10).2.2.2 (by decide) <| ?_
        refine zb d14_19 rfl <| ?_
        refine bind_el hf fun q11 hg12 hf => ?_
        refine zm (N := B15) (W := 0) (as := []) (S' := []) d14_20 w184 w185 w186 rfl cw15 ar15 rk14_15_0 (by decide) rfl rfl (X_computeWeights_pay hg12) <| ans0 <| zb d14_23 rfl <| ze d14_24 fA_20 w64 (by decide) <| za d14_27 rfl <| ?_
        refine chk_el hf fun hi13 hf => ?_
        refine zh d14_28 fA_20 (by decide) hi13 <| zb d14_29 rfl <| zs d14_30 w121 fS_8 <| ?_
        refine ite_el hf (fun hc14 hf => ?_) (fun hc14 hf => ?_)
        · refine zg d14_33 (tlt hc14).2.2.2 <| ?_
          obtain rfl := Option.some.inj hf
          exact zj d14_36 cb_m3 <| zn d14_38 rfl ⟨by decide, by decide⟩ ⟨rfl, rfl⟩
        · refine zf (pc' := 39) d14_33 (flt hc14).2.2.2 (by decide) <| ?_
          refine zc d14_39 ci_m1 <| zr (P' := [vr a, vi i1, vi i2, vi (-1 : Int32)]) d14_40 (by decide) rfl <| za d14_41 rfl <| zc d14_42 ci_1 <| ?_
          refine ite_el hf (fun hc15 hf => ?_) (fun hc15 hf => ?_)
          · refine zg d14_43 (teq hc15).2 <| ?_
            refine zb d14_46 rfl <| za d14_47 rfl <| ?_
            refine bind2_el hf fun r16 q17 hg18 hf => ?_
            exact zm (N := B17) (W := 0) (as := [.int i1]) (S' := []) d14_48 w192 w193 w194 rfl cw17 ar17 rk14_17_0 (by decide) rfl rfl (X_runRewritten_pay hg18) <| ans1 <| zr (P' := [vr a, vi i1, vi i2, vi r16]) d14_51 (by decide) rfl <| zp [true, true, false, true] rfl <| X_query_b52_p q17 i1 r16 hf
          · exact zf (pc' := 52) d14_43 (feq hc15).2 (by decide) <| zp [true, true, false, true] rfl <| X_query_b52_p q11 i1 (-1 : Int32) hf
theorem X_query_pay {C : Ctx} {top : Nat} {a : Nat} {H : List (Nat × Nat × Rec)} {res : Int32 × Rec} {NF : Nat} {ob : Rec} {i1 : Int32} {i2 : Int32} (hf : X_query NF ob i1 i2 = some res) : Pays C B14 [.ref a, .int i1, .int i2] (top, (a, 45, ob) :: H) (Ans (some (.int res.1)) (top, (a, 45, res.2) :: H)) :=
  Pays.of pnK (Nat.le_of_ble_eq_true rfl) (P := [vr a, vi i1, vi i2, vn]) 1 rfl (X_query_p ob i1 i2 hf)
def X_resultWidth (ob : Rec) : Option (Int32) :=
  some (gI ob 12)
theorem X_resultWidth_p {C : Ctx} {top : Nat} {a : Nat} {H : List (Nat × Nat × Rec)} {ob : Rec} {res : Int32} (hf : X_resultWidth ob = some res) : Runs C B61 0 0 0 [vr a] [] (top, (a, 45, ob) :: H) (Ans (some (.int res)) (top, (a, 45, ob) :: H)) := by
  delta X_resultWidth at hf
  obtain rfl := Option.some.inj hf
  exact zb d61_0 rfl <| zs d61_1 w375 fS_12 <| zn d61_4 rfl ⟨by decide, by decide⟩ ⟨rfl, rfl⟩
theorem X_resultWidth_pay {C : Ctx} {top : Nat} {a : Nat} {H : List (Nat × Nat × Rec)} {ob : Rec} {res : Int32} (hf : X_resultWidth ob = some res) : Pays C B61 [.ref a] (top, (a, 45, ob) :: H) (Ans (some (.int res)) (top, (a, 45, ob) :: H)) :=
  Pays.of pnK (Nat.le_of_ble_eq_true rfl) (P := [vr a]) 0 rfl (X_resultWidth_p hf)
def X_resultCell (ob : Rec) (i1 : Int32) (i2 : Int32) : Option (Int32) :=
  if i1 < (0 : Int32) then
    some (0 : Int32)
  else
    if i1 < (gI ob 13) then
      if i2 < (0 : Int32) then
        some (0 : Int32)
      else
        if i2 < (gI ob 12) then
          chk (512 : Int32) ((i1 * (8 : Int32)) + i2) <|
          some (gA ob 25 ((i1 * (8 : Int32)) + i2))
        else
          some (0 : Int32)
    else
      some (0 : Int32)
theorem X_resultCell_p {C : Ctx} {top : Nat} {a : Nat} {H : List (Nat × Nat × Rec)} {ob : Rec} {res : Int32} (i1 : Int32) (i2 : Int32) (hf : X_resultCell ob i1 i2 = some res) : Runs C B62 0 0 0 [vr a, vi i1, vi i2] [] (top, (a, 45, ob) :: H) (Ans (some (.int res)) (top, (a, 45, ob) :: H)) := by
  delta X_resultCell at hf
  refine za d62_0 rfl <| ?_
  refine ite_el hf (fun hc1 hf => ?_) (fun hc1 hf => ?_)
  · refine zk (pc' := 24) d62_1 (tlt hc1).1 (by decide) <| ?_
    obtain rfl := Option.some.inj hf
    exact zc d62_24 ci_0 <| zn d62_25 rfl ⟨by decide, by decide⟩ ⟨rfl, rfl⟩
  · refine zl d62_1 (flt hc1).1 <| ?_
    refine za d62_4 rfl <| zb d62_5 rfl <| zs d62_6 w377 fS_13 <| ?_
    refine ite_el hf (fun hc2 hf => ?_) (fun hc2 hf => ?_)
    · refine zg d62_9 (tlt hc2).2.1 <| ?_
      refine za d62_12 rfl <| ?_
      refine ite_el hf (fun hc3 hf => ?_) (fun hc3 hf => ?_)
      · refine zk (pc' := 24) d62_13 (tlt hc3).1 (by decide) <| ?_
        obtain rfl := Option.some.inj hf
        exact zc d62_24 ci_0 <| zn d62_25 rfl ⟨by decide, by decide⟩ ⟨rfl, rfl⟩
      · refine zl d62_13 (flt hc3).1 <| ?_
        refine za d62_16 rfl <| zb d62_17 rfl <| zs d62_18 w375 fS_12 <| ?_
        refine ite_el hf (fun hc4 hf => ?_) (fun hc4 hf => ?_)
        · refine zf (pc' := 26) d62_21 (tlt hc4).1 (by decide) <| ?_
          refine zb d62_26 rfl <| ze d62_27 fA_25 w75 (by decide) <| za d62_30 rfl <| zj d62_31 cb_8 <| zy d62_33 <| za d62_34 rfl <| zu d62_35 <| ?_
          refine chk_el hf fun hi5 hf => ?_
          obtain rfl := Option.some.inj hf
          exact zh d62_36 fA_25 (by decide) hi5 <| zn d62_37 rfl ⟨by decide, by decide⟩ ⟨rfl, rfl⟩
        · refine zg d62_21 (flt hc4).1 <| ?_
          obtain rfl := Option.some.inj hf
          exact zc d62_24 ci_0 <| zn d62_25 rfl ⟨by decide, by decide⟩ ⟨rfl, rfl⟩
    · refine zf (pc' := 24) d62_9 (flt hc2).2.1 (by decide) <| ?_
      obtain rfl := Option.some.inj hf
      exact zc d62_24 ci_0 <| zn d62_25 rfl ⟨by decide, by decide⟩ ⟨rfl, rfl⟩
theorem X_resultCell_pay {C : Ctx} {top : Nat} {a : Nat} {H : List (Nat × Nat × Rec)} {ob : Rec} {res : Int32} {i1 : Int32} {i2 : Int32} (hf : X_resultCell ob i1 i2 = some res) : Pays C B62 [.ref a, .int i1, .int i2] (top, (a, 45, ob) :: H) (Ans (some (.int res)) (top, (a, 45, ob) :: H)) :=
  Pays.of pnK (Nat.le_of_ble_eq_true rfl) (P := [vr a, vi i1, vi i2]) 0 rfl (X_resultCell_p i1 i2 hf)
def L_law_b454 (NF : Nat) (ob : Rec) (i15 : Int32) (i18 : Int32) (i19 : Int32) (i23 : Int32) (i24 : Int32) (i26 : Int32) : Option (Int32) :=
  if i15 = (2 : Int32) then
    if i26 = (0 : Int32) then
      some (0 : Int32)
    else
      if i23 = i18 then
        if i24 = i19 then
          some (1 : Int32)
        else
          some (0 : Int32)
      else
        some (0 : Int32)
  else
    some (i26 &&& 1)
theorem L_law_b454_p {C : Ctx} {res : Int32} {NF : Nat} (ob : Rec) (i15 : Int32) (i18 : Int32) (i19 : Int32) (i23 : Int32) (i24 : Int32) (i26 : Int32) (hf : L_law_b454 NF ob i15 i18 i19 i23 i24 i26 = some res) : Runs C B0 46 20760 454 [vn, vn, vn, vn, vn, vn, vn, vn, vn, vn, vn, vn, vn, vn, vn, vi i15, vn, vn, vi i18, vi i19, vn, vn, vn, vi i23, vi i24, vn, vi i26] [] (C.2.2.1 + 1 + 45, (C.2.2.1, 45, ob) :: []) (fun v _ => v = (some (.int res))) := by
  delta L_law_b454 at hf
  refine zd d0_454 rfl <| zc d0_456 ci_2 <| ?_
  refine ite_el hf (fun hc36 hf => ?_) (fun hc36 hf => ?_)
  · refine zg d0_457 (teq hc36).2 <| ?_
    refine zd d0_460 rfl <| ?_
    refine ite_el hf (fun hc37 hf => ?_) (fun hc37 hf => ?_)
    · refine zk (pc' := 483) d0_462 (teq hc37).1 (by decide) <| ?_
      obtain rfl := Option.some.inj hf
      exact zc d0_483 ci_0 <| zi (P' := [vn, vn, vn, vn, vn, vn, vn, vn, vn, vn, vn, vn, vn, vn, vn, vi i15, vn, vn, vi i18, vi i19, vn, vn, vn, vi i23, vi i24, vn, vi (0 : Int32)]) d0_484 (by decide) rfl <| zd d0_486 rfl <| zw (y := (0 : Int32)) d0_488 rfl ⟨by decide, by decide⟩ rfl rfl
    · refine zl d0_462 (feq hc37).1 <| ?_
      refine zd d0_465 rfl <| zd d0_467 rfl <| ?_
      refine ite_el hf (fun hc38 hf => ?_) (fun hc38 hf => ?_)
      · refine zg d0_469 (teq hc38).2 <| ?_
        refine zd d0_472 rfl <| zd d0_474 rfl <| ?_
        refine ite_el hf (fun hc39 hf => ?_) (fun hc39 hf => ?_)
        · refine zg d0_476 (teq hc39).2 <| ?_
          obtain rfl := Option.some.inj hf
          exact zc d0_479 ci_1 <| zo (pc' := 484) d0_480 (by decide) <| zi (P' := [vn, vn, vn, vn, vn, vn, vn, vn, vn, vn, vn, vn, vn, vn, vn, vi i15, vn, vn, vi i18, vi i19, vn, vn, vn, vi i23, vi i24, vn, vi (1 : Int32)]) d0_484 (by decide) rfl <| zd d0_486 rfl <| zw (y := (1 : Int32)) d0_488 rfl ⟨by decide, by decide⟩ rfl rfl
        · refine zf (pc' := 483) d0_476 (feq hc39).2 (by decide) <| ?_
          obtain rfl := Option.some.inj hf
          exact zc d0_483 ci_0 <| zi (P' := [vn, vn, vn, vn, vn, vn, vn, vn, vn, vn, vn, vn, vn, vn, vn, vi i15, vn, vn, vi i18, vi i19, vn, vn, vn, vi i23, vi i24, vn, vi (0 : Int32)]) d0_484 (by decide) rfl <| zd d0_486 rfl <| zw (y := (0 : Int32)) d0_488 rfl ⟨by decide, by decide⟩ rfl rfl
      · refine zf (pc' := 483) d0_469 (feq hc38).2 (by decide) <| ?_
        obtain rfl := Option.some.inj hf
        exact zc d0_483 ci_0 <| zi (P' := [vn, vn, vn, vn, vn, vn, vn, vn, vn, vn, vn, vn, vn, vn, vn, vi i15, vn, vn, vi i18, vi i19, vn, vn, vn, vi i23, vi i24, vn, vi (0 : Int32)]) d0_484 (by decide) rfl <| zd d0_486 rfl <| zw (y := (0 : Int32)) d0_488 rfl ⟨by decide, by decide⟩ rfl rfl
  · refine zf (pc' := 486) d0_457 (feq hc36).2 (by decide) <| ?_
    obtain rfl := Option.some.inj hf
    exact zd d0_486 rfl <| zw (y := (i26 &&& 1)) d0_488 rfl ⟨by decide, by decide⟩ rfl rfl
def L_law_b420 (NF : Nat) (ob : Rec) (i15 : Int32) (i16 : Int32) (i17 : Int32) (i18 : Int32) (i19 : Int32) (i21 : Int32) (i22 : Int32) (i23 : Int32) (i24 : Int32) (t0 : Int32) : Option (Int32) :=
  if i15 < (1 : Int32) then
    L_law_b454 NF ob i15 i18 i19 i23 i24 t0
  else
    if t0 = (0 : Int32) then
      L_law_b454 NF ob i15 i18 i19 i23 i24 (0 : Int32)
    else
      if i21 = i16 then
        if i22 = i17 then
          L_law_b454 NF ob i15 i18 i19 i23 i24 (1 : Int32)
        else
          L_law_b454 NF ob i15 i18 i19 i23 i24 (0 : Int32)
      else
        L_law_b454 NF ob i15 i18 i19 i23 i24 (0 : Int32)
theorem L_law_b420_p {C : Ctx} {res : Int32} {NF : Nat} (ob : Rec) (i15 : Int32) (i16 : Int32) (i17 : Int32) (i18 : Int32) (i19 : Int32) (i21 : Int32) (i22 : Int32) (i23 : Int32) (i24 : Int32) (t0 : Int32) (hf : L_law_b420 NF ob i15 i16 i17 i18 i19 i21 i22 i23 i24 t0 = some res) : Runs C B0 46 20760 420 [vn, vn, vn, vn, vn, vn, vn, vn, vn, vn, vn, vn, vn, vn, vn, vi i15, vi i16, vi i17, vi i18, vi i19, vn, vi i21, vi i22, vi i23, vi i24, vn, vn] [.int t0] (C.2.2.1 + 1 + 45, (C.2.2.1, 45, ob) :: []) (fun v _ => v = (some (.int res))) := by
  delta L_law_b420 at hf
  refine zi (P' := [vn, vn, vn, vn, vn, vn, vn, vn, vn, vn, vn, vn, vn, vn, vn, vi i15, vi i16, vi i17, vi i18, vi i19, vn, vi i21, vi i22, vi i23, vi i24, vn, vi t0]) d0_420 (by decide) rfl <| zd d0_422 rfl <| zc d0_424 ci_1 <| ?_
  refine ite_el hf (fun hc32 hf => ?_) (fun hc32 hf => ?_)
  · exact zf (pc' := 454) d0_425 (tlt hc32).1 (by decide) <| zp [false, false, false, false, false, false, false, false, false, false, false, false, false, false, false, true, false, false, true, true, false, false, false, true, true, false, true] rfl <| L_law_b454_p ob i15 i18 i19 i23 i24 t0 hf
  · refine zg d0_425 (flt hc32).1 <| ?_
    refine zd d0_428 rfl <| ?_
    refine ite_el hf (fun hc33 hf => ?_) (fun hc33 hf => ?_)
    · refine zk (pc' := 451) d0_430 (teq hc33).1 (by decide) <| ?_
      exact zc d0_451 ci_0 <| zi (P' := [vn, vn, vn, vn, vn, vn, vn, vn, vn, vn, vn, vn, vn, vn, vn, vi i15, vi i16, vi i17, vi i18, vi i19, vn, vi i21, vi i22, vi i23, vi i24, vn, vi (0 : Int32)]) d0_452 (by decide) rfl <| zp [false, false, false, false, false, false, false, false, false, false, false, false, false, false, false, true, false, false, true, true, false, false, false, true, true, false, true] rfl <| L_law_b454_p ob i15 i18 i19 i23 i24 (0 : Int32) hf
    · refine zl d0_430 (feq hc33).1 <| ?_
      refine zd d0_433 rfl <| zd d0_435 rfl <| ?_
      refine ite_el hf (fun hc34 hf => ?_) (fun hc34 hf => ?_)
      · refine zg d0_437 (teq hc34).2 <| ?_
        refine zd d0_440 rfl <| zd d0_442 rfl <| ?_
        refine ite_el hf (fun hc35 hf => ?_) (fun hc35 hf => ?_)
        · refine zg d0_444 (teq hc35).2 <| ?_
          exact zc d0_447 ci_1 <| zo (pc' := 452) d0_448 (by decide) <| zi (P' := [vn, vn, vn, vn, vn, vn, vn, vn, vn, vn, vn, vn, vn, vn, vn, vi i15, vi i16, vi i17, vi i18, vi i19, vn, vi i21, vi i22, vi i23, vi i24, vn, vi (1 : Int32)]) d0_452 (by decide) rfl <| zp [false, false, false, false, false, false, false, false, false, false, false, false, false, false, false, true, false, false, true, true, false, false, false, true, true, false, true] rfl <| L_law_b454_p ob i15 i18 i19 i23 i24 (1 : Int32) hf
        · refine zf (pc' := 451) d0_444 (feq hc35).2 (by decide) <| ?_
          exact zc d0_451 ci_0 <| zi (P' := [vn, vn, vn, vn, vn, vn, vn, vn, vn, vn, vn, vn, vn, vn, vn, vi i15, vi i16, vi i17, vi i18, vi i19, vn, vi i21, vi i22, vi i23, vi i24, vn, vi (0 : Int32)]) d0_452 (by decide) rfl <| zp [false, false, false, false, false, false, false, false, false, false, false, false, false, false, false, true, false, false, true, true, false, false, false, true, true, false, true] rfl <| L_law_b454_p ob i15 i18 i19 i23 i24 (0 : Int32) hf
      · refine zf (pc' := 451) d0_437 (feq hc34).2 (by decide) <| ?_
        exact zc d0_451 ci_0 <| zi (P' := [vn, vn, vn, vn, vn, vn, vn, vn, vn, vn, vn, vn, vn, vn, vn, vi i15, vi i16, vi i17, vi i18, vi i19, vn, vi i21, vi i22, vi i23, vi i24, vn, vi (0 : Int32)]) d0_452 (by decide) rfl <| zp [false, false, false, false, false, false, false, false, false, false, false, false, false, false, false, true, false, false, true, true, false, false, false, true, true, false, true] rfl <| L_law_b454_p ob i15 i18 i19 i23 i24 (0 : Int32) hf
def L_law_b342 (NF : Nat) (ob : Rec) (i9 : Int32) (i15 : Int32) (i16 : Int32) (i17 : Int32) (i18 : Int32) (i19 : Int32) : Option (Int32) :=
  (X_resultWidth ob).bind fun r17 =>
  if i9 = i15 then
    if r17 = (2 : Int32) then
      (X_resultCell ob (0 : Int32) (0 : Int32)).bind fun r21 =>
      (X_resultCell ob (0 : Int32) (1 : Int32)).bind fun r23 =>
      (X_resultCell ob (1 : Int32) (0 : Int32)).bind fun r25 =>
      (X_resultCell ob (1 : Int32) (1 : Int32)).bind fun r27 =>
      (X_resultCell ob i15 (0 : Int32)).bind fun r29 =>
      if r29 = (0 : Int32) then
        L_law_b420 NF ob i15 i16 i17 i18 i19 r21 r23 r25 r27 (1 : Int32)
      else
        L_law_b420 NF ob i15 i16 i17 i18 i19 r21 r23 r25 r27 (0 : Int32)
    else
      some (0 : Int32)
  else
    some (0 : Int32)
theorem L_law_b342_p {C : Ctx} {res : Int32} {NF : Nat} (ob : Rec) (i9 : Int32) (i15 : Int32) (i16 : Int32) (i17 : Int32) (i18 : Int32) (i19 : Int32) (hf : L_law_b342 NF ob i9 i15 i16 i17 i18 i19 = some res) : Runs C B0 46 20760 342 [vn, vn, vn, vn, vr C.2.2.1, vn, vn, vn, vn, vi i9, vn, vn, vn, vn, vn, vi i15, vi i16, vi i17, vi i18, vi i19, vn, vn, vn, vn, vn, vn, vn] [] (C.2.2.1 + 1 + 45, (C.2.2.1, 45, ob) :: []) (fun v _ => v = (some (.int res))) := by
  delta L_law_b342 at hf
  refine Runs.aload d0_342 rfl <| ?_
  refine bind_el hf fun r17 hg18 hf => ?_
  refine Runs.callV (N := B61) (W := 0) (as := []) (S' := []) d0_344 w384 w385 w386 w387 cw61 ar61 rk0_61_0 (by decide) rfl rfl (X_resultWidth_pay hg18) <| ans1 <| zi (P' := [vn, vn, vn, vn, vr C.2.2.1, vn, vn, vn, vn, vi i9, vn, vn, vn, vn, vn, vi i15, vi i16, vi i17, vi i18, vi i19, vi r17, vn, vn, vn, vn, vn, vn]) d0_347 (by decide) rfl <| zd d0_349 rfl <| zd d0_351 rfl <| ?_
  refine ite_el hf (fun hc19 hf => ?_) (fun hc19 hf => ?_)
  · refine zg d0_353 (teq hc19).2 <| ?_
    refine zd d0_356 rfl <| zc d0_358 ci_2 <| ?_
    refine ite_el hf (fun hc20 hf => ?_) (fun hc20 hf => ?_)
    · refine zf (pc' := 364) d0_359 (teq hc20).1 (by decide) <| ?_
      refine Runs.aload d0_364 rfl <| zc d0_366 ci_0 <| zc d0_367 ci_0 <| ?_
      refine bind_el hf fun r21 hg22 hf => ?_
      refine Runs.callV (N := B62) (W := 0) (as := [.int (0 : Int32), .int (0 : Int32)]) (S' := []) d0_368 w389 w390 w391 w392 cw62 ar62 rk0_62_0 (by decide) rfl rfl (X_resultCell_pay hg22) <| ans1 <| zi (P' := [vn, vn, vn, vn, vr C.2.2.1, vn, vn, vn, vn, vi i9, vn, vn, vn, vn, vn, vi i15, vi i16, vi i17, vi i18, vi i19, vi r17, vi r21, vn, vn, vn, vn, vn]) d0_371 (by decide) rfl <| Runs.aload d0_373 rfl <| zc d0_375 ci_0 <| zc d0_376 ci_1 <| ?_
      refine bind_el hf fun r23 hg24 hf => ?_
      refine Runs.callV (N := B62) (W := 0) (as := [.int (0 : Int32), .int (1 : Int32)]) (S' := []) d0_377 w389 w390 w391 w392 cw62 ar62 rk0_62_0 (by decide) rfl rfl (X_resultCell_pay hg24) <| ans1 <| zi (P' := [vn, vn, vn, vn, vr C.2.2.1, vn, vn, vn, vn, vi i9, vn, vn, vn, vn, vn, vi i15, vi i16, vi i17, vi i18, vi i19, vi r17, vi r21, vi r23, vn, vn, vn, vn]) d0_380 (by decide) rfl <| Runs.aload d0_382 rfl <| zc d0_384 ci_1 <| zc d0_385 ci_0 <| ?_
      refine bind_el hf fun r25 hg26 hf => ?_
      refine Runs.callV (N := B62) (W := 0) (as := [.int (1 : Int32), .int (0 : Int32)]) (S' := []) d0_386 w389 w390 w391 w392 cw62 ar62 rk0_62_0 (by decide) rfl rfl (X_resultCell_pay hg26) <| ans1 <| zi (P' := [vn, vn, vn, vn, vr C.2.2.1, vn, vn, vn, vn, vi i9, vn, vn, vn, vn, vn, vi i15, vi i16, vi i17, vi i18, vi i19, vi r17, vi r21, vi r23, vi r25, vn, vn, vn]) d0_389 (by decide) rfl <| Runs.aload d0_391 rfl <| zc d0_393 ci_1 <| zc d0_394 ci_1 <| ?_
      refine bind_el hf fun r27 hg28 hf => ?_
      refine Runs.callV (N := B62) (W := 0) (as := [.int (1 : Int32), .int (1 : Int32)]) (S' := []) d0_395 w389 w390 w391 w392 cw62 ar62 rk0_62_0 (by decide) rfl rfl (X_resultCell_pay hg28) <| ans1 <| zi (P' := [vn, vn, vn, vn, vr C.2.2.1, vn, vn, vn, vn, vi i9, vn, vn, vn, vn, vn, vi i15, vi i16, vi i17, vi i18, vi i19, vi r17, vi r21, vi r23, vi r25, vi r27, vn, vn]) d0_398 (by decide) rfl <| Runs.aload d0_400 rfl <| zd d0_402 rfl <| zc d0_404 ci_0 <| ?_
      refine bind_el hf fun r29 hg30 hf => ?_
      refine Runs.callV (N := B62) (W := 0) (as := [.int i15, .int (0 : Int32)]) (S' := []) d0_405 w389 w390 w391 w392 cw62 ar62 rk0_62_0 (by decide) rfl rfl (X_resultCell_pay hg30) <| ans1 <| zi (P' := [vn, vn, vn, vn, vr C.2.2.1, vn, vn, vn, vn, vi i9, vn, vn, vn, vn, vn, vi i15, vi i16, vi i17, vi i18, vi i19, vi r17, vi r21, vi r23, vi r25, vi r27, vi r29, vn]) d0_408 (by decide) rfl <| zd d0_410 rfl <| ?_
      refine ite_el hf (fun hc31 hf => ?_) (fun hc31 hf => ?_)
      · refine zl d0_412 (teq hc31).2 <| ?_
        exact zc d0_415 ci_1 <| zo (pc' := 420) d0_416 (by decide) <| zp [false, false, false, false, false, false, false, false, false, false, false, false, false, false, false, true, true, true, true, true, false, true, true, true, true, false, false] rfl <| L_law_b420_p ob i15 i16 i17 i18 i19 r21 r23 r25 r27 (1 : Int32) hf
      · refine zk (pc' := 419) d0_412 (feq hc31).2 (by decide) <| ?_
        exact zc d0_419 ci_0 <| zp [false, false, false, false, false, false, false, false, false, false, false, false, false, false, false, true, true, true, true, true, false, true, true, true, true, false, false] rfl <| L_law_b420_p ob i15 i16 i17 i18 i19 r21 r23 r25 r27 (0 : Int32) hf
    · refine zg d0_359 (feq hc20).1 <| ?_
      obtain rfl := Option.some.inj hf
      exact zc d0_362 ci_0 <| zw (y := (0 : Int32)) d0_363 rfl ⟨by decide, by decide⟩ rfl rfl
  · refine zf (pc' := 362) d0_353 (feq hc19).2 (by decide) <| ?_
    obtain rfl := Option.some.inj hf
    exact zc d0_362 ci_0 <| zw (y := (0 : Int32)) d0_363 rfl ⟨by decide, by decide⟩ rfl rfl
def L_law_b291 (NF : Nat) (ob : Rec) (i9 : Int32) (i15 : Int32) (i16 : Int32) (i17 : Int32) (i18 : Int32) (i19 : Int32) : Option (Int32) :=
  if i15 = (2 : Int32) then
    if i18 < i16 then
      L_law_b342 NF ob i9 i15 i18 i19 i16 i17
    else
      if i18 = i16 then
        if i19 < i17 then
          L_law_b342 NF ob i9 i15 i18 i19 i16 i17
        else
          L_law_b342 NF ob i9 i15 i16 i17 i18 i19
      else
        L_law_b342 NF ob i9 i15 i16 i17 i18 i19
  else
    L_law_b342 NF ob i9 i15 i16 i17 i18 i19
theorem L_law_b291_p {C : Ctx} {res : Int32} {NF : Nat} (ob : Rec) (i9 : Int32) (i15 : Int32) (i16 : Int32) (i17 : Int32) (i18 : Int32) (i19 : Int32) (hf : L_law_b291 NF ob i9 i15 i16 i17 i18 i19 = some res) : Runs C B0 46 20760 291 [vn, vn, vn, vn, vr C.2.2.1, vn, vn, vn, vn, vi i9, vn, vn, vn, vn, vn, vi i15, vi i16, vi i17, vi i18, vi i19, vn, vn, vn, vn, vn, vn, vn] [] (C.2.2.1 + 1 + 45, (C.2.2.1, 45, ob) :: []) (fun v _ => v = (some (.int res))) := by
  delta L_law_b291 at hf
  refine zd d0_291 rfl <| zc d0_293 ci_2 <| ?_
  refine ite_el hf (fun hc13 hf => ?_) (fun hc13 hf => ?_)
  · refine zg d0_294 (teq hc13).2 <| ?_
    refine zd d0_297 rfl <| zd d0_299 rfl <| ?_
    refine ite_el hf (fun hc14 hf => ?_) (fun hc14 hf => ?_)
    · refine zf (pc' := 318) d0_301 (tlt hc14).1 (by decide) <| ?_
      refine zd d0_318 rfl <| zi (P' := [vn, vn, vn, vn, vr C.2.2.1, vn, vn, vn, vn, vi i9, vn, vn, vn, vn, vn, vi i15, vi i16, vi i17, vi i18, vi i19, vi i16, vn, vn, vn, vn, vn, vn]) d0_320 (by decide) rfl <| zd d0_322 rfl <| zi (P' := [vn, vn, vn, vn, vr C.2.2.1, vn, vn, vn, vn, vi i9, vn, vn, vn, vn, vn, vi i15, vi i16, vi i17, vi i18, vi i19, vi i16, vi i17, vn, vn, vn, vn, vn]) d0_324 (by decide) rfl <| zd d0_326 rfl <| zi (P' := [vn, vn, vn, vn, vr C.2.2.1, vn, vn, vn, vn, vi i9, vn, vn, vn, vn, vn, vi i15, vi i18, vi i17, vi i18, vi i19, vi i16, vi i17, vn, vn, vn, vn, vn]) d0_328 (by decide) rfl <| zd d0_330 rfl <| zi (P' := [vn, vn, vn, vn, vr C.2.2.1, vn, vn, vn, vn, vi i9, vn, vn, vn, vn, vn, vi i15, vi i18, vi i19, vi i18, vi i19, vi i16, vi i17, vn, vn, vn, vn, vn]) d0_332 (by decide) rfl <| zd d0_334 rfl <| zi (P' := [vn, vn, vn, vn, vr C.2.2.1, vn, vn, vn, vn, vi i9, vn, vn, vn, vn, vn, vi i15, vi i18, vi i19, vi i16, vi i19, vi i16, vi i17, vn, vn, vn, vn, vn]) d0_336 (by decide) rfl <| zd d0_338 rfl <| zi (P' := [vn, vn, vn, vn, vr C.2.2.1, vn, vn, vn, vn, vi i9, vn, vn, vn, vn, vn, vi i15, vi i18, vi i19, vi i16, vi i17, vi i16, vi i17, vn, vn, vn, vn, vn]) d0_340 (by decide) rfl <| ?_
      exact zp [false, false, false, false, true, false, false, false, false, true, false, false, false, false, false, true, true, true, true, true, false, false, false, false, false, false, false] rfl <| L_law_b342_p ob i9 i15 i18 i19 i16 i17 hf
    · refine zg d0_301 (flt hc14).1 <| ?_
      refine zd d0_304 rfl <| zd d0_306 rfl <| ?_
      refine ite_el hf (fun hc15 hf => ?_) (fun hc15 hf => ?_)
      · refine zg d0_308 (teq hc15).2 <| ?_
        refine zd d0_311 rfl <| zd d0_313 rfl <| ?_
        refine ite_el hf (fun hc16 hf => ?_) (fun hc16 hf => ?_)
        · refine zg d0_315 (tlt hc16).2.1 <| ?_
          refine zd d0_318 rfl <| zi (P' := [vn, vn, vn, vn, vr C.2.2.1, vn, vn, vn, vn, vi i9, vn, vn, vn, vn, vn, vi i15, vi i16, vi i17, vi i18, vi i19, vi i16, vn, vn, vn, vn, vn, vn]) d0_320 (by decide) rfl <| zd d0_322 rfl <| zi (P' := [vn, vn, vn, vn, vr C.2.2.1, vn, vn, vn, vn, vi i9, vn, vn, vn, vn, vn, vi i15, vi i16, vi i17, vi i18, vi i19, vi i16, vi i17, vn, vn, vn, vn, vn]) d0_324 (by decide) rfl <| zd d0_326 rfl <| zi (P' := [vn, vn, vn, vn, vr C.2.2.1, vn, vn, vn, vn, vi i9, vn, vn, vn, vn, vn, vi i15, vi i18, vi i17, vi i18, vi i19, vi i16, vi i17, vn, vn, vn, vn, vn]) d0_328 (by decide) rfl <| zd d0_330 rfl <| zi (P' := [vn, vn, vn, vn, vr C.2.2.1, vn, vn, vn, vn, vi i9, vn, vn, vn, vn, vn, vi i15, vi i18, vi i19, vi i18, vi i19, vi i16, vi i17, vn, vn, vn, vn, vn]) d0_332 (by decide) rfl <| zd d0_334 rfl <| zi (P' := [vn, vn, vn, vn, vr C.2.2.1, vn, vn, vn, vn, vi i9, vn, vn, vn, vn, vn, vi i15, vi i18, vi i19, vi i16, vi i19, vi i16, vi i17, vn, vn, vn, vn, vn]) d0_336 (by decide) rfl <| zd d0_338 rfl <| zi (P' := [vn, vn, vn, vn, vr C.2.2.1, vn, vn, vn, vn, vi i9, vn, vn, vn, vn, vn, vi i15, vi i18, vi i19, vi i16, vi i17, vi i16, vi i17, vn, vn, vn, vn, vn]) d0_340 (by decide) rfl <| ?_
          exact zp [false, false, false, false, true, false, false, false, false, true, false, false, false, false, false, true, true, true, true, true, false, false, false, false, false, false, false] rfl <| L_law_b342_p ob i9 i15 i18 i19 i16 i17 hf
        · exact zf (pc' := 342) d0_315 (flt hc16).2.1 (by decide) <| L_law_b342_p ob i9 i15 i16 i17 i18 i19 hf
      · exact zf (pc' := 342) d0_308 (feq hc15).2 (by decide) <| L_law_b342_p ob i9 i15 i16 i17 i18 i19 hf
  · exact zf (pc' := 342) d0_294 (feq hc13).2 (by decide) <| L_law_b342_p ob i9 i15 i16 i17 i18 i19 hf
def L_law_b258 (NF : Nat) (ob : Rec) (i1 : Int32) (i9 : Int32) (i12 : Int32) (i14 : Int32) (i15 : Int32) (i16 : Int32) (i17 : Int32) (i18 : Int32) (i19 : Int32) : Option (Int32) :=
  if i14 = (0 : Int32) then
    L_law_b291 NF ob i9 i15 i16 i17 i18 i19
  else
    if i15 = (0 : Int32) then
      L_law_b291 NF ob i9 (i15 + (1 : Int32)) i1 i12 i18 i19
    else
      L_law_b291 NF ob i9 (i15 + (1 : Int32)) i16 i17 i1 i12
theorem L_law_b258_p {C : Ctx} {res : Int32} {NF : Nat} (ob : Rec) (i1 : Int32) (i9 : Int32) (i12 : Int32) (i14 : Int32) (i15 : Int32) (i16 : Int32) (i17 : Int32) (i18 : Int32) (i19 : Int32) (hf : L_law_b258 NF ob i1 i9 i12 i14 i15 i16 i17 i18 i19 = some res) : Runs C B0 46 20760 258 [vn, vi i1, vn, vn, vr C.2.2.1, vn, vn, vn, vn, vi i9, vn, vn, vi i12, vn, vi i14, vi i15, vi i16, vi i17, vi i18, vi i19, vn, vn, vn, vn, vn, vn, vn] [] (C.2.2.1 + 1 + 45, (C.2.2.1, 45, ob) :: []) (fun v _ => v = (some (.int res))) := by
  delta L_law_b258 at hf
  refine zd d0_258 rfl <| ?_
  refine ite_el hf (fun hc11 hf => ?_) (fun hc11 hf => ?_)
  · exact zk (pc' := 291) d0_260 (teq hc11).1 (by decide) <| zp [false, false, false, false, true, false, false, false, false, true, false, false, false, false, false, true, true, true, true, true, false, false, false, false, false, false, false] rfl <| L_law_b291_p ob i9 i15 i16 i17 i18 i19 hf
  · refine zl d0_260 (feq hc11).1 <| ?_
    refine zd d0_263 rfl <| ?_
    refine ite_el hf (fun hc12 hf => ?_) (fun hc12 hf => ?_)
    · refine zl d0_265 (teq hc12).2 <| ?_
      exact za d0_268 rfl <| zi (P' := [vn, vi i1, vn, vn, vr C.2.2.1, vn, vn, vn, vn, vi i9, vn, vn, vi i12, vn, vi i14, vi i15, vi i1, vi i17, vi i18, vi i19, vn, vn, vn, vn, vn, vn, vn]) d0_269 (by decide) rfl <| zd d0_271 rfl <| zi (P' := [vn, vi i1, vn, vn, vr C.2.2.1, vn, vn, vn, vn, vi i9, vn, vn, vi i12, vn, vi i14, vi i15, vi i1, vi i12, vi i18, vi i19, vn, vn, vn, vn, vn, vn, vn]) d0_273 (by decide) rfl <| zo (pc' := 285) d0_275 (by decide) <| zd d0_285 rfl <| zc d0_287 ci_1 <| zu d0_288 <| zi (P' := [vn, vi i1, vn, vn, vr C.2.2.1, vn, vn, vn, vn, vi i9, vn, vn, vi i12, vn, vi i14, vi (i15 + (1 : Int32)), vi i1, vi i12, vi i18, vi i19, vn, vn, vn, vn, vn, vn, vn]) d0_289 (by decide) rfl <| zp [false, false, false, false, true, false, false, false, false, true, false, false, false, false, false, true, true, true, true, true, false, false, false, false, false, false, false] rfl <| L_law_b291_p ob i9 (i15 + (1 : Int32)) i1 i12 i18 i19 hf
    · refine zk (pc' := 278) d0_265 (feq hc12).2 (by decide) <| ?_
      exact za d0_278 rfl <| zi (P' := [vn, vi i1, vn, vn, vr C.2.2.1, vn, vn, vn, vn, vi i9, vn, vn, vi i12, vn, vi i14, vi i15, vi i16, vi i17, vi i1, vi i19, vn, vn, vn, vn, vn, vn, vn]) d0_279 (by decide) rfl <| zd d0_281 rfl <| zi (P' := [vn, vi i1, vn, vn, vr C.2.2.1, vn, vn, vn, vn, vi i9, vn, vn, vi i12, vn, vi i14, vi i15, vi i16, vi i17, vi i1, vi i12, vn, vn, vn, vn, vn, vn, vn]) d0_283 (by decide) rfl <| zd d0_285 rfl <| zc d0_287 ci_1 <| zu d0_288 <| zi (P' := [vn, vi i1, vn, vn, vr C.2.2.1, vn, vn, vn, vn, vi i9, vn, vn, vi i12, vn, vi i14, vi (i15 + (1 : Int32)), vi i16, vi i17, vi i1, vi i12, vn, vn, vn, vn, vn, vn, vn]) d0_289 (by decide) rfl <| zp [false, false, false, false, true, false, false, false, false, true, false, false, false, false, false, true, true, true, true, true, false, false, false, false, false, false, false] rfl <| L_law_b291_p ob i9 (i15 + (1 : Int32)) i16 i17 i1 i12 hf
def L_law_b226 (NF : Nat) (ob : Rec) (i0 : Int32) (i1 : Int32) (i9 : Int32) (i11 : Int32) (i12 : Int32) (i13 : Int32) (t0 : Int32) : Option (Int32) :=
  if i13 = (0 : Int32) then
    L_law_b258 NF ob i1 i9 i12 t0 (0 : Int32) (0 : Int32) (0 : Int32) (0 : Int32) (0 : Int32)
  else
    L_law_b258 NF ob i1 i9 i12 t0 (1 : Int32) i0 i11 (0 : Int32) (0 : Int32)
theorem L_law_b226_p {C : Ctx} {res : Int32} {NF : Nat} (ob : Rec) (i0 : Int32) (i1 : Int32) (i9 : Int32) (i11 : Int32) (i12 : Int32) (i13 : Int32) (t0 : Int32) (hf : L_law_b226 NF ob i0 i1 i9 i11 i12 i13 t0 = some res) : Runs C B0 46 20760 226 [vi i0, vi i1, vn, vn, vr C.2.2.1, vn, vn, vn, vn, vi i9, vn, vi i11, vi i12, vi i13, vn, vn, vn, vn, vn, vn, vn, vn, vn, vn, vn, vn, vn] [.int t0] (C.2.2.1 + 1 + 45, (C.2.2.1, 45, ob) :: []) (fun v _ => v = (some (.int res))) := by
  delta L_law_b226 at hf
  refine zi (P' := [vi i0, vi i1, vn, vn, vr C.2.2.1, vn, vn, vn, vn, vi i9, vn, vi i11, vi i12, vi i13, vi t0, vn, vn, vn, vn, vn, vn, vn, vn, vn, vn, vn, vn]) d0_226 (by decide) rfl <| zc d0_228 ci_0 <| zi (P' := [vi i0, vi i1, vn, vn, vr C.2.2.1, vn, vn, vn, vn, vi i9, vn, vi i11, vi i12, vi i13, vi t0, vi (0 : Int32), vn, vn, vn, vn, vn, vn, vn, vn, vn, vn, vn]) d0_229 (by decide) rfl <| zc d0_231 ci_0 <| zi (P' := [vi i0, vi i1, vn, vn, vr C.2.2.1, vn, vn, vn, vn, vi i9, vn, vi i11, vi i12, vi i13, vi t0, vi (0 : Int32), vi (0 : Int32), vn, vn, vn, vn, vn, vn, vn, vn, vn, vn]) d0_232 (by decide) rfl <| zc d0_234 ci_0 <| zi (P' := [vi i0, vi i1, vn, vn, vr C.2.2.1, vn, vn, vn, vn, vi i9, vn, vi i11, vi i12, vi i13, vi t0, vi (0 : Int32), vi (0 : Int32), vi (0 : Int32), vn, vn, vn, vn, vn, vn, vn, vn, vn]) d0_235 (by decide) rfl <| zc d0_237 ci_0 <| zi (P' := [vi i0, vi i1, vn, vn, vr C.2.2.1, vn, vn, vn, vn, vi i9, vn, vi i11, vi i12, vi i13, vi t0, vi (0 : Int32), vi (0 : Int32), vi (0 : Int32), vi (0 : Int32), vn, vn, vn, vn, vn, vn, vn, vn]) d0_238 (by decide) rfl <| zc d0_240 ci_0 <| zi (P' := [vi i0, vi i1, vn, vn, vr C.2.2.1, vn, vn, vn, vn, vi i9, vn, vi i11, vi i12, vi i13, vi t0, vi (0 : Int32), vi (0 : Int32), vi (0 : Int32), vi (0 : Int32), vi (0 : Int32), vn, vn, vn, vn, vn, vn, vn]) d0_241 (by decide) rfl <| zd d0_243 rfl <| ?_
  refine ite_el hf (fun hc10 hf => ?_) (fun hc10 hf => ?_)
  · exact zk (pc' := 258) d0_245 (teq hc10).1 (by decide) <| zp [false, true, false, false, true, false, false, false, false, true, false, false, true, false, true, true, true, true, true, true, false, false, false, false, false, false, false] rfl <| L_law_b258_p ob i1 i9 i12 t0 (0 : Int32) (0 : Int32) (0 : Int32) (0 : Int32) (0 : Int32) hf
  · refine zl d0_245 (feq hc10).1 <| ?_
    exact za d0_248 rfl <| zi (P' := [vi i0, vi i1, vn, vn, vr C.2.2.1, vn, vn, vn, vn, vi i9, vn, vi i11, vi i12, vi i13, vi t0, vi (0 : Int32), vi i0, vi (0 : Int32), vi (0 : Int32), vi (0 : Int32), vn, vn, vn, vn, vn, vn, vn]) d0_249 (by decide) rfl <| zd d0_251 rfl <| zi (P' := [vi i0, vi i1, vn, vn, vr C.2.2.1, vn, vn, vn, vn, vi i9, vn, vi i11, vi i12, vi i13, vi t0, vi (0 : Int32), vi i0, vi i11, vi (0 : Int32), vi (0 : Int32), vn, vn, vn, vn, vn, vn, vn]) d0_253 (by decide) rfl <| zc d0_255 ci_1 <| zi (P' := [vi i0, vi i1, vn, vn, vr C.2.2.1, vn, vn, vn, vn, vi i9, vn, vi i11, vi i12, vi i13, vi t0, vi (1 : Int32), vi i0, vi i11, vi (0 : Int32), vi (0 : Int32), vn, vn, vn, vn, vn, vn, vn]) d0_256 (by decide) rfl <| zp [false, true, false, false, true, false, false, false, false, true, false, false, true, false, true, true, true, true, true, true, false, false, false, false, false, false, false] rfl <| L_law_b258_p ob i1 i9 i12 t0 (1 : Int32) i0 i11 (0 : Int32) (0 : Int32) hf
def L_law_b202 (NF : Nat) (ob : Rec) (i0 : Int32) (i1 : Int32) (i3 : Int32) (i9 : Int32) (i10 : Int32) (i11 : Int32) (i12 : Int32) (t0 : Int32) : Option (Int32) :=
  if i1 = i10 then
    L_law_b226 NF ob i0 i1 i9 i11 i12 t0 (0 : Int32)
  else
    if i3 = i10 then
      L_law_b226 NF ob i0 i1 i9 i11 i12 t0 (0 : Int32)
    else
      if i1 < i3 then
        L_law_b226 NF ob i0 i1 i9 i11 i12 t0 (0 : Int32)
      else
        L_law_b226 NF ob i0 i1 i9 i11 i12 t0 (1 : Int32)
theorem L_law_b202_p {C : Ctx} {res : Int32} {NF : Nat} (ob : Rec) (i0 : Int32) (i1 : Int32) (i3 : Int32) (i9 : Int32) (i10 : Int32) (i11 : Int32) (i12 : Int32) (t0 : Int32) (hf : L_law_b202 NF ob i0 i1 i3 i9 i10 i11 i12 t0 = some res) : Runs C B0 46 20760 202 [vi i0, vi i1, vn, vi i3, vr C.2.2.1, vn, vn, vn, vn, vi i9, vi i10, vi i11, vi i12, vn, vn, vn, vn, vn, vn, vn, vn, vn, vn, vn, vn, vn, vn] [.int t0] (C.2.2.1 + 1 + 45, (C.2.2.1, 45, ob) :: []) (fun v _ => v = (some (.int res))) := by
  delta L_law_b202 at hf
  refine zi (P' := [vi i0, vi i1, vn, vi i3, vr C.2.2.1, vn, vn, vn, vn, vi i9, vi i10, vi i11, vi i12, vi t0, vn, vn, vn, vn, vn, vn, vn, vn, vn, vn, vn, vn, vn]) d0_202 (by decide) rfl <| za d0_204 rfl <| zd d0_205 rfl <| ?_
  refine ite_el hf (fun hc7 hf => ?_) (fun hc7 hf => ?_)
  · refine zf (pc' := 225) d0_207 (teq hc7).1 (by decide) <| ?_
    exact zc d0_225 ci_0 <| zp [true, true, false, false, true, false, false, false, false, true, false, true, true, true, false, false, false, false, false, false, false, false, false, false, false, false, false] rfl <| L_law_b226_p ob i0 i1 i9 i11 i12 t0 (0 : Int32) hf
  · refine zg d0_207 (feq hc7).1 <| ?_
    refine za d0_210 rfl <| zd d0_211 rfl <| ?_
    refine ite_el hf (fun hc8 hf => ?_) (fun hc8 hf => ?_)
    · refine zf (pc' := 225) d0_213 (teq hc8).1 (by decide) <| ?_
      exact zc d0_225 ci_0 <| zp [true, true, false, false, true, false, false, false, false, true, false, true, true, true, false, false, false, false, false, false, false, false, false, false, false, false, false] rfl <| L_law_b226_p ob i0 i1 i9 i11 i12 t0 (0 : Int32) hf
    · refine zg d0_213 (feq hc8).1 <| ?_
      refine za d0_216 rfl <| za d0_217 rfl <| ?_
      refine ite_el hf (fun hc9 hf => ?_) (fun hc9 hf => ?_)
      · refine zf (pc' := 225) d0_218 (tlt hc9).1 (by decide) <| ?_
        exact zc d0_225 ci_0 <| zp [true, true, false, false, true, false, false, false, false, true, false, true, true, true, false, false, false, false, false, false, false, false, false, false, false, false, false] rfl <| L_law_b226_p ob i0 i1 i9 i11 i12 t0 (0 : Int32) hf
      · refine zg d0_218 (flt hc9).1 <| ?_
        exact zc d0_221 ci_1 <| zo (pc' := 226) d0_222 (by decide) <| zp [true, true, false, false, true, false, false, false, false, true, false, true, true, true, false, false, false, false, false, false, false, false, false, false, false, false, false] rfl <| L_law_b226_p ob i0 i1 i9 i11 i12 t0 (1 : Int32) hf
def L_law_b178 (NF : Nat) (ob : Rec) (i0 : Int32) (i1 : Int32) (i3 : Int32) (i9 : Int32) (i10 : Int32) (i11 : Int32) (t0 : Int32) : Option (Int32) :=
  if i0 = i10 then
    L_law_b202 NF ob i0 i1 i3 i9 i10 i11 t0 (0 : Int32)
  else
    if i3 = i10 then
      L_law_b202 NF ob i0 i1 i3 i9 i10 i11 t0 (0 : Int32)
    else
      if i0 < i3 then
        L_law_b202 NF ob i0 i1 i3 i9 i10 i11 t0 (0 : Int32)
      else
        L_law_b202 NF ob i0 i1 i3 i9 i10 i11 t0 (1 : Int32)
theorem L_law_b178_p {C : Ctx} {res : Int32} {NF : Nat} (ob : Rec) (i0 : Int32) (i1 : Int32) (i3 : Int32) (i9 : Int32) (i10 : Int32) (i11 : Int32) (t0 : Int32) (hf : L_law_b178 NF ob i0 i1 i3 i9 i10 i11 t0 = some res) : Runs C B0 46 20760 178 [vi i0, vi i1, vn, vi i3, vr C.2.2.1, vn, vn, vn, vn, vi i9, vi i10, vi i11, vn, vn, vn, vn, vn, vn, vn, vn, vn, vn, vn, vn, vn, vn, vn] [.int t0] (C.2.2.1 + 1 + 45, (C.2.2.1, 45, ob) :: []) (fun v _ => v = (some (.int res))) := by
  delta L_law_b178 at hf
  refine zi (P' := [vi i0, vi i1, vn, vi i3, vr C.2.2.1, vn, vn, vn, vn, vi i9, vi i10, vi i11, vi t0, vn, vn, vn, vn, vn, vn, vn, vn, vn, vn, vn, vn, vn, vn]) d0_178 (by decide) rfl <| za d0_180 rfl <| zd d0_181 rfl <| ?_
  refine ite_el hf (fun hc4 hf => ?_) (fun hc4 hf => ?_)
  · refine zf (pc' := 201) d0_183 (teq hc4).1 (by decide) <| ?_
    exact zc d0_201 ci_0 <| L_law_b202_p ob i0 i1 i3 i9 i10 i11 t0 (0 : Int32) hf
  · refine zg d0_183 (feq hc4).1 <| ?_
    refine za d0_186 rfl <| zd d0_187 rfl <| ?_
    refine ite_el hf (fun hc5 hf => ?_) (fun hc5 hf => ?_)
    · refine zf (pc' := 201) d0_189 (teq hc5).1 (by decide) <| ?_
      exact zc d0_201 ci_0 <| L_law_b202_p ob i0 i1 i3 i9 i10 i11 t0 (0 : Int32) hf
    · refine zg d0_189 (feq hc5).1 <| ?_
      refine za d0_192 rfl <| za d0_193 rfl <| ?_
      refine ite_el hf (fun hc6 hf => ?_) (fun hc6 hf => ?_)
      · refine zf (pc' := 201) d0_194 (tlt hc6).1 (by decide) <| ?_
        exact zc d0_201 ci_0 <| L_law_b202_p ob i0 i1 i3 i9 i10 i11 t0 (0 : Int32) hf
      · refine zg d0_194 (flt hc6).1 <| ?_
        exact zc d0_197 ci_1 <| zo (pc' := 202) d0_198 (by decide) <| L_law_b202_p ob i0 i1 i3 i9 i10 i11 t0 (1 : Int32) hf
def L_law_b153 (NF : Nat) (ob : Rec) (i0 : Int32) (i1 : Int32) (i2 : Int32) (i3 : Int32) (i9 : Int32) (i10 : Int32) (t0 : Int32) : Option (Int32) :=
  if i1 = i10 then
    L_law_b178 NF ob i0 i1 i3 i9 i10 t0 i10
  else
    if i2 = i10 then
      L_law_b178 NF ob i0 i1 i3 i9 i10 t0 i10
    else
      if i1 = i2 then
        L_law_b178 NF ob i0 i1 i3 i9 i10 t0 i2
      else
        L_law_b178 NF ob i0 i1 i3 i9 i10 t0 i10
theorem L_law_b153_p {C : Ctx} {res : Int32} {NF : Nat} (ob : Rec) (i0 : Int32) (i1 : Int32) (i2 : Int32) (i3 : Int32) (i9 : Int32) (i10 : Int32) (t0 : Int32) (hf : L_law_b153 NF ob i0 i1 i2 i3 i9 i10 t0 = some res) : Runs C B0 46 20760 153 [vi i0, vi i1, vi i2, vi i3, vr C.2.2.1, vn, vn, vn, vn, vi i9, vi i10, vn, vn, vn, vn, vn, vn, vn, vn, vn, vn, vn, vn, vn, vn, vn, vn] [.int t0] (C.2.2.1 + 1 + 45, (C.2.2.1, 45, ob) :: []) (fun v _ => v = (some (.int res))) := by
  delta L_law_b153 at hf
  refine zi (P' := [vi i0, vi i1, vi i2, vi i3, vr C.2.2.1, vn, vn, vn, vn, vi i9, vi i10, vi t0, vn, vn, vn, vn, vn, vn, vn, vn, vn, vn, vn, vn, vn, vn, vn]) d0_153 (by decide) rfl <| za d0_155 rfl <| zd d0_156 rfl <| ?_
  refine ite_el hf (fun hc1 hf => ?_) (fun hc1 hf => ?_)
  · refine zf (pc' := 176) d0_158 (teq hc1).1 (by decide) <| ?_
    exact zd d0_176 rfl <| zp [true, true, false, true, true, false, false, false, false, true, true, true, false, false, false, false, false, false, false, false, false, false, false, false, false, false, false] rfl <| L_law_b178_p ob i0 i1 i3 i9 i10 t0 i10 hf
  · refine zg d0_158 (feq hc1).1 <| ?_
    refine za d0_161 rfl <| zd d0_162 rfl <| ?_
    refine ite_el hf (fun hc2 hf => ?_) (fun hc2 hf => ?_)
    · refine zf (pc' := 176) d0_164 (teq hc2).1 (by decide) <| ?_
      exact zd d0_176 rfl <| zp [true, true, false, true, true, false, false, false, false, true, true, true, false, false, false, false, false, false, false, false, false, false, false, false, false, false, false] rfl <| L_law_b178_p ob i0 i1 i3 i9 i10 t0 i10 hf
    · refine zg d0_164 (feq hc2).1 <| ?_
      refine za d0_167 rfl <| za d0_168 rfl <| ?_
      refine ite_el hf (fun hc3 hf => ?_) (fun hc3 hf => ?_)
      · refine zg d0_169 (teq hc3).2 <| ?_
        exact za d0_172 rfl <| zo (pc' := 178) d0_173 (by decide) <| zp [true, true, false, true, true, false, false, false, false, true, true, true, false, false, false, false, false, false, false, false, false, false, false, false, false, false, false] rfl <| L_law_b178_p ob i0 i1 i3 i9 i10 t0 i2 hf
      · refine zf (pc' := 176) d0_169 (feq hc3).2 (by decide) <| ?_
        exact zd d0_176 rfl <| zp [true, true, false, true, true, false, false, false, false, true, true, true, false, false, false, false, false, false, false, false, false, false, false, false, false, false, false] rfl <| L_law_b178_p ob i0 i1 i3 i9 i10 t0 i10 hf
def L_law (NF : Nat) (i0 : Int32) (i1 : Int32) (i2 : Int32) (i3 : Int32) : Option (Int32) :=
  (X_init (8 : Int32) (64 : Int32)).bind fun q40 =>
  bind2 (X_createTable q40 (0 : Int32) (1 : Int32)) fun r42 q43 =>
  bind2 (X_createTable q43 (1 : Int32) (1 : Int32)) fun r45 q46 =>
  bind2 (X_insert q46 (0 : Int32) i0 (0 : Int32) (0 : Int32)) fun r48 q49 =>
  bind2 (X_insert q49 (0 : Int32) i1 (0 : Int32) (0 : Int32)) fun r51 q52 =>
  bind2 (X_insert q52 (1 : Int32) i2 (0 : Int32) (0 : Int32)) fun r54 q55 =>
  bind2 (X_scan q55 (0 : Int32)) fun r57 q58 =>
  bind2 (X_scan q58 (1 : Int32)) fun r60 q61 =>
  bind2 (X_atom q61 (0 : Int32) (0 : Int32) (1 : Int32) (3 : Int32)) fun r63 q64 =>
  bind2 (X_join NF q64 r57 r60 (1 : Int32)) fun r66 q67 =>
  bind2 (X_atom q67 (5 : Int32) (0 : Int32) i3 (1 : Int32)) fun r69 q70 =>
  bind2 (X_select NF q70 r66) fun r72 q73 =>
  bind2 (X_query NF q73 r72 (1 : Int32)) fun r75 q76 =>
  if i0 = (-2147483648 : Int32) then
    L_law_b153 NF q76 i0 i1 i2 i3 r75 (-2147483648 : Int32) (-2147483648 : Int32)
  else
    if i2 = (-2147483648 : Int32) then
      L_law_b153 NF q76 i0 i1 i2 i3 r75 (-2147483648 : Int32) (-2147483648 : Int32)
    else
      if i0 = i2 then
        L_law_b153 NF q76 i0 i1 i2 i3 r75 (-2147483648 : Int32) i2
      else
        L_law_b153 NF q76 i0 i1 i2 i3 r75 (-2147483648 : Int32) (-2147483648 : Int32)
theorem L_law_p {C : Ctx} {res : Int32} {NF : Nat} (i0 : Int32) (i1 : Int32) (i2 : Int32) (i3 : Int32) (hf : L_law NF i0 i1 i2 i3 = some res) : Runs C B0 0 0 0 [vi i0, vi i1, vi i2, vi i3, vn, vn, vn, vn, vn, vn, vn, vn, vn, vn, vn, vn, vn, vn, vn, vn, vn, vn, vn, vn, vn, vn, vn] [] (C.2.2.1, []) (fun v _ => v = (some (.int res))) := by
  delta L_law at hf
  refine Runs.newK (k' := 1) (n' := 64) d0_0 w0 ⟨by decide, by decide⟩ rfl rfl (by intro x hx; cases hx) <| Runs.dup d0_3 rfl <| zj d0_4 cb_8 <| zj d0_6 cb_64 <| ?_
  refine bind_el hf fun q40 hg41 hf => ?_
  refine Runs.callI (N := B1) (k' := 46) (n' := 20760) (W := 1) (as := [.int (8 : Int32), .int (64 : Int32)]) (S' := [.ref C.2.2.1]) d0_8 rfl rfl w3 w4 cw1 ar1 (by decide) rfl rfl rfl rfl (X_init_pay hg41) <| ans0 <| Runs.astore (P' := [vi i0, vi i1, vi i2, vi i3, vr C.2.2.1, vn, vn, vn, vn, vn, vn, vn, vn, vn, vn, vn, vn, vn, vn, vn, vn, vn, vn, vn, vn, vn, vn]) d0_11 (by decide) rfl <| Runs.aload d0_13 rfl <| zc d0_15 ci_0 <| zc d0_16 ci_1 <| ?_
  refine bind2_el hf fun r42 q43 hg44 hf => ?_
  refine Runs.callV (N := B3) (W := 0) (as := [.int (0 : Int32), .int (1 : Int32)]) (S' := []) d0_17 w123 w124 w125 w126 cw3 ar3 rk0_3_0 (by decide) rfl rfl (X_createTable_pay hg44) <| ans1 <| Runs.pop d0_20 rfl <| Runs.aload d0_21 rfl <| zc d0_23 ci_1 <| zc d0_24 ci_1 <| ?_
  refine bind2_el hf fun r45 q46 hg47 hf => ?_
  refine Runs.callV (N := B3) (W := 0) (as := [.int (1 : Int32), .int (1 : Int32)]) (S' := []) d0_25 w123 w124 w125 w126 cw3 ar3 rk0_3_0 (by decide) rfl rfl (X_createTable_pay hg47) <| ans1 <| Runs.pop d0_28 rfl <| Runs.aload d0_29 rfl <| zc d0_31 ci_0 <| za d0_32 rfl <| zc d0_33 ci_0 <| zc d0_34 ci_0 <| ?_
  refine bind2_el hf fun r48 q49 hg50 hf => ?_
  refine Runs.callV (N := B4) (W := 0) (as := [.int (0 : Int32), .int i0, .int (0 : Int32), .int (0 : Int32)]) (S' := []) d0_35 w128 w129 w130 w131 cw4 ar4 rk0_4_0 (by decide) rfl rfl (X_insert_pay hg50) <| ans1 <| Runs.pop d0_38 rfl <| Runs.aload d0_39 rfl <| zc d0_41 ci_0 <| za d0_42 rfl <| zc d0_43 ci_0 <| zc d0_44 ci_0 <| ?_
  refine bind2_el hf fun r51 q52 hg53 hf => ?_
  refine Runs.callV (N := B4) (W := 0) (as := [.int (0 : Int32), .int i1, .int (0 : Int32), .int (0 : Int32)]) (S' := []) d0_45 w128 w129 w130 w131 cw4 ar4 rk0_4_0 (by decide) rfl rfl (X_insert_pay hg53) <| ans1 <| Runs.pop d0_48 rfl <| Runs.aload d0_49 rfl <| zc d0_51 ci_1 <| za d0_52 rfl <| zc d0_53 ci_0 <| zc d0_54 ci_0 <| ?_
  refine bind2_el hf fun r54 q55 hg56 hf => ?_
  refine Runs.callV (N := B4) (W := 0) (as := [.int (1 : Int32), .int i2, .int (0 : Int32), .int (0 : Int32)]) (S' := []) d0_55 w128 w129 w130 w131 cw4 ar4 rk0_4_0 (by decide) rfl rfl (X_insert_pay hg56) <| ans1 <| Runs.pop d0_58 rfl <| Runs.aload d0_59 rfl <| zc d0_61 ci_0 <| ?_
  refine bind2_el hf fun r57 q58 hg59 hf => ?_
  refine Runs.callV (N := B6) (W := 0) (as := [.int (0 : Int32)]) (S' := []) d0_62 w137 w138 w139 w140 cw6 ar6 rk0_6_0 (by decide) rfl rfl (X_scan_pay hg59) <| ans1 <| zi (P' := [vi i0, vi i1, vi i2, vi i3, vr C.2.2.1, vi r57, vn, vn, vn, vn, vn, vn, vn, vn, vn, vn, vn, vn, vn, vn, vn, vn, vn, vn, vn, vn, vn]) d0_65 (by decide) rfl <| Runs.aload d0_67 rfl <| zc d0_69 ci_1 <| ?_
  refine bind2_el hf fun r60 q61 hg62 hf => ?_
  refine Runs.callV (N := B6) (W := 0) (as := [.int (1 : Int32)]) (S' := []) d0_70 w137 w138 w139 w140 cw6 ar6 rk0_6_0 (by decide) rfl rfl (X_scan_pay hg62) <| ans1 <| zi (P' := [vi i0, vi i1, vi i2, vi i3, vr C.2.2.1, vi r57, vi r60, vn, vn, vn, vn, vn, vn, vn, vn, vn, vn, vn, vn, vn, vn, vn, vn, vn, vn, vn, vn]) d0_73 (by decide) rfl <| Runs.aload d0_75 rfl <| zc d0_77 ci_0 <| zc d0_78 ci_0 <| zc d0_79 ci_1 <| zc d0_80 ci_3 <| ?_
  refine bind2_el hf fun r63 q64 hg65 hf => ?_
  refine Runs.callV (N := B8) (W := 0) (as := [.int (0 : Int32), .int (0 : Int32), .int (1 : Int32), .int (3 : Int32)]) (S' := []) d0_81 w150 w151 w152 w153 cw8 ar8 rk0_8_0 (by decide) rfl rfl (X_atom_pay hg65) <| ans1 <| Runs.pop d0_84 rfl <| Runs.aload d0_85 rfl <| zd d0_87 rfl <| zd d0_89 rfl <| zc d0_91 ci_1 <| ?_
  refine bind2_el hf fun r66 q67 hg68 hf => ?_
  refine Runs.callV (N := B9) (W := 0) (as := [.int r57, .int r60, .int (1 : Int32)]) (S' := []) d0_92 w157 w158 w159 w160 cw9 ar9 rk0_9_0 (by decide) rfl rfl (X_join_pay hg68) <| ans1 <| zi (P' := [vi i0, vi i1, vi i2, vi i3, vr C.2.2.1, vi r57, vi r60, vi r66, vn, vn, vn, vn, vn, vn, vn, vn, vn, vn, vn, vn, vn, vn, vn, vn, vn, vn, vn]) d0_95 (by decide) rfl <| Runs.aload d0_97 rfl <| zc d0_99 ci_5 <| zc d0_100 ci_0 <| za d0_101 rfl <| zc d0_102 ci_1 <| ?_
  refine bind2_el hf fun r69 q70 hg71 hf => ?_
  refine Runs.callV (N := B8) (W := 0) (as := [.int (5 : Int32), .int (0 : Int32), .int i3, .int (1 : Int32)]) (S' := []) d0_103 w150 w151 w152 w153 cw8 ar8 rk0_8_0 (by decide) rfl rfl (X_atom_pay hg71) <| ans1 <| Runs.pop d0_106 rfl <| Runs.aload d0_107 rfl <| zd d0_109 rfl <| ?_
  refine bind2_el hf fun r72 q73 hg74 hf => ?_
  refine Runs.callV (N := B13) (W := 0) (as := [.int r66]) (S' := []) d0_111 w174 w175 w176 w177 cw13 ar13 rk0_13_0 (by decide) rfl rfl (X_select_pay hg74) <| ans1 <| zi (P' := [vi i0, vi i1, vi i2, vi i3, vr C.2.2.1, vi r57, vi r60, vi r66, vi r72, vn, vn, vn, vn, vn, vn, vn, vn, vn, vn, vn, vn, vn, vn, vn, vn, vn, vn]) d0_114 (by decide) rfl <| Runs.aload d0_116 rfl <| zd d0_118 rfl <| zc d0_120 ci_1 <| ?_
  refine bind2_el hf fun r75 q76 hg77 hf => ?_
  refine Runs.callV (N := B14) (W := 0) (as := [.int r72, .int (1 : Int32)]) (S' := []) d0_121 w179 w180 w181 w182 cw14 ar14 rk0_14_0 (by decide) rfl rfl (X_query_pay hg77) <| ans1 <| zi (P' := [vi i0, vi i1, vi i2, vi i3, vr C.2.2.1, vi r57, vi r60, vi r66, vi r72, vi r75, vn, vn, vn, vn, vn, vn, vn, vn, vn, vn, vn, vn, vn, vn, vn, vn, vn]) d0_124 (by decide) rfl <| Runs.ldc d0_126 w383 <| zi (P' := [vi i0, vi i1, vi i2, vi i3, vr C.2.2.1, vi r57, vi r60, vi r66, vi r72, vi r75, vi (-2147483648 : Int32), vn, vn, vn, vn, vn, vn, vn, vn, vn, vn, vn, vn, vn, vn, vn, vn]) d0_128 (by decide) rfl <| za d0_130 rfl <| zd d0_131 rfl <| ?_
  refine ite_el hf (fun hc78 hf => ?_) (fun hc78 hf => ?_)
  · refine zf (pc' := 151) d0_133 (teq hc78).1 (by decide) <| ?_
    exact zd d0_151 rfl <| zp [true, true, true, true, true, false, false, false, false, true, true, false, false, false, false, false, false, false, false, false, false, false, false, false, false, false, false] rfl <| L_law_b153_p q76 i0 i1 i2 i3 r75 (-2147483648 : Int32) (-2147483648 : Int32) hf
  · refine zg d0_133 (feq hc78).1 <| ?_
    refine za d0_136 rfl <| zd d0_137 rfl <| ?_
    refine ite_el hf (fun hc79 hf => ?_) (fun hc79 hf => ?_)
    · refine zf (pc' := 151) d0_139 (teq hc79).1 (by decide) <| ?_
      exact zd d0_151 rfl <| zp [true, true, true, true, true, false, false, false, false, true, true, false, false, false, false, false, false, false, false, false, false, false, false, false, false, false, false] rfl <| L_law_b153_p q76 i0 i1 i2 i3 r75 (-2147483648 : Int32) (-2147483648 : Int32) hf
    · refine zg d0_139 (feq hc79).1 <| ?_
      refine za d0_142 rfl <| za d0_143 rfl <| ?_
      refine ite_el hf (fun hc80 hf => ?_) (fun hc80 hf => ?_)
      · refine zg d0_144 (teq hc80).2 <| ?_
        exact za d0_147 rfl <| zo (pc' := 153) d0_148 (by decide) <| zp [true, true, true, true, true, false, false, false, false, true, true, false, false, false, false, false, false, false, false, false, false, false, false, false, false, false, false] rfl <| L_law_b153_p q76 i0 i1 i2 i3 r75 (-2147483648 : Int32) i2 hf
      · refine zf (pc' := 151) d0_144 (feq hc80).2 (by decide) <| ?_
        exact zd d0_151 rfl <| zp [true, true, true, true, true, false, false, false, false, true, true, false, false, false, false, false, false, false, false, false, false, false, false, false, false, false, false] rfl <| L_law_b153_p q76 i0 i1 i2 i3 r75 (-2147483648 : Int32) (-2147483648 : Int32) hf
theorem L_law_pay {C : Ctx} {res : Int32} {NF : Nat} {i0 : Int32} {i1 : Int32} {i2 : Int32} {i3 : Int32} (hf : L_law NF i0 i1 i2 i3 = some res) : Pays C B0 [.int i0, .int i1, .int i2, .int i3] (C.2.2.1, []) (fun v _ => v = (some (.int res))) :=
  Pays.of pnL (Nat.le_of_ble_eq_true rfl) (P := [vi i0, vi i1, vi i2, vi i3, vn, vn, vn, vn, vn, vn, vn, vn, vn, vn, vn, vn, vn, vn, vn, vn, vn, vn, vn, vn, vn, vn, vn]) 23 rfl (L_law_p i0 i1 i2 i3 hf)
-- no word: X_buildStep at 145: method #331
-- no word: X_pushJoin at 91: method #366
-- no word: X_query at 58: method #212
--OWED--
theorem gI_sI (ob : Rec) (k j : Nat) (v : Int32) : gI (sI ob k v) j = if j = k then v else gI ob j := rfl
theorem gI_sA (ob : Rec) (k j : Nat) (i v : Int32) : gI (sA ob k i v) j = gI ob j := rfl
theorem gI_sJ (ob : Rec) (k j : Nat) (i : Int32) (v : Int64) : gI (sJ ob k i v) j = gI ob j := rfl
theorem gA_sI (ob : Rec) (k j : Nat) (v x : Int32) : gA (sI ob k v) j x = gA ob j x := rfl
theorem gA_sA (ob : Rec) (k j : Nat) (i v x : Int32) : gA (sA ob k i v) j x = if j = k ∧ x = i then v else gA ob j x := rfl
theorem gA_sJ (ob : Rec) (k j : Nat) (i x : Int32) (v : Int64) : gA (sJ ob k i v) j x = gA ob j x := rfl
theorem gJ_sI (ob : Rec) (k j : Nat) (v x : Int32) : gJ (sI ob k v) j x = gJ ob j x := rfl
theorem gJ_sA (ob : Rec) (k j : Nat) (i v x : Int32) : gJ (sA ob k i v) j x = gJ ob j x := rfl
theorem gJ_sJ (ob : Rec) (k j : Nat) (i x : Int32) (v : Int64) : gJ (sJ ob k i v) j x = if j = k ∧ x = i then v else gJ ob j x := rfl
theorem gI_z (k : Nat) : gI zrec k = 0 := rfl
theorem gA_z (k : Nat) (i : Int32) : gA zrec k i = 0 := rfl
theorem gJ_z (k : Nat) (i : Int32) : gJ zrec k i = 0 := rfl
theorem chk_ok {γ : Type} {n i : Int32} {A : Option γ} (h : 0 ≤ i.toInt ∧ i.toInt < n.toInt) : chk n i A = A := by
  have h0 : ¬ i < 0 := by rw [Int32.lt_iff_toInt_lt]; show ¬ i.toInt < 0; omega
  have h1 : i < n := by rw [Int32.lt_iff_toInt_lt]; exact h.2
  unfold chk; rw [if_neg h0, if_pos h1]
theorem lt_i {x y : Int32} : x < y ↔ x.toInt < y.toInt := Int32.lt_iff_toInt_lt
theorem le_i {x y : Int32} : x ≤ y ↔ x.toInt ≤ y.toInt := Int32.le_iff_toInt_le
theorem eq_i32 {x y : Int32} : x = y ↔ x.toInt = y.toInt := Int32.toInt_inj.symm
theorem bm_id {n : Int} (h : -2147483648 ≤ n ∧ n < 2147483648) : n.bmod (2 ^ 32) = n := Int.bmod_eq_of_le (by omega) (by omega)
theorem ad {x y : Int32} (h : -2147483648 ≤ x.toInt + y.toInt ∧ x.toInt + y.toInt < 2147483648) : (x + y).toInt = x.toInt + y.toInt := by rw [Int32.toInt_add, bm_id h]
theorem sb {x y : Int32} (h : -2147483648 ≤ x.toInt - y.toInt ∧ x.toInt - y.toInt < 2147483648) : (x - y).toInt = x.toInt - y.toInt := by rw [Int32.toInt_sub, bm_id h]
theorem ml {x y : Int32} (h : -2147483648 ≤ x.toInt * y.toInt ∧ x.toInt * y.toInt < 2147483648) : (x * y).toInt = x.toInt * y.toInt := by rw [Int32.toInt_mul, bm_id h]
theorem bind2_some {α β γ : Type} (a : α) (b : β) (f : α → β → Option γ) : bind2 (some (a, b)) f = f a b := rfl
abbrev Ls : Type := List (Nat × Int32 × Int32)
def wr : Ls → Rec → Rec
  | [], ob => ob
  | (k, i, v) :: l, ob => sA (wr l ob) k i v
def rv (A : Ls) (ob : Rec) : List Int32 := A.map fun t => gA ob t.1 t.2.1
def vv (A : Ls) : List Int32 := A.map fun t => t.2.2
theorem sA_id {ob : Rec} {k : Nat} {i v : Int32} (h : gA ob k i = v) : sA ob k i v = ob := by
  obtain ⟨a, b, d⟩ := ob
  have e : (fun j x => if j = k ∧ x = i then v else b j x) = b := by
    funext j x
    by_cases hc : j = k ∧ x = i
    · rw [if_pos hc, hc.1, hc.2]; exact h.symm
    · rw [if_neg hc]
  exact congrArg (fun z => ((a, z, d) : Rec)) e
theorem sI_id {ob : Rec} {k : Nat} {v : Int32} (h : gI ob k = v) : sI ob k v = ob := by
  obtain ⟨a, b⟩ := ob
  have e : (fun j => if j = k then v else a j) = a := by
    funext j
    by_cases hc : j = k
    · rw [if_pos hc, hc]; exact h.symm
    · rw [if_neg hc]
  exact congrArg (fun z => ((z, b) : Rec)) e
theorem wr_id : ∀ (A : Ls) (ob : Rec), rv A ob = vv A → wr A ob = ob
  | [], _, _ => rfl
  | (k, i, v) :: l, ob, h => by
    have h1 := (List.cons.inj h).1
    have h2 := wr_id l ob (List.cons.inj h).2
    show sA (wr l ob) k i v = ob
    rw [h2]; exact sA_id h1
theorem stg {F : Option Rec} {A : Ls} {n a : Int32} {k j : Nat} (h : F.map (fun q => (gI q k, gI q j, rv A q)) = some (n, a, vv A)) : ∃ q, F = some (sI (sI (wr A q) k n) j a) := by
  cases F with
  | none => cases h
  | some q =>
    have h' := Option.some.inj h
    have e1 : gI q k = n := congrArg (fun z => z.1) h'
    have e2 : gI q j = a := congrArg (fun z => z.2.1) h'
    have e3 : rv A q = vv A := congrArg (fun z => z.2.2) h'
    exact ⟨q, by rw [wr_id A q e3, sI_id e1, sI_id e2]⟩
theorem stg2 {F : Option (Int32 × Rec)} {A : Ls} {r n a : Int32} {k j : Nat} (h : F.map (fun q => (q.1, gI q.2 k, gI q.2 j, rv A q.2)) = some (r, n, a, vv A)) : ∃ q, F = some (r, sI (sI (wr A q) k n) j a) := by
  cases F with
  | none => cases h
  | some q =>
    have h' := Option.some.inj h
    have e0 : q.1 = r := congrArg (fun z => z.1) h'
    have e1 : gI q.2 k = n := congrArg (fun z => z.2.1) h'
    have e2 : gI q.2 j = a := congrArg (fun z => z.2.2.1) h'
    have e3 : rv A q.2 = vv A := congrArg (fun z => z.2.2.2) h'
    exact ⟨q.2, by rw [wr_id A q.2 e3, sI_id e1, sI_id e2, ← e0]⟩
def A1 (x0 x1 y c : Int32) : Ls := [(0,0,1),(0,1,1),(1,0,2),(1,1,1),(2,0,x0),(2,3,x1),(2,24,y),(7,0,0),(7,1,0),(7,2,3),(7,3,1),(8,0,1),(8,1,1),(8,2,2),(8,3,2),(9,0,0),(9,1,1),(9,2,0),(9,3,2),(10,2,1),(11,2,1),(13,2,0),(13,3,1),(14,2,1),(14,3,1),(15,0,0),(15,1,5),(16,0,0),(16,1,0),(17,0,1),(17,1,c),(18,0,3),(18,1,1)]
def A3 (h0 h4 x0 x1 y c : Int32) : Ls := [(35,0,h0),(35,1,-1),(35,2,-1),(35,3,-1),(35,4,h4),(35,5,0),(36,0,0),(37,0,0),(38,0,1),(39,0,3),(40,0,-1),(36,1,5),(37,1,0),(38,1,c),(39,1,1),(40,1,-1),(31,0,1),(31,1,1),(31,2,2),(32,0,0),(32,8,0),(32,16,0),(32,17,1),(26,0,0),(26,1,0),(26,2,1),(27,0,0),(27,1,1),(28,2,0),(29,2,1),(30,2,1),(34,0,0),(34,1,0),(34,2,0),(43,0,2),(1,0,2),(1,1,1),(2,0,x0),(2,3,x1),(2,24,y),(8,3,2)]
theorem q_b {α γ : Type} (a : α) (f : α → Option γ) : (some a).bind f = f a := rfl
theorem q_b2 {α β γ : Type} (a : α) (b : β) (f : α → β → Option γ) : bind2 (some (a, b)) f = f a b := rfl
def P0 (x0 x1 y c : Int32) : Option (Int32 × Rec) :=
  (X_init (8 : Int32) (64 : Int32)).bind fun q40 =>
  bind2 (X_createTable q40 (0 : Int32) (1 : Int32)) fun r42 q43 =>
  bind2 (X_createTable q43 (1 : Int32) (1 : Int32)) fun r45 q46 =>
  bind2 (X_insert q46 (0 : Int32) x0 (0 : Int32) (0 : Int32)) fun r48 q49 =>
  bind2 (X_insert q49 (0 : Int32) x1 (0 : Int32) (0 : Int32)) fun r51 q52 =>
  bind2 (X_insert q52 (1 : Int32) y (0 : Int32) (0 : Int32)) fun r54 q55 =>
  bind2 (X_scan q55 (0 : Int32)) fun r57 q58 =>
  bind2 (X_scan q58 (1 : Int32)) fun r60 q61 =>
  bind2 (X_atom q61 (0 : Int32) (0 : Int32) (1 : Int32) (3 : Int32)) fun r63 q64 =>
  bind2 (X_join 20 q64 r57 r60 (1 : Int32)) fun r66 q67 =>
  bind2 (X_atom q67 (5 : Int32) (0 : Int32) c (1 : Int32)) fun r69 q70 =>
  bind2 (X_select 20 q70 r66) fun r72 q73 => some (r72, q73)
theorem p_a (x0 x1 y c : Int32) : ∃ q, P0 x0 x1 y c = some (3, sI (sI (wr (A1 x0 x1 y c) q) 8 64) 10 4) := stg2 (by cbv)
theorem p_b (x0 x1 y c : Int32) (ob : Rec) : ∃ q, X_computeWeights 20 (sI (sI (wr (A1 x0 x1 y c) ob) 8 64) 10 4) = some (sI (sI (wr ((20,3,4) :: A1 x0 x1 y c) q) 8 64) 10 4) := stg (by cbv)
theorem p_c (x0 x1 y c : Int32) (ob : Rec) : ∃ q, X_buildPlan 20 (sI (sI (wr ((20,3,4) :: A1 x0 x1 y c) ob) 8 64) 10 4) 3 = some (1, sI (sI (wr (A3 (-1) 1 x0 x1 y c) q) 14 3) 10 4) := stg2 (by cbv)
theorem p_d (x0 x1 y c : Int32) (ob : Rec) : ∃ q, X_pushdownAll 20 (sI (sI (wr (A3 (-1) 1 x0 x1 y c) ob) 14 3) 10 4) = some (sI (sI (wr (A3 1 (-1) x0 x1 y c) q) 14 3) 10 4) := stg (by cbv)
theorem nc_0 (ob : Rec) : X_newCol 20 ob 0 1 1 1 = some 0 := rfl
theorem nc_1 (ob : Rec) : X_newCol 20 ob 1 1 1 1 = some 1 := rfl
theorem cm_a {ob : Rec} (h : gA ob 31 2 = 2) : X_compactMap 20 ob 2 3 = some ob := by
  have a1 : ∀ K, X_compactMap_w5 20 K ob 2 3 0 0 = K (sA ob 32 16 (gA ob 32 16)) 2 3 1 1 := by
    intro K; unfold X_compactMap_w5; rw [h]; rfl
  have a2 : ∀ K, X_compactMap_w5 20 K ob 2 3 1 1 = K (sA ob 32 17 (gA ob 32 17)) 2 3 2 2 := by
    intro K; unfold X_compactMap_w5; rw [h]; rfl
  have a3 : ∀ K, X_compactMap_w5 20 K ob 2 3 2 2 = some (sA ob 31 2 2) := by
    intro K; unfold X_compactMap_w5; rw [h]; rfl
  show X_compactMap_w5 20 (X_compactMap_l5 20 19) ob 2 3 0 0 = _
  rw [a1, sA_id rfl]
  show X_compactMap_w5 20 (X_compactMap_l5 20 18) ob 2 3 1 1 = _
  rw [a2, sA_id rfl]
  show X_compactMap_w5 20 (X_compactMap_l5 20 17) ob 2 3 2 2 = _
  rw [a3, sA_id h]
theorem cm_b {ob : Rec} {p : Int32} (hp : p = 0 ∨ p = 1) (h : gA ob 31 p = 1) : X_compactMap 20 ob p 1 = some ob := by
  have a1 : ∀ K, X_compactMap_w5 20 K ob p 1 0 0 = K (sA ob 32 (p * 8) (gA ob 32 (p * 8))) p 1 1 1 := by
    intro K; unfold X_compactMap_w5; rw [h]; rcases hp with rfl | rfl <;> rfl
  have a3 : ∀ K, X_compactMap_w5 20 K ob p 1 1 1 = some (sA ob 31 p 1) := by
    intro K; unfold X_compactMap_w5; rw [h]; rcases hp with rfl | rfl <;> rfl
  show X_compactMap_w5 20 (X_compactMap_l5 20 19) ob p 1 0 0 = _
  rw [a1, sA_id rfl]
  show X_compactMap_w5 20 (X_compactMap_l5 20 18) ob p 1 1 1 = _
  rw [a3, sA_id h]
theorem um_2 {ob : Rec} (h : gA ob 31 2 = 2) (h0 : gA ob 32 16 = 0) (h1 : gA ob 32 17 = 1) : X_usedMapMask 20 ob 2 = some 3 := by
  have a1 : ∀ K, X_usedMapMask_w4 20 ob K 2 0 0 = K 2 (0 ||| ((1 : Int32) <<< ((gA ob 32 16 &&& 7) &&& 31))) 1 := by
    intro K; unfold X_usedMapMask_w4; rw [h]; rfl
  have a2 : ∀ K m, X_usedMapMask_w4 20 ob K 2 m 1 = K 2 (m ||| ((1 : Int32) <<< ((gA ob 32 17 &&& 7) &&& 31))) 2 := by
    intro K m; unfold X_usedMapMask_w4; rw [h]; rfl
  have a3 : ∀ K m, X_usedMapMask_w4 20 ob K 2 m 2 = some m := by
    intro K m; unfold X_usedMapMask_w4; rw [h]; rfl
  show X_usedMapMask_w4 20 ob (X_usedMapMask_l4 20 ob 19) 2 0 0 = _
  rw [a1, h0]
  show X_usedMapMask_w4 20 ob (X_usedMapMask_l4 20 ob 18) 2 _ 1 = _
  rw [a2, h1]
  show X_usedMapMask_w4 20 ob (X_usedMapMask_l4 20 ob 17) 2 _ 2 = _
  rw [a3]; decide
theorem ul_4 {ob : Rec} (h : gA ob 35 4 = -1) : X_usedListMask 20 ob 4 = some 0 := by
  have ec : ∀ A : Option Int32, chk (32 : Int32) 4 A = A := fun A => rfl
  unfold X_usedListMask
  rw [h, ec]; rfl
theorem ul_5 {ob : Rec} (h : gA ob 35 5 = 0) (h0 : gA ob 37 0 = 0) (h1 : gA ob 38 0 = 1) (h2 : gA ob 39 0 = 3) (h3 : gA ob 40 0 = -1) : X_usedListMask 20 ob 5 = some 3 := by
  have ec : ∀ A : Option Int32, chk (32 : Int32) 5 A = A := fun A => rfl
  have ed : ∀ A : Option Int32, chk (512 : Int32) 0 A = A := fun A => rfl
  unfold X_usedListMask
  rw [h, ec]
  show X_usedListMask_w12 20 ob (X_usedListMask_l12 20 ob 19) 0 0 0 = _
  unfold X_usedListMask_w12
  rw [if_pos (by decide), if_neg (by decide), if_pos (by decide), ed, h2, if_neg (by decide), ed, h0]
  unfold X_usedListMask_b56
  rw [ed, h2, if_neg (by decide), ed, ed, h1, h3]
  show X_usedListMask_w12 20 ob (X_usedListMask_l12 20 ob 18) _ (-1) _ = _
  unfold X_usedListMask_w12
  rw [if_pos (by decide), if_pos (by decide)]; decide
theorem rm_2 {ob : Rec} (h : gA ob 31 2 = 2) (h0 : gA ob 32 16 = 0) (h1 : gA ob 32 17 = 1) : X_renumberMap 20 ob 2 1 1 1 = some ob := by
  have a1 : ∀ K, X_renumberMap_w3 20 K ob 2 1 1 1 0 = (X_newCol 20 ob (gA ob 32 16) 1 1 1).bind fun r5 => K (sA ob 32 16 r5) 2 1 1 1 1 := by
    intro K; unfold X_renumberMap_w3; rw [h]; rfl
  have a2 : ∀ K, X_renumberMap_w3 20 K ob 2 1 1 1 1 = (X_newCol 20 ob (gA ob 32 17) 1 1 1).bind fun r5 => K (sA ob 32 17 r5) 2 1 1 1 2 := by
    intro K; unfold X_renumberMap_w3; rw [h]; rfl
  have a3 : ∀ K, X_renumberMap_w3 20 K ob 2 1 1 1 2 = some ob := by
    intro K; unfold X_renumberMap_w3; rw [h]; rfl
  show X_renumberMap_w3 20 (X_renumberMap_l3 20 19) ob 2 1 1 1 0 = _
  rw [a1, h0, nc_0, q_b, sA_id h0]
  show X_renumberMap_w3 20 (X_renumberMap_l3 20 18) ob 2 1 1 1 1 = _
  rw [a2, h1, nc_1, q_b, sA_id h1]
  show X_renumberMap_w3 20 (X_renumberMap_l3 20 17) ob 2 1 1 1 2 = _
  rw [a3]
theorem rl_4 {ob : Rec} (h : gA ob 35 4 = -1) : X_renumberList 20 ob 4 1 1 1 = some ob := by
  have ec : ∀ A : Option Rec, chk (32 : Int32) 4 A = A := fun A => rfl
  unfold X_renumberList
  rw [h, ec]; rfl
theorem rl_5 {ob : Rec} (h : gA ob 35 5 = 0) (h0 : gA ob 37 0 = 0) (h1 : gA ob 38 0 = 1) (h2 : gA ob 39 0 = 3) (h3 : gA ob 40 0 = -1) : X_renumberList 20 ob 5 1 1 1 = some ob := by
  have ec : ∀ A : Option Rec, chk (32 : Int32) 5 A = A := fun A => rfl
  have ed : ∀ A : Option Rec, chk (512 : Int32) 0 A = A := fun A => rfl
  unfold X_renumberList
  rw [h, ec]
  show X_renumberList_w11 20 (X_renumberList_l11 20 19) ob 1 1 1 0 0 = _
  unfold X_renumberList_w11
  rw [if_pos (by decide), if_neg (by decide), if_pos (by decide), ed, h2, if_neg (by decide), ed, h0, nc_0, q_b, ed, sA_id h0]
  unfold X_renumberList_b66
  rw [ed, h2, if_neg (by decide), ed, h1, nc_1, q_b, ed, ed, sA_id h1, h3]
  show X_renumberList_w11 20 (X_renumberList_l11 20 18) ob 1 1 1 (-1) _ = _
  unfold X_renumberList_w11
  rw [if_pos (by decide), if_pos (by decide)]
theorem pj_2 {ob : Rec} (h : rv [(28,2,0),(29,2,1),(31,0,1),(31,1,1),(31,2,2),(32,16,0),(32,17,1),(35,4,-1),(35,5,0),(37,0,0),(38,0,1),(39,0,3),(40,0,-1)] ob = [0,1,1,1,2,0,1,-1,0,0,1,3,-1]) : X_pruneJoinInputs 20 ob 2 = some (sA (sA ob 33 0 1) 33 1 1) := by
  have g : gA ob 28 2 = 0 ∧ gA ob 29 2 = 1 ∧ gA ob 31 0 = 1 ∧ gA ob 31 1 = 1 ∧ gA ob 31 2 = 2 ∧ gA ob 32 16 = 0 ∧ gA ob 32 17 = 1 ∧ gA ob 35 4 = -1 ∧ gA ob 35 5 = 0 ∧ gA ob 37 0 = 0 ∧ gA ob 38 0 = 1 ∧ gA ob 39 0 = 3 ∧ gA ob 40 0 = -1 := by
    have h' : [gA ob 28 2, gA ob 29 2, gA ob 31 0, gA ob 31 1, gA ob 31 2, gA ob 32 16, gA ob 32 17, gA ob 35 4, gA ob 35 5, gA ob 37 0, gA ob 38 0, gA ob 39 0, gA ob 40 0] = [0,1,1,1,2,0,1,-1,0,0,1,3,-1] := h
    injection h' with b1 h'; injection h' with b2 h'; injection h' with b3 h'; injection h' with b4 h'; injection h' with b5 h'; injection h' with b6 h'; injection h' with b7 h'; injection h' with b8 h'; injection h' with b9 h'; injection h' with b10 h'; injection h' with b11 h'; injection h' with b12 h'; injection h' with b13 h'
    exact ⟨b1, b2, b3, b4, b5, b6, b7, b8, b9, b10, b11, b12, b13⟩
  obtain ⟨b1, b2, b3, b4, b5, b6, b7, b8, b9, b10, b11, b12, b13⟩ := g
  have e0 : ∀ A : Option Rec, chk (16 : Int32) 2 A = A := fun A => rfl
  have e1 : ∀ A : Option Rec, chk (16 : Int32) 0 A = A := fun A => rfl
  have e2 : ∀ A : Option Rec, chk (16 : Int32) 1 A = A := fun A => rfl
  unfold X_pruneJoinInputs
  rw [b1, b2, b3, b4, e0, e0, e1, e2, um_2 b5 b6 b7, q_b, show (2 : Int32) * 2 = 4 by decide, show (4 : Int32) + 1 = 5 by decide, ul_4 b8, q_b, ul_5 b9 b10 b11 b12 b13, q_b, q_b, if_neg (by decide)]
  have f : ∀ i7 i8 : Int32, i7 = 1 → i8 = 1 → X_pruneJoinInputs_b96 20 ob 2 0 1 1 i7 i8 = some (sA (sA ob 33 0 1) 33 1 1) := by
    intro i7 i8 h7 h8
    subst h7; subst h8
    unfold X_pruneJoinInputs_b96
    rw [if_neg (by decide)]
    unfold X_pruneJoinInputs_b104
    rw [e1, e2, rm_2 (ob := sA (sA ob 33 0 1) 33 1 1) b5 b6 b7, q_b, show (2 : Int32) * 2 = 4 by decide, rl_4 (ob := sA (sA ob 33 0 1) 33 1 1) b8, q_b, show (4 : Int32) + 1 = 5 by decide, rl_5 (ob := sA (sA ob 33 0 1) 33 1 1) b9 b10 b11 b12 b13, q_b]
  exact f _ _ (by decide) (by decide)
theorem p_e (x0 x1 y c : Int32) (ob : Rec) : ∃ q, X_pruneAll 20 (sI (sI (wr (A3 1 (-1) x0 x1 y c) ob) 14 3) 10 4) 2 = some (sI (sI (wr (A3 1 (-1) x0 x1 y c) q) 14 3) 10 4) := by
  have e0 : ∀ A : Option Rec, chk (16 : Int32) 2 A = A := fun A => rfl
  have e1 : ∀ A : Option Rec, chk (16 : Int32) 0 A = A := fun A => rfl
  have e2 : ∀ A : Option Rec, chk (16 : Int32) 1 A = A := fun A => rfl
  generalize ew : sI (sI (wr (A3 1 (-1) x0 x1 y c) ob) 14 3) 10 4 = w
  have w0 : gA w 31 2 = 2 := by rw [← ew]; cbv
  have w1 : gA w 31 1 = 1 := by rw [← ew]; cbv
  have w2 : gA w 31 0 = 1 := by rw [← ew]; cbv
  have w3 : gA w 26 2 = 1 := by rw [← ew]; cbv
  have w4 : gA w 26 1 = 0 := by rw [← ew]; cbv
  have w5 : gA w 26 0 = 0 := by rw [← ew]; cbv
  have wv : rv [(28,2,0),(29,2,1),(31,0,1),(31,1,1),(31,2,2),(32,16,0),(32,17,1),(35,4,-1),(35,5,0),(37,0,0),(38,0,1),(39,0,3),(40,0,-1)] w = [0,1,1,1,2,0,1,-1,0,0,1,3,-1] := by rw [← ew]; cbv
  have hu : ∃ u, u = sA (sA (sA w 33 2 3) 33 0 1) 33 1 1 := ⟨_, rfl⟩
  obtain ⟨u, hu⟩ := hu
  have e : X_pruneAll 20 w 2 = some u := by
    unfold X_pruneAll
    rw [e0, e0, w0, show ((1 : Int32) <<< ((2 : Int32) &&& 31)) - 1 = 3 by decide]
    show X_pruneAll_w18 20 (X_pruneAll_l18 20 19) (sA w 33 2 3) 2 = _
    unfold X_pruneAll_w18
    rw [if_neg (by decide), e0, show gA (sA w 33 2 3) 33 2 = 3 from rfl, cm_a (ob := sA w 33 2 3) w0, q_b, e0, show gA (sA w 33 2 3) 26 2 = 1 from w3, if_pos rfl, pj_2 (ob := sA w 33 2 3) wv, q_b, ← hu, show (2 : Int32) + -1 = 1 by decide]
    show X_pruneAll_w18 20 (X_pruneAll_l18 20 18) u 1 = _
    unfold X_pruneAll_w18
    have u1 : gA u 33 1 = 1 := by rw [hu]; rfl
    have u2 : gA u 31 1 = 1 := by rw [hu]; exact w1
    have u3 : gA u 26 1 = 0 := by rw [hu]; exact w4
    rw [if_neg (by decide), e2, u1, cm_b (Or.inr rfl) u2, q_b, e2, u3, if_neg (by decide), show (1 : Int32) + -1 = 0 by decide]
    show X_pruneAll_w18 20 (X_pruneAll_l18 20 17) u 0 = _
    unfold X_pruneAll_w18
    have v1 : gA u 33 0 = 1 := by rw [hu]; rfl
    have v2 : gA u 31 0 = 1 := by rw [hu]; exact w2
    have v3 : gA u 26 0 = 0 := by rw [hu]; exact w5
    rw [if_neg (by decide), e1, v1, cm_b (Or.inl rfl) v2, q_b, e1, v3, if_neg (by decide), show (0 : Int32) + -1 = -1 by decide]
    show X_pruneAll_w18 20 (X_pruneAll_l18 20 16) u (-1) = _
    unfold X_pruneAll_w18
    rw [if_pos (by decide)]
  have hv : rv (A3 1 (-1) x0 x1 y c) u = vv (A3 1 (-1) x0 x1 y c) := by rw [hu, ← ew]; cbv
  have h1 : gI u 14 = 3 := by rw [hu, ← ew]; rfl
  have h2 : gI u 10 = 4 := by rw [hu, ← ew]; rfl
  exact ⟨u, by rw [e, wr_id _ u hv, sI_id h1, sI_id h2]⟩
def ap : Ls → Ls → Ls
  | [], l => l
  | a :: k, l => a :: ap k l
def S (V : Ls) (x0 x1 y c : Int32) (q : Rec) : Rec := sI (sI (wr (ap V (A3 1 (-1) x0 x1 y c)) q) 14 3) 10 4
def kk (x c : Int32) : Int32 := if x = -2147483648 then 0 else if c = -2147483648 then 0 else if x < c then 0 else 1
def V0 (k0 k1 x0 x1 : Int32) : Ls := if k0 = 0 then (if k1 = 0 then [(23,0,0)] else [(23,0,1),(22,0,x1)]) else (if k1 = 0 then [(23,0,1),(22,0,x0)] else [(23,0,2),(22,0,x0),(22,8,x1)])
def N0 (x c : Int32) : Ls := [(24,0,x),(35,0,1),(36,1,5),(37,1,0),(38,1,c),(39,1,1),(40,1,-1)]
theorem ce_0 {ob : Rec} {x : Int32} (h : gA ob 24 0 = x) : X_cell ob 0 = some x := by
  have e : X_cell ob 0 = some (gA ob 24 0) := rfl
  rw [e, h]
theorem ce_1 {ob : Rec} {x : Int32} (h : gA ob 24 1 = x) : X_cell ob 1 = some x := by
  have e : X_cell ob 1 = some (gA ob 24 1) := rfl
  rw [e, h]
theorem cm5 (ob : Rec) (x c : Int32) : X_compare ob 5 x c = if x < c then some 0 else some 1 := rfl
theorem ev5 {ob : Rec} {x c : Int32} (h : gA ob 24 0 = x) : X_evalAtom ob 5 0 c 1 = some (kk x c) := by
  unfold X_evalAtom
  rw [if_neg (by decide), ce_0 h, q_b]
  unfold X_evalAtom_b17
  rw [if_neg (by decide), if_neg (by decide), if_pos (by decide)]
  unfold X_evalAtom_b72 kk
  by_cases h1 : x = -2147483648
  · rw [if_pos h1, if_pos h1]
  by_cases h2 : c = -2147483648
  · rw [if_neg h1, if_pos h2, if_neg h1, if_pos h2]
  rw [if_neg h1, if_neg h2, if_neg h1, if_neg h2, cm5]
  by_cases h3 : x < c
  · rw [if_pos h3, if_pos h3]; rfl
  · rw [if_neg h3, if_neg h3]; rfl
theorem kk01 (x c : Int32) : kk x c = 0 ∨ kk x c = 1 := by
  unfold kk
  by_cases h1 : x = -2147483648
  · rw [if_pos h1]; exact Or.inl rfl
  by_cases h2 : c = -2147483648
  · rw [if_neg h1, if_pos h2]; exact Or.inl rfl
  by_cases h3 : x < c
  · rw [if_neg h1, if_neg h2, if_pos h3]; exact Or.inl rfl
  · rw [if_neg h1, if_neg h2, if_neg h3]; exact Or.inr rfl
theorem lh_g {ob : Rec} {l p a b z fl r : Int32} (hl : ∀ A : Option Int32, chk (32 : Int32) l A = A) (hp : p = 0 ∨ p = 1) (h : gA ob 35 l = p) (h1 : gA ob 36 p = a) (h2 : gA ob 37 p = b) (h3 : gA ob 38 p = z) (h4 : gA ob 39 p = fl) (h5 : gA ob 40 p = -1)
    (he : X_evalAtom ob a b z fl = some r) (hr : r = 0 ∨ r = 1) : X_listHolds 20 ob l = some r := by
  have ec : ∀ A : Option Int32, chk (512 : Int32) p A = A := by intro A; rcases hp with rfl | rfl <;> rfl
  unfold X_listHolds
  rw [hl, h]
  show X_listHolds_w9 20 ob (X_listHolds_l9 20 ob 19) p 0 = _
  unfold X_listHolds_w9
  rw [if_pos (by decide), if_neg (by rcases hp with rfl | rfl <;> decide), if_pos (by rcases hp with rfl | rfl <;> decide), ec, ec, ec, ec, h1, h2, h3, h4, he, q_b]
  rcases hr with rfl | rfl
  · rw [if_pos rfl]
  · rw [if_neg (by decide), ec, h5]; rfl
theorem lh0 {x c : Int32} {ob : Rec} (h : rv (N0 x c) ob = vv (N0 x c)) : X_listHolds 20 ob 0 = some (kk x c) := by
  have h' : [gA ob 24 0, gA ob 35 0, gA ob 36 1, gA ob 37 1, gA ob 38 1, gA ob 39 1, gA ob 40 1] = [x, 1, 5, 0, c, 1, -1] := h
  injection h' with b1 h'; injection h' with b2 h'; injection h' with b3 h'; injection h' with b4 h'; injection h' with b5 h'; injection h' with b6 h'; injection h' with b7 h'
  exact lh_g (fun A => rfl) (Or.inr rfl) b2 b3 b4 b5 b6 b7 (ev5 b1) (kk01 x c)
theorem rnd {V : Ls} {x cnt r x0 x1 y c : Int32} {K : Rec → Int32 → Int32 → Int32 → Int32 → Option Rec} {q : Rec}
    (e1 : r < gA (S V x0 x1 y c q) 1 0) (e2 : r < 8) (h1 : ∃ q1, X_loadTableRow 20 (S V x0 x1 y c q) 0 r = some (S ((24,0,x) :: V) x0 x1 y c q1))
    (h2 : ∀ q, rv (N0 x c) (S ((24,0,x) :: V) x0 x1 y c q) = vv (N0 x c)) :
    ∃ q1, X_evalPlanScan_w14 20 K (S V x0 x1 y c q) 0 0 cnt r = (if kk x c = 0 then K (S ((24,0,x) :: V) x0 x1 y c q1) 0 0 cnt (r + 1) else bind2 (X_emitMapped 20 (S ((24,0,x) :: V) x0 x1 y c q1) 0 cnt) fun r9 q10 => K q10 0 0 r9 (r + 1)) := by
  obtain ⟨q1, h1⟩ := h1
  refine ⟨q1, ?_⟩
  unfold X_evalPlanScan_w14
  have ec : ∀ A : Option Rec, chk (4 : Int32) 0 A = A := fun A => rfl
  rw [ec, if_pos e1, if_pos e2, h1, q_b]
  have e0 : (2 : Int32) * 0 = 0 := rfl
  rw [e0, lh0 (h2 q1), q_b]
theorem em0 (x x0 x1 y c : Int32) (ob : Rec) : ∃ q, X_emitMapped 20 (S ((24,0,x) :: [(23,0,0)]) x0 x1 y c ob) 0 0 = some (1, S [(23,0,0),(22,0,x)] x0 x1 y c q) := stg2 (by cbv)
theorem em1 (a x x0 x1 y c : Int32) (ob : Rec) : ∃ q, X_emitMapped 20 (S ((24,0,x) :: [(23,0,0),(22,0,a)]) x0 x1 y c ob) 0 1 = some (2, S [(23,0,0),(22,0,a),(22,8,x)] x0 x1 y c q) := stg2 (by cbv)
theorem rv_i (A : Ls) (ob : Rec) (k : Nat) (v : Int32) : rv A (sI ob k v) = rv A ob := rfl
theorem wk {V W : Ls} {x0 x1 y c : Int32} {ob : Rec} (h : rv (ap W (A3 1 (-1) x0 x1 y c)) (S V x0 x1 y c ob) = vv (ap W (A3 1 (-1) x0 x1 y c))) : S V x0 x1 y c ob = S W x0 x1 y c (S V x0 x1 y c ob) := by
  have h1 : S W x0 x1 y c (S V x0 x1 y c ob) = sI (sI (S V x0 x1 y c ob) 14 3) 10 4 := by
    show sI (sI (wr (ap W (A3 1 (-1) x0 x1 y c)) (S V x0 x1 y c ob)) 14 3) 10 4 = _
    rw [wr_id _ _ h]
  rw [h1, sI_id (ob := S V x0 x1 y c ob) (k := 14) (v := 3) rfl, sI_id (ob := S V x0 x1 y c ob) (k := 10) (v := 4) rfl]
theorem s_f (V : Ls) {x0 x1 y c cnt : Int32} {ob : Rec} (n : Nat) (h : gA (S V x0 x1 y c ob) 1 0 = 2) : X_evalPlanScan_l14 20 (n + 1) (S V x0 x1 y c ob) 0 0 cnt 2 = some (sA (S V x0 x1 y c ob) 23 0 cnt) := by
  show X_evalPlanScan_w14 20 (X_evalPlanScan_l14 20 n) (S V x0 x1 y c ob) 0 0 cnt 2 = _
  unfold X_evalPlanScan_w14
  rw [h]; rfl
theorem S_id {V : Ls} {x0 x1 y c : Int32} {ob : Rec} (h : rv (ap V (A3 1 (-1) x0 x1 y c)) ob = vv (ap V (A3 1 (-1) x0 x1 y c))) (h1 : gI ob 14 = 3) (h2 : gI ob 10 = 4) : some ob = some (S V x0 x1 y c ob) := by
  unfold S; rw [wr_id _ ob h, sI_id h1, sI_id h2]
theorem s_a (x0 x1 y c : Int32) (ob : Rec) : ∃ q, X_evalPlanScan 20 (sA (S [] x0 x1 y c ob) 23 0 0) 0 = some (S (V0 (kk x0 c) (kk x1 c) x0 x1) x0 x1 y c q) := by
  have e0 : sA (S [] x0 x1 y c ob) 23 0 0 = S [(23,0,0)] x0 x1 y c ob := rfl
  have e1 : X_evalPlanScan 20 (S [(23,0,0)] x0 x1 y c ob) 0 = X_evalPlanScan_w14 20 (X_evalPlanScan_l14 20 19) (S [(23,0,0)] x0 x1 y c ob) 0 0 0 0 := by
    show X_evalPlanScan_w14 20 (X_evalPlanScan_l14 20 19) (S [(23,0,0)] x0 x1 y c ob) 0 (gA (S [(23,0,0)] x0 x1 y c ob) 27 0 &&& 3) 0 0 = _
    rw [show gA (S [(23,0,0)] x0 x1 y c ob) 27 0 = 0 by cbv]; rfl
  rw [e0, e1]
  have hl : ∀ (n : Nat) (V : Ls) (q : Rec) (a r : Int32), X_evalPlanScan_l14 20 (n + 1) (S V x0 x1 y c q) 0 0 a r = X_evalPlanScan_w14 20 (X_evalPlanScan_l14 20 n) (S V x0 x1 y c q) 0 0 a r := fun _ _ _ _ _ => rfl
  obtain ⟨q1, h1⟩ := rnd (V := [(23,0,0)]) (x := x0) (cnt := 0) (r := 0) (x0 := x0) (x1 := x1) (y := y) (c := c) (K := X_evalPlanScan_l14 20 19) (q := ob) (by rw [show gA (S [(23,0,0)] x0 x1 y c ob) 1 0 = 2 by cbv]; decide) (by decide) (stg (by cbv)) (fun q => by cbv)
  rw [h1]
  rcases kk01 x0 c with g0 | g0
  · rw [if_pos g0, g0]
    rw [wk (V := [(24,0,x0),(23,0,0)]) (W := [(23,0,0)]) (by cbv)]
    generalize S [(24,0,x0),(23,0,0)] x0 x1 y c q1 = p
    rw [show (0 : Int32) + 1 = 1 from rfl, hl 18]
    obtain ⟨q2, h2⟩ := rnd (V := [(23,0,0)]) (x := x1) (cnt := 0) (r := 1) (x0 := x0) (x1 := x1) (y := y) (c := c) (K := X_evalPlanScan_l14 20 18) (q := p) (by rw [show gA (S [(23,0,0)] x0 x1 y c p) 1 0 = 2 by cbv]; decide) (by decide) (stg (by cbv)) (fun q => by cbv)
    rw [h2]
    rcases kk01 x1 c with g1 | g1
    · rw [if_pos g1, g1]
      rw [show (1 : Int32) + 1 = 2 from rfl, s_f _ 17 (by cbv)]
      exact ⟨_, S_id (by cbv) rfl rfl⟩
    · rw [if_neg (by rw [g1]; decide), g1]
      obtain ⟨q3, h3⟩ := em0 x1 x0 x1 y c q2
      rw [h3, q_b2, show (1 : Int32) + 1 = 2 from rfl, s_f _ 17 (by cbv)]
      exact ⟨_, S_id (by cbv) rfl rfl⟩
  · rw [if_neg (by rw [g0]; decide), g0]
    obtain ⟨q3, h3⟩ := em0 x0 x0 x1 y c q1
    rw [h3, q_b2]
    rw [show (0 : Int32) + 1 = 1 from rfl, hl 18]
    obtain ⟨q2, h2⟩ := rnd (V := [(23,0,0),(22,0,x0)]) (x := x1) (cnt := 1) (r := 1) (x0 := x0) (x1 := x1) (y := y) (c := c) (K := X_evalPlanScan_l14 20 18) (q := q3) (by rw [show gA (S [(23,0,0),(22,0,x0)] x0 x1 y c q3) 1 0 = 2 by cbv]; decide) (by decide) (stg (by cbv)) (fun q => by cbv)
    rw [h2]
    rcases kk01 x1 c with g1 | g1
    · rw [if_pos g1, g1]
      rw [show (1 : Int32) + 1 = 2 from rfl, s_f _ 17 (by cbv)]
      exact ⟨_, S_id (by cbv) rfl rfl⟩
    · rw [if_neg (by rw [g1]; decide), g1]
      obtain ⟨q4, h4⟩ := em1 x0 x1 x0 x1 y c q2
      rw [h4, q_b2, show (1 : Int32) + 1 = 2 from rfl, s_f _ 17 (by cbv)]
      exact ⟨_, S_id (by cbv) rfl rfl⟩
def V1 (y : Int32) : Ls := [(23,1,1),(22,512,y)]
theorem s_b0 (x0 x1 y c : Int32) (ob : Rec) : ∃ q, X_evalPlanScan 20 (sA (S [(23,0,0)] x0 x1 y c ob) 23 1 0) 1 = some (S (ap [(23,0,0)] (V1 y)) x0 x1 y c q) := stg (by cbv)
theorem s_b1 (a x0 x1 y c : Int32) (ob : Rec) : ∃ q, X_evalPlanScan 20 (sA (S [(23,0,1),(22,0,a)] x0 x1 y c ob) 23 1 0) 1 = some (S (ap [(23,0,1),(22,0,a)] (V1 y)) x0 x1 y c q) := stg (by cbv)
theorem s_b2 (a b x0 x1 y c : Int32) (ob : Rec) : ∃ q, X_evalPlanScan 20 (sA (S [(23,0,2),(22,0,a),(22,8,b)] x0 x1 y c ob) 23 1 0) 1 = some (S (ap [(23,0,2),(22,0,a),(22,8,b)] (V1 y)) x0 x1 y c q) := stg (by cbv)
def jj (x y : Int32) : Int32 := if x = -2147483648 then 0 else if y = -2147483648 then 0 else if x = y then 1 else 0
def mm (x y : Int32) : Int32 := if x = -2147483648 then -2147483648 else if y = -2147483648 then -2147483648 else if x = y then y else -2147483648
theorem jm (x y : Int32) : (jj x y = 0 ∧ mm x y = -2147483648) ∨ (jj x y = 1 ∧ mm x y = y) := by
  unfold jj mm
  by_cases h1 : x = -2147483648
  · rw [if_pos h1, if_pos h1]; exact Or.inl ⟨rfl, rfl⟩
  by_cases h2 : y = -2147483648
  · rw [if_neg h1, if_pos h2, if_neg h1, if_pos h2]; exact Or.inl ⟨rfl, rfl⟩
  by_cases h3 : x = y
  · rw [if_neg h1, if_neg h2, if_pos h3, if_neg h1, if_neg h2, if_pos h3]; exact Or.inr ⟨rfl, rfl⟩
  · rw [if_neg h1, if_neg h2, if_neg h3, if_neg h1, if_neg h2, if_neg h3]; exact Or.inl ⟨rfl, rfl⟩
def N5 (x y : Int32) : Ls := [(24,0,x),(24,1,y),(35,5,0),(36,0,0),(37,0,0),(38,0,1),(39,0,3),(40,0,-1)]
theorem cm0 (ob : Rec) (x c : Int32) : X_compare ob 0 x c = if x = c then some 1 else some 0 := rfl
theorem jj01 (x y : Int32) : jj x y = 0 ∨ jj x y = 1 := by
  rcases jm x y with h | h
  · exact Or.inl h.1
  · exact Or.inr h.1
theorem ev0 {ob : Rec} {x y : Int32} (h : gA ob 24 0 = x) (h' : gA ob 24 1 = y) : X_evalAtom ob 0 0 1 3 = some (jj x y) := by
  unfold X_evalAtom
  rw [if_neg (by decide), ce_0 h, q_b]
  unfold X_evalAtom_b17
  rw [if_neg (by decide), if_neg (by decide), if_neg (by decide), ce_1 h', q_b]
  unfold X_evalAtom_b72 jj
  by_cases h1 : x = -2147483648
  · rw [if_pos h1, if_pos h1]
  by_cases h2 : y = -2147483648
  · rw [if_neg h1, if_pos h2, if_neg h1, if_pos h2]
  rw [if_neg h1, if_neg h2, if_neg h1, if_neg h2, cm0]
  by_cases h3 : x = y
  · rw [if_pos h3, if_pos h3]; rfl
  · rw [if_neg h3, if_neg h3]; rfl
theorem lh5 {x y : Int32} {ob : Rec} (h : rv (N5 x y) ob = vv (N5 x y)) : X_listHolds 20 ob 5 = some (jj x y) := by
  have h' : [gA ob 24 0, gA ob 24 1, gA ob 35 5, gA ob 36 0, gA ob 37 0, gA ob 38 0, gA ob 39 0, gA ob 40 0] = [x, y, 0, 0, 0, 1, 3, -1] := h
  injection h' with b1 h'; injection h' with b2 h'; injection h' with b3 h'; injection h' with b4 h'; injection h' with b5 h'; injection h' with b6 h'; injection h' with b7 h'; injection h' with b8 h'
  exact lh_g (fun A => rfl) (Or.inl rfl) b3 b4 b5 b6 b7 b8 (ev0 b1 b2) (jj01 x y)
theorem jr {V : Ls} {V' : Int32 → Ls} {x cnt d i x0 x1 y c : Int32} {K : Rec → Int32 → Int32 → Int32 → Int32 → Int32 → Int32 → Int32 → Int32 → Option Rec} {q : Rec}
    (g1 : i < gA (S V x0 x1 y c q) 23 0) (g2 : i < 64)
    (h1 : ∃ q1, X_loadRow 20 (S V x0 x1 y c q) 0 i 1 0 = some (S ((24,0,x) :: V) x0 x1 y c q1))
    (n1 : ∀ q, gA (S ((24,0,x) :: V) x0 x1 y c q) 23 1 = 1)
    (h2 : ∀ q, ∃ q1, X_loadRow 20 (S ((24,0,x) :: V) x0 x1 y c q) 1 0 1 1 = some (S ((24,1,y) :: (24,0,x) :: V) x0 x1 y c q1))
    (h3 : ∀ q, rv (N5 x y) (S ((24,1,y) :: (24,0,x) :: V) x0 x1 y c q) = vv (N5 x y))
    (n2 : ∀ q, gA (S ((24,1,y) :: (24,0,x) :: V) x0 x1 y c q) 23 1 = 1)
    (h4 : ∀ q, ∃ q1, X_fillNull 20 (S ((24,1,y) :: (24,0,x) :: V) x0 x1 y c q) 1 1 = some (S ((24,1,-2147483648) :: (24,0,x) :: V) x0 x1 y c q1))
    (h5 : ∀ b q, ∃ q1, X_emitFiltered 20 (S ((24,1,b) :: (24,0,x) :: V) x0 x1 y c q) 2 cnt = some (d, S (V' b) x0 x1 y c q1))
    (n3 : ∀ b q, gA (S (V' b) x0 x1 y c q) 23 1 = 1) :
    ∃ q1, X_evalPlanJoin_w53 20 K (S V x0 x1 y c q) 2 0 1 1 1 1 cnt i = K (S (V' (mm x y)) x0 x1 y c q1) 2 0 1 1 1 1 d (i + 1) := by
  obtain ⟨q1, h1⟩ := h1
  obtain ⟨q2, h2⟩ := h2 q1
  have ec : ∀ A : Option Rec, chk (32 : Int32) 0 A = A := fun A => rfl
  have ec1 : ∀ A : Option Rec, chk (32 : Int32) 1 A = A := fun A => rfl
  have hx : ∀ (ob : Rec) (a m : Int32), gA ob 23 1 = 1 → X_evalPlanJoin_l87 20 K 19 ob 2 0 1 1 1 1 a i m 1 = X_evalPlanJoin_b146 20 K ob 2 0 1 1 1 1 a i m := by
    intro ob a m h
    show X_evalPlanJoin_w87 20 K (X_evalPlanJoin_l87 20 K 18) ob 2 0 1 1 1 1 a i m 1 = _
    unfold X_evalPlanJoin_w87
    rw [h]; rfl
  have e5 : (2 : Int32) * 2 + 1 = 5 := rfl
  have e1 : (0 : Int32) + 1 = 1 := rfl
  unfold X_evalPlanJoin_w53
  rw [ec, if_pos g1, if_pos g2, h1, q_b]
  show ∃ q1', X_evalPlanJoin_w87 20 K (X_evalPlanJoin_l87 20 K 19) (S ((24,0,x) :: V) x0 x1 y c q1) 2 0 1 1 1 1 cnt i 0 0 = _
  unfold X_evalPlanJoin_w87
  rw [ec1, n1, if_pos (by decide), if_pos (by decide), h2, q_b, e5, lh5 (h3 q2), q_b, e1]
  rcases jm x y with ⟨ej, em⟩ | ⟨ej, em⟩
  · rw [ej, em, if_pos rfl, hx _ _ _ (n2 q2)]
    obtain ⟨q3, h4⟩ := h4 q2
    obtain ⟨q4, h5⟩ := h5 (-2147483648) q3
    refine ⟨q4, ?_⟩
    unfold X_evalPlanJoin_b146
    rw [if_neg (by decide), if_pos rfl, h4, q_b, h5, q_b2]
  · rw [ej, em, if_neg (by decide)]
    obtain ⟨q4, h5⟩ := h5 y q2
    refine ⟨q4, ?_⟩
    rw [h5, q_b2, hx _ _ _ (n3 y q4)]
    rfl
theorem j0 (x0 x1 y c : Int32) (ob : Rec) : ∃ q, X_evalPlanJoin 20 (sA (S (ap [(23,0,0)] (V1 y)) x0 x1 y c ob) 23 2 0) 2 = some (S [(23,2,0)] x0 x1 y c q) := stg (by cbv)
theorem jx {V : Ls} {x0 x1 y c : Int32} {ob : Rec} (h : rv [(30,2,1),(28,2,0),(29,2,1),(31,0,1),(31,1,1)] (S V x0 x1 y c ob) = [1,0,1,1,1]) : X_evalPlanJoin 20 (S V x0 x1 y c ob) 2 = X_evalPlanJoin_l53 20 20 (S V x0 x1 y c ob) 2 0 1 1 1 1 0 0 := by
  have h1 := (List.cons.inj h).1
  have h2 := (List.cons.inj (List.cons.inj h).2).1
  have h3 := (List.cons.inj (List.cons.inj (List.cons.inj h).2).2).1
  have h4 := (List.cons.inj (List.cons.inj (List.cons.inj (List.cons.inj h).2).2).2).1
  have h5 := (List.cons.inj (List.cons.inj (List.cons.inj (List.cons.inj (List.cons.inj h).2).2).2).2).1
  replace h1 : gA (S V x0 x1 y c ob) 30 2 = 1 := h1
  replace h2 : gA (S V x0 x1 y c ob) 28 2 = 0 := h2
  replace h3 : gA (S V x0 x1 y c ob) 29 2 = 1 := h3
  replace h4 : gA (S V x0 x1 y c ob) 31 0 = 1 := h4
  replace h5 : gA (S V x0 x1 y c ob) 31 1 = 1 := h5
  unfold X_evalPlanJoin
  rw [h1, h2, h3, h4, h5]; rfl
theorem jy {V : Ls} {x0 x1 y c n : Int32} {ob : Rec} (k : Nat) (h : gA (S V x0 x1 y c ob) 23 0 = n) (hn : ¬ n < n) : X_evalPlanJoin_l53 20 (k + 1) (S V x0 x1 y c ob) 2 0 1 1 1 1 n n = some (sA (S V x0 x1 y c ob) 23 2 n) := by
  show X_evalPlanJoin_w53 20 (X_evalPlanJoin_l53 20 k) (S V x0 x1 y c ob) 2 0 1 1 1 1 n n = _
  unfold X_evalPlanJoin_w53
  have ec : ∀ A : Option Rec, chk (32 : Int32) 0 A = A := fun A => rfl
  have ec1 : ∀ A : Option Rec, chk (32 : Int32) 2 A = A := fun A => rfl
  rw [ec, h, if_neg hn, ec1]
theorem j1 (a x0 x1 y c : Int32) (ob : Rec) : ∃ q, X_evalPlanJoin 20 (sA (S (ap [(23,0,1),(22,0,a)] (V1 y)) x0 x1 y c ob) 23 2 0) 2 = some (S [(23,2,1),(22,1024,a),(22,1025,mm a y)] x0 x1 y c q) := by
  have e0 : sA (S (ap [(23,0,1),(22,0,a)] (V1 y)) x0 x1 y c ob) 23 2 0 = S (ap [(23,2,0),(23,0,1),(22,0,a)] (V1 y)) x0 x1 y c ob := rfl
  rw [e0, jx (by cbv)]
  obtain ⟨q1, h1⟩ := jr (V := ap [(23,2,0),(23,0,1),(22,0,a)] (V1 y)) (V' := fun m => ap [(22,1024,a),(22,1025,m),(23,2,0),(23,0,1),(22,0,a)] (V1 y)) (x := a) (cnt := 0) (d := 1) (i := 0) (x0 := x0) (x1 := x1) (y := y) (c := c) (K := X_evalPlanJoin_l53 20 19) (q := ob)
    (by rw [show gA (S (ap [(23,2,0),(23,0,1),(22,0,a)] (V1 y)) x0 x1 y c ob) 23 0 = 1 by cbv]; decide) (by decide) (stg (by cbv)) (fun q => by cbv) (fun q => stg (by cbv)) (fun q => by cbv) (fun q => by cbv) (fun q => stg (by cbv)) (fun b q => stg2 (by cbv)) (fun b q => by cbv)
  show ∃ q, X_evalPlanJoin_w53 20 (X_evalPlanJoin_l53 20 19) (S (ap [(23,2,0),(23,0,1),(22,0,a)] (V1 y)) x0 x1 y c ob) 2 0 1 1 1 1 0 0 = _
  rw [h1]
  generalize mm a y = m
  rw [show (0 : Int32) + 1 = 1 from rfl, jy 18 (by cbv) (by decide)]
  exact ⟨_, S_id (by cbv) rfl rfl⟩
theorem j2 (a b x0 x1 y c : Int32) (ob : Rec) : ∃ q, X_evalPlanJoin 20 (sA (S (ap [(23,0,2),(22,0,a),(22,8,b)] (V1 y)) x0 x1 y c ob) 23 2 0) 2 = some (S [(23,2,2),(22,1024,a),(22,1025,mm a y),(22,1032,b),(22,1033,mm b y)] x0 x1 y c q) := by
  have e0 : sA (S (ap [(23,0,2),(22,0,a),(22,8,b)] (V1 y)) x0 x1 y c ob) 23 2 0 = S (ap [(23,2,0),(23,0,2),(22,0,a),(22,8,b)] (V1 y)) x0 x1 y c ob := rfl
  rw [e0, jx (by cbv)]
  obtain ⟨q1, h1⟩ := jr (V := ap [(23,2,0),(23,0,2),(22,0,a),(22,8,b)] (V1 y)) (V' := fun m => ap [(22,1024,a),(22,1025,m),(23,2,0),(23,0,2),(22,0,a),(22,8,b)] (V1 y)) (x := a) (cnt := 0) (d := 1) (i := 0) (x0 := x0) (x1 := x1) (y := y) (c := c) (K := X_evalPlanJoin_l53 20 19) (q := ob)
    (by rw [show gA (S (ap [(23,2,0),(23,0,2),(22,0,a),(22,8,b)] (V1 y)) x0 x1 y c ob) 23 0 = 2 by cbv]; decide) (by decide) (stg (by cbv)) (fun q => by cbv) (fun q => stg (by cbv)) (fun q => by cbv) (fun q => by cbv) (fun q => stg (by cbv)) (fun b q => stg2 (by cbv)) (fun b q => by cbv)
  show ∃ q, X_evalPlanJoin_w53 20 (X_evalPlanJoin_l53 20 19) (S (ap [(23,2,0),(23,0,2),(22,0,a),(22,8,b)] (V1 y)) x0 x1 y c ob) 2 0 1 1 1 1 0 0 = _
  rw [h1]
  generalize mm a y = m
  rw [show (0 : Int32) + 1 = 1 from rfl]
  obtain ⟨q2, h2⟩ := jr (V := ap [(22,1024,a),(22,1025,m),(23,2,0),(23,0,2),(22,0,a),(22,8,b)] (V1 y)) (V' := fun n => ap [(22,1032,b),(22,1033,n),(22,1024,a),(22,1025,m),(23,2,0),(23,0,2),(22,0,a),(22,8,b)] (V1 y)) (x := b) (cnt := 1) (d := 2) (i := 1) (x0 := x0) (x1 := x1) (y := y) (c := c) (K := X_evalPlanJoin_l53 20 18) (q := q1)
    (by rw [show gA (S (ap [(22,1024,a),(22,1025,m),(23,2,0),(23,0,2),(22,0,a),(22,8,b)] (V1 y)) x0 x1 y c q1) 23 0 = 2 by cbv]; decide) (by decide) (stg (by cbv)) (fun q => by cbv) (fun q => stg (by cbv)) (fun q => by cbv) (fun q => by cbv) (fun q => stg (by cbv)) (fun b q => stg2 (by cbv)) (fun b q => by cbv)
  show ∃ q, X_evalPlanJoin_w53 20 (X_evalPlanJoin_l53 20 18) (S (ap [(22,1024,a),(22,1025,m),(23,2,0),(23,0,2),(22,0,a),(22,8,b)] (V1 y)) x0 x1 y c q1) 2 0 1 1 1 1 1 1 = _
  rw [h2]
  generalize mm b y = n
  rw [show (1 : Int32) + 1 = 2 from rfl, jy 17 (by cbv) (by decide)]
  exact ⟨_, S_id (by cbv) rfl rfl⟩
theorem ea_s {K : Rec → Int32 → Option Rec} {ob : Rec} {p : Int32} (h0 : p = 0 ∨ p = 1) (h1 : gI ob 14 = 3) (h2 : gA ob 34 p = 0) (h3 : gA ob 26 p = 0) : X_evalPlanAll_w2 20 K ob p = (X_evalPlanScan 20 (sA ob 23 p 0) p).bind fun q8 => K q8 (p + 1) := by
  unfold X_evalPlanAll_w2
  rw [h1, h2, h3]
  rcases h0 with rfl | rfl <;> rfl
theorem ea_j {K : Rec → Int32 → Option Rec} {ob : Rec} (h1 : gI ob 14 = 3) (h2 : gA ob 34 2 = 0) (h3 : gA ob 26 2 = 1) : X_evalPlanAll_w2 20 K ob 2 = (X_evalPlanJoin 20 (sA ob 23 2 0) 2).bind fun q8 => K q8 3 := by
  unfold X_evalPlanAll_w2
  rw [h1, h2, h3]; rfl
theorem ea_e (k : Nat) (V : Ls) (x0 x1 y c : Int32) (q : Rec) : X_evalPlanAll_l2 20 (k + 1) (S V x0 x1 y c q) 3 = some (S V x0 x1 y c q) := by
  show X_evalPlanAll_w2 20 (X_evalPlanAll_l2 20 k) (S V x0 x1 y c q) 3 = _
  unfold X_evalPlanAll_w2
  rw [show gI (S V x0 x1 y c q) 14 = 3 from rfl]; rfl
def V2 (k0 k1 x0 x1 m0 m1 : Int32) : Ls := if k0 = 0 then (if k1 = 0 then [(23,2,0)] else [(23,2,1),(22,1024,x1),(22,1025,m1)]) else (if k1 = 0 then [(23,2,1),(22,1024,x0),(22,1025,m0)] else [(23,2,2),(22,1024,x0),(22,1025,m0),(22,1032,x1),(22,1033,m1)])
theorem ea_x {V W T : Ls} {x0 x1 y c : Int32} {ob : Rec} (hv : ∃ q, X_evalPlanScan 20 (sA (S [] x0 x1 y c ob) 23 0 0) 0 = some (S V x0 x1 y c q))
    (hw : ∀ ob, ∃ q, X_evalPlanScan 20 (sA (S V x0 x1 y c ob) 23 1 0) 1 = some (S W x0 x1 y c q)) (ht : ∀ ob, ∃ q, X_evalPlanJoin 20 (sA (S W x0 x1 y c ob) 23 2 0) 2 = some (S T x0 x1 y c q))
    (f1 : ∀ q, gA (S V x0 x1 y c q) 34 1 = 0) (f2 : ∀ q, gA (S V x0 x1 y c q) 26 1 = 0) (f3 : ∀ q, gA (S W x0 x1 y c q) 34 2 = 0) (f4 : ∀ q, gA (S W x0 x1 y c q) 26 2 = 1) :
    ∃ q, X_evalPlanAll 20 (S [] x0 x1 y c ob) = some (S T x0 x1 y c q) := by
  obtain ⟨q1, h1⟩ := hv
  obtain ⟨q2, h2⟩ := hw q1
  obtain ⟨q3, h3⟩ := ht q2
  refine ⟨q3, ?_⟩
  show X_evalPlanAll_w2 20 (X_evalPlanAll_l2 20 19) (S [] x0 x1 y c ob) 0 = _
  rw [ea_s (Or.inl rfl) rfl (by cbv) (by cbv), h1, q_b]
  show X_evalPlanAll_w2 20 (X_evalPlanAll_l2 20 18) (S V x0 x1 y c q1) 1 = _
  rw [ea_s (Or.inr rfl) rfl (f1 q1) (f2 q1), h2, q_b]
  show X_evalPlanAll_w2 20 (X_evalPlanAll_l2 20 17) (S W x0 x1 y c q2) 2 = _
  rw [ea_j rfl (f3 q2) (f4 q2), h3, q_b]
  exact ea_e 16 T x0 x1 y c q3
theorem ea (x0 x1 y c : Int32) (ob : Rec) : ∃ q, X_evalPlanAll 20 (S [] x0 x1 y c ob) = some (S (V2 (kk x0 c) (kk x1 c) x0 x1 (mm x0 y) (mm x1 y)) x0 x1 y c q) := by
  have hs := s_a x0 x1 y c ob
  rcases kk01 x0 c with g0 | g0 <;> rcases kk01 x1 c with g1 | g1 <;> rw [g0, g1] at hs <;> rw [g0, g1]
  · exact ea_x (V := [(23,0,0)]) (W := ap [(23,0,0)] (V1 y)) (T := [(23,2,0)]) hs (fun ob => s_b0 x0 x1 y c ob) (fun ob => j0 x0 x1 y c ob) (fun q => by cbv) (fun q => by cbv) (fun q => by cbv) (fun q => by cbv)
  · exact ea_x (V := [(23,0,1),(22,0,x1)]) (W := ap [(23,0,1),(22,0,x1)] (V1 y)) (T := [(23,2,1),(22,1024,x1),(22,1025,mm x1 y)]) hs (fun ob => s_b1 x1 x0 x1 y c ob) (fun ob => j1 x1 x0 x1 y c ob) (fun q => by cbv) (fun q => by cbv) (fun q => by cbv) (fun q => by cbv)
  · exact ea_x (V := [(23,0,1),(22,0,x0)]) (W := ap [(23,0,1),(22,0,x0)] (V1 y)) (T := [(23,2,1),(22,1024,x0),(22,1025,mm x0 y)]) hs (fun ob => s_b1 x0 x0 x1 y c ob) (fun ob => j1 x0 x0 x1 y c ob) (fun q => by cbv) (fun q => by cbv) (fun q => by cbv) (fun q => by cbv)
  · exact ea_x (V := [(23,0,2),(22,0,x0),(22,8,x1)]) (W := ap [(23,0,2),(22,0,x0),(22,8,x1)] (V1 y)) (T := [(23,2,2),(22,1024,x0),(22,1025,mm x0 y),(22,1032,x1),(22,1033,mm x1 y)]) hs (fun ob => s_b2 x0 x1 x0 x1 y c ob) (fun ob => j2 x0 x1 x0 x1 y c ob) (fun q => by cbv) (fun q => by cbv) (fun q => by cbv) (fun q => by cbv)
def Z (R : Ls) (n : Int32) (q : Rec) : Rec := sI (sI (wr R q) 12 2) 13 n
theorem st0 (x0 x1 y c : Int32) (ob : Rec) : ∃ q, X_storeResult 20 (S [(23,2,0)] x0 x1 y c ob) 2 2 = some (0, Z [] 0 q) := stg2 (by cbv)
theorem st1 (a m x0 x1 y c : Int32) (ob : Rec) : ∃ q, X_storeResult 20 (S [(23,2,1),(22,1024,a),(22,1025,m)] x0 x1 y c ob) 2 2 = some (1, Z [(25,0,a),(25,1,m)] 1 q) := stg2 (by cbv)
theorem rl0 {ob : Rec} {a b ma mb : Int32} (h0 : gI ob 12 = 2) (h1 : gA ob 25 0 = a) (h2 : gA ob 25 1 = ma) (h3 : gA ob 25 8 = b) (h4 : gA ob 25 9 = mb) : X_rowLess 20 ob 1 0 = if b = a then (if mb = ma then some 0 else if mb < ma then some 1 else some 0) else if b < a then some 1 else some 0 := by
  have r2 : X_rowLess_l2 20 ob 18 1 0 2 = some 0 := by
    show X_rowLess_w2 20 ob (X_rowLess_l2 20 ob 17) 1 0 2 = _
    unfold X_rowLess_w2
    rw [h0]; rfl
  have r1 : X_rowLess_l2 20 ob 19 1 0 1 = if gA ob 25 9 = gA ob 25 1 then X_rowLess_l2 20 ob 18 1 0 2 else if gA ob 25 9 < gA ob 25 1 then some 1 else some 0 := by
    show X_rowLess_w2 20 ob (X_rowLess_l2 20 ob 18) 1 0 1 = _
    unfold X_rowLess_w2
    rw [h0]; rfl
  show X_rowLess_w2 20 ob (X_rowLess_l2 20 ob 19) 1 0 0 = _
  have r0 : X_rowLess_w2 20 ob (X_rowLess_l2 20 ob 19) 1 0 0 = if gA ob 25 8 = gA ob 25 0 then X_rowLess_l2 20 ob 19 1 0 1 else if gA ob 25 8 < gA ob 25 0 then some 1 else some 0 := by
    unfold X_rowLess_w2
    rw [h0]; rfl
  rw [r0, r1, r2, h1, h2, h3, h4]
def R2 (a ma b mb : Int32) : Ls := [(25,0,a),(25,1,ma),(25,8,b),(25,9,mb)]
theorem sw2 (a ma b mb : Int32) (ob : Rec) : ∃ q, X_swapRows 20 (Z (R2 a ma b mb) 2 ob) 1 0 = some (Z (R2 b mb a ma) 2 q) := stg (by cbv)
theorem so_n {a ma b mb : Int32} {ob : Rec} (h : X_rowLess 20 (Z (R2 a ma b mb) 2 ob) 1 0 = some 0) : X_sortResult 20 (Z (R2 a ma b mb) 2 ob) = some (Z (R2 a ma b mb) 2 ob) := by
  have e : X_sortResult 20 (Z (R2 a ma b mb) 2 ob) = (X_rowLess 20 (Z (R2 a ma b mb) 2 ob) 1 0).bind fun r4 => if r4 = (0 : Int32) then X_sortResult_l2 20 19 (Z (R2 a ma b mb) 2 ob) 2 else (X_swapRows 20 (Z (R2 a ma b mb) 2 ob) 1 0).bind fun q7 => X_sortResult_l18 20 (X_sortResult_l2 20 19) 19 q7 1 0 := rfl
  rw [e, h, q_b, if_pos rfl]; rfl
theorem so_s {a ma b mb : Int32} {ob : Rec} (h : X_rowLess 20 (Z (R2 a ma b mb) 2 ob) 1 0 = some 1) : ∃ q, X_sortResult 20 (Z (R2 a ma b mb) 2 ob) = some (Z (R2 b mb a ma) 2 q) := by
  have e : X_sortResult 20 (Z (R2 a ma b mb) 2 ob) = (X_rowLess 20 (Z (R2 a ma b mb) 2 ob) 1 0).bind fun r4 => if r4 = (0 : Int32) then X_sortResult_l2 20 19 (Z (R2 a ma b mb) 2 ob) 2 else (X_swapRows 20 (Z (R2 a ma b mb) 2 ob) 1 0).bind fun q7 => X_sortResult_l18 20 (X_sortResult_l2 20 19) 19 q7 1 0 := rfl
  obtain ⟨q, hq⟩ := sw2 a ma b mb ob
  refine ⟨q, ?_⟩
  rw [e, h, q_b, if_neg (by decide), hq, q_b]; rfl
-- USE: qra qrp qrb qrc qrd
def c1 (j i : Int32) (ob : Rec) : Rec := sA ob 25 j (gA ob 22 i)
def ca (ob : Rec) : Rec := c1 7 1031 (c1 6 1030 (c1 5 1029 (c1 4 1028 (c1 3 1027 (c1 2 1026 (c1 1 1025 (c1 0 1024 ob)))))))
def cb (ob : Rec) : Rec := c1 15 1039 (c1 14 1038 (c1 13 1037 (c1 12 1036 (c1 11 1035 (c1 10 1034 (c1 9 1033 (c1 8 1032 ob)))))))
theorem st_a (K : Rec → Int32 → Int32 → Int32 → Option (Int32 × Rec)) (ob : Rec) : X_storeResult_l51 20 K 20 ob 2 1024 0 0 = K (ca ob) 2 1024 1 := rfl
theorem st_b (K : Rec → Int32 → Int32 → Int32 → Option (Int32 × Rec)) (ob : Rec) : X_storeResult_l51 20 K 20 ob 2 1024 1 0 = K (cb ob) 2 1024 2 := rfl
theorem st_e {ob : Rec} (h : gA ob 23 2 = 2) : X_storeResult 20 ob 2 2 = X_storeResult_l42 20 20 (Z [] 2 ob) 2 1024 0 := by
  have ec : ∀ A : Option (Int32 × Rec), chk (32 : Int32) 2 A = A := fun A => rfl
  unfold X_storeResult X_storeResult_b19
  rw [show (2 : Int32) &&& 31 = 2 by decide, h, ec, if_neg (by decide), show (2 : Int32) * 512 = 1024 by decide]
  rfl
theorem st2 (a ma b mb x0 x1 y c : Int32) (ob : Rec) : ∃ q, X_storeResult 20 (S [(23,2,2),(22,1024,a),(22,1025,ma),(22,1032,b),(22,1033,mb)] x0 x1 y c ob) 2 2 = (X_sortResult 20 (Z (R2 a ma b mb) 2 q)).bind fun q2 => some (2, q2) := by
  rw [st_e (by cbv)]
  generalize ew : Z [] 2 (S [(23,2,2),(22,1024,a),(22,1025,ma),(22,1032,b),(22,1033,mb)] x0 x1 y c ob) = w
  have el : ∀ (k : Nat) (v : Rec) (i : Int32), X_storeResult_l42 20 (k + 1) v 2 1024 i = X_storeResult_w42 20 (X_storeResult_l42 20 k) v 2 1024 i := fun _ _ _ => rfl
  have e2 : ∀ w, X_storeResult_l42 20 20 w 2 1024 0 = X_storeResult_l51 20 (X_storeResult_l42 20 19) 20 w 2 1024 0 0 := by
    intro w; rw [el 19]; unfold X_storeResult_w42; rw [if_pos (by decide)]
  have e3 : ∀ w, X_storeResult_l42 20 19 w 2 1024 1 = X_storeResult_l51 20 (X_storeResult_l42 20 18) 20 w 2 1024 1 0 := by
    intro w; rw [el 18]; unfold X_storeResult_w42; rw [if_pos (by decide)]
  have e4 : ∀ w, X_storeResult_l42 20 18 w 2 1024 2 = (X_sortResult 20 w).bind fun q2 => some (2, q2) := by
    intro w; rw [el 17]; unfold X_storeResult_w42; rw [if_neg (by decide)]
  rw [e2, st_a, e3, st_b, e4]
  have f : rv (R2 a ma b mb) (cb (ca w)) = vv (R2 a ma b mb) := by rw [← ew]; cbv
  have f1 : gI (cb (ca w)) 12 = 2 := by rw [← ew]; rfl
  have f2 : gI (cb (ca w)) 13 = 2 := by rw [← ew]; rfl
  refine ⟨cb (ca w), ?_⟩
  have e5 : Z (R2 a ma b mb) 2 (cb (ca w)) = cb (ca w) := by
    unfold Z; rw [wr_id _ _ f, sI_id f1, sI_id f2]
  rw [e5]
theorem tl {ob : Rec} {x0 x1 y c n : Int32} : (if x0 = (-2147483648 : Int32) then L_law_b153 20 ob x0 x1 y c n (-2147483648 : Int32) (-2147483648 : Int32)
  else if y = (-2147483648 : Int32) then L_law_b153 20 ob x0 x1 y c n (-2147483648 : Int32) (-2147483648 : Int32)
    else if x0 = y then L_law_b153 20 ob x0 x1 y c n (-2147483648 : Int32) y
      else L_law_b153 20 ob x0 x1 y c n (-2147483648 : Int32) (-2147483648 : Int32)) = L_law_b226 20 ob x0 x1 n (mm x0 y) (mm x1 y) (kk x0 c) (kk x1 c) := by
  have a1 : ∀ t : Int32, L_law_b153 20 ob x0 x1 y c n (-2147483648) t = L_law_b178 20 ob x0 x1 c n (-2147483648) t (mm x1 y) := by
    intro t; unfold L_law_b153 mm
    by_cases h1 : x1 = -2147483648
    · rw [if_pos h1, if_pos h1]
    by_cases h2 : y = -2147483648
    · rw [if_neg h1, if_pos h2, if_neg h1, if_pos h2]
    by_cases h3 : x1 = y
    · rw [if_neg h1, if_neg h2, if_pos h3, if_neg h1, if_neg h2, if_pos h3]
    · rw [if_neg h1, if_neg h2, if_neg h3, if_neg h1, if_neg h2, if_neg h3]
  have a2 : ∀ t u : Int32, L_law_b178 20 ob x0 x1 c n (-2147483648) t u = L_law_b202 20 ob x0 x1 c n (-2147483648) t u (kk x0 c) := by
    intro t u; unfold L_law_b178 kk
    by_cases h1 : x0 = -2147483648
    · rw [if_pos h1, if_pos h1]
    by_cases h2 : c = -2147483648
    · rw [if_neg h1, if_pos h2, if_neg h1, if_pos h2]
    by_cases h3 : x0 < c
    · rw [if_neg h1, if_neg h2, if_pos h3, if_neg h1, if_neg h2, if_pos h3]
    · rw [if_neg h1, if_neg h2, if_neg h3, if_neg h1, if_neg h2, if_neg h3]
  have a3 : ∀ t u v : Int32, L_law_b202 20 ob x0 x1 c n (-2147483648) t u v = L_law_b226 20 ob x0 x1 n t u v (kk x1 c) := by
    intro t u v; unfold L_law_b202 kk
    by_cases h1 : x1 = -2147483648
    · rw [if_pos h1, if_pos h1]
    by_cases h2 : c = -2147483648
    · rw [if_neg h1, if_pos h2, if_neg h1, if_pos h2]
    by_cases h3 : x1 < c
    · rw [if_neg h1, if_neg h2, if_pos h3, if_neg h1, if_neg h2, if_pos h3]
    · rw [if_neg h1, if_neg h2, if_neg h3, if_neg h1, if_neg h2, if_neg h3]
  rw [a1, a1, a2, a2, a3, a3]
  generalize kk x0 c = k0
  generalize kk x1 c = k1
  generalize mm x1 y = m1
  unfold mm
  by_cases h1 : x0 = -2147483648
  · rw [if_pos h1, if_pos h1]
  by_cases h2 : y = -2147483648
  · rw [if_neg h1, if_pos h2, if_neg h1, if_pos h2]
  by_cases h3 : x0 = y
  · rw [if_neg h1, if_neg h2, if_pos h3, if_neg h1, if_neg h2, if_pos h3]
  · rw [if_neg h1, if_neg h2, if_neg h3, if_neg h1, if_neg h2, if_neg h3]
theorem en0 (x0 x1 m0 m1 : Int32) (q : Rec) : L_law_b226 20 (Z [] 0 q) x0 x1 0 m0 m1 0 0 = some 1 := by cbv
theorem en1 (x0 x1 m0 m1 : Int32) (q : Rec) : L_law_b226 20 (Z [(25,0,x0),(25,1,m0)] 1 q) x0 x1 1 m0 m1 1 0 = some 1 := by cbv
theorem en2 (x0 x1 m0 m1 : Int32) (q : Rec) : L_law_b226 20 (Z [(25,0,x1),(25,1,m1)] 1 q) x0 x1 1 m0 m1 0 1 = some 1 := by cbv
theorem en3 (a ma b mb : Int32) (q : Rec) : L_law_b342 20 (Z (R2 a ma b mb) 2 q) 2 2 a ma b mb = some 1 := by cbv
theorem en4 (x0 x1 m0 m1 : Int32) (q : Rec) : (X_sortResult 20 (Z (R2 x0 m0 x1 m1) 2 q)).bind (fun q2 => L_law_b226 20 q2 x0 x1 2 m0 m1 1 1) = some 1 := by
  have e0 : ∀ q2, L_law_b226 20 q2 x0 x1 2 m0 m1 1 1 = if x1 < x0 then L_law_b342 20 q2 2 2 x1 m1 x0 m0 else if x1 = x0 then (if m1 < m0 then L_law_b342 20 q2 2 2 x1 m1 x0 m0 else L_law_b342 20 q2 2 2 x0 m0 x1 m1) else L_law_b342 20 q2 2 2 x0 m0 x1 m1 := fun q2 => rfl
  have hr := rl0 (ob := Z (R2 x0 m0 x1 m1) 2 q) (a := x0) (b := x1) (ma := m0) (mb := m1) rfl (by cbv) (by cbv) (by cbv) (by cbv)
  have hll : ∀ a : Int32, ¬ a < a := by intro a; rw [Int32.lt_iff_toInt_lt]; omega
  by_cases h1 : x1 = x0
  · have h2 : ¬ x1 < x0 := by rw [h1]; exact hll x0
    rw [if_pos h1] at hr
    by_cases h3 : m1 = m0
    · rw [if_pos h3] at hr
      have h4 : ¬ m1 < m0 := by rw [h3]; exact hll m0
      rw [so_n hr, q_b, e0, if_neg h2, if_pos h1, if_neg h4]; exact en3 _ _ _ _ _
    · rw [if_neg h3] at hr
      by_cases h4 : m1 < m0
      · rw [if_pos h4] at hr
        obtain ⟨q', e⟩ := so_s hr
        rw [e, q_b, e0, if_neg h2, if_pos h1, if_pos h4]; exact en3 _ _ _ _ _
      · rw [if_neg h4] at hr
        rw [so_n hr, q_b, e0, if_neg h2, if_pos h1, if_neg h4]; exact en3 _ _ _ _ _
  · rw [if_neg h1] at hr
    by_cases h4 : x1 < x0
    · rw [if_pos h4] at hr
      obtain ⟨q', e⟩ := so_s hr
      rw [e, q_b, e0, if_pos h4]; exact en3 _ _ _ _ _
    · rw [if_neg h4] at hr
      rw [so_n hr, q_b, e0, if_neg h4, if_neg h1]; exact en3 _ _ _ _ _
theorem b1a {α β γ δ : Type} (o : Option α) (f : α → Option (β × γ)) (g : β → γ → Option δ) : bind2 (o.bind f) g = o.bind fun a => bind2 (f a) g := by cases o <;> rfl
theorem b2a {α α' β γ δ : Type} (o : Option (α × α')) (f : α → α' → Option (β × γ)) (g : β → γ → Option δ) : bind2 (bind2 o f) g = bind2 o fun a b => bind2 (f a b) g := by cases o <;> rfl
theorem law0 (x0 x1 y c : Int32) : L_law 20 x0 x1 y c = bind2 (P0 x0 x1 y c) fun r72 q73 => bind2 (X_query 20 q73 r72 1) fun n q76 => L_law_b226 20 q76 x0 x1 n (mm x0 y) (mm x1 y) (kk x0 c) (kk x1 c) := by
  unfold L_law P0
  simp only [tl, b1a, b2a, q_b2]
theorem qry (x0 x1 y c : Int32) (ob : Rec) : ∃ q, X_query 20 (sI (sI (wr (A1 x0 x1 y c) ob) 8 64) 10 4) 3 1 = bind2 (X_storeResult 20 (S (V2 (kk x0 c) (kk x1 c) x0 x1 (mm x0 y) (mm x1 y)) x0 x1 y c q) 2 2) fun r3 q4 => some (r3, q4) := by
  obtain ⟨q1, h1⟩ := p_b x0 x1 y c ob
  obtain ⟨q2, h2⟩ := p_c x0 x1 y c q1
  obtain ⟨q3, h3⟩ := p_d x0 x1 y c q2
  obtain ⟨q4, h4⟩ := p_e x0 x1 y c q3
  obtain ⟨q5, h5⟩ := ea x0 x1 y c q4
  refine ⟨q5, ?_⟩
  have h6 : X_runRewritten 20 (sI (sI (wr ((20,3,4) :: A1 x0 x1 y c) q1) 8 64) 10 4) 3 = some (2, S (V2 (kk x0 c) (kk x1 c) x0 x1 (mm x0 y) (mm x1 y)) x0 x1 y c q5) := by
    unfold X_runRewritten
    rw [h2, q_b2, h3]
    rw [show gI (sI (sI (wr (A3 (-1) 1 x0 x1 y c) q2) 14 3) 10 4) 14 = 3 from rfl, show gA (sI (sI (wr (A3 (-1) 1 x0 x1 y c) q2) 14 3) 10 4) 43 0 = 2 by cbv, show (3 : Int32) - 1 = 2 from rfl, show gA (sI (sI (wr (A3 (-1) 1 x0 x1 y c) q2) 14 3) 10 4) 31 2 = 2 by cbv, show gA (sI (sI (wr (A3 (-1) 1 x0 x1 y c) q2) 14 3) 10 4) 8 3 = 2 by cbv]
    rw [q_b, h4, q_b]
    rw [show sI (sI (wr (A3 1 (-1) x0 x1 y c) q4) 14 3) 10 4 = S [] x0 x1 y c q4 from rfl, h5, q_b]
    rfl
  unfold X_query
  rw [show X_nodeExists (sI (sI (wr (A1 x0 x1 y c) ob) 8 64) 10 4) 3 = some 1 by cbv, q_b, if_neg (by decide), if_neg (by decide), if_neg (by decide), h1, q_b]
  rw [show gI (sI (sI (wr ((20,3,4) :: A1 x0 x1 y c) q1) 8 64) 10 4) 8 = 64 from rfl, show gA (sI (sI (wr ((20,3,4) :: A1 x0 x1 y c) q1) 8 64) 10 4) 20 3 = 4 by cbv, h6, q_b2]
  have h7 : ∀ q, gA (S (V2 (kk x0 c) (kk x1 c) x0 x1 (mm x0 y) (mm x1 y)) x0 x1 y c q) 8 3 = 2 := by
    intro q
    generalize mm x0 y = m0
    generalize mm x1 y = m1
    rcases kk01 x0 c with g0 | g0 <;> rcases kk01 x1 c with g1 | g1 <;> rw [g0, g1] <;> cbv
  unfold X_query_b52
  rw [h7]; rfl
theorem owed : ∀ (x0 x1 y c : Int32), ∃ NF, L_law NF x0 x1 y c = some 1 := by
  intro x0 x1 y c
  refine ⟨20, ?_⟩
  rw [law0]
  obtain ⟨q, h⟩ := p_a x0 x1 y c
  rw [h, q_b2]
  obtain ⟨p, hp⟩ := qry x0 x1 y c q
  rw [hp, b2a]
  simp only [q_b2]
  generalize mm x0 y = m0
  generalize mm x1 y = m1
  rcases kk01 x0 c with g0 | g0 <;> rcases kk01 x1 c with g1 | g1 <;> rw [g0, g1]
  · obtain ⟨r, e⟩ := st0 x0 x1 y c p
    show bind2 (X_storeResult 20 (S [(23,2,0)] x0 x1 y c p) 2 2) _ = _
    rw [e, q_b2]; exact en0 _ _ _ _ _
  · obtain ⟨r, e⟩ := st1 x1 m1 x0 x1 y c p
    show bind2 (X_storeResult 20 (S [(23,2,1),(22,1024,x1),(22,1025,m1)] x0 x1 y c p) 2 2) _ = _
    rw [e, q_b2]; exact en2 _ _ _ _ _
  · obtain ⟨r, e⟩ := st1 x0 m0 x0 x1 y c p
    show bind2 (X_storeResult 20 (S [(23,2,1),(22,1024,x0),(22,1025,m0)] x0 x1 y c p) 2 2) _ = _
    rw [e, q_b2]; exact en1 _ _ _ _ _
  · obtain ⟨r, e⟩ := st2 x0 m0 x1 m1 x0 x1 y c p
    show bind2 (X_storeResult 20 (S [(23,2,2),(22,1024,x0),(22,1025,m0),(22,1032,x1),(22,1033,m1)] x0 x1 y c p) 2 2) _ = _
    rw [e, b1a]
    exact en4 x0 x1 m0 m1 r
-- owed : ∀ i0 i1 i2 i3 : Int32, ∃ NF : Nat, L_law NF i0 i1 i2 i3 = some 1
--COMES--
theorem comes_1 {Post : Tables → Env → Array Value → State → Outcome → State → Prop} (hpost : ∀ tb e args s v u, (limb_1_1.after args s (.returned v) u = true ∧ limb_1_2.after args s (.returned v) u = true ∧ True) → FrameEnd s (.returned v) u (Jvm.fieldLocs frame_1_writes args s ++ Jvm.arrayLocs frame_1_arrays args s ++ Jvm.staticLocs frame_1_statics s) 104 41600 → Post tb e args s (.returned v) u) :
    ArmFor flags0 classFile x code maxLocals ret World_1 tables_1 room_1 Calls_1 rest_1 Pre_1 Post := by
  intro l hfl _ _ p e ha hc hk s m args below hf hA hF happ hP
  obtain ⟨hcalls, hrest, hpre⟩ := hP
  obtain ⟨-, -, -, hnamed, -, -, -, hat⟩ := (Spec.applies_iff hf).mp happ
  obtain ⟨hg, hn⟩ := and_e (Cond.before_iff.mp (show (Jvm.Cond.and given_1 narrow_1).before args s = true from hpre))
  obtain ⟨hcnt, hg⟩ := and_e hg
  obtain ⟨w0, w1, w2, w3, rfl⟩ : ∃ w0 w1 w2 w3 : Value, args = #[w0, w1, w2, w3] := by
    have hs : args.size = 4 := by simpa [Cond.value, given_1] using hcnt
    obtain ⟨L⟩ := args
    match L, hs with
    | [w0, w1, w2, w3], _ => exact ⟨w0, w1, w2, w3, rfl⟩
  have hw := fun d (hd : d ∈ tables_1) => atoms_spec (ws := Jvm.Cond.code x code maxLocals ret :: tables_1) hat d (List.mem_cons_of_mem _ hd)
  have hfit : Fit s := fun {y c} hc i hi => by
    obtain ⟨ha, rfl⟩ := Array.getElem?_eq_some_iff.mp hc
    have q := List.all_eq_true.mp ((Array.all_eq_true_iff_forall_mem.mp hF) _ (Array.getElem_mem ha)) i (List.mem_range.mpr hi)
    simpa [Array.getElem?_eq_getElem hi] using q
  obtain ⟨h0, hg⟩ := and_e hg
  obtain ⟨i0, e0⟩ := is_v h0
  obtain rfl : w0 = (.int i0) := Option.some.inj e0
  obtain ⟨h1, hg⟩ := and_e hg
  obtain ⟨i1, e1⟩ := is_v h1
  obtain rfl : w1 = (.int i1) := Option.some.inj e1
  obtain ⟨h2, hg⟩ := and_e hg
  obtain ⟨i2, e2⟩ := is_v h2
  obtain rfl : w2 = (.int i2) := Option.some.inj e2
  have h3 := hg
  obtain ⟨i3, e3⟩ := is_v h3
  obtain rfl : w3 = (.int i3) := Option.some.inj e3
  obtain ⟨NF, hlaw⟩ := owed i0 i1 i2 i3
  have hp := L_law_pay (C := (l, s, s.heap.size, #[.int i0, .int i1, .int i2, .int i3])) hlaw hw s.heap (Rep.start s) tables_1
  obtain ⟨n, o, h1, h2, h3, v, L, rfl, ⟨N, G', -, rfl⟩, hq⟩ := hp p e ha hc hk s m _ below hf ((Spec.applies_iff_loose hf).mp happ).1 ⟨rfl, State.Warmed39.refl s, rfl⟩ trivial
  refine ⟨n, _, h1, h2, h3, hpost _ _ _ _ _ _ ⟨Cond.after_iff.mpr rfl, Cond.after_iff.mpr (eq_i res_at (Term.int_eval (1)) rfl), trivial⟩ ⟨hq.1, hq.2.1, (hq.2.2.sift fun y hy => Or.inr (N y hy)).mono (by decide) (by decide)⟩⟩
theorem main_1_1 : Claimed_1_1 := comes_1 fun _ _ _ _ _ _ h hF => ⟨h.1, hF⟩
theorem main_1_2 : Claimed_1_2 := comes_1 fun _ _ _ _ _ _ h hF => ⟨h.2.1, hF⟩
end Jvm.Pilot.@@N@@
namespace Jvm.Pilot.@@N@@
open Jvm Jvm.ClassFile Sem Op Lib Jvm.Free Jvm.Stand Jvm.Pilot.@@N@@.Jvm.D
/-! MADE BY PROGRAM (witnessworld.py) out of the Statement's table words and the real class files: 11 classes; the members and pool entries that the words name. The judged class is class 1, her method 1. -/
namespace start1
open Jvm.ClassFile
def u (s : String) : CpInfo := .utf8 (stringToUtf16 s)
/-- a pool by its gaps: so many unusable entries, then the entry; so many at the end -/
def gap : Nat → List CpInfo → List CpInfo
  | 0, r => r
  | n + 1, r => .unusable :: gap n r
def poolList (es : List (Nat × CpInfo)) (last : Nat) : List CpInfo := es.foldr (fun e r => gap e.1 (e.2 :: r)) (gap last [])
def pool (es : List (Nat × CpInfo)) (last : Nat) : Array CpInfo := ⟨poolList es last⟩
def fileOf (pool : Array CpInfo) (this : Nat) (attrs : Array Attribute := #[]) (ms : Array MethodInfo := #[]) (fl : Nat := 33) (sup : Nat := 0) (ifs : Array Nat := #[]) (fds : Array FieldInfo := #[]) : ClassFile where
  minorVersion := 0
  majorVersion := 65
  constantPool := pool
  accessFlags := fl
  thisClass := this
  superClass := sup
  interfaces := ifs
  fields := fds
  methods := ms
  attributes := attrs
def plain (name : String) (sup : Option ClassId) : Class where
  name := name
  kind := .ordinary
  loader := none
  accessFlags := 33
  super := sup
  interfaces := #[]
  cf := none
  fields := #[]
  methods := #[]
  instanceTypes := #[]
  staticTypes := #[]
  resolved := #[]
  callSites := []
  init := .initialized
  statics := none
  mirror := none

def pool0 : Array CpInfo := pool [(5, u "<init>"), (0, u "()V"), (1, .class_ 10), (1, u "java/lang/Object")] 113

def k0c0 : Code := { maxStack := 0, maxLocals := 1, code := object_method_1_code, exceptionTable := #[], attributes := #[] }
def k0m0 : Method := { name := "<init>", desc := "()V", sig := { parameters := [], returnType := none }, accessFlags := 1, code := some k0c0 }
/-- java/lang/Object -/
def k0 : Class := { plain "java/lang/Object" none with
  accessFlags := 33
  interfaces := #[]
  cf := some (fileOf pool0 8 #[] #[{ accessFlags := 1, nameIndex := 5, descriptorIndex := 6, attributes := #[] }] 33 0 #[] #[])
  fields := #[]
  methods := #[k0m0]
  instanceTypes := #[]
  staticTypes := #[]
  resolved := Array.replicate 124 none
  statics := none }

def pool1 : Array CpInfo := pool [(2, .class_ 4), (1, u "java/lang/Object"), (0, u "<init>"), (0, u "()V"), (0, .class_ 8), (0, u "QueryRewriter"), (0, .methodref 7 10), (0, .nameAndType 5 11), (0, u "(II)V"), (0, .methodref 7 13), (0, .nameAndType 14 15), (0, u "createTable"), (0, u "(II)Z"), (0, .methodref 7 17), (0, .nameAndType 18 19), (0, u "insert"), (0, u "(IIII)I"), (0, .methodref 7 21), (0, .nameAndType 22 23), (0, u "scan"), (0, u "(I)I"), (0, .methodref 7 25), (0, .nameAndType 26 19), (0, u "atom"), (0, .methodref 7 28), (0, .nameAndType 29 30), (0, u "join"), (0, u "(III)I"), (0, .methodref 7 32), (0, .nameAndType 33 23), (0, u "select"), (0, .methodref 7 35), (0, .nameAndType 36 37), (0, u "query"), (0, u "(II)I"), (0, .integer 2147483648), (0, .methodref 7 40), (0, .nameAndType 41 42), (0, u "resultWidth"), (0, u "()I"), (0, .methodref 7 44), (0, .nameAndType 45 37), (0, u "resultCell"), (0, .class_ 47), (0, u "QueryRewriterL3"), (2, u "law"), (0, u "(IIII)Z")] 3

def k1m0 : Method := { name := "<init>", desc := "()V", sig := { parameters := [], returnType := none }, accessFlags := 1, code := none }
def k1c1 : Code := { maxStack := 5, maxLocals := 27, code := code, exceptionTable := #[], attributes := #[] }
def k1m1 : Method := { name := "law", desc := "(IIII)Z", sig := { parameters := [.int, .int, .int, .int], returnType := some .boolean }, accessFlags := 9, code := some k1c1 }
/-- QueryRewriterL3 -/
def k1 : Class := { plain "QueryRewriterL3" (some 0) with
  accessFlags := 33
  interfaces := #[]
  cf := some (fileOf pool1 46 #[] #[{ accessFlags := 1, nameIndex := 5, descriptorIndex := 6, attributes := #[] }, { accessFlags := 9, nameIndex := 50, descriptorIndex := 51, attributes := #[] }] 33 2 #[] #[])
  fields := #[]
  methods := #[k1m0, k1m1]
  instanceTypes := #[]
  staticTypes := #[]
  resolved := Array.replicate 55 none
  statics := none }

def pool2 : Array CpInfo := pool [(1, .methodref 2 3), (0, .class_ 4), (0, .nameAndType 5 6), (0, u "java/lang/Object"), (0, u "<init>"), (0, u "()V"), (0, .fieldref 8 9), (0, .class_ 10), (0, .nameAndType 11 12), (0, u "QueryRewriter"), (0, u "tyScan"), (0, u "I"), (0, .fieldref 8 14), (0, .nameAndType 15 12), (0, u "tySelect"), (0, .fieldref 8 17), (0, .nameAndType 18 12), (0, u "tyProject"), (0, .fieldref 8 20), (0, .nameAndType 21 12), (0, u "tyJoin"), (0, .fieldref 8 23), (0, .nameAndType 24 12), (0, u "tyView"), (0, .fieldref 8 26), (0, .nameAndType 27 12), (0, u "plScan"), (0, .fieldref 8 29), (0, .nameAndType 30 12), (0, u "plJoin"), (0, .fieldref 8 32), (0, .nameAndType 33 34), (0, u "tCols"), (0, u "[I"), (0, .fieldref 8 36), (0, .nameAndType 37 34), (0, u "tRows"), (0, .fieldref 8 39), (0, .nameAndType 40 34), (0, u "tCells"), (0, .fieldref 8 42), (0, .nameAndType 43 34), (0, u "pOp"), (0, .fieldref 8 45), (0, .nameAndType 46 34), (0, u "pA"), (0, .fieldref 8 48), (0, .nameAndType 49 34), (0, u "pB"), (0, .fieldref 8 51), (0, .nameAndType 52 34), (0, u "pFl"), (0, .fieldref 8 54), (0, .nameAndType 55 34), (0, u "nType"), (0, .fieldref 8 57), (0, .nameAndType 58 34), (0, u "nWidth"), (0, .fieldref 8 60), (0, .nameAndType 61 34), (0, u "nX"), (0, .fieldref 8 63), (0, .nameAndType 64 34), (0, u "nY"), (0, .fieldref 8 66), (0, .nameAndType 67 34), (0, u "nKind"), (0, .fieldref 8 69), (0, .nameAndType 70 34), (0, u "nPacked"), (0, .fieldref 8 72), (0, .nameAndType 73 34), (0, u "nAtStart"), (0, .fieldref 8 75), (0, .nameAndType 76 34), (0, u "nAtCnt"), (0, .fieldref 8 78), (0, .nameAndType 79 34), (0, u "aOp"), (0, .fieldref 8 81), (0, .nameAndType 82 34), (0, u "aA"), (0, .fieldref 8 84), (0, .nameAndType 85 34), (0, u "aB"), (0, .fieldref 8 87), (0, .nameAndType 88 34), (0, u "aFl"), (0, .fieldref 8 90), (0, .nameAndType 91 34), (0, u "viewNode"), (0, .fieldref 8 93), (0, .nameAndType 94 34), (0, u "weight"), (0, .fieldref 8 96), (0, .nameAndType 97 98), (0, u "reach"), (0, u "[Z"), (0, .fieldref 8 100), (0, .nameAndType 101 34), (0, u "bag"), (0, .fieldref 8 103), (0, .nameAndType 104 34), (0, u "bagCnt"), (0, .fieldref 8 106), (0, .nameAndType 107 34), (0, u "rowBuf"), (0, .fieldref 8 109), (0, .nameAndType 110 34), (0, u "res"), (0, .fieldref 8 112), (0, .nameAndType 113 34), (0, u "plType"), (0, .fieldref 8 115), (0, .nameAndType 116 34), (0, u "plTable"), (0, .fieldref 8 118), (0, .nameAndType 119 34), (0, u "plLeft"), (0, .fieldref 8 121), (0, .nameAndType 122 34), (0, u "plRight"), (0, .fieldref 8 124), (0, .nameAndType 125 34), (0, u "plKind"), (0, .fieldref 8 127), (0, .nameAndType 128 34), (0, u "plLen"), (0, .fieldref 8 130), (0, .nameAndType 131 34), (0, u "plMap"), (0, .fieldref 8 133), (0, .nameAndType 134 34), (0, u "needMask"), (0, .fieldref 8 136), (0, .nameAndType 137 98), (0, u "plEmpty"), (0, .fieldref 8 139), (0, .nameAndType 140 34), (0, u "head"), (0, .fieldref 8 142), (0, .nameAndType 143 34), (0, u "qOp"), (0, .fieldref 8 145), (0, .nameAndType 146 34), (0, u "qA"), (0, .fieldref 8 148), (0, .nameAndType 149 34), (0, u "qB"), (0, .fieldref 8 151), (0, .nameAndType 152 34), (0, u "qFl"), (0, .fieldref 8 154), (0, .nameAndType 155 34), (0, u "qNext"), (0, .fieldref 8 157), (0, .nameAndType 158 34), (0, u "stNode"), (0, .fieldref 8 160), (0, .nameAndType 161 34), (0, u "stPhase"), (0, .fieldref 8 163), (0, .nameAndType 164 34), (0, u "resStack"), (0, .fieldref 8 166), (0, .nameAndType 167 34), (0, u "tmpMap"), (0, .methodref 8 169), (0, .nameAndType 170 171), (0, u "clamp"), (0, u "(III)I"), (0, .fieldref 8 173), (0, .nameAndType 174 12), (0, u "rowCap"), (0, .fieldref 8 176), (0, .nameAndType 177 12), (0, u "weightLimit"), (0, .methodref 8 179), (0, .nameAndType 180 181), (0, u "tableExists"), (0, u "(I)Z"), (0, .fieldref 8 183), (0, .nameAndType 184 12), (0, u "pendN"), (0, .fieldref 8 186), (0, .nameAndType 187 12), (0, u "atomN"), (0, .fieldref 8 189), (0, .nameAndType 190 12), (0, u "nodeN"), (0, .methodref 8 192), (0, .nameAndType 193 194), (0, u "newNode"), (0, u "(IIIII)I"), (0, .methodref 8 196), (0, .nameAndType 197 181), (0, u "nodeExists"), (0, .methodref 8 199), (0, .nameAndType 200 181), (0, u "pendingFits"), (0, .methodref 8 202), (0, .nameAndType 203 204), (0, u "takePending"), (0, u "(I)V"), (0, .methodref 8 206), (0, .nameAndType 207 6), (0, u "computeWeights"), (0, .methodref 8 209), (0, .nameAndType 210 211), (0, u "runRewritten"), (0, u "(I)I"), (3, .methodref 8 216), (0, .nameAndType 217 218), (0, u "storeResult"), (0, u "(II)I"), (0, .fieldref 8 220), (0, .nameAndType 221 12), (0, u "resW"), (0, .fieldref 8 223), (0, .nameAndType 224 12), (0, u "resN"), (0, .methodref 8 226), (0, .nameAndType 227 218), (0, u "satMul"), (0, .methodref 8 229), (0, .nameAndType 230 6), (0, u "sortResult"), (0, .methodref 8 232), (0, .nameAndType 233 234), (0, u "rowLess"), (0, u "(II)Z"), (0, .methodref 8 236), (0, .nameAndType 237 238), (0, u "swapRows"), (0, u "(II)V"), (0, .integer 2147483648), (0, .methodref 8 241), (0, .nameAndType 242 211), (0, u "cell"), (0, .methodref 8 244), (0, .nameAndType 245 246), (0, u "compare"), (0, u "(III)Z"), (0, .methodref 8 248), (0, .nameAndType 249 250), (0, u "evalAtom"), (0, u "(IIII)Z"), (21, .methodref 8 273), (0, .nameAndType 274 275), (0, u "loadRow"), (0, u "(IIII)V"), (6, .methodref 8 283), (0, .nameAndType 284 238), (0, u "fillNull"), (0, .methodref 8 286), (0, .nameAndType 287 181), (0, u "buildPlan"), (0, .fieldref 8 289), (0, .nameAndType 290 12), (0, u "planN"), (0, .methodref 8 292), (0, .nameAndType 293 6), (0, u "pushdownAll"), (0, .methodref 8 295), (0, .nameAndType 296 204), (0, u "pruneAll"), (0, .methodref 8 298), (0, .nameAndType 299 6), (0, u "evalPlanAll"), (0, .fieldref 8 301), (0, .nameAndType 302 12), (0, u "qN"), (0, .fieldref 8 304), (0, .nameAndType 305 12), (0, u "sp"), (0, .fieldref 8 307), (0, .nameAndType 308 12), (0, u "rsp"), (0, .fieldref 8 310), (0, .nameAndType 311 312), (0, u "buildFail"), (0, u "Z"), (0, .methodref 8 314), (0, .nameAndType 315 204), (0, u "pushNode"), (0, .methodref 8 317), (0, .nameAndType 318 6), (0, u "buildStep"), (0, .methodref 8 320), (0, .nameAndType 321 211), (0, u "newScanPlan"), (0, .methodref 8 323), (0, .nameAndType 324 204), (0, u "pushResult"), (0, .methodref 8 326), (0, .nameAndType 327 238), (0, u "joinStep"), (0, .methodref 8 329), (0, .nameAndType 330 238), (0, u "applySelect"), (3, .methodref 8 335), (0, .nameAndType 336 171), (0, u "newJoinPlan"), (0, .methodref 8 338), (0, .nameAndType 339 340), (0, u "initPlan"), (0, u "(III)V"), (0, .methodref 8 342), (0, .nameAndType 343 211), (0, u "copyAtom"), (0, .methodref 8 345), (0, .nameAndType 346 238), (0, u "prepend"), (0, .methodref 8 348), (0, .nameAndType 349 340), (0, u "substitute"), (0, .methodref 8 351), (0, .nameAndType 352 218), (0, u "mapCol"), (0, .methodref 8 354), (0, .nameAndType 355 356), (0, u "foldList"), (0, u "(IZ)V"), (0, .methodref 8 358), (0, .nameAndType 359 204), (0, u "pushJoin"), (0, .methodref 8 361), (0, .nameAndType 362 211), (0, u "constTruth"), (0, .methodref 8 364), (0, .nameAndType 365 234), (0, u "listRejectsRight"), (3, .methodref 8 370), (0, .nameAndType 371 372), (0, u "distribute"), (0, u "(IIIZ)V"), (0, .methodref 8 374), (0, .nameAndType 375 218), (0, u "sideOf"), (0, .methodref 8 377), (0, .nameAndType 378 238), (0, u "compactMap"), (0, .methodref 8 380), (0, .nameAndType 381 204), (0, u "pruneJoinInputs"), (0, .methodref 8 383), (0, .nameAndType 384 211), (0, u "usedMapMask"), (0, .methodref 8 386), (0, .nameAndType 387 211), (0, u "usedListMask"), (0, .methodref 8 389), (0, .nameAndType 390 275), (0, u "renumberMap"), (0, .methodref 8 392), (0, .nameAndType 393 275), (0, u "renumberList"), (0, .methodref 8 395), (0, .nameAndType 396 211), (0, u "popcount"), (0, .methodref 8 398), (0, .nameAndType 399 400), (0, u "newCol"), (0, u "(IIII)I"), (0, .methodref 8 402), (0, .nameAndType 403 204), (0, u "evalPlanScan"), (0, .methodref 8 405), (0, .nameAndType 406 204), (0, u "evalPlanJoin"), (0, .methodref 8 408), (0, .nameAndType 409 238), (0, u "loadTableRow"), (0, .methodref 8 411), (0, .nameAndType 412 181), (0, u "listHolds"), (0, .methodref 8 414), (0, .nameAndType 415 218), (0, u "emitMapped"), (0, .methodref 8 417), (0, .nameAndType 418 218), (0, u "emitFiltered"), (0, u "NULL"), (1, u "ERR_RANGE"), (1, u "ERR_FULL"), (1, u "ERR_TOO_BIG"), (1, u "EQ"), (1, u "NE"), (1, u "LT"), (1, u "LE"), (1, u "GT"), (1, u "GE"), (1, u "ISNULL"), (1, u "NOTNULL"), (1, u "A_COL"), (0, u "B_COL"), (0, u "INNER"), (0, u "LEFT"), (0, u "MODE_DIRECT"), (0, u "MODE_REWRITTEN"), (0, u "MAX_TABLES"), (0, u "MAX_TABLE_COLS"), (0, u "MAX_NODES"), (1, u "MAX_WIDTH"), (1, u "MAX_PENDING"), (0, u "MAX_ATOMS"), (1, u "MAX_VIEWS"), (0, u "MAX_RESULT_ROWS"), (3, u "createTable"), (0, u "insert"), (2, u "atom"), (1, u "scan"), (0, u "select"), (1, u "join"), (3, u "query"), (0, u "resultWidth"), (0, u "()I"), (0, u "resultCell")] 3

def k2c0 : Code := { maxStack := 5, maxLocals := 3, code := prog_1_method_1_code, exceptionTable := #[], attributes := #[] }
def k2m0 : Method := { name := "<init>", desc := "(II)V", sig := { parameters := [.int, .int], returnType := none }, accessFlags := 1, code := some k2c0 }
def k2c1 : Code := { maxStack := 2, maxLocals := 4, code := prog_1_method_2_code, exceptionTable := #[], attributes := #[] }
def k2m1 : Method := { name := "clamp", desc := "(III)I", sig := { parameters := [.int, .int, .int], returnType := some .int }, accessFlags := 2, code := some k2c1 }
def k2c2 : Code := { maxStack := 3, maxLocals := 3, code := prog_1_method_3_code, exceptionTable := #[], attributes := #[] }
def k2m2 : Method := { name := "createTable", desc := "(II)Z", sig := { parameters := [.int, .int], returnType := some .boolean }, accessFlags := 1, code := some k2c2 }
def k2c3 : Code := { maxStack := 2, maxLocals := 2, code := prog_1_method_4_code, exceptionTable := #[], attributes := #[] }
def k2m3 : Method := { name := "tableExists", desc := "(I)Z", sig := { parameters := [.int], returnType := some .boolean }, accessFlags := 2, code := some k2c3 }
def k2c4 : Code := { maxStack := 4, maxLocals := 7, code := prog_1_method_5_code, exceptionTable := #[], attributes := #[] }
def k2m4 : Method := { name := "insert", desc := "(IIII)I", sig := { parameters := [.int, .int, .int, .int], returnType := some .int }, accessFlags := 1, code := some k2c4 }
def k2c5 : Code := { maxStack := 3, maxLocals := 7, code := prog_1_method_8_code, exceptionTable := #[], attributes := #[] }
def k2m5 : Method := { name := "atom", desc := "(IIII)I", sig := { parameters := [.int, .int, .int, .int], returnType := some .int }, accessFlags := 1, code := some k2c5 }
def k2c6 : Code := { maxStack := 2, maxLocals := 3, code := prog_1_method_10_code, exceptionTable := #[], attributes := #[] }
def k2m6 : Method := { name := "pendingFits", desc := "(I)Z", sig := { parameters := [.int], returnType := some .boolean }, accessFlags := 2, code := some k2c6 }
def k2c7 : Code := { maxStack := 4, maxLocals := 4, code := prog_1_method_11_code, exceptionTable := #[], attributes := #[] }
def k2m7 : Method := { name := "takePending", desc := "(I)V", sig := { parameters := [.int], returnType := none }, accessFlags := 2, code := some k2c7 }
def k2c8 : Code := { maxStack := 2, maxLocals := 2, code := prog_1_method_12_code, exceptionTable := #[], attributes := #[] }
def k2m8 : Method := { name := "nodeExists", desc := "(I)Z", sig := { parameters := [.int], returnType := some .boolean }, accessFlags := 2, code := some k2c8 }
def k2c9 : Code := { maxStack := 3, maxLocals := 7, code := prog_1_method_13_code, exceptionTable := #[], attributes := #[] }
def k2m9 : Method := { name := "newNode", desc := "(IIIII)I", sig := { parameters := [.int, .int, .int, .int, .int], returnType := some .int }, accessFlags := 2, code := some k2c9 }
def k2c10 : Code := { maxStack := 6, maxLocals := 2, code := prog_1_method_14_code, exceptionTable := #[], attributes := #[] }
def k2m10 : Method := { name := "scan", desc := "(I)I", sig := { parameters := [.int], returnType := some .int }, accessFlags := 1, code := some k2c10 }
def k2c11 : Code := { maxStack := 6, maxLocals := 3, code := prog_1_method_15_code, exceptionTable := #[], attributes := #[] }
def k2m11 : Method := { name := "select", desc := "(I)I", sig := { parameters := [.int], returnType := some .int }, accessFlags := 1, code := some k2c11 }
def k2c12 : Code := { maxStack := 6, maxLocals := 6, code := prog_1_method_17_code, exceptionTable := #[], attributes := #[] }
def k2m12 : Method := { name := "join", desc := "(III)I", sig := { parameters := [.int, .int, .int], returnType := some .int }, accessFlags := 1, code := some k2c12 }
def k2c13 : Code := { maxStack := 4, maxLocals := 4, code := prog_1_method_21_code, exceptionTable := #[], attributes := #[] }
def k2m13 : Method := { name := "query", desc := "(II)I", sig := { parameters := [.int, .int], returnType := some .int }, accessFlags := 1, code := some k2c13 }
def k2c14 : Code := { maxStack := 1, maxLocals := 1, code := prog_1_method_22_code, exceptionTable := #[], attributes := #[] }
def k2m14 : Method := { name := "resultWidth", desc := "()I", sig := { parameters := [], returnType := some .int }, accessFlags := 1, code := some k2c14 }
def k2c15 : Code := { maxStack := 3, maxLocals := 3, code := prog_1_method_23_code, exceptionTable := #[], attributes := #[] }
def k2m15 : Method := { name := "resultCell", desc := "(II)I", sig := { parameters := [.int, .int], returnType := some .int }, accessFlags := 1, code := some k2c15 }
def k2c16 : Code := { maxStack := 5, maxLocals := 4, code := prog_1_method_24_code, exceptionTable := #[], attributes := #[] }
def k2m16 : Method := { name := "computeWeights", desc := "()V", sig := { parameters := [], returnType := none }, accessFlags := 2, code := some k2c16 }
def k2c17 : Code := { maxStack := 2, maxLocals := 4, code := prog_1_method_25_code, exceptionTable := #[], attributes := #[] }
def k2m17 : Method := { name := "satMul", desc := "(II)I", sig := { parameters := [.int, .int], returnType := some .int }, accessFlags := 2, code := some k2c17 }
def k2c18 : Code := { maxStack := 6, maxLocals := 7, code := prog_1_method_26_code, exceptionTable := #[], attributes := #[] }
def k2m18 : Method := { name := "storeResult", desc := "(II)I", sig := { parameters := [.int, .int], returnType := some .int }, accessFlags := 2, code := some k2c18 }
def k2c19 : Code := { maxStack := 4, maxLocals := 3, code := prog_1_method_27_code, exceptionTable := #[], attributes := #[] }
def k2m19 : Method := { name := "sortResult", desc := "()V", sig := { parameters := [], returnType := none }, accessFlags := 2, code := some k2c19 }
def k2c20 : Code := { maxStack := 3, maxLocals := 6, code := prog_1_method_28_code, exceptionTable := #[], attributes := #[] }
def k2m20 : Method := { name := "rowLess", desc := "(II)Z", sig := { parameters := [.int, .int], returnType := some .boolean }, accessFlags := 2, code := some k2c20 }
def k2c21 : Code := { maxStack := 5, maxLocals := 5, code := prog_1_method_29_code, exceptionTable := #[], attributes := #[] }
def k2m21 : Method := { name := "swapRows", desc := "(II)V", sig := { parameters := [.int, .int], returnType := none }, accessFlags := 2, code := some k2c21 }
def k2c22 : Code := { maxStack := 2, maxLocals := 2, code := prog_1_method_30_code, exceptionTable := #[], attributes := #[] }
def k2m22 : Method := { name := "cell", desc := "(I)I", sig := { parameters := [.int], returnType := some .int }, accessFlags := 2, code := some k2c22 }
def k2c23 : Code := { maxStack := 4, maxLocals := 7, code := prog_1_method_31_code, exceptionTable := #[], attributes := #[] }
def k2m23 : Method := { name := "evalAtom", desc := "(IIII)Z", sig := { parameters := [.int, .int, .int, .int], returnType := some .boolean }, accessFlags := 2, code := some k2c23 }
def k2c24 : Code := { maxStack := 2, maxLocals := 4, code := prog_1_method_32_code, exceptionTable := #[], attributes := #[] }
def k2m24 : Method := { name := "compare", desc := "(III)Z", sig := { parameters := [.int, .int, .int], returnType := some .boolean }, accessFlags := 2, code := some k2c24 }
def k2c25 : Code := { maxStack := 5, maxLocals := 7, code := prog_1_method_34_code, exceptionTable := #[], attributes := #[] }
def k2m25 : Method := { name := "loadRow", desc := "(IIII)V", sig := { parameters := [.int, .int, .int, .int], returnType := none }, accessFlags := 2, code := some k2c25 }
def k2c26 : Code := { maxStack := 5, maxLocals := 5, code := prog_1_method_35_code, exceptionTable := #[], attributes := #[] }
def k2m26 : Method := { name := "loadTableRow", desc := "(II)V", sig := { parameters := [.int, .int], returnType := none }, accessFlags := 2, code := some k2c26 }
def k2c27 : Code := { maxStack := 3, maxLocals := 4, code := prog_1_method_36_code, exceptionTable := #[], attributes := #[] }
def k2m27 : Method := { name := "fillNull", desc := "(II)V", sig := { parameters := [.int, .int], returnType := none }, accessFlags := 2, code := some k2c27 }
def k2c28 : Code := { maxStack := 3, maxLocals := 3, code := prog_1_method_46_code, exceptionTable := #[], attributes := #[] }
def k2m28 : Method := { name := "runRewritten", desc := "(I)I", sig := { parameters := [.int], returnType := some .int }, accessFlags := 2, code := some k2c28 }
def k2c29 : Code := { maxStack := 2, maxLocals := 3, code := prog_1_method_47_code, exceptionTable := #[], attributes := #[] }
def k2m29 : Method := { name := "buildPlan", desc := "(I)Z", sig := { parameters := [.int], returnType := some .boolean }, accessFlags := 2, code := some k2c29 }
def k2c30 : Code := { maxStack := 3, maxLocals := 2, code := prog_1_method_48_code, exceptionTable := #[], attributes := #[] }
def k2m30 : Method := { name := "pushNode", desc := "(I)V", sig := { parameters := [.int], returnType := none }, accessFlags := 2, code := some k2c30 }
def k2c31 : Code := { maxStack := 3, maxLocals := 2, code := prog_1_method_49_code, exceptionTable := #[], attributes := #[] }
def k2m31 : Method := { name := "pushResult", desc := "(I)V", sig := { parameters := [.int], returnType := none }, accessFlags := 2, code := some k2c31 }
def k2c32 : Code := { maxStack := 3, maxLocals := 5, code := prog_1_method_50_code, exceptionTable := #[], attributes := #[] }
def k2m32 : Method := { name := "buildStep", desc := "()V", sig := { parameters := [], returnType := none }, accessFlags := 2, code := some k2c32 }
def k2c33 : Code := { maxStack := 4, maxLocals := 7, code := prog_1_method_51_code, exceptionTable := #[], attributes := #[] }
def k2m33 : Method := { name := "joinStep", desc := "(II)V", sig := { parameters := [.int, .int], returnType := none }, accessFlags := 2, code := some k2c33 }
def k2c34 : Code := { maxStack := 3, maxLocals := 5, code := prog_1_method_52_code, exceptionTable := #[], attributes := #[] }
def k2m34 : Method := { name := "initPlan", desc := "(III)V", sig := { parameters := [.int, .int, .int], returnType := none }, accessFlags := 2, code := some k2c34 }
def k2c35 : Code := { maxStack := 5, maxLocals := 3, code := prog_1_method_53_code, exceptionTable := #[], attributes := #[] }
def k2m35 : Method := { name := "newScanPlan", desc := "(I)I", sig := { parameters := [.int], returnType := some .int }, accessFlags := 2, code := some k2c35 }
def k2c36 : Code := { maxStack := 4, maxLocals := 8, code := prog_1_method_54_code, exceptionTable := #[], attributes := #[] }
def k2m36 : Method := { name := "newJoinPlan", desc := "(III)I", sig := { parameters := [.int, .int, .int], returnType := some .int }, accessFlags := 2, code := some k2c36 }
def k2c37 : Code := { maxStack := 4, maxLocals := 3, code := prog_1_method_55_code, exceptionTable := #[], attributes := #[] }
def k2m37 : Method := { name := "copyAtom", desc := "(I)I", sig := { parameters := [.int], returnType := some .int }, accessFlags := 2, code := some k2c37 }
def k2c38 : Code := { maxStack := 4, maxLocals := 5, code := prog_1_method_56_code, exceptionTable := #[], attributes := #[] }
def k2m38 : Method := { name := "applySelect", desc := "(II)V", sig := { parameters := [.int, .int], returnType := none }, accessFlags := 2, code := some k2c38 }
def k2c39 : Code := { maxStack := 3, maxLocals := 3, code := prog_1_method_58_code, exceptionTable := #[], attributes := #[] }
def k2m39 : Method := { name := "mapCol", desc := "(II)I", sig := { parameters := [.int, .int], returnType := some .int }, accessFlags := 2, code := some k2c39 }
def k2c40 : Code := { maxStack := 6, maxLocals := 4, code := prog_1_method_59_code, exceptionTable := #[], attributes := #[] }
def k2m40 : Method := { name := "substitute", desc := "(III)V", sig := { parameters := [.int, .int, .int], returnType := none }, accessFlags := 2, code := some k2c40 }
def k2c41 : Code := { maxStack := 4, maxLocals := 3, code := prog_1_method_60_code, exceptionTable := #[], attributes := #[] }
def k2m41 : Method := { name := "prepend", desc := "(II)V", sig := { parameters := [.int, .int], returnType := none }, accessFlags := 2, code := some k2c41 }
def k2c42 : Code := { maxStack := 3, maxLocals := 2, code := prog_1_method_61_code, exceptionTable := #[], attributes := #[] }
def k2m42 : Method := { name := "pushdownAll", desc := "()V", sig := { parameters := [], returnType := none }, accessFlags := 2, code := some k2c42 }
def k2c43 : Code := { maxStack := 6, maxLocals := 2, code := prog_1_method_62_code, exceptionTable := #[], attributes := #[] }
def k2m43 : Method := { name := "constTruth", desc := "(I)I", sig := { parameters := [.int], returnType := some .int }, accessFlags := 2, code := some k2c43 }
def k2c44 : Code := { maxStack := 3, maxLocals := 7, code := prog_1_method_63_code, exceptionTable := #[], attributes := #[] }
def k2m44 : Method := { name := "foldList", desc := "(IZ)V", sig := { parameters := [.int, .boolean], returnType := none }, accessFlags := 2, code := some k2c44 }
def k2c45 : Code := { maxStack := 5, maxLocals := 6, code := prog_1_method_64_code, exceptionTable := #[], attributes := #[] }
def k2m45 : Method := { name := "pushJoin", desc := "(I)V", sig := { parameters := [.int], returnType := none }, accessFlags := 2, code := some k2c45 }
def k2c46 : Code := { maxStack := 3, maxLocals := 4, code := prog_1_method_65_code, exceptionTable := #[], attributes := #[] }
def k2m46 : Method := { name := "sideOf", desc := "(II)I", sig := { parameters := [.int, .int], returnType := some .int }, accessFlags := 2, code := some k2c46 }
def k2c47 : Code := { maxStack := 3, maxLocals := 6, code := prog_1_method_66_code, exceptionTable := #[], attributes := #[] }
def k2m47 : Method := { name := "listRejectsRight", desc := "(II)Z", sig := { parameters := [.int, .int], returnType := some .boolean }, accessFlags := 2, code := some k2c47 }
def k2c48 : Code := { maxStack := 4, maxLocals := 12, code := prog_1_method_68_code, exceptionTable := #[], attributes := #[] }
def k2m48 : Method := { name := "distribute", desc := "(IIIZ)V", sig := { parameters := [.int, .int, .int, .boolean], returnType := none }, accessFlags := 2, code := some k2c48 }
def k2c49 : Code := { maxStack := 5, maxLocals := 3, code := prog_1_method_69_code, exceptionTable := #[], attributes := #[] }
def k2m49 : Method := { name := "pruneAll", desc := "(I)V", sig := { parameters := [.int], returnType := none }, accessFlags := 2, code := some k2c49 }
def k2c50 : Code := { maxStack := 5, maxLocals := 5, code := prog_1_method_70_code, exceptionTable := #[], attributes := #[] }
def k2m50 : Method := { name := "compactMap", desc := "(II)V", sig := { parameters := [.int, .int], returnType := none }, accessFlags := 2, code := some k2c50 }
def k2c51 : Code := { maxStack := 5, maxLocals := 9, code := prog_1_method_71_code, exceptionTable := #[], attributes := #[] }
def k2m51 : Method := { name := "pruneJoinInputs", desc := "(I)V", sig := { parameters := [.int], returnType := none }, accessFlags := 2, code := some k2c51 }
def k2c52 : Code := { maxStack := 5, maxLocals := 4, code := prog_1_method_72_code, exceptionTable := #[], attributes := #[] }
def k2m52 : Method := { name := "usedMapMask", desc := "(I)I", sig := { parameters := [.int], returnType := some .int }, accessFlags := 2, code := some k2c52 }
def k2c53 : Code := { maxStack := 4, maxLocals := 5, code := prog_1_method_73_code, exceptionTable := #[], attributes := #[] }
def k2m53 : Method := { name := "usedListMask", desc := "(I)I", sig := { parameters := [.int], returnType := some .int }, accessFlags := 2, code := some k2c53 }
def k2c54 : Code := { maxStack := 3, maxLocals := 4, code := prog_1_method_74_code, exceptionTable := #[], attributes := #[] }
def k2m54 : Method := { name := "popcount", desc := "(I)I", sig := { parameters := [.int], returnType := some .int }, accessFlags := 2, code := some k2c54 }
def k2c55 : Code := { maxStack := 4, maxLocals := 6, code := prog_1_method_75_code, exceptionTable := #[], attributes := #[] }
def k2m55 : Method := { name := "newCol", desc := "(IIII)I", sig := { parameters := [.int, .int, .int, .int], returnType := some .int }, accessFlags := 2, code := some k2c55 }
def k2c56 : Code := { maxStack := 7, maxLocals := 6, code := prog_1_method_76_code, exceptionTable := #[], attributes := #[] }
def k2m56 : Method := { name := "renumberMap", desc := "(IIII)V", sig := { parameters := [.int, .int, .int, .int], returnType := none }, accessFlags := 2, code := some k2c56 }
def k2c57 : Code := { maxStack := 7, maxLocals := 7, code := prog_1_method_77_code, exceptionTable := #[], attributes := #[] }
def k2m57 : Method := { name := "renumberList", desc := "(IIII)V", sig := { parameters := [.int, .int, .int, .int], returnType := none }, accessFlags := 2, code := some k2c57 }
def k2c58 : Code := { maxStack := 3, maxLocals := 2, code := prog_1_method_78_code, exceptionTable := #[], attributes := #[] }
def k2m58 : Method := { name := "evalPlanAll", desc := "()V", sig := { parameters := [], returnType := none }, accessFlags := 2, code := some k2c58 }
def k2c59 : Code := { maxStack := 6, maxLocals := 4, code := prog_1_method_79_code, exceptionTable := #[], attributes := #[] }
def k2m59 : Method := { name := "listHolds", desc := "(I)Z", sig := { parameters := [.int], returnType := some .boolean }, accessFlags := 2, code := some k2c59 }
def k2c60 : Code := { maxStack := 6, maxLocals := 5, code := prog_1_method_80_code, exceptionTable := #[], attributes := #[] }
def k2m60 : Method := { name := "emitMapped", desc := "(II)I", sig := { parameters := [.int, .int], returnType := some .int }, accessFlags := 2, code := some k2c60 }
def k2c61 : Code := { maxStack := 3, maxLocals := 5, code := prog_1_method_81_code, exceptionTable := #[], attributes := #[] }
def k2m61 : Method := { name := "evalPlanScan", desc := "(I)V", sig := { parameters := [.int], returnType := none }, accessFlags := 2, code := some k2c61 }
def k2c62 : Code := { maxStack := 5, maxLocals := 11, code := prog_1_method_82_code, exceptionTable := #[], attributes := #[] }
def k2m62 : Method := { name := "evalPlanJoin", desc := "(I)V", sig := { parameters := [.int], returnType := none }, accessFlags := 2, code := some k2c62 }
def k2c63 : Code := { maxStack := 3, maxLocals := 3, code := prog_1_method_83_code, exceptionTable := #[], attributes := #[] }
def k2m63 : Method := { name := "emitFiltered", desc := "(II)I", sig := { parameters := [.int, .int], returnType := some .int }, accessFlags := 2, code := some k2c63 }
/-- QueryRewriter -/
def k2 : Class := { plain "QueryRewriter" (some 0) with
  accessFlags := 49
  interfaces := #[]
  cf := some (fileOf pool2 8 #[] #[{ accessFlags := 1, nameIndex := 5, descriptorIndex := 238, attributes := #[] }, { accessFlags := 2, nameIndex := 170, descriptorIndex := 171, attributes := #[] }, { accessFlags := 1, nameIndex := 463, descriptorIndex := 234, attributes := #[] }, { accessFlags := 2, nameIndex := 180, descriptorIndex := 181, attributes := #[] }, { accessFlags := 1, nameIndex := 464, descriptorIndex := 400, attributes := #[] }, { accessFlags := 1, nameIndex := 467, descriptorIndex := 400, attributes := #[] }, { accessFlags := 2, nameIndex := 200, descriptorIndex := 181, attributes := #[] }, { accessFlags := 2, nameIndex := 203, descriptorIndex := 204, attributes := #[] }, { accessFlags := 2, nameIndex := 197, descriptorIndex := 181, attributes := #[] }, { accessFlags := 2, nameIndex := 193, descriptorIndex := 194, attributes := #[] }, { accessFlags := 1, nameIndex := 469, descriptorIndex := 211, attributes := #[] }, { accessFlags := 1, nameIndex := 470, descriptorIndex := 211, attributes := #[] }, { accessFlags := 1, nameIndex := 472, descriptorIndex := 171, attributes := #[] }, { accessFlags := 1, nameIndex := 476, descriptorIndex := 218, attributes := #[] }, { accessFlags := 1, nameIndex := 477, descriptorIndex := 478, attributes := #[] }, { accessFlags := 1, nameIndex := 479, descriptorIndex := 218, attributes := #[] }, { accessFlags := 2, nameIndex := 207, descriptorIndex := 6, attributes := #[] }, { accessFlags := 2, nameIndex := 227, descriptorIndex := 218, attributes := #[] }, { accessFlags := 2, nameIndex := 217, descriptorIndex := 218, attributes := #[] }, { accessFlags := 2, nameIndex := 230, descriptorIndex := 6, attributes := #[] }, { accessFlags := 2, nameIndex := 233, descriptorIndex := 234, attributes := #[] }, { accessFlags := 2, nameIndex := 237, descriptorIndex := 238, attributes := #[] }, { accessFlags := 2, nameIndex := 242, descriptorIndex := 211, attributes := #[] }, { accessFlags := 2, nameIndex := 249, descriptorIndex := 250, attributes := #[] }, { accessFlags := 2, nameIndex := 245, descriptorIndex := 246, attributes := #[] }, { accessFlags := 2, nameIndex := 274, descriptorIndex := 275, attributes := #[] }, { accessFlags := 2, nameIndex := 409, descriptorIndex := 238, attributes := #[] }, { accessFlags := 2, nameIndex := 284, descriptorIndex := 238, attributes := #[] }, { accessFlags := 2, nameIndex := 210, descriptorIndex := 211, attributes := #[] }, { accessFlags := 2, nameIndex := 287, descriptorIndex := 181, attributes := #[] }, { accessFlags := 2, nameIndex := 315, descriptorIndex := 204, attributes := #[] }, { accessFlags := 2, nameIndex := 324, descriptorIndex := 204, attributes := #[] }, { accessFlags := 2, nameIndex := 318, descriptorIndex := 6, attributes := #[] }, { accessFlags := 2, nameIndex := 327, descriptorIndex := 238, attributes := #[] }, { accessFlags := 2, nameIndex := 339, descriptorIndex := 340, attributes := #[] }, { accessFlags := 2, nameIndex := 321, descriptorIndex := 211, attributes := #[] }, { accessFlags := 2, nameIndex := 336, descriptorIndex := 171, attributes := #[] }, { accessFlags := 2, nameIndex := 343, descriptorIndex := 211, attributes := #[] }, { accessFlags := 2, nameIndex := 330, descriptorIndex := 238, attributes := #[] }, { accessFlags := 2, nameIndex := 352, descriptorIndex := 218, attributes := #[] }, { accessFlags := 2, nameIndex := 349, descriptorIndex := 340, attributes := #[] }, { accessFlags := 2, nameIndex := 346, descriptorIndex := 238, attributes := #[] }, { accessFlags := 2, nameIndex := 293, descriptorIndex := 6, attributes := #[] }, { accessFlags := 2, nameIndex := 362, descriptorIndex := 211, attributes := #[] }, { accessFlags := 2, nameIndex := 355, descriptorIndex := 356, attributes := #[] }, { accessFlags := 2, nameIndex := 359, descriptorIndex := 204, attributes := #[] }, { accessFlags := 2, nameIndex := 375, descriptorIndex := 218, attributes := #[] }, { accessFlags := 2, nameIndex := 365, descriptorIndex := 234, attributes := #[] }, { accessFlags := 2, nameIndex := 371, descriptorIndex := 372, attributes := #[] }, { accessFlags := 2, nameIndex := 296, descriptorIndex := 204, attributes := #[] }, { accessFlags := 2, nameIndex := 378, descriptorIndex := 238, attributes := #[] }, { accessFlags := 2, nameIndex := 381, descriptorIndex := 204, attributes := #[] }, { accessFlags := 2, nameIndex := 384, descriptorIndex := 211, attributes := #[] }, { accessFlags := 2, nameIndex := 387, descriptorIndex := 211, attributes := #[] }, { accessFlags := 2, nameIndex := 396, descriptorIndex := 211, attributes := #[] }, { accessFlags := 2, nameIndex := 399, descriptorIndex := 400, attributes := #[] }, { accessFlags := 2, nameIndex := 390, descriptorIndex := 275, attributes := #[] }, { accessFlags := 2, nameIndex := 393, descriptorIndex := 275, attributes := #[] }, { accessFlags := 2, nameIndex := 299, descriptorIndex := 6, attributes := #[] }, { accessFlags := 2, nameIndex := 412, descriptorIndex := 181, attributes := #[] }, { accessFlags := 2, nameIndex := 415, descriptorIndex := 218, attributes := #[] }, { accessFlags := 2, nameIndex := 403, descriptorIndex := 204, attributes := #[] }, { accessFlags := 2, nameIndex := 406, descriptorIndex := 204, attributes := #[] }, { accessFlags := 2, nameIndex := 418, descriptorIndex := 218, attributes := #[] }] 49 2 #[] #[{ accessFlags := 25, nameIndex := 419, descriptorIndex := 12, attributes := #[] }, { accessFlags := 25, nameIndex := 421, descriptorIndex := 12, attributes := #[] }, { accessFlags := 25, nameIndex := 423, descriptorIndex := 12, attributes := #[] }, { accessFlags := 25, nameIndex := 425, descriptorIndex := 12, attributes := #[] }, { accessFlags := 25, nameIndex := 427, descriptorIndex := 12, attributes := #[] }, { accessFlags := 25, nameIndex := 429, descriptorIndex := 12, attributes := #[] }, { accessFlags := 25, nameIndex := 431, descriptorIndex := 12, attributes := #[] }, { accessFlags := 25, nameIndex := 433, descriptorIndex := 12, attributes := #[] }, { accessFlags := 25, nameIndex := 435, descriptorIndex := 12, attributes := #[] }, { accessFlags := 25, nameIndex := 437, descriptorIndex := 12, attributes := #[] }, { accessFlags := 25, nameIndex := 439, descriptorIndex := 12, attributes := #[] }, { accessFlags := 25, nameIndex := 441, descriptorIndex := 12, attributes := #[] }, { accessFlags := 25, nameIndex := 443, descriptorIndex := 12, attributes := #[] }, { accessFlags := 25, nameIndex := 444, descriptorIndex := 12, attributes := #[] }, { accessFlags := 25, nameIndex := 445, descriptorIndex := 12, attributes := #[] }, { accessFlags := 25, nameIndex := 446, descriptorIndex := 12, attributes := #[] }, { accessFlags := 25, nameIndex := 447, descriptorIndex := 12, attributes := #[] }, { accessFlags := 25, nameIndex := 448, descriptorIndex := 12, attributes := #[] }, { accessFlags := 25, nameIndex := 449, descriptorIndex := 12, attributes := #[] }, { accessFlags := 25, nameIndex := 450, descriptorIndex := 12, attributes := #[] }, { accessFlags := 25, nameIndex := 451, descriptorIndex := 12, attributes := #[] }, { accessFlags := 25, nameIndex := 453, descriptorIndex := 12, attributes := #[] }, { accessFlags := 25, nameIndex := 455, descriptorIndex := 12, attributes := #[] }, { accessFlags := 25, nameIndex := 456, descriptorIndex := 12, attributes := #[] }, { accessFlags := 25, nameIndex := 458, descriptorIndex := 12, attributes := #[] }, { accessFlags := 25, nameIndex := 459, descriptorIndex := 12, attributes := #[] }, { accessFlags := 18, nameIndex := 11, descriptorIndex := 12, attributes := #[] }, { accessFlags := 18, nameIndex := 15, descriptorIndex := 12, attributes := #[] }, { accessFlags := 18, nameIndex := 18, descriptorIndex := 12, attributes := #[] }, { accessFlags := 18, nameIndex := 21, descriptorIndex := 12, attributes := #[] }, { accessFlags := 18, nameIndex := 24, descriptorIndex := 12, attributes := #[] }, { accessFlags := 18, nameIndex := 27, descriptorIndex := 12, attributes := #[] }, { accessFlags := 18, nameIndex := 30, descriptorIndex := 12, attributes := #[] }, { accessFlags := 2, nameIndex := 174, descriptorIndex := 12, attributes := #[] }, { accessFlags := 2, nameIndex := 177, descriptorIndex := 12, attributes := #[] }, { accessFlags := 2, nameIndex := 33, descriptorIndex := 34, attributes := #[] }, { accessFlags := 2, nameIndex := 37, descriptorIndex := 34, attributes := #[] }, { accessFlags := 2, nameIndex := 40, descriptorIndex := 34, attributes := #[] }, { accessFlags := 2, nameIndex := 184, descriptorIndex := 12, attributes := #[] }, { accessFlags := 2, nameIndex := 43, descriptorIndex := 34, attributes := #[] }, { accessFlags := 2, nameIndex := 46, descriptorIndex := 34, attributes := #[] }, { accessFlags := 2, nameIndex := 49, descriptorIndex := 34, attributes := #[] }, { accessFlags := 2, nameIndex := 52, descriptorIndex := 34, attributes := #[] }, { accessFlags := 2, nameIndex := 190, descriptorIndex := 12, attributes := #[] }, { accessFlags := 2, nameIndex := 55, descriptorIndex := 34, attributes := #[] }, { accessFlags := 2, nameIndex := 58, descriptorIndex := 34, attributes := #[] }, { accessFlags := 2, nameIndex := 61, descriptorIndex := 34, attributes := #[] }, { accessFlags := 2, nameIndex := 64, descriptorIndex := 34, attributes := #[] }, { accessFlags := 2, nameIndex := 67, descriptorIndex := 34, attributes := #[] }, { accessFlags := 2, nameIndex := 70, descriptorIndex := 34, attributes := #[] }, { accessFlags := 2, nameIndex := 73, descriptorIndex := 34, attributes := #[] }, { accessFlags := 2, nameIndex := 76, descriptorIndex := 34, attributes := #[] }, { accessFlags := 2, nameIndex := 187, descriptorIndex := 12, attributes := #[] }, { accessFlags := 2, nameIndex := 79, descriptorIndex := 34, attributes := #[] }, { accessFlags := 2, nameIndex := 82, descriptorIndex := 34, attributes := #[] }, { accessFlags := 2, nameIndex := 85, descriptorIndex := 34, attributes := #[] }, { accessFlags := 2, nameIndex := 88, descriptorIndex := 34, attributes := #[] }, { accessFlags := 2, nameIndex := 91, descriptorIndex := 34, attributes := #[] }, { accessFlags := 2, nameIndex := 94, descriptorIndex := 34, attributes := #[] }, { accessFlags := 2, nameIndex := 97, descriptorIndex := 98, attributes := #[] }, { accessFlags := 2, nameIndex := 101, descriptorIndex := 34, attributes := #[] }, { accessFlags := 2, nameIndex := 104, descriptorIndex := 34, attributes := #[] }, { accessFlags := 2, nameIndex := 107, descriptorIndex := 34, attributes := #[] }, { accessFlags := 2, nameIndex := 221, descriptorIndex := 12, attributes := #[] }, { accessFlags := 2, nameIndex := 224, descriptorIndex := 12, attributes := #[] }, { accessFlags := 2, nameIndex := 110, descriptorIndex := 34, attributes := #[] }, { accessFlags := 2, nameIndex := 290, descriptorIndex := 12, attributes := #[] }, { accessFlags := 2, nameIndex := 113, descriptorIndex := 34, attributes := #[] }, { accessFlags := 2, nameIndex := 116, descriptorIndex := 34, attributes := #[] }, { accessFlags := 2, nameIndex := 119, descriptorIndex := 34, attributes := #[] }, { accessFlags := 2, nameIndex := 122, descriptorIndex := 34, attributes := #[] }, { accessFlags := 2, nameIndex := 125, descriptorIndex := 34, attributes := #[] }, { accessFlags := 2, nameIndex := 128, descriptorIndex := 34, attributes := #[] }, { accessFlags := 2, nameIndex := 131, descriptorIndex := 34, attributes := #[] }, { accessFlags := 2, nameIndex := 134, descriptorIndex := 34, attributes := #[] }, { accessFlags := 2, nameIndex := 137, descriptorIndex := 98, attributes := #[] }, { accessFlags := 2, nameIndex := 140, descriptorIndex := 34, attributes := #[] }, { accessFlags := 2, nameIndex := 302, descriptorIndex := 12, attributes := #[] }, { accessFlags := 2, nameIndex := 143, descriptorIndex := 34, attributes := #[] }, { accessFlags := 2, nameIndex := 146, descriptorIndex := 34, attributes := #[] }, { accessFlags := 2, nameIndex := 149, descriptorIndex := 34, attributes := #[] }, { accessFlags := 2, nameIndex := 152, descriptorIndex := 34, attributes := #[] }, { accessFlags := 2, nameIndex := 155, descriptorIndex := 34, attributes := #[] }, { accessFlags := 2, nameIndex := 305, descriptorIndex := 12, attributes := #[] }, { accessFlags := 2, nameIndex := 158, descriptorIndex := 34, attributes := #[] }, { accessFlags := 2, nameIndex := 161, descriptorIndex := 34, attributes := #[] }, { accessFlags := 2, nameIndex := 308, descriptorIndex := 12, attributes := #[] }, { accessFlags := 2, nameIndex := 164, descriptorIndex := 34, attributes := #[] }, { accessFlags := 2, nameIndex := 311, descriptorIndex := 312, attributes := #[] }, { accessFlags := 2, nameIndex := 167, descriptorIndex := 34, attributes := #[] }])
  fields := #[{ name := "NULL", type := .int, accessFlags := 25, slot := 0, constantValue := 0 }, { name := "ERR_RANGE", type := .int, accessFlags := 25, slot := 1, constantValue := 0 }, { name := "ERR_FULL", type := .int, accessFlags := 25, slot := 2, constantValue := 0 }, { name := "ERR_TOO_BIG", type := .int, accessFlags := 25, slot := 3, constantValue := 0 }, { name := "EQ", type := .int, accessFlags := 25, slot := 4, constantValue := 0 }, { name := "NE", type := .int, accessFlags := 25, slot := 5, constantValue := 0 }, { name := "LT", type := .int, accessFlags := 25, slot := 6, constantValue := 0 }, { name := "LE", type := .int, accessFlags := 25, slot := 7, constantValue := 0 }, { name := "GT", type := .int, accessFlags := 25, slot := 8, constantValue := 0 }, { name := "GE", type := .int, accessFlags := 25, slot := 9, constantValue := 0 }, { name := "ISNULL", type := .int, accessFlags := 25, slot := 10, constantValue := 0 }, { name := "NOTNULL", type := .int, accessFlags := 25, slot := 11, constantValue := 0 }, { name := "A_COL", type := .int, accessFlags := 25, slot := 12, constantValue := 0 }, { name := "B_COL", type := .int, accessFlags := 25, slot := 13, constantValue := 0 }, { name := "INNER", type := .int, accessFlags := 25, slot := 14, constantValue := 0 }, { name := "LEFT", type := .int, accessFlags := 25, slot := 15, constantValue := 0 }, { name := "MODE_DIRECT", type := .int, accessFlags := 25, slot := 16, constantValue := 0 }, { name := "MODE_REWRITTEN", type := .int, accessFlags := 25, slot := 17, constantValue := 0 }, { name := "MAX_TABLES", type := .int, accessFlags := 25, slot := 18, constantValue := 0 }, { name := "MAX_TABLE_COLS", type := .int, accessFlags := 25, slot := 19, constantValue := 0 }, { name := "MAX_NODES", type := .int, accessFlags := 25, slot := 20, constantValue := 0 }, { name := "MAX_WIDTH", type := .int, accessFlags := 25, slot := 21, constantValue := 0 }, { name := "MAX_PENDING", type := .int, accessFlags := 25, slot := 22, constantValue := 0 }, { name := "MAX_ATOMS", type := .int, accessFlags := 25, slot := 23, constantValue := 0 }, { name := "MAX_VIEWS", type := .int, accessFlags := 25, slot := 24, constantValue := 0 }, { name := "MAX_RESULT_ROWS", type := .int, accessFlags := 25, slot := 25, constantValue := 0 }, { name := "tyScan", type := .int, accessFlags := 18, slot := 0, constantValue := 0 }, { name := "tySelect", type := .int, accessFlags := 18, slot := 1, constantValue := 0 }, { name := "tyProject", type := .int, accessFlags := 18, slot := 2, constantValue := 0 }, { name := "tyJoin", type := .int, accessFlags := 18, slot := 3, constantValue := 0 }, { name := "tyView", type := .int, accessFlags := 18, slot := 4, constantValue := 0 }, { name := "plScan", type := .int, accessFlags := 18, slot := 5, constantValue := 0 }, { name := "plJoin", type := .int, accessFlags := 18, slot := 6, constantValue := 0 }, { name := "rowCap", type := .int, accessFlags := 2, slot := 7, constantValue := 0 }, { name := "weightLimit", type := .int, accessFlags := 2, slot := 8, constantValue := 0 }, { name := "tCols", type := (.array .int), accessFlags := 2, slot := 9, constantValue := 0 }, { name := "tRows", type := (.array .int), accessFlags := 2, slot := 10, constantValue := 0 }, { name := "tCells", type := (.array .int), accessFlags := 2, slot := 11, constantValue := 0 }, { name := "pendN", type := .int, accessFlags := 2, slot := 12, constantValue := 0 }, { name := "pOp", type := (.array .int), accessFlags := 2, slot := 13, constantValue := 0 }, { name := "pA", type := (.array .int), accessFlags := 2, slot := 14, constantValue := 0 }, { name := "pB", type := (.array .int), accessFlags := 2, slot := 15, constantValue := 0 }, { name := "pFl", type := (.array .int), accessFlags := 2, slot := 16, constantValue := 0 }, { name := "nodeN", type := .int, accessFlags := 2, slot := 17, constantValue := 0 }, { name := "nType", type := (.array .int), accessFlags := 2, slot := 18, constantValue := 0 }, { name := "nWidth", type := (.array .int), accessFlags := 2, slot := 19, constantValue := 0 }, { name := "nX", type := (.array .int), accessFlags := 2, slot := 20, constantValue := 0 }, { name := "nY", type := (.array .int), accessFlags := 2, slot := 21, constantValue := 0 }, { name := "nKind", type := (.array .int), accessFlags := 2, slot := 22, constantValue := 0 }, { name := "nPacked", type := (.array .int), accessFlags := 2, slot := 23, constantValue := 0 }, { name := "nAtStart", type := (.array .int), accessFlags := 2, slot := 24, constantValue := 0 }, { name := "nAtCnt", type := (.array .int), accessFlags := 2, slot := 25, constantValue := 0 }, { name := "atomN", type := .int, accessFlags := 2, slot := 26, constantValue := 0 }, { name := "aOp", type := (.array .int), accessFlags := 2, slot := 27, constantValue := 0 }, { name := "aA", type := (.array .int), accessFlags := 2, slot := 28, constantValue := 0 }, { name := "aB", type := (.array .int), accessFlags := 2, slot := 29, constantValue := 0 }, { name := "aFl", type := (.array .int), accessFlags := 2, slot := 30, constantValue := 0 }, { name := "viewNode", type := (.array .int), accessFlags := 2, slot := 31, constantValue := 0 }, { name := "weight", type := (.array .int), accessFlags := 2, slot := 32, constantValue := 0 }, { name := "reach", type := (.array .boolean), accessFlags := 2, slot := 33, constantValue := 0 }, { name := "bag", type := (.array .int), accessFlags := 2, slot := 34, constantValue := 0 }, { name := "bagCnt", type := (.array .int), accessFlags := 2, slot := 35, constantValue := 0 }, { name := "rowBuf", type := (.array .int), accessFlags := 2, slot := 36, constantValue := 0 }, { name := "resW", type := .int, accessFlags := 2, slot := 37, constantValue := 0 }, { name := "resN", type := .int, accessFlags := 2, slot := 38, constantValue := 0 }, { name := "res", type := (.array .int), accessFlags := 2, slot := 39, constantValue := 0 }, { name := "planN", type := .int, accessFlags := 2, slot := 40, constantValue := 0 }, { name := "plType", type := (.array .int), accessFlags := 2, slot := 41, constantValue := 0 }, { name := "plTable", type := (.array .int), accessFlags := 2, slot := 42, constantValue := 0 }, { name := "plLeft", type := (.array .int), accessFlags := 2, slot := 43, constantValue := 0 }, { name := "plRight", type := (.array .int), accessFlags := 2, slot := 44, constantValue := 0 }, { name := "plKind", type := (.array .int), accessFlags := 2, slot := 45, constantValue := 0 }, { name := "plLen", type := (.array .int), accessFlags := 2, slot := 46, constantValue := 0 }, { name := "plMap", type := (.array .int), accessFlags := 2, slot := 47, constantValue := 0 }, { name := "needMask", type := (.array .int), accessFlags := 2, slot := 48, constantValue := 0 }, { name := "plEmpty", type := (.array .boolean), accessFlags := 2, slot := 49, constantValue := 0 }, { name := "head", type := (.array .int), accessFlags := 2, slot := 50, constantValue := 0 }, { name := "qN", type := .int, accessFlags := 2, slot := 51, constantValue := 0 }, { name := "qOp", type := (.array .int), accessFlags := 2, slot := 52, constantValue := 0 }, { name := "qA", type := (.array .int), accessFlags := 2, slot := 53, constantValue := 0 }, { name := "qB", type := (.array .int), accessFlags := 2, slot := 54, constantValue := 0 }, { name := "qFl", type := (.array .int), accessFlags := 2, slot := 55, constantValue := 0 }, { name := "qNext", type := (.array .int), accessFlags := 2, slot := 56, constantValue := 0 }, { name := "sp", type := .int, accessFlags := 2, slot := 57, constantValue := 0 }, { name := "stNode", type := (.array .int), accessFlags := 2, slot := 58, constantValue := 0 }, { name := "stPhase", type := (.array .int), accessFlags := 2, slot := 59, constantValue := 0 }, { name := "rsp", type := .int, accessFlags := 2, slot := 60, constantValue := 0 }, { name := "resStack", type := (.array .int), accessFlags := 2, slot := 61, constantValue := 0 }, { name := "buildFail", type := .boolean, accessFlags := 2, slot := 62, constantValue := 0 }, { name := "tmpMap", type := (.array .int), accessFlags := 2, slot := 63, constantValue := 0 }]
  methods := #[k2m0, k2m1, k2m2, k2m3, k2m4, k2m5, k2m6, k2m7, k2m8, k2m9, k2m10, k2m11, k2m12, k2m13, k2m14, k2m15, k2m16, k2m17, k2m18, k2m19, k2m20, k2m21, k2m22, k2m23, k2m24, k2m25, k2m26, k2m27, k2m28, k2m29, k2m30, k2m31, k2m32, k2m33, k2m34, k2m35, k2m36, k2m37, k2m38, k2m39, k2m40, k2m41, k2m42, k2m43, k2m44, k2m45, k2m46, k2m47, k2m48, k2m49, k2m50, k2m51, k2m52, k2m53, k2m54, k2m55, k2m56, k2m57, k2m58, k2m59, k2m60, k2m61, k2m62, k2m63]
  instanceTypes := #[.int, .int, .int, .int, .int, .int, .int, .int, .int, (.array .int), (.array .int), (.array .int), .int, (.array .int), (.array .int), (.array .int), (.array .int), .int, (.array .int), (.array .int), (.array .int), (.array .int), (.array .int), (.array .int), (.array .int), (.array .int), .int, (.array .int), (.array .int), (.array .int), (.array .int), (.array .int), (.array .int), (.array .boolean), (.array .int), (.array .int), (.array .int), .int, .int, (.array .int), .int, (.array .int), (.array .int), (.array .int), (.array .int), (.array .int), (.array .int), (.array .int), (.array .int), (.array .boolean), (.array .int), .int, (.array .int), (.array .int), (.array .int), (.array .int), (.array .int), .int, (.array .int), (.array .int), .int, (.array .int), .boolean, (.array .int)]
  staticTypes := #[.int, .int, .int, .int, .int, .int, .int, .int, .int, .int, .int, .int, .int, .int, .int, .int, .int, .int, .int, .int, .int, .int, .int, .int, .int, .int]
  resolved := Array.replicate 483 none
  statics := none }

def pool3 : Array CpInfo := pool [(1, u "java/lang/Cloneable"), (0, .class_ 1), (0, u "java/lang/Object"), (0, .class_ 3)] 3

/-- java/lang/Cloneable -/
def k3 : Class := { plain "java/lang/Cloneable" (some 0) with
  accessFlags := 1537
  interfaces := #[]
  cf := some (fileOf pool3 2 #[] #[] 1537 4 #[] #[])
  fields := #[]
  methods := #[]
  instanceTypes := #[]
  staticTypes := #[]
  resolved := Array.replicate 8 none
  statics := none }

def pool4 : Array CpInfo := pool [(1, u "java/io/Serializable"), (0, .class_ 1), (0, u "java/lang/Object"), (0, .class_ 3)] 3

/-- java/io/Serializable -/
def k4 : Class := { plain "java/io/Serializable" (some 0) with
  accessFlags := 1537
  interfaces := #[]
  cf := some (fileOf pool4 2 #[] #[] 1537 4 #[] #[])
  fields := #[]
  methods := #[]
  instanceTypes := #[]
  staticTypes := #[]
  resolved := Array.replicate 8 none
  statics := none }

/-- the primitive boolean -/
def k5 : Class := { plain "boolean" none with kind := .primitive 'Z', accessFlags := 0x411 }
/-- [Z -/
def k6 : Class := { plain "[Z" (some 0) with kind := .array 5 .boolean, interfaces := #[3, 4], accessFlags := 1041 }

/-- the primitive byte -/
def k7 : Class := { plain "byte" none with kind := .primitive 'B', accessFlags := 0x411 }
/-- [B -/
def k8 : Class := { plain "[B" (some 0) with kind := .array 7 .byte, interfaces := #[3, 4], accessFlags := 1041 }

/-- the primitive int -/
def k9 : Class := { plain "int" none with kind := .primitive 'I', accessFlags := 0x411 }
/-- [I -/
def k10 : Class := { plain "[I" (some 0) with kind := .array 9 .int, interfaces := #[3, 4], accessFlags := 1041 }

def heap : Heap := #[]
def classes : Array Class := #[k0, k1, k2, k3, k4, k5, k6, k7, k8, k9, k10]
def interned : List (Array UInt16 × Addr) := []
def slotsUsed : Nat := 0
def theMethod : MethodId := ⟨1, 1⟩
def args0 : Array Value := #[.int 5, .int 6, .int 5, .int 2]
def aboutOver (below : List Frame) : State where
  vm := { classes := classes, interned := interned.toArray }
  heap := heap
  slotsUsed := slotsUsed
  threads := #[{ frames := .invoking theMethod args0 :: below }]
def below0 : List Frame := [.native { method := ⟨0, 0⟩, args := #[] }]
def about1 : State := aboutOver below0
def p0 : Program := .bare "" "" ""
def e0 : Env := launch0.env 0 0 0
theorem w_frames : about1.frames = Frame.invoking theMethod args0 :: below0 := rfl
set_option maxRecDepth 65536 in
theorem w_args : argsFit about1.vm theMethod args0 = true := by decide +kernel
set_option maxRecDepth 65536 in
theorem w_heap : heapFits about1 = true := by decide +kernel
set_option maxRecDepth 65536 in
theorem w_runnable : about1.curStatus? = some .runnable := by decide +kernel
set_option maxRecDepth 65536 in
theorem w_alone : about1.alone = true := by decide +kernel
set_option maxRecDepth 65536 in
theorem w_named : about1.methodNamed? x = some theMethod := by decide +kernel
set_option maxRecDepth 65536 in
theorem w_hears : about1.hears theMethod below0 = true := by decide +kernel
set_option maxRecDepth 65536 in
theorem w_ripe : about1.ripe theMethod args0 below0 = true := by decide +kernel
theorem w_running : about1.status = .running := rfl
set_option maxRecDepth 65536 in
theorem w_room : about1.hasRoom e0.platform room_1 = true :=
  launch0.hasRoom_least _ room_1 (by decide +kernel) (by decide +kernel) (by decide +kernel) (by decide +kernel) (by decide +kernel) (by decide +kernel)
theorem allAtoms_all (ts : List Jvm.Cond) (a : Array Jvm.Value) (st : Jvm.State) : (allAtoms ts).before a st = ts.all (fun c => c.before a st) := by
  induction ts with
  | nil => rfl
  | cons c t ih =>
    show (Jvm.Cond.and c (allAtoms t)).before a st = _
    rw [Jvm.Cond.before_and, ih, List.all_cons]
def words1 : List Jvm.Cond := Jvm.Cond.code x code maxLocals ret :: tables_1
/-- a 'code' word, met by the world's own term for the bytes: nothing is compared byte by byte -/
theorem code_word {y : MethodName} {bytes : ByteArray} {mx : Nat} {rt : Option FieldType} {a : Array Value} {s : State} {m : MethodId} {meth : Method} {c : Code} (h1 : s.methodNamed? y = some m) (h2 : s.vm.method? m = some meth) (h3 : meth.code = some c) (h4 : c.code = bytes)
    (h5 : (c.maxLocals == mx && c.exceptionTable.isEmpty && decide (c.maxStack ≤ mostOperands) && decide (meth.sig.returnType = rt) && !meth.locks && decide (parseMethodDescriptor y.desc = some meth.sig)) = true) : (Jvm.Cond.code y bytes mx rt).before a s = true := by
  simp only [Bool.and_eq_true, beq_iff_eq, Bool.not_eq_true', decide_eq_true_eq] at h5
  obtain ⟨⟨⟨⟨⟨g1, g2⟩, g3⟩, g4⟩, g5⟩, g6⟩ := h5
  simp [Cond.before, Cond.holds, Cond.value, h1, h2, h3, h4, g1, g2, g3, g4, g5, g6]
def isCode : Jvm.Cond → Bool
  | .code _ _ _ _ => true
  | _ => false
theorem all_split {L : List Jvm.Cond} {P : Jvm.Cond → Bool} (h1 : L.all (fun c => isCode c || P c) = true) (h2 : ∀ c ∈ L.filter isCode, P c = true) : L.all P = true := by
  refine List.all_eq_true.mpr fun c hc => ?_
  have h := List.all_eq_true.mp h1 c hc
  rcases Bool.eq_false_or_eq_true (isCode c) with hi | hi
  · exact h2 c (List.mem_filter.mpr ⟨hc, hi⟩)
  · simpa [hi] using h
set_option maxRecDepth 65536 in
theorem w_c0 : (Jvm.Cond.code x code maxLocals ret).before args0 about1 = true := code_word (m := ⟨1, 1⟩) (meth := k1m1) (c := k1c1) (by decide +kernel) rfl rfl rfl (by decide +kernel)
set_option maxRecDepth 65536 in
theorem w_c1 : (Jvm.Cond.code ({ cls := "QueryRewriter", name := "<init>", desc := "(II)V" } : Jvm.MethodName) prog_1_method_1_code (3 : Nat) (Option.none : Option Jvm.ClassFile.FieldType)).before args0 about1 = true := code_word (m := ⟨2, 0⟩) (meth := k2m0) (c := k2c0) (by decide +kernel) rfl rfl rfl (by decide +kernel)
set_option maxRecDepth 65536 in
theorem w_c2 : (Jvm.Cond.code ({ cls := "java/lang/Object", name := "<init>", desc := "()V" } : Jvm.MethodName) object_method_1_code (1 : Nat) (Option.none : Option Jvm.ClassFile.FieldType)).before args0 about1 = true := code_word (m := ⟨0, 0⟩) (meth := k0m0) (c := k0c0) (by decide +kernel) rfl rfl rfl (by decide +kernel)
set_option maxRecDepth 65536 in
theorem w_c3 : (Jvm.Cond.code ({ cls := "QueryRewriter", name := "clamp", desc := "(III)I" } : Jvm.MethodName) prog_1_method_2_code (4 : Nat) (Option.some Jvm.ClassFile.FieldType.int)).before args0 about1 = true := code_word (m := ⟨2, 1⟩) (meth := k2m1) (c := k2c1) (by decide +kernel) rfl rfl rfl (by decide +kernel)
set_option maxRecDepth 65536 in
theorem w_c4 : (Jvm.Cond.code ({ cls := "QueryRewriter", name := "createTable", desc := "(II)Z" } : Jvm.MethodName) prog_1_method_3_code (3 : Nat) (Option.some Jvm.ClassFile.FieldType.boolean)).before args0 about1 = true := code_word (m := ⟨2, 2⟩) (meth := k2m2) (c := k2c2) (by decide +kernel) rfl rfl rfl (by decide +kernel)
set_option maxRecDepth 65536 in
theorem w_c5 : (Jvm.Cond.code ({ cls := "QueryRewriter", name := "insert", desc := "(IIII)I" } : Jvm.MethodName) prog_1_method_5_code (7 : Nat) (Option.some Jvm.ClassFile.FieldType.int)).before args0 about1 = true := code_word (m := ⟨2, 4⟩) (meth := k2m4) (c := k2c4) (by decide +kernel) rfl rfl rfl (by decide +kernel)
set_option maxRecDepth 65536 in
theorem w_c6 : (Jvm.Cond.code ({ cls := "QueryRewriter", name := "tableExists", desc := "(I)Z" } : Jvm.MethodName) prog_1_method_4_code (2 : Nat) (Option.some Jvm.ClassFile.FieldType.boolean)).before args0 about1 = true := code_word (m := ⟨2, 3⟩) (meth := k2m3) (c := k2c3) (by decide +kernel) rfl rfl rfl (by decide +kernel)
set_option maxRecDepth 65536 in
theorem w_c7 : (Jvm.Cond.code ({ cls := "QueryRewriter", name := "scan", desc := "(I)I" } : Jvm.MethodName) prog_1_method_14_code (2 : Nat) (Option.some Jvm.ClassFile.FieldType.int)).before args0 about1 = true := code_word (m := ⟨2, 10⟩) (meth := k2m10) (c := k2c10) (by decide +kernel) rfl rfl rfl (by decide +kernel)
set_option maxRecDepth 65536 in
theorem w_c8 : (Jvm.Cond.code ({ cls := "QueryRewriter", name := "newNode", desc := "(IIIII)I" } : Jvm.MethodName) prog_1_method_13_code (7 : Nat) (Option.some Jvm.ClassFile.FieldType.int)).before args0 about1 = true := code_word (m := ⟨2, 9⟩) (meth := k2m9) (c := k2c9) (by decide +kernel) rfl rfl rfl (by decide +kernel)
set_option maxRecDepth 65536 in
theorem w_c9 : (Jvm.Cond.code ({ cls := "QueryRewriter", name := "atom", desc := "(IIII)I" } : Jvm.MethodName) prog_1_method_8_code (7 : Nat) (Option.some Jvm.ClassFile.FieldType.int)).before args0 about1 = true := code_word (m := ⟨2, 5⟩) (meth := k2m5) (c := k2c5) (by decide +kernel) rfl rfl rfl (by decide +kernel)
set_option maxRecDepth 65536 in
theorem w_c10 : (Jvm.Cond.code ({ cls := "QueryRewriter", name := "join", desc := "(III)I" } : Jvm.MethodName) prog_1_method_17_code (6 : Nat) (Option.some Jvm.ClassFile.FieldType.int)).before args0 about1 = true := code_word (m := ⟨2, 12⟩) (meth := k2m12) (c := k2c12) (by decide +kernel) rfl rfl rfl (by decide +kernel)
set_option maxRecDepth 65536 in
theorem w_c11 : (Jvm.Cond.code ({ cls := "QueryRewriter", name := "nodeExists", desc := "(I)Z" } : Jvm.MethodName) prog_1_method_12_code (2 : Nat) (Option.some Jvm.ClassFile.FieldType.boolean)).before args0 about1 = true := code_word (m := ⟨2, 8⟩) (meth := k2m8) (c := k2c8) (by decide +kernel) rfl rfl rfl (by decide +kernel)
set_option maxRecDepth 65536 in
theorem w_c12 : (Jvm.Cond.code ({ cls := "QueryRewriter", name := "pendingFits", desc := "(I)Z" } : Jvm.MethodName) prog_1_method_10_code (3 : Nat) (Option.some Jvm.ClassFile.FieldType.boolean)).before args0 about1 = true := code_word (m := ⟨2, 6⟩) (meth := k2m6) (c := k2c6) (by decide +kernel) rfl rfl rfl (by decide +kernel)
set_option maxRecDepth 65536 in
theorem w_c13 : (Jvm.Cond.code ({ cls := "QueryRewriter", name := "takePending", desc := "(I)V" } : Jvm.MethodName) prog_1_method_11_code (4 : Nat) (Option.none : Option Jvm.ClassFile.FieldType)).before args0 about1 = true := code_word (m := ⟨2, 7⟩) (meth := k2m7) (c := k2c7) (by decide +kernel) rfl rfl rfl (by decide +kernel)
set_option maxRecDepth 65536 in
theorem w_c14 : (Jvm.Cond.code ({ cls := "QueryRewriter", name := "select", desc := "(I)I" } : Jvm.MethodName) prog_1_method_15_code (3 : Nat) (Option.some Jvm.ClassFile.FieldType.int)).before args0 about1 = true := code_word (m := ⟨2, 11⟩) (meth := k2m11) (c := k2c11) (by decide +kernel) rfl rfl rfl (by decide +kernel)
set_option maxRecDepth 65536 in
theorem w_c15 : (Jvm.Cond.code ({ cls := "QueryRewriter", name := "query", desc := "(II)I" } : Jvm.MethodName) prog_1_method_21_code (4 : Nat) (Option.some Jvm.ClassFile.FieldType.int)).before args0 about1 = true := code_word (m := ⟨2, 13⟩) (meth := k2m13) (c := k2c13) (by decide +kernel) rfl rfl rfl (by decide +kernel)
set_option maxRecDepth 65536 in
theorem w_c16 : (Jvm.Cond.code ({ cls := "QueryRewriter", name := "computeWeights", desc := "()V" } : Jvm.MethodName) prog_1_method_24_code (4 : Nat) (Option.none : Option Jvm.ClassFile.FieldType)).before args0 about1 = true := code_word (m := ⟨2, 16⟩) (meth := k2m16) (c := k2c16) (by decide +kernel) rfl rfl rfl (by decide +kernel)
set_option maxRecDepth 65536 in
theorem w_c17 : (Jvm.Cond.code ({ cls := "QueryRewriter", name := "satMul", desc := "(II)I" } : Jvm.MethodName) prog_1_method_25_code (4 : Nat) (Option.some Jvm.ClassFile.FieldType.int)).before args0 about1 = true := code_word (m := ⟨2, 17⟩) (meth := k2m17) (c := k2c17) (by decide +kernel) rfl rfl rfl (by decide +kernel)
set_option maxRecDepth 65536 in
theorem w_c18 : (Jvm.Cond.code ({ cls := "QueryRewriter", name := "runRewritten", desc := "(I)I" } : Jvm.MethodName) prog_1_method_46_code (3 : Nat) (Option.some Jvm.ClassFile.FieldType.int)).before args0 about1 = true := code_word (m := ⟨2, 28⟩) (meth := k2m28) (c := k2c28) (by decide +kernel) rfl rfl rfl (by decide +kernel)
set_option maxRecDepth 65536 in
theorem w_c19 : (Jvm.Cond.code ({ cls := "QueryRewriter", name := "buildPlan", desc := "(I)Z" } : Jvm.MethodName) prog_1_method_47_code (3 : Nat) (Option.some Jvm.ClassFile.FieldType.boolean)).before args0 about1 = true := code_word (m := ⟨2, 29⟩) (meth := k2m29) (c := k2c29) (by decide +kernel) rfl rfl rfl (by decide +kernel)
set_option maxRecDepth 65536 in
theorem w_c20 : (Jvm.Cond.code ({ cls := "QueryRewriter", name := "pushNode", desc := "(I)V" } : Jvm.MethodName) prog_1_method_48_code (2 : Nat) (Option.none : Option Jvm.ClassFile.FieldType)).before args0 about1 = true := code_word (m := ⟨2, 30⟩) (meth := k2m30) (c := k2c30) (by decide +kernel) rfl rfl rfl (by decide +kernel)
set_option maxRecDepth 65536 in
theorem w_c21 : (Jvm.Cond.code ({ cls := "QueryRewriter", name := "buildStep", desc := "()V" } : Jvm.MethodName) prog_1_method_50_code (5 : Nat) (Option.none : Option Jvm.ClassFile.FieldType)).before args0 about1 = true := code_word (m := ⟨2, 32⟩) (meth := k2m32) (c := k2c32) (by decide +kernel) rfl rfl rfl (by decide +kernel)
set_option maxRecDepth 65536 in
theorem w_c22 : (Jvm.Cond.code ({ cls := "QueryRewriter", name := "joinStep", desc := "(II)V" } : Jvm.MethodName) prog_1_method_51_code (7 : Nat) (Option.none : Option Jvm.ClassFile.FieldType)).before args0 about1 = true := code_word (m := ⟨2, 33⟩) (meth := k2m33) (c := k2c33) (by decide +kernel) rfl rfl rfl (by decide +kernel)
set_option maxRecDepth 65536 in
theorem w_c23 : (Jvm.Cond.code ({ cls := "QueryRewriter", name := "newScanPlan", desc := "(I)I" } : Jvm.MethodName) prog_1_method_53_code (3 : Nat) (Option.some Jvm.ClassFile.FieldType.int)).before args0 about1 = true := code_word (m := ⟨2, 35⟩) (meth := k2m35) (c := k2c35) (by decide +kernel) rfl rfl rfl (by decide +kernel)
set_option maxRecDepth 65536 in
theorem w_c24 : (Jvm.Cond.code ({ cls := "QueryRewriter", name := "initPlan", desc := "(III)V" } : Jvm.MethodName) prog_1_method_52_code (5 : Nat) (Option.none : Option Jvm.ClassFile.FieldType)).before args0 about1 = true := code_word (m := ⟨2, 34⟩) (meth := k2m34) (c := k2c34) (by decide +kernel) rfl rfl rfl (by decide +kernel)
set_option maxRecDepth 65536 in
theorem w_c25 : (Jvm.Cond.code ({ cls := "QueryRewriter", name := "pushResult", desc := "(I)V" } : Jvm.MethodName) prog_1_method_49_code (2 : Nat) (Option.none : Option Jvm.ClassFile.FieldType)).before args0 about1 = true := code_word (m := ⟨2, 31⟩) (meth := k2m31) (c := k2c31) (by decide +kernel) rfl rfl rfl (by decide +kernel)
set_option maxRecDepth 65536 in
theorem w_c26 : (Jvm.Cond.code ({ cls := "QueryRewriter", name := "newJoinPlan", desc := "(III)I" } : Jvm.MethodName) prog_1_method_54_code (8 : Nat) (Option.some Jvm.ClassFile.FieldType.int)).before args0 about1 = true := code_word (m := ⟨2, 36⟩) (meth := k2m36) (c := k2c36) (by decide +kernel) rfl rfl rfl (by decide +kernel)
set_option maxRecDepth 65536 in
theorem w_c27 : (Jvm.Cond.code ({ cls := "QueryRewriter", name := "copyAtom", desc := "(I)I" } : Jvm.MethodName) prog_1_method_55_code (3 : Nat) (Option.some Jvm.ClassFile.FieldType.int)).before args0 about1 = true := code_word (m := ⟨2, 37⟩) (meth := k2m37) (c := k2c37) (by decide +kernel) rfl rfl rfl (by decide +kernel)
set_option maxRecDepth 65536 in
theorem w_c28 : (Jvm.Cond.code ({ cls := "QueryRewriter", name := "prepend", desc := "(II)V" } : Jvm.MethodName) prog_1_method_60_code (3 : Nat) (Option.none : Option Jvm.ClassFile.FieldType)).before args0 about1 = true := code_word (m := ⟨2, 41⟩) (meth := k2m41) (c := k2c41) (by decide +kernel) rfl rfl rfl (by decide +kernel)
set_option maxRecDepth 65536 in
theorem w_c29 : (Jvm.Cond.code ({ cls := "QueryRewriter", name := "applySelect", desc := "(II)V" } : Jvm.MethodName) prog_1_method_56_code (5 : Nat) (Option.none : Option Jvm.ClassFile.FieldType)).before args0 about1 = true := code_word (m := ⟨2, 38⟩) (meth := k2m38) (c := k2c38) (by decide +kernel) rfl rfl rfl (by decide +kernel)
set_option maxRecDepth 65536 in
theorem w_c30 : (Jvm.Cond.code ({ cls := "QueryRewriter", name := "substitute", desc := "(III)V" } : Jvm.MethodName) prog_1_method_59_code (4 : Nat) (Option.none : Option Jvm.ClassFile.FieldType)).before args0 about1 = true := code_word (m := ⟨2, 40⟩) (meth := k2m40) (c := k2c40) (by decide +kernel) rfl rfl rfl (by decide +kernel)
set_option maxRecDepth 65536 in
theorem w_c31 : (Jvm.Cond.code ({ cls := "QueryRewriter", name := "mapCol", desc := "(II)I" } : Jvm.MethodName) prog_1_method_58_code (3 : Nat) (Option.some Jvm.ClassFile.FieldType.int)).before args0 about1 = true := code_word (m := ⟨2, 39⟩) (meth := k2m39) (c := k2c39) (by decide +kernel) rfl rfl rfl (by decide +kernel)
set_option maxRecDepth 65536 in
theorem w_c32 : (Jvm.Cond.code ({ cls := "QueryRewriter", name := "pushdownAll", desc := "()V" } : Jvm.MethodName) prog_1_method_61_code (2 : Nat) (Option.none : Option Jvm.ClassFile.FieldType)).before args0 about1 = true := code_word (m := ⟨2, 42⟩) (meth := k2m42) (c := k2c42) (by decide +kernel) rfl rfl rfl (by decide +kernel)
set_option maxRecDepth 65536 in
theorem w_c33 : (Jvm.Cond.code ({ cls := "QueryRewriter", name := "pushJoin", desc := "(I)V" } : Jvm.MethodName) prog_1_method_64_code (6 : Nat) (Option.none : Option Jvm.ClassFile.FieldType)).before args0 about1 = true := code_word (m := ⟨2, 45⟩) (meth := k2m45) (c := k2c45) (by decide +kernel) rfl rfl rfl (by decide +kernel)
set_option maxRecDepth 65536 in
theorem w_c34 : (Jvm.Cond.code ({ cls := "QueryRewriter", name := "foldList", desc := "(IZ)V" } : Jvm.MethodName) prog_1_method_63_code (7 : Nat) (Option.none : Option Jvm.ClassFile.FieldType)).before args0 about1 = true := code_word (m := ⟨2, 44⟩) (meth := k2m44) (c := k2c44) (by decide +kernel) rfl rfl rfl (by decide +kernel)
set_option maxRecDepth 65536 in
theorem w_c35 : (Jvm.Cond.code ({ cls := "QueryRewriter", name := "constTruth", desc := "(I)I" } : Jvm.MethodName) prog_1_method_62_code (2 : Nat) (Option.some Jvm.ClassFile.FieldType.int)).before args0 about1 = true := code_word (m := ⟨2, 43⟩) (meth := k2m43) (c := k2c43) (by decide +kernel) rfl rfl rfl (by decide +kernel)
set_option maxRecDepth 65536 in
theorem w_c36 : (Jvm.Cond.code ({ cls := "QueryRewriter", name := "listRejectsRight", desc := "(II)Z" } : Jvm.MethodName) prog_1_method_66_code (6 : Nat) (Option.some Jvm.ClassFile.FieldType.boolean)).before args0 about1 = true := code_word (m := ⟨2, 47⟩) (meth := k2m47) (c := k2c47) (by decide +kernel) rfl rfl rfl (by decide +kernel)
set_option maxRecDepth 65536 in
theorem w_c37 : (Jvm.Cond.code ({ cls := "QueryRewriter", name := "sideOf", desc := "(II)I" } : Jvm.MethodName) prog_1_method_65_code (4 : Nat) (Option.some Jvm.ClassFile.FieldType.int)).before args0 about1 = true := code_word (m := ⟨2, 46⟩) (meth := k2m46) (c := k2c46) (by decide +kernel) rfl rfl rfl (by decide +kernel)
set_option maxRecDepth 65536 in
theorem w_c38 : (Jvm.Cond.code ({ cls := "QueryRewriter", name := "distribute", desc := "(IIIZ)V" } : Jvm.MethodName) prog_1_method_68_code (12 : Nat) (Option.none : Option Jvm.ClassFile.FieldType)).before args0 about1 = true := code_word (m := ⟨2, 48⟩) (meth := k2m48) (c := k2c48) (by decide +kernel) rfl rfl rfl (by decide +kernel)
set_option maxRecDepth 65536 in
theorem w_c39 : (Jvm.Cond.code ({ cls := "QueryRewriter", name := "pruneAll", desc := "(I)V" } : Jvm.MethodName) prog_1_method_69_code (3 : Nat) (Option.none : Option Jvm.ClassFile.FieldType)).before args0 about1 = true := code_word (m := ⟨2, 49⟩) (meth := k2m49) (c := k2c49) (by decide +kernel) rfl rfl rfl (by decide +kernel)
set_option maxRecDepth 65536 in
theorem w_c40 : (Jvm.Cond.code ({ cls := "QueryRewriter", name := "compactMap", desc := "(II)V" } : Jvm.MethodName) prog_1_method_70_code (5 : Nat) (Option.none : Option Jvm.ClassFile.FieldType)).before args0 about1 = true := code_word (m := ⟨2, 50⟩) (meth := k2m50) (c := k2c50) (by decide +kernel) rfl rfl rfl (by decide +kernel)
set_option maxRecDepth 65536 in
theorem w_c41 : (Jvm.Cond.code ({ cls := "QueryRewriter", name := "pruneJoinInputs", desc := "(I)V" } : Jvm.MethodName) prog_1_method_71_code (9 : Nat) (Option.none : Option Jvm.ClassFile.FieldType)).before args0 about1 = true := code_word (m := ⟨2, 51⟩) (meth := k2m51) (c := k2c51) (by decide +kernel) rfl rfl rfl (by decide +kernel)
set_option maxRecDepth 65536 in
theorem w_c42 : (Jvm.Cond.code ({ cls := "QueryRewriter", name := "usedMapMask", desc := "(I)I" } : Jvm.MethodName) prog_1_method_72_code (4 : Nat) (Option.some Jvm.ClassFile.FieldType.int)).before args0 about1 = true := code_word (m := ⟨2, 52⟩) (meth := k2m52) (c := k2c52) (by decide +kernel) rfl rfl rfl (by decide +kernel)
set_option maxRecDepth 65536 in
theorem w_c43 : (Jvm.Cond.code ({ cls := "QueryRewriter", name := "usedListMask", desc := "(I)I" } : Jvm.MethodName) prog_1_method_73_code (5 : Nat) (Option.some Jvm.ClassFile.FieldType.int)).before args0 about1 = true := code_word (m := ⟨2, 53⟩) (meth := k2m53) (c := k2c53) (by decide +kernel) rfl rfl rfl (by decide +kernel)
set_option maxRecDepth 65536 in
theorem w_c44 : (Jvm.Cond.code ({ cls := "QueryRewriter", name := "renumberMap", desc := "(IIII)V" } : Jvm.MethodName) prog_1_method_76_code (6 : Nat) (Option.none : Option Jvm.ClassFile.FieldType)).before args0 about1 = true := code_word (m := ⟨2, 56⟩) (meth := k2m56) (c := k2c56) (by decide +kernel) rfl rfl rfl (by decide +kernel)
set_option maxRecDepth 65536 in
theorem w_c45 : (Jvm.Cond.code ({ cls := "QueryRewriter", name := "newCol", desc := "(IIII)I" } : Jvm.MethodName) prog_1_method_75_code (6 : Nat) (Option.some Jvm.ClassFile.FieldType.int)).before args0 about1 = true := code_word (m := ⟨2, 55⟩) (meth := k2m55) (c := k2c55) (by decide +kernel) rfl rfl rfl (by decide +kernel)
set_option maxRecDepth 65536 in
theorem w_c46 : (Jvm.Cond.code ({ cls := "QueryRewriter", name := "popcount", desc := "(I)I" } : Jvm.MethodName) prog_1_method_74_code (4 : Nat) (Option.some Jvm.ClassFile.FieldType.int)).before args0 about1 = true := code_word (m := ⟨2, 54⟩) (meth := k2m54) (c := k2c54) (by decide +kernel) rfl rfl rfl (by decide +kernel)
set_option maxRecDepth 65536 in
theorem w_c47 : (Jvm.Cond.code ({ cls := "QueryRewriter", name := "renumberList", desc := "(IIII)V" } : Jvm.MethodName) prog_1_method_77_code (7 : Nat) (Option.none : Option Jvm.ClassFile.FieldType)).before args0 about1 = true := code_word (m := ⟨2, 57⟩) (meth := k2m57) (c := k2c57) (by decide +kernel) rfl rfl rfl (by decide +kernel)
set_option maxRecDepth 65536 in
theorem w_c48 : (Jvm.Cond.code ({ cls := "QueryRewriter", name := "evalPlanAll", desc := "()V" } : Jvm.MethodName) prog_1_method_78_code (2 : Nat) (Option.none : Option Jvm.ClassFile.FieldType)).before args0 about1 = true := code_word (m := ⟨2, 58⟩) (meth := k2m58) (c := k2c58) (by decide +kernel) rfl rfl rfl (by decide +kernel)
set_option maxRecDepth 65536 in
theorem w_c49 : (Jvm.Cond.code ({ cls := "QueryRewriter", name := "evalPlanScan", desc := "(I)V" } : Jvm.MethodName) prog_1_method_81_code (5 : Nat) (Option.none : Option Jvm.ClassFile.FieldType)).before args0 about1 = true := code_word (m := ⟨2, 61⟩) (meth := k2m61) (c := k2c61) (by decide +kernel) rfl rfl rfl (by decide +kernel)
set_option maxRecDepth 65536 in
theorem w_c50 : (Jvm.Cond.code ({ cls := "QueryRewriter", name := "loadTableRow", desc := "(II)V" } : Jvm.MethodName) prog_1_method_35_code (5 : Nat) (Option.none : Option Jvm.ClassFile.FieldType)).before args0 about1 = true := code_word (m := ⟨2, 26⟩) (meth := k2m26) (c := k2c26) (by decide +kernel) rfl rfl rfl (by decide +kernel)
set_option maxRecDepth 65536 in
theorem w_c51 : (Jvm.Cond.code ({ cls := "QueryRewriter", name := "listHolds", desc := "(I)Z" } : Jvm.MethodName) prog_1_method_79_code (4 : Nat) (Option.some Jvm.ClassFile.FieldType.boolean)).before args0 about1 = true := code_word (m := ⟨2, 59⟩) (meth := k2m59) (c := k2c59) (by decide +kernel) rfl rfl rfl (by decide +kernel)
set_option maxRecDepth 65536 in
theorem w_c52 : (Jvm.Cond.code ({ cls := "QueryRewriter", name := "evalAtom", desc := "(IIII)Z" } : Jvm.MethodName) prog_1_method_31_code (7 : Nat) (Option.some Jvm.ClassFile.FieldType.boolean)).before args0 about1 = true := code_word (m := ⟨2, 23⟩) (meth := k2m23) (c := k2c23) (by decide +kernel) rfl rfl rfl (by decide +kernel)
set_option maxRecDepth 65536 in
theorem w_c53 : (Jvm.Cond.code ({ cls := "QueryRewriter", name := "cell", desc := "(I)I" } : Jvm.MethodName) prog_1_method_30_code (2 : Nat) (Option.some Jvm.ClassFile.FieldType.int)).before args0 about1 = true := code_word (m := ⟨2, 22⟩) (meth := k2m22) (c := k2c22) (by decide +kernel) rfl rfl rfl (by decide +kernel)
set_option maxRecDepth 65536 in
theorem w_c54 : (Jvm.Cond.code ({ cls := "QueryRewriter", name := "compare", desc := "(III)Z" } : Jvm.MethodName) prog_1_method_32_code (4 : Nat) (Option.some Jvm.ClassFile.FieldType.boolean)).before args0 about1 = true := code_word (m := ⟨2, 24⟩) (meth := k2m24) (c := k2c24) (by decide +kernel) rfl rfl rfl (by decide +kernel)
set_option maxRecDepth 65536 in
theorem w_c55 : (Jvm.Cond.code ({ cls := "QueryRewriter", name := "emitMapped", desc := "(II)I" } : Jvm.MethodName) prog_1_method_80_code (5 : Nat) (Option.some Jvm.ClassFile.FieldType.int)).before args0 about1 = true := code_word (m := ⟨2, 60⟩) (meth := k2m60) (c := k2c60) (by decide +kernel) rfl rfl rfl (by decide +kernel)
set_option maxRecDepth 65536 in
theorem w_c56 : (Jvm.Cond.code ({ cls := "QueryRewriter", name := "evalPlanJoin", desc := "(I)V" } : Jvm.MethodName) prog_1_method_82_code (11 : Nat) (Option.none : Option Jvm.ClassFile.FieldType)).before args0 about1 = true := code_word (m := ⟨2, 62⟩) (meth := k2m62) (c := k2c62) (by decide +kernel) rfl rfl rfl (by decide +kernel)
set_option maxRecDepth 65536 in
theorem w_c57 : (Jvm.Cond.code ({ cls := "QueryRewriter", name := "loadRow", desc := "(IIII)V" } : Jvm.MethodName) prog_1_method_34_code (7 : Nat) (Option.none : Option Jvm.ClassFile.FieldType)).before args0 about1 = true := code_word (m := ⟨2, 25⟩) (meth := k2m25) (c := k2c25) (by decide +kernel) rfl rfl rfl (by decide +kernel)
set_option maxRecDepth 65536 in
theorem w_c58 : (Jvm.Cond.code ({ cls := "QueryRewriter", name := "fillNull", desc := "(II)V" } : Jvm.MethodName) prog_1_method_36_code (4 : Nat) (Option.none : Option Jvm.ClassFile.FieldType)).before args0 about1 = true := code_word (m := ⟨2, 27⟩) (meth := k2m27) (c := k2c27) (by decide +kernel) rfl rfl rfl (by decide +kernel)
set_option maxRecDepth 65536 in
theorem w_c59 : (Jvm.Cond.code ({ cls := "QueryRewriter", name := "emitFiltered", desc := "(II)I" } : Jvm.MethodName) prog_1_method_83_code (3 : Nat) (Option.some Jvm.ClassFile.FieldType.int)).before args0 about1 = true := code_word (m := ⟨2, 63⟩) (meth := k2m63) (c := k2c63) (by decide +kernel) rfl rfl rfl (by decide +kernel)
set_option maxRecDepth 65536 in
theorem w_c60 : (Jvm.Cond.code ({ cls := "QueryRewriter", name := "storeResult", desc := "(II)I" } : Jvm.MethodName) prog_1_method_26_code (7 : Nat) (Option.some Jvm.ClassFile.FieldType.int)).before args0 about1 = true := code_word (m := ⟨2, 18⟩) (meth := k2m18) (c := k2c18) (by decide +kernel) rfl rfl rfl (by decide +kernel)
set_option maxRecDepth 65536 in
theorem w_c61 : (Jvm.Cond.code ({ cls := "QueryRewriter", name := "sortResult", desc := "()V" } : Jvm.MethodName) prog_1_method_27_code (3 : Nat) (Option.none : Option Jvm.ClassFile.FieldType)).before args0 about1 = true := code_word (m := ⟨2, 19⟩) (meth := k2m19) (c := k2c19) (by decide +kernel) rfl rfl rfl (by decide +kernel)
set_option maxRecDepth 65536 in
theorem w_c62 : (Jvm.Cond.code ({ cls := "QueryRewriter", name := "resultWidth", desc := "()I" } : Jvm.MethodName) prog_1_method_22_code (1 : Nat) (Option.some Jvm.ClassFile.FieldType.int)).before args0 about1 = true := code_word (m := ⟨2, 14⟩) (meth := k2m14) (c := k2c14) (by decide +kernel) rfl rfl rfl (by decide +kernel)
set_option maxRecDepth 65536 in
theorem w_c63 : (Jvm.Cond.code ({ cls := "QueryRewriter", name := "resultCell", desc := "(II)I" } : Jvm.MethodName) prog_1_method_23_code (3 : Nat) (Option.some Jvm.ClassFile.FieldType.int)).before args0 about1 = true := code_word (m := ⟨2, 15⟩) (meth := k2m15) (c := k2c15) (by decide +kernel) rfl rfl rfl (by decide +kernel)
set_option maxRecDepth 65536 in
theorem w_c64 : (Jvm.Cond.code ({ cls := "QueryRewriter", name := "rowLess", desc := "(II)Z" } : Jvm.MethodName) prog_1_method_28_code (6 : Nat) (Option.some Jvm.ClassFile.FieldType.boolean)).before args0 about1 = true := code_word (m := ⟨2, 20⟩) (meth := k2m20) (c := k2c20) (by decide +kernel) rfl rfl rfl (by decide +kernel)
set_option maxRecDepth 65536 in
theorem w_c65 : (Jvm.Cond.code ({ cls := "QueryRewriter", name := "swapRows", desc := "(II)V" } : Jvm.MethodName) prog_1_method_29_code (5 : Nat) (Option.none : Option Jvm.ClassFile.FieldType)).before args0 about1 = true := code_word (m := ⟨2, 21⟩) (meth := k2m21) (c := k2c21) (by decide +kernel) rfl rfl rfl (by decide +kernel)
def codes1 : List Jvm.Cond := [Jvm.Cond.code x code maxLocals ret, Jvm.Cond.code ({ cls := "QueryRewriter", name := "<init>", desc := "(II)V" } : Jvm.MethodName) prog_1_method_1_code (3 : Nat) (Option.none : Option Jvm.ClassFile.FieldType), Jvm.Cond.code ({ cls := "java/lang/Object", name := "<init>", desc := "()V" } : Jvm.MethodName) object_method_1_code (1 : Nat) (Option.none : Option Jvm.ClassFile.FieldType), Jvm.Cond.code ({ cls := "QueryRewriter", name := "clamp", desc := "(III)I" } : Jvm.MethodName) prog_1_method_2_code (4 : Nat) (Option.some Jvm.ClassFile.FieldType.int), Jvm.Cond.code ({ cls := "QueryRewriter", name := "createTable", desc := "(II)Z" } : Jvm.MethodName) prog_1_method_3_code (3 : Nat) (Option.some Jvm.ClassFile.FieldType.boolean), Jvm.Cond.code ({ cls := "QueryRewriter", name := "insert", desc := "(IIII)I" } : Jvm.MethodName) prog_1_method_5_code (7 : Nat) (Option.some Jvm.ClassFile.FieldType.int), Jvm.Cond.code ({ cls := "QueryRewriter", name := "tableExists", desc := "(I)Z" } : Jvm.MethodName) prog_1_method_4_code (2 : Nat) (Option.some Jvm.ClassFile.FieldType.boolean), Jvm.Cond.code ({ cls := "QueryRewriter", name := "scan", desc := "(I)I" } : Jvm.MethodName) prog_1_method_14_code (2 : Nat) (Option.some Jvm.ClassFile.FieldType.int), Jvm.Cond.code ({ cls := "QueryRewriter", name := "newNode", desc := "(IIIII)I" } : Jvm.MethodName) prog_1_method_13_code (7 : Nat) (Option.some Jvm.ClassFile.FieldType.int), Jvm.Cond.code ({ cls := "QueryRewriter", name := "atom", desc := "(IIII)I" } : Jvm.MethodName) prog_1_method_8_code (7 : Nat) (Option.some Jvm.ClassFile.FieldType.int), Jvm.Cond.code ({ cls := "QueryRewriter", name := "join", desc := "(III)I" } : Jvm.MethodName) prog_1_method_17_code (6 : Nat) (Option.some Jvm.ClassFile.FieldType.int), Jvm.Cond.code ({ cls := "QueryRewriter", name := "nodeExists", desc := "(I)Z" } : Jvm.MethodName) prog_1_method_12_code (2 : Nat) (Option.some Jvm.ClassFile.FieldType.boolean), Jvm.Cond.code ({ cls := "QueryRewriter", name := "pendingFits", desc := "(I)Z" } : Jvm.MethodName) prog_1_method_10_code (3 : Nat) (Option.some Jvm.ClassFile.FieldType.boolean), Jvm.Cond.code ({ cls := "QueryRewriter", name := "takePending", desc := "(I)V" } : Jvm.MethodName) prog_1_method_11_code (4 : Nat) (Option.none : Option Jvm.ClassFile.FieldType), Jvm.Cond.code ({ cls := "QueryRewriter", name := "select", desc := "(I)I" } : Jvm.MethodName) prog_1_method_15_code (3 : Nat) (Option.some Jvm.ClassFile.FieldType.int), Jvm.Cond.code ({ cls := "QueryRewriter", name := "query", desc := "(II)I" } : Jvm.MethodName) prog_1_method_21_code (4 : Nat) (Option.some Jvm.ClassFile.FieldType.int), Jvm.Cond.code ({ cls := "QueryRewriter", name := "computeWeights", desc := "()V" } : Jvm.MethodName) prog_1_method_24_code (4 : Nat) (Option.none : Option Jvm.ClassFile.FieldType), Jvm.Cond.code ({ cls := "QueryRewriter", name := "satMul", desc := "(II)I" } : Jvm.MethodName) prog_1_method_25_code (4 : Nat) (Option.some Jvm.ClassFile.FieldType.int), Jvm.Cond.code ({ cls := "QueryRewriter", name := "runRewritten", desc := "(I)I" } : Jvm.MethodName) prog_1_method_46_code (3 : Nat) (Option.some Jvm.ClassFile.FieldType.int), Jvm.Cond.code ({ cls := "QueryRewriter", name := "buildPlan", desc := "(I)Z" } : Jvm.MethodName) prog_1_method_47_code (3 : Nat) (Option.some Jvm.ClassFile.FieldType.boolean), Jvm.Cond.code ({ cls := "QueryRewriter", name := "pushNode", desc := "(I)V" } : Jvm.MethodName) prog_1_method_48_code (2 : Nat) (Option.none : Option Jvm.ClassFile.FieldType), Jvm.Cond.code ({ cls := "QueryRewriter", name := "buildStep", desc := "()V" } : Jvm.MethodName) prog_1_method_50_code (5 : Nat) (Option.none : Option Jvm.ClassFile.FieldType), Jvm.Cond.code ({ cls := "QueryRewriter", name := "joinStep", desc := "(II)V" } : Jvm.MethodName) prog_1_method_51_code (7 : Nat) (Option.none : Option Jvm.ClassFile.FieldType), Jvm.Cond.code ({ cls := "QueryRewriter", name := "newScanPlan", desc := "(I)I" } : Jvm.MethodName) prog_1_method_53_code (3 : Nat) (Option.some Jvm.ClassFile.FieldType.int), Jvm.Cond.code ({ cls := "QueryRewriter", name := "initPlan", desc := "(III)V" } : Jvm.MethodName) prog_1_method_52_code (5 : Nat) (Option.none : Option Jvm.ClassFile.FieldType), Jvm.Cond.code ({ cls := "QueryRewriter", name := "pushResult", desc := "(I)V" } : Jvm.MethodName) prog_1_method_49_code (2 : Nat) (Option.none : Option Jvm.ClassFile.FieldType), Jvm.Cond.code ({ cls := "QueryRewriter", name := "newJoinPlan", desc := "(III)I" } : Jvm.MethodName) prog_1_method_54_code (8 : Nat) (Option.some Jvm.ClassFile.FieldType.int), Jvm.Cond.code ({ cls := "QueryRewriter", name := "copyAtom", desc := "(I)I" } : Jvm.MethodName) prog_1_method_55_code (3 : Nat) (Option.some Jvm.ClassFile.FieldType.int), Jvm.Cond.code ({ cls := "QueryRewriter", name := "prepend", desc := "(II)V" } : Jvm.MethodName) prog_1_method_60_code (3 : Nat) (Option.none : Option Jvm.ClassFile.FieldType), Jvm.Cond.code ({ cls := "QueryRewriter", name := "applySelect", desc := "(II)V" } : Jvm.MethodName) prog_1_method_56_code (5 : Nat) (Option.none : Option Jvm.ClassFile.FieldType), Jvm.Cond.code ({ cls := "QueryRewriter", name := "substitute", desc := "(III)V" } : Jvm.MethodName) prog_1_method_59_code (4 : Nat) (Option.none : Option Jvm.ClassFile.FieldType), Jvm.Cond.code ({ cls := "QueryRewriter", name := "mapCol", desc := "(II)I" } : Jvm.MethodName) prog_1_method_58_code (3 : Nat) (Option.some Jvm.ClassFile.FieldType.int), Jvm.Cond.code ({ cls := "QueryRewriter", name := "pushdownAll", desc := "()V" } : Jvm.MethodName) prog_1_method_61_code (2 : Nat) (Option.none : Option Jvm.ClassFile.FieldType), Jvm.Cond.code ({ cls := "QueryRewriter", name := "pushJoin", desc := "(I)V" } : Jvm.MethodName) prog_1_method_64_code (6 : Nat) (Option.none : Option Jvm.ClassFile.FieldType), Jvm.Cond.code ({ cls := "QueryRewriter", name := "foldList", desc := "(IZ)V" } : Jvm.MethodName) prog_1_method_63_code (7 : Nat) (Option.none : Option Jvm.ClassFile.FieldType), Jvm.Cond.code ({ cls := "QueryRewriter", name := "constTruth", desc := "(I)I" } : Jvm.MethodName) prog_1_method_62_code (2 : Nat) (Option.some Jvm.ClassFile.FieldType.int), Jvm.Cond.code ({ cls := "QueryRewriter", name := "listRejectsRight", desc := "(II)Z" } : Jvm.MethodName) prog_1_method_66_code (6 : Nat) (Option.some Jvm.ClassFile.FieldType.boolean), Jvm.Cond.code ({ cls := "QueryRewriter", name := "sideOf", desc := "(II)I" } : Jvm.MethodName) prog_1_method_65_code (4 : Nat) (Option.some Jvm.ClassFile.FieldType.int), Jvm.Cond.code ({ cls := "QueryRewriter", name := "distribute", desc := "(IIIZ)V" } : Jvm.MethodName) prog_1_method_68_code (12 : Nat) (Option.none : Option Jvm.ClassFile.FieldType), Jvm.Cond.code ({ cls := "QueryRewriter", name := "pruneAll", desc := "(I)V" } : Jvm.MethodName) prog_1_method_69_code (3 : Nat) (Option.none : Option Jvm.ClassFile.FieldType), Jvm.Cond.code ({ cls := "QueryRewriter", name := "compactMap", desc := "(II)V" } : Jvm.MethodName) prog_1_method_70_code (5 : Nat) (Option.none : Option Jvm.ClassFile.FieldType), Jvm.Cond.code ({ cls := "QueryRewriter", name := "pruneJoinInputs", desc := "(I)V" } : Jvm.MethodName) prog_1_method_71_code (9 : Nat) (Option.none : Option Jvm.ClassFile.FieldType), Jvm.Cond.code ({ cls := "QueryRewriter", name := "usedMapMask", desc := "(I)I" } : Jvm.MethodName) prog_1_method_72_code (4 : Nat) (Option.some Jvm.ClassFile.FieldType.int), Jvm.Cond.code ({ cls := "QueryRewriter", name := "usedListMask", desc := "(I)I" } : Jvm.MethodName) prog_1_method_73_code (5 : Nat) (Option.some Jvm.ClassFile.FieldType.int), Jvm.Cond.code ({ cls := "QueryRewriter", name := "renumberMap", desc := "(IIII)V" } : Jvm.MethodName) prog_1_method_76_code (6 : Nat) (Option.none : Option Jvm.ClassFile.FieldType), Jvm.Cond.code ({ cls := "QueryRewriter", name := "newCol", desc := "(IIII)I" } : Jvm.MethodName) prog_1_method_75_code (6 : Nat) (Option.some Jvm.ClassFile.FieldType.int), Jvm.Cond.code ({ cls := "QueryRewriter", name := "popcount", desc := "(I)I" } : Jvm.MethodName) prog_1_method_74_code (4 : Nat) (Option.some Jvm.ClassFile.FieldType.int), Jvm.Cond.code ({ cls := "QueryRewriter", name := "renumberList", desc := "(IIII)V" } : Jvm.MethodName) prog_1_method_77_code (7 : Nat) (Option.none : Option Jvm.ClassFile.FieldType), Jvm.Cond.code ({ cls := "QueryRewriter", name := "evalPlanAll", desc := "()V" } : Jvm.MethodName) prog_1_method_78_code (2 : Nat) (Option.none : Option Jvm.ClassFile.FieldType), Jvm.Cond.code ({ cls := "QueryRewriter", name := "evalPlanScan", desc := "(I)V" } : Jvm.MethodName) prog_1_method_81_code (5 : Nat) (Option.none : Option Jvm.ClassFile.FieldType), Jvm.Cond.code ({ cls := "QueryRewriter", name := "loadTableRow", desc := "(II)V" } : Jvm.MethodName) prog_1_method_35_code (5 : Nat) (Option.none : Option Jvm.ClassFile.FieldType), Jvm.Cond.code ({ cls := "QueryRewriter", name := "listHolds", desc := "(I)Z" } : Jvm.MethodName) prog_1_method_79_code (4 : Nat) (Option.some Jvm.ClassFile.FieldType.boolean), Jvm.Cond.code ({ cls := "QueryRewriter", name := "evalAtom", desc := "(IIII)Z" } : Jvm.MethodName) prog_1_method_31_code (7 : Nat) (Option.some Jvm.ClassFile.FieldType.boolean), Jvm.Cond.code ({ cls := "QueryRewriter", name := "cell", desc := "(I)I" } : Jvm.MethodName) prog_1_method_30_code (2 : Nat) (Option.some Jvm.ClassFile.FieldType.int), Jvm.Cond.code ({ cls := "QueryRewriter", name := "compare", desc := "(III)Z" } : Jvm.MethodName) prog_1_method_32_code (4 : Nat) (Option.some Jvm.ClassFile.FieldType.boolean), Jvm.Cond.code ({ cls := "QueryRewriter", name := "emitMapped", desc := "(II)I" } : Jvm.MethodName) prog_1_method_80_code (5 : Nat) (Option.some Jvm.ClassFile.FieldType.int), Jvm.Cond.code ({ cls := "QueryRewriter", name := "evalPlanJoin", desc := "(I)V" } : Jvm.MethodName) prog_1_method_82_code (11 : Nat) (Option.none : Option Jvm.ClassFile.FieldType), Jvm.Cond.code ({ cls := "QueryRewriter", name := "loadRow", desc := "(IIII)V" } : Jvm.MethodName) prog_1_method_34_code (7 : Nat) (Option.none : Option Jvm.ClassFile.FieldType), Jvm.Cond.code ({ cls := "QueryRewriter", name := "fillNull", desc := "(II)V" } : Jvm.MethodName) prog_1_method_36_code (4 : Nat) (Option.none : Option Jvm.ClassFile.FieldType), Jvm.Cond.code ({ cls := "QueryRewriter", name := "emitFiltered", desc := "(II)I" } : Jvm.MethodName) prog_1_method_83_code (3 : Nat) (Option.some Jvm.ClassFile.FieldType.int), Jvm.Cond.code ({ cls := "QueryRewriter", name := "storeResult", desc := "(II)I" } : Jvm.MethodName) prog_1_method_26_code (7 : Nat) (Option.some Jvm.ClassFile.FieldType.int), Jvm.Cond.code ({ cls := "QueryRewriter", name := "sortResult", desc := "()V" } : Jvm.MethodName) prog_1_method_27_code (3 : Nat) (Option.none : Option Jvm.ClassFile.FieldType), Jvm.Cond.code ({ cls := "QueryRewriter", name := "resultWidth", desc := "()I" } : Jvm.MethodName) prog_1_method_22_code (1 : Nat) (Option.some Jvm.ClassFile.FieldType.int), Jvm.Cond.code ({ cls := "QueryRewriter", name := "resultCell", desc := "(II)I" } : Jvm.MethodName) prog_1_method_23_code (3 : Nat) (Option.some Jvm.ClassFile.FieldType.int), Jvm.Cond.code ({ cls := "QueryRewriter", name := "rowLess", desc := "(II)Z" } : Jvm.MethodName) prog_1_method_28_code (6 : Nat) (Option.some Jvm.ClassFile.FieldType.boolean), Jvm.Cond.code ({ cls := "QueryRewriter", name := "swapRows", desc := "(II)V" } : Jvm.MethodName) prog_1_method_29_code (5 : Nat) (Option.none : Option Jvm.ClassFile.FieldType)]
set_option maxRecDepth 65536 in
theorem codes_eq : words1.filter isCode = codes1 := rfl
theorem w_codes : ∀ c ∈ words1.filter isCode, c.before args0 about1 = true := by
  rw [codes_eq]
  intro c hc
  simp only [codes1, List.mem_cons, List.not_mem_nil, or_false] at hc
  rcases hc with rfl | rfl | rfl | rfl | rfl | rfl | rfl | rfl | rfl | rfl | rfl | rfl | rfl | rfl | rfl | rfl | rfl | rfl | rfl | rfl | rfl | rfl | rfl | rfl | rfl | rfl | rfl | rfl | rfl | rfl | rfl | rfl | rfl | rfl | rfl | rfl | rfl | rfl | rfl | rfl | rfl | rfl | rfl | rfl | rfl | rfl | rfl | rfl | rfl | rfl | rfl | rfl | rfl | rfl | rfl | rfl | rfl | rfl | rfl | rfl | rfl | rfl | rfl | rfl | rfl | rfl
  · exact w_c0
  · exact w_c1
  · exact w_c2
  · exact w_c3
  · exact w_c4
  · exact w_c5
  · exact w_c6
  · exact w_c7
  · exact w_c8
  · exact w_c9
  · exact w_c10
  · exact w_c11
  · exact w_c12
  · exact w_c13
  · exact w_c14
  · exact w_c15
  · exact w_c16
  · exact w_c17
  · exact w_c18
  · exact w_c19
  · exact w_c20
  · exact w_c21
  · exact w_c22
  · exact w_c23
  · exact w_c24
  · exact w_c25
  · exact w_c26
  · exact w_c27
  · exact w_c28
  · exact w_c29
  · exact w_c30
  · exact w_c31
  · exact w_c32
  · exact w_c33
  · exact w_c34
  · exact w_c35
  · exact w_c36
  · exact w_c37
  · exact w_c38
  · exact w_c39
  · exact w_c40
  · exact w_c41
  · exact w_c42
  · exact w_c43
  · exact w_c44
  · exact w_c45
  · exact w_c46
  · exact w_c47
  · exact w_c48
  · exact w_c49
  · exact w_c50
  · exact w_c51
  · exact w_c52
  · exact w_c53
  · exact w_c54
  · exact w_c55
  · exact w_c56
  · exact w_c57
  · exact w_c58
  · exact w_c59
  · exact w_c60
  · exact w_c61
  · exact w_c62
  · exact w_c63
  · exact w_c64
  · exact w_c65
set_option maxRecDepth 65536 in
theorem w_t1 : (words1.take 24).all (fun c => isCode c || c.before args0 about1) = true := by decide +kernel
set_option maxRecDepth 65536 in
theorem w_t2 : ((words1.drop 24).take 24).all (fun c => isCode c || c.before args0 about1) = true := by decide +kernel
set_option maxRecDepth 65536 in
theorem w_t3 : (((words1.drop 24).drop 24).take 24).all (fun c => isCode c || c.before args0 about1) = true := by decide +kernel
set_option maxRecDepth 65536 in
theorem w_t4 : ((((words1.drop 24).drop 24).drop 24).take 24).all (fun c => isCode c || c.before args0 about1) = true := by decide +kernel
set_option maxRecDepth 65536 in
theorem w_t5 : (((((words1.drop 24).drop 24).drop 24).drop 24).take 24).all (fun c => isCode c || c.before args0 about1) = true := by decide +kernel
set_option maxRecDepth 65536 in
theorem w_t6 : ((((((words1.drop 24).drop 24).drop 24).drop 24).drop 24).take 24).all (fun c => isCode c || c.before args0 about1) = true := by decide +kernel
set_option maxRecDepth 65536 in
theorem w_t7 : (((((((words1.drop 24).drop 24).drop 24).drop 24).drop 24).drop 24).take 24).all (fun c => isCode c || c.before args0 about1) = true := by decide +kernel
set_option maxRecDepth 65536 in
theorem w_t8 : ((((((((words1.drop 24).drop 24).drop 24).drop 24).drop 24).drop 24).drop 24).take 24).all (fun c => isCode c || c.before args0 about1) = true := by decide +kernel
set_option maxRecDepth 65536 in
theorem w_t9 : (((((((((words1.drop 24).drop 24).drop 24).drop 24).drop 24).drop 24).drop 24).drop 24).take 24).all (fun c => isCode c || c.before args0 about1) = true := by decide +kernel
set_option maxRecDepth 65536 in
theorem w_t10 : ((((((((((words1.drop 24).drop 24).drop 24).drop 24).drop 24).drop 24).drop 24).drop 24).drop 24).take 24).all (fun c => isCode c || c.before args0 about1) = true := by decide +kernel
set_option maxRecDepth 65536 in
theorem w_t11 : (((((((((((words1.drop 24).drop 24).drop 24).drop 24).drop 24).drop 24).drop 24).drop 24).drop 24).drop 24).take 24).all (fun c => isCode c || c.before args0 about1) = true := by decide +kernel
set_option maxRecDepth 65536 in
theorem w_t12 : ((((((((((((words1.drop 24).drop 24).drop 24).drop 24).drop 24).drop 24).drop 24).drop 24).drop 24).drop 24).drop 24).take 24).all (fun c => isCode c || c.before args0 about1) = true := by decide +kernel
set_option maxRecDepth 65536 in
theorem w_t13 : (((((((((((((words1.drop 24).drop 24).drop 24).drop 24).drop 24).drop 24).drop 24).drop 24).drop 24).drop 24).drop 24).drop 24).take 24).all (fun c => isCode c || c.before args0 about1) = true := by decide +kernel
set_option maxRecDepth 65536 in
theorem w_t14 : ((((((((((((((words1.drop 24).drop 24).drop 24).drop 24).drop 24).drop 24).drop 24).drop 24).drop 24).drop 24).drop 24).drop 24).drop 24).take 24).all (fun c => isCode c || c.before args0 about1) = true := by decide +kernel
set_option maxRecDepth 65536 in
theorem w_t15 : (((((((((((((((words1.drop 24).drop 24).drop 24).drop 24).drop 24).drop 24).drop 24).drop 24).drop 24).drop 24).drop 24).drop 24).drop 24).drop 24).take 24).all (fun c => isCode c || c.before args0 about1) = true := by decide +kernel
set_option maxRecDepth 65536 in
theorem w_t16 : ((((((((((((((((words1.drop 24).drop 24).drop 24).drop 24).drop 24).drop 24).drop 24).drop 24).drop 24).drop 24).drop 24).drop 24).drop 24).drop 24).drop 24).take 24).all (fun c => isCode c || c.before args0 about1) = true := by decide +kernel
set_option maxRecDepth 65536 in
theorem w_t17 : ((((((((((((((((words1.drop 24).drop 24).drop 24).drop 24).drop 24).drop 24).drop 24).drop 24).drop 24).drop 24).drop 24).drop 24).drop 24).drop 24).drop 24).drop 24).all (fun c => isCode c || c.before args0 about1) = true := by decide +kernel
theorem w_tables : (allAtoms (Jvm.Cond.code x code maxLocals ret :: tables_1)).before args0 about1 = true := by
  rw [allAtoms_all]
  show words1.all (fun c => c.before args0 about1) = true
  refine all_split ?_ w_codes
  rw [← List.take_append_drop 24 words1, List.all_append, w_t1, ← List.take_append_drop 24 (words1.drop 24), List.all_append, w_t2, ← List.take_append_drop 24 ((words1.drop 24).drop 24), List.all_append, w_t3, ← List.take_append_drop 24 (((words1.drop 24).drop 24).drop 24), List.all_append, w_t4, ← List.take_append_drop 24 ((((words1.drop 24).drop 24).drop 24).drop 24), List.all_append, w_t5, ← List.take_append_drop 24 (((((words1.drop 24).drop 24).drop 24).drop 24).drop 24), List.all_append, w_t6, ← List.take_append_drop 24 ((((((words1.drop 24).drop 24).drop 24).drop 24).drop 24).drop 24), List.all_append, w_t7, ← List.take_append_drop 24 (((((((words1.drop 24).drop 24).drop 24).drop 24).drop 24).drop 24).drop 24), List.all_append, w_t8, ← List.take_append_drop 24 ((((((((words1.drop 24).drop 24).drop 24).drop 24).drop 24).drop 24).drop 24).drop 24), List.all_append, w_t9, ← List.take_append_drop 24 (((((((((words1.drop 24).drop 24).drop 24).drop 24).drop 24).drop 24).drop 24).drop 24).drop 24), List.all_append, w_t10, ← List.take_append_drop 24 ((((((((((words1.drop 24).drop 24).drop 24).drop 24).drop 24).drop 24).drop 24).drop 24).drop 24).drop 24), List.all_append, w_t11, ← List.take_append_drop 24 (((((((((((words1.drop 24).drop 24).drop 24).drop 24).drop 24).drop 24).drop 24).drop 24).drop 24).drop 24).drop 24), List.all_append, w_t12, ← List.take_append_drop 24 ((((((((((((words1.drop 24).drop 24).drop 24).drop 24).drop 24).drop 24).drop 24).drop 24).drop 24).drop 24).drop 24).drop 24), List.all_append, w_t13, ← List.take_append_drop 24 (((((((((((((words1.drop 24).drop 24).drop 24).drop 24).drop 24).drop 24).drop 24).drop 24).drop 24).drop 24).drop 24).drop 24).drop 24), List.all_append, w_t14, ← List.take_append_drop 24 ((((((((((((((words1.drop 24).drop 24).drop 24).drop 24).drop 24).drop 24).drop 24).drop 24).drop 24).drop 24).drop 24).drop 24).drop 24).drop 24), List.all_append, w_t15, ← List.take_append_drop 24 (((((((((((((((words1.drop 24).drop 24).drop 24).drop 24).drop 24).drop 24).drop 24).drop 24).drop 24).drop 24).drop 24).drop 24).drop 24).drop 24).drop 24), List.all_append, w_t16, w_t17]
  rfl
set_option maxRecDepth 65536 in
theorem w_case : (Jvm.Cond.and given_1 narrow_1).before args0 about1 = true := by decide +kernel
theorem w_applies : (headSpec (Jvm.Cond.code x code maxLocals ret :: tables_1) room_1).applies x e0.platform about1 = true :=
  (Spec.applies_iff w_frames).mpr ⟨w_running, w_runnable, w_alone, w_named, w_hears, w_ripe, w_room, w_tables⟩
theorem atStart : AtStart classFile x code maxLocals ret World_1 tables_1 room_1 Calls_1 rest_1 Pre_1 launch0 p0 e0 about1 theMethod args0 below0 :=
  ⟨lists_1, trivial, launch0.admits_env _ _ _, launch0.least_env, fairChoices_fair.cas, fairChoices_fair.clock, w_frames, w_args, w_heap, w_applies, trivial, trivial, w_case⟩
end start1
theorem witness_1 : WitnessClaimed_1 := ⟨start1.p0, start1.e0, start1.about1, start1.theMethod, start1.args0, start1.below0, start1.atStart⟩
end Jvm.Pilot.@@N@@
