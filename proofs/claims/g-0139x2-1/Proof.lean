import JvmDerived
import JvmDerived.Pilot.@@N@@Statement
import JvmDerived.Pilot.@@N@@Code
set_option linter.unusedVariables false
set_option linter.unusedSimpArgs false
namespace Jvm.RoadKit
open Sem ClassFile Op Lib Jvm.Stand Jvm.Free Jvm.LawKit
section New
variable {p : Program} {l : Launch} {e : Env} {R : Room} {s : State} {m : MethodId} {args : Array Value} {below : List Frame} {meth : Method} {c : Code} {T : State} {locs : List Loc} {cells slots : Nat}
theorem retI (X : Stand p l e R s m args below meth c T locs cells slots) (hx : p.tables.exec = Jvm.exec) {pc : Nat} {Ls : Array Slot} {z : Int32} {rest : List Value} (hret : meth.sig.returnType = some .int) (hd : decode c.code pc = .ok (.ireturn, 1)) {fs : List Frame}
    (hl : ∀ (f : JFrame) (acts : List Action), f.method = m → f.locked = none → f.entered = [] → (doReturn e (T.setTop f) acts (some (.int z))).1 = T.setFrames fs) : Steps p.tables e below (T.setTop (mkF m pc Ls (.int z :: rest))) (T.setFrames fs) := by
  have hm' : T.vm.method? m = some meth := X.method'
  have hn : narrow .int (.int z) = .int z := rfl
  show Steps p.tables e below (T.setTop { method := m, pc := pc, locals := Ls, stack := _ :: rest, locked := none }) _
  jvm_step X.here [X.here.top, hx, hd, hm', hret, hn]
  first | (intro acts; rw [hl _ acts rfl rfl rfl]) | rw [hl _ _ rfl rfl rfl]
  exact Steps.refl _
end New
end Jvm.RoadKit
namespace Jvm.Pilot.@@N@@
open Jvm Jvm.ClassFile Sem Op Lib Jvm.Free Jvm.Stand Jvm.LawKit Jvm.RoadKit Bundle Jvm.Pilot.@@N@@.Jvm.D
/- records: scalars, int-like arrays, long arrays -/
abbrev Rec : Type := (Nat → Int32) × (Nat → Int32 → Int32) × (Nat → Int32 → Int64)
def zrec : Rec := (fun _ => 0, fun _ _ => 0, fun _ _ => 0)
def gI (ob : Rec) (k : Nat) : Int32 := ob.1 k
def gA (ob : Rec) (k : Nat) (i : Int32) : Int32 := ob.2.1 k i
def gJ (ob : Rec) (k : Nat) (i : Int32) : Int64 := ob.2.2 k i
def sI (ob : Rec) (k : Nat) (v : Int32) : Rec := (fun j => if j = k then v else ob.1 j, ob.2)
def sA (ob : Rec) (k : Nat) (i v : Int32) : Rec := (ob.1, fun j x => if j = k ∧ x = i then v else ob.2.1 j x, ob.2.2)
def sJ (ob : Rec) (k : Nat) (i : Int32) (v : Int64) : Rec := (ob.1, ob.2.1, fun j x => if j = k ∧ x = i then v else ob.2.2 j x)
def chk {γ : Type} (n i : Int32) (A : Option γ) : Option γ := if i < 0 then none else if i < n then A else none
def dvz {γ : Type} (y : Int32) (A : Option γ) : Option γ := if y = 0 then none else A
def bind2 {α β γ : Type} (o : Option (α × β)) (f : α → β → Option γ) : Option γ := o.bind fun q => f q.1 q.2
def bind3 {α β γ δ : Type} (o : Option (α × β × δ)) (f : α → β → δ → Option γ) : Option γ := o.bind fun q => f q.1 q.2.1 q.2.2
theorem ite_el {c : Prop} [Decidable c] {γ : Type} {A B : Option γ} {r : γ} {Q : Prop} (h : (if c then A else B) = some r) (t : c → A = some r → Q) (e : ¬ c → B = some r → Q) : Q := by
  by_cases hc : c
  · rw [if_pos hc] at h; exact t hc h
  · rw [if_neg hc] at h; exact e hc h
theorem bind_el {α γ : Type} {o : Option α} {f : α → Option γ} {r : γ} {Q : Prop} (h : o.bind f = some r) (k : ∀ x, o = some x → f x = some r → Q) : Q := by
  cases o with
  | none => cases h
  | some x => exact k x rfl h
theorem bind2_el {α β γ : Type} {o : Option (α × β)} {f : α → β → Option γ} {r : γ} {Q : Prop} (h : bind2 o f = some r) (k : ∀ x y, o = some (x, y) → f x y = some r → Q) : Q := by
  rcases o with _ | ⟨x, y⟩
  · cases h
  · exact k x y rfl h
theorem bind3_el {α β γ δ : Type} {o : Option (α × β × δ)} {f : α → β → δ → Option γ} {r : γ} {Q : Prop} (h : bind3 o f = some r) (k : ∀ x y z, o = some (x, y, z) → f x y z = some r → Q) : Q := by
  rcases o with _ | ⟨x, y, z⟩
  · cases h
  · exact k x y z rfl h
theorem chk_el {γ : Type} {n i : Int32} {A : Option γ} {r : γ} {Q : Prop} (h : chk n i A = some r) (k : (¬ i < 0 ∧ i < n) → A = some r → Q) : Q := by
  unfold chk at h
  by_cases h0 : i < 0
  · rw [if_pos h0] at h; cases h
  · rw [if_neg h0] at h
    by_cases h1 : i < n
    · rw [if_pos h1] at h; exact k ⟨h0, h1⟩ h
    · rw [if_neg h1] at h; cases h
theorem dvz_el {γ : Type} {y : Int32} {A : Option γ} {r : γ} {Q : Prop} (h : dvz y A = some r) (k : y ≠ 0 → A = some r → Q) : Q := by
  unfold dvz at h
  by_cases h0 : y = 0
  · rw [if_pos h0] at h; cases h
  · rw [if_neg h0] at h; exact k h0 h
def All {α : Type} (p : α → Prop) : List α → Prop
  | [] => True
  | x :: l => p x ∧ All p l
theorem All.mem {α : Type} {p : α → Prop} : ∀ {l : List α}, All p l → ∀ {x : α}, x ∈ l → p x
  | [], _, _, h => nomatch h
  | _ :: _, H, _, h => (List.mem_cons.mp h).elim (fun e => e ▸ H.1) (fun e => All.mem H.2 e)
def el (ty : FieldType) (ob : Rec) (k : Nat) (j : Int32) : Value := match ty with
  | .long => .long (ob.2.2 k j)
  | _ => .int (ob.2.1 k j)
def aD (ty : FieldType) : String := match ty with
  | .int => "[I"
  | .boolean => "[Z"
  | _ => "[J"
abbrev Cls : Type := String × List (String × String) × List (String × FieldType × Int32)
abbrev mem1 (k : Nat) {d : Jvm.Cond} (h : tables_1[k]? = some d) : d ∈ tables_1 := List.mem_of_getElem? h
abbrev sOk (C : String) (nd : String × String) : Prop := (Jvm.Cond.lays C C nd.1 nd.2 ∈ tables_1 ∨ Jvm.Cond.laysFinal C C nd.1 nd.2 ∈ tables_1) ∧ (nd.2 = "I" ∨ nd.2 = "Z")
abbrev aOk (C : String) (t : String × FieldType × Int32) : Prop := (Jvm.Cond.lays C C t.1 (aD t.2.1) ∈ tables_1 ∨ Jvm.Cond.laysFinal C C t.1 (aD t.2.1) ∈ tables_1) ∧ (t.2.1 = .int ∨ t.2.1 = .boolean ∨ t.2.1 = .long) ∧ ¬ t.2.2 < 0
def K : Cls := ("XorGaussSat", [("n", "I"), ("fullMask", "I"), ("status", "I"), ("model", "I"), ("pendLen", "I"), ("clauseCnt", "I"), ("xorCnt", "I"), ("orderLen", "I"), ("echRank", "I"), ("echConsistent", "Z"), ("echValid", "Z"), ("gRows", "I"), ("gRank", "I"), ("asgMask", "I"), ("asgVals", "I"), ("trailLen", "I"), ("lvlCnt", "I"), ("found", "I")], [("pendVar", .int, 8), ("pendNeg", .boolean, 8), ("clausePos", .int, 24), ("clauseNeg", .int, 24), ("xorMask", .int, 16), ("xorRhs", .int, 16), ("order", .int, 40), ("echMask", .int, 16), ("echRhs", .int, 16), ("echPivot", .int, 16), ("gMask", .int, 16), ("gRhs", .int, 16), ("gPivot", .int, 16), ("trail", .int, 12), ("lvlVar", .int, 13), ("lvlStart", .int, 13), ("lvlFlipped", .boolean, 13)])
theorem kS : All (sOk K.1) K.2.1 := ⟨⟨Or.inl (mem1 50 rfl), Or.inl rfl⟩, ⟨Or.inl (mem1 52 rfl), Or.inl rfl⟩, ⟨Or.inl (mem1 54 rfl), Or.inl rfl⟩, ⟨Or.inl (mem1 56 rfl), Or.inl rfl⟩, ⟨Or.inl (mem1 58 rfl), Or.inl rfl⟩, ⟨Or.inl (mem1 60 rfl), Or.inl rfl⟩, ⟨Or.inl (mem1 62 rfl), Or.inl rfl⟩, ⟨Or.inl (mem1 64 rfl), Or.inl rfl⟩, ⟨Or.inl (mem1 70 rfl), Or.inl rfl⟩, ⟨Or.inl (mem1 68 rfl), Or.inr rfl⟩, ⟨Or.inl (mem1 66 rfl), Or.inr rfl⟩, ⟨Or.inl (mem1 94 rfl), Or.inl rfl⟩, ⟨Or.inl (mem1 100 rfl), Or.inl rfl⟩, ⟨Or.inl (mem1 131 rfl), Or.inl rfl⟩, ⟨Or.inl (mem1 133 rfl), Or.inl rfl⟩, ⟨Or.inl (mem1 135 rfl), Or.inl rfl⟩, ⟨Or.inl (mem1 137 rfl), Or.inl rfl⟩, ⟨Or.inl (mem1 139 rfl), Or.inl rfl⟩, trivial⟩
theorem kA : All (aOk K.1) K.2.2 := ⟨⟨Or.inr (mem1 15 rfl), Or.inl rfl, by decide⟩, ⟨Or.inr (mem1 18 rfl), Or.inr (Or.inl rfl), by decide⟩, ⟨Or.inr (mem1 20 rfl), Or.inl rfl, by decide⟩, ⟨Or.inr (mem1 22 rfl), Or.inl rfl, by decide⟩, ⟨Or.inr (mem1 24 rfl), Or.inl rfl, by decide⟩, ⟨Or.inr (mem1 26 rfl), Or.inl rfl, by decide⟩, ⟨Or.inr (mem1 28 rfl), Or.inl rfl, by decide⟩, ⟨Or.inr (mem1 30 rfl), Or.inl rfl, by decide⟩, ⟨Or.inr (mem1 32 rfl), Or.inl rfl, by decide⟩, ⟨Or.inr (mem1 34 rfl), Or.inl rfl, by decide⟩, ⟨Or.inr (mem1 36 rfl), Or.inl rfl, by decide⟩, ⟨Or.inr (mem1 38 rfl), Or.inl rfl, by decide⟩, ⟨Or.inr (mem1 40 rfl), Or.inl rfl, by decide⟩, ⟨Or.inr (mem1 42 rfl), Or.inl rfl, by decide⟩, ⟨Or.inr (mem1 44 rfl), Or.inl rfl, by decide⟩, ⟨Or.inr (mem1 46 rfl), Or.inl rfl, by decide⟩, ⟨Or.inr (mem1 48 rfl), Or.inr (Or.inl rfl), by decide⟩, trivial⟩
abbrev kN : Nat := 35
theorem kI : Jvm.Cond.instantiable K.1 kN ∈ tables_1 := mem1 1 rfl
theorem kZ : Jvm.Cond.initialized K.1 ∈ tables_1 := mem1 2 rfl
theorem kNm : (K.2.1.map (·.1) ++ K.2.2.map (·.1)).Nodup := by decide +kernel
theorem nm_ss {k k' : Nat} {nd nd' : String × String} (h : K.2.1[k]? = some nd) (h' : K.2.1[k']? = some nd') (ne : k ≠ k') : nd.1 ≠ nd'.1 := fun e => by
  have l := (List.getElem?_eq_some_iff.mp h).1
  have l' := (List.getElem?_eq_some_iff.mp h').1
  refine ne ((List.getElem?_inj (l := K.2.1.map (·.1) ++ K.2.2.map (·.1)) (i := k) (j := k') (by simp; omega) kNm).mp ?_)
  rw [List.getElem?_append_left (by simpa using l), List.getElem?_append_left (by simpa using l'), List.getElem?_map, List.getElem?_map, h, h']
  simp [e]
theorem nm_aa {k k' : Nat} {t t' : String × FieldType × Int32} (h : K.2.2[k]? = some t) (h' : K.2.2[k']? = some t') (ne : k ≠ k') : t.1 ≠ t'.1 := fun e => by
  have l := (List.getElem?_eq_some_iff.mp h).1
  have l' := (List.getElem?_eq_some_iff.mp h').1
  have q := (List.getElem?_inj (l := K.2.1.map (·.1) ++ K.2.2.map (·.1)) (i := K.2.1.length + k) (j := K.2.1.length + k') (by simp; omega) kNm).mp (by
    rw [List.getElem?_append_right (by simp), List.getElem?_append_right (by simp)]
    simp [h, h', e])
  omega
theorem nm_sa {k k' : Nat} {nd : String × String} {t : String × FieldType × Int32} (h : K.2.1[k]? = some nd) (h' : K.2.2[k']? = some t) : nd.1 ≠ t.1 := fun e => by
  have l := (List.getElem?_eq_some_iff.mp h).1
  have l' := (List.getElem?_eq_some_iff.mp h').1
  have q := (List.getElem?_inj (l := K.2.1.map (·.1) ++ K.2.2.map (·.1)) (i := k) (j := K.2.1.length + k') (by simp; omega) kNm).mp (by
    rw [List.getElem?_append_left (by simpa using l), List.getElem?_append_right (by simp)]
    simp [h, h', e])
  omega
abbrev Ctx : Type := Launch × State × Nat × Array Value
def Ok (C : Ctx) : Prop := ∀ d ∈ tables_1, d.before C.2.2.2 C.2.1 = true
def ArrAt (Z : State) (h : Heap) (b : Nat) (ty : FieldType) (len : Int32) (v : Int32 → Value) : Prop := ∃ cl : Cell, Arr Z h b cl ty ∧ cl.slots.size = len.toNatClampNeg ∧ ∀ j : Int32, ¬ j < 0 → j < len → cl.slots[j.toNatClampNeg]? = some (v j)
def ObjAt (Z : State) (h : Heap) (a : Nat) (q : Nat) (ob : Rec) : Prop :=
  Exa Z h a K.1 ∧ (∀ k nd, K.2.1[k]? = some nd → Fld Z h a K.1 nd.1 nd.2 (.int (ob.1 k))) ∧
  (∀ k t, K.2.2[k]? = some t → k < q → Fld Z h a K.1 t.1 (aD t.2.1) (.ref (a + 1 + k)) ∧ ArrAt Z h (a + 1 + k) t.2.1 t.2.2 (el t.2.1 ob k)) ∧
  (∀ k t, K.2.2[k]? = some t → q ≤ k → Fld Z h a K.1 t.1 (aD t.2.1) .null)
abbrev AH : Type := Nat × List (Nat × Nat × Rec)
def Rep (Z : State) (n0 : Nat) (h : Heap) (G : AH) : Prop :=
  h.size = G.1 ∧ Old Z n0 h ∧ (∀ x ∈ G.2, n0 ≤ x.1 ∧ x.1 + x.2.1 < G.1 ∧ ObjAt Z h x.1 x.2.1 x.2.2) ∧ G.2.Pairwise (fun x y => x.1 + x.2.1 < y.1 ∨ y.1 + y.2.1 < x.1)
section Facts
variable {Z : State} {h h' : Heap} {a b : Nat} {q k n0 top : Nat} {ob ob' : Rec} {nd : String × String} {t : String × FieldType × Int32} {a0 : Array Value} {sl : Nat} {v : Value} {H : List (Nat × Nat × Rec)} {G : AH}
theorem fld_fr {C n d : String} (e : h'[a]? = h[a]?) (F : Fld Z h a C n d v) : Fld Z h' a C n d v := by
  obtain ⟨cell, cf, k, i, f, h1, r⟩ := F; exact ⟨cell, cf, k, i, f, e.trans h1, r⟩
theorem exa_fr {C : String} (e : h'[a]? = h[a]?) (F : Exa Z h a C) : Exa Z h' a C := by
  obtain ⟨cell, k, h1, r⟩ := F; exact ⟨cell, k, e.trans h1, r⟩
theorem arrAt_fr {ty : FieldType} {len : Int32} {w : Int32 → Value} (e : h'[a]? = h[a]?) (F : ArrAt Z h a ty len w) : ArrAt Z h' a ty len w := by
  obtain ⟨cl, A, r⟩ := F; exact ⟨cl, ⟨e.trans A.1, A.2⟩, r⟩
theorem ObjAt.frame (e : ∀ b, a ≤ b → b ≤ a + q → h'[b]? = h[b]?) (F : ObjAt Z h a q ob) : ObjAt Z h' a q ob := by
  have e0 := e a (Nat.le_refl _) (Nat.le_add_right _ _)
  refine ⟨exa_fr e0 F.1, fun k nd hk => fld_fr e0 (F.2.1 k nd hk), fun k t hk hq => ⟨fld_fr e0 (F.2.2.1 k t hk hq).1, arrAt_fr (e _ (by omega) (by omega)) (F.2.2.1 k t hk hq).2⟩, fun k t hk hq => fld_fr e0 (F.2.2.2 k t hk hq)⟩
theorem ObjAt.ext (E : Ext h h') (F : ObjAt Z h a q ob) : ObjAt Z h' a q ob := by
  refine ⟨F.1.ext E, fun k nd hk => (F.2.1 k nd hk).ext E, fun k t hk hq => ⟨(F.2.2.1 k t hk hq).1.ext E, ?_⟩, fun k t hk hq => (F.2.2.2 k t hk hq).ext E⟩
  obtain ⟨cl, A, r⟩ := (F.2.2.1 k t hk hq).2; exact ⟨cl, A.ext E, r⟩
theorem wr_ne (W : Wr h h' a sl v) (ne : b ≠ a) : h'[b]? = h[b]? := by
  obtain ⟨cell, -, -, -, rfl⟩ := W; exact Array.getElem?_setIfInBounds_ne (Ne.symm ne)
theorem laidS (hw : ∀ d ∈ tables_1, d.before a0 Z = true) (hk : K.2.1[k]? = some nd) : Laid Z a0 K.1 K.1 nd.1 nd.2 := ((All.mem kS (List.mem_of_getElem? hk)).1).imp (hw _) (hw _)
theorem laidA (hw : ∀ d ∈ tables_1, d.before a0 Z = true) (hk : K.2.2[k]? = some t) : Laid Z a0 K.1 K.1 t.1 (aD t.2.1) := ((All.mem kA (List.mem_of_getElem? hk)).1).imp (hw _) (hw _)
theorem pfS (hk : K.2.1[k]? = some nd) : ∃ ty, parseFieldDescriptor nd.2 = some ty := by
  rcases (All.mem kS (List.mem_of_getElem? hk)).2 with e | e <;> rw [e]
  · exact ⟨.int, by decide⟩
  · exact ⟨.boolean, by decide⟩
theorem pfA (hk : K.2.2[k]? = some t) : parseFieldDescriptor (aD t.2.1) = some (.array t.2.1) := by
  rcases (All.mem kA (List.mem_of_getElem? hk)).2.1 with e | e | e <;> rw [e] <;> decide
theorem ObjAt.putI {x : Int32} (hw : ∀ d ∈ tables_1, d.before a0 Z = true) (F : ObjAt Z h a q ob) (hk : K.2.1[k]? = some nd) (W : Wr h h' a (Jvm.RoadKit.slotOf Z K.1 nd.1 nd.2) (.int x)) : ObjAt Z h' a q (sI ob k x) := by
  obtain ⟨ty, hty⟩ := pfS hk
  refine ⟨F.1.wr W, fun k' nd' hk' => ?_, fun k' t hk' hq => ⟨(F.2.2.1 k' t hk' hq).1.other W (Or.inr (Jvm.RoadKit.slot_ne (laidA hw hk') (laidS hw hk) (Ne.symm (nm_sa hk hk')) (pfA hk') hty)), ?_⟩, fun k' t hk' hq => (F.2.2.2 k' t hk' hq).other W (Or.inr (Jvm.RoadKit.slot_ne (laidA hw hk') (laidS hw hk) (Ne.symm (nm_sa hk hk')) (pfA hk') hty))⟩
  · by_cases e : k' = k
    · subst e; cases hk.symm.trans hk'
      have := (F.2.1 k' nd hk).same W
      simpa [sI] using this
    · obtain ⟨ty', hty'⟩ := pfS hk'
      have := (F.2.1 k' nd' hk').other W (Or.inr (Jvm.RoadKit.slot_ne (laidS hw hk') (laidS hw hk) (nm_ss hk' hk e) hty' hty))
      simpa [sI, e] using this
  · have := arrAt_fr (wr_ne W (by omega)) (F.2.2.1 k' t hk' hq).2
    have e : el t.2.1 (sI ob k x) k' = el t.2.1 ob k' := by funext j; unfold el; split <;> rfl
    rw [e]; exact this
theorem ObjAt.putA (F : ObjAt Z h a q ob) (hk : K.2.2[k]? = some t) (hq : k < q) {x : Value} {j : Int32} (hj : ¬ j < 0 ∧ j < t.2.2) (W : Wr h h' (a + 1 + k) j.toNatClampNeg x)
    (e1 : el t.2.1 ob' k = fun i => if i = j then x else el t.2.1 ob k i) (e2 : ∀ k' t', k' ≠ k → el t' ob' k' = el t' ob k') (e3 : ob'.1 = ob.1) : ObjAt Z h' a q ob' := by
  have u : h'[a]? = h[a]? := wr_ne W (by omega)
  refine ⟨exa_fr u F.1, fun k' nd hk' => by rw [e3]; exact fld_fr u (F.2.1 k' nd hk'), fun k' t' hk' hq' => ⟨fld_fr u (F.2.2.1 k' t' hk' hq').1, ?_⟩, fun k' t' hk' hq' => fld_fr u (F.2.2.2 k' t' hk' hq')⟩
  by_cases e : k' = k
  · subst e; cases hk.symm.trans hk'
    obtain ⟨cl, A, S, V⟩ := (F.2.2.1 k' t hk hq).2
    have inb : ¬ (j < 0 ∨ cl.slots.size ≤ j.toNatClampNeg) := inb_of S hj
    refine ⟨_, A.same W, by rw [sz_set]; exact S, fun i h0 h1 => ?_⟩
    rw [e1]
    by_cases ei : i = j
    · simp only [ei, if_true]; exact get_hit inb rfl
    · simp only [ei, if_false]; rw [get_miss hj.1 h0 ei]; exact V i h0 h1
  · rw [e2 k' _ e]; exact arrAt_fr (wr_ne W (by omega)) (F.2.2.1 k' t' hk' hq').2
theorem el_sA {ty : FieldType} (ht : ty ≠ .long) (j x : Int32) : el ty (sA ob k j x) k = fun i => if i = j then .int x else el ty ob k i := by
  funext i; cases ty <;> first | exact absurd rfl ht | (simp only [el, sA, true_and]; split <;> rfl)
theorem el_sJ (j : Int32) (x : Int64) : el .long (sJ ob k j x) k = fun i => if i = j then .long x else el .long ob k i := by
  funext i; simp only [el, sJ, true_and]; split <;> rfl
theorem el_sA' (j x : Int32) (k' : Nat) (t' : FieldType) (ne : k' ≠ k) : el t' (sA ob k j x) k' = el t' ob k' := by
  funext i; cases t' <;> simp [el, sA, ne]
theorem el_sJ' (j : Int32) (x : Int64) (k' : Nat) (t' : FieldType) (ne : k' ≠ k) : el t' (sJ ob k j x) k' = el t' ob k' := by
  funext i; cases t' <;> simp [el, sJ, ne]
theorem Rep.upd (R : Rep Z n0 h (top, (a, q, ob) :: H)) (hs : h'.size = h.size) (hO : Old Z n0 h') (e : ∀ b, (b < a ∨ a + q < b) → h'[b]? = h[b]?) (F : ObjAt Z h' a q ob') : Rep Z n0 h' (top, (a, q, ob') :: H) := by
  obtain ⟨r1, r2, r3, r4⟩ := R
  refine ⟨hs.trans r1, hO, fun x hx => ?_, ?_⟩
  · rcases List.mem_cons.mp hx with rfl | hx
    · exact ⟨(r3 _ (List.mem_cons_self ..)).1, (r3 _ (List.mem_cons_self ..)).2.1, F⟩
    · obtain ⟨p1, p2, p3⟩ := r3 x (List.mem_cons_of_mem _ hx)
      refine ⟨p1, p2, p3.frame fun b h1 h2 => e b ?_⟩
      have := (List.pairwise_cons.mp r4).1 x hx
      simp only at this
      omega
  · have := List.pairwise_cons.mp r4
    exact List.pairwise_cons.mpr ⟨fun y hy => this.1 y hy, this.2⟩
theorem Rep.objs (R : Rep Z n0 h (top, (a, q, ob) :: H)) : n0 ≤ a ∧ a + q < top ∧ ObjAt Z h a q ob := R.2.2.1 _ (List.mem_cons_self ..)
theorem Rep.putI {x : Int32} (hw : ∀ d ∈ tables_1, d.before a0 Z = true) (R : Rep Z n0 h (top, (a, q, ob) :: H)) (hk : K.2.1[k]? = some nd) (W : Wr h h' a (Jvm.RoadKit.slotOf Z K.1 nd.1 nd.2) (.int x)) : Rep Z n0 h' (top, (a, q, sI ob k x) :: H) :=
  R.upd W.size (R.2.1.wr W R.objs.1) (fun b hb => wr_ne W (by omega)) (R.objs.2.2.putI hw hk W)
theorem Rep.putA {x j : Int32} (R : Rep Z n0 h (top, (a, q, ob) :: H)) (hk : K.2.2[k]? = some t) (hq : k < q) (ht : t.2.1 ≠ .long) (hj : ¬ j < 0 ∧ j < t.2.2) (W : Wr h h' (a + 1 + k) j.toNatClampNeg (.int x)) : Rep Z n0 h' (top, (a, q, sA ob k j x) :: H) :=
  R.upd W.size (R.2.1.wr W (by have := R.objs.1; omega)) (fun b hb => wr_ne W (by omega)) (R.objs.2.2.putA hk hq hj W (el_sA ht j x) (fun k' t' ne => el_sA' j x k' t' ne) rfl)
theorem Rep.putJ {j : Int32} {x : Int64} (R : Rep Z n0 h (top, (a, q, ob) :: H)) (hk : K.2.2[k]? = some t) (hq : k < q) (ht : t.2.1 = .long) (hj : ¬ j < 0 ∧ j < t.2.2) (W : Wr h h' (a + 1 + k) j.toNatClampNeg (.long x)) : Rep Z n0 h' (top, (a, q, sJ ob k j x) :: H) :=
  R.upd W.size (R.2.1.wr W (by have := R.objs.1; omega)) (fun b hb => wr_ne W (by omega)) (R.objs.2.2.putA hk hq hj W (by rw [ht]; exact el_sJ j x) (fun k' t' ne => el_sJ' j x k' t' ne) rfl)
theorem Rep.swap {x y : Nat × Nat × Rec} (R : Rep Z n0 h (top, x :: y :: H)) : Rep Z n0 h (top, y :: x :: H) := by
  obtain ⟨r1, r2, r3, r4⟩ := R
  refine ⟨r1, r2, fun z hz => r3 z ?_, ?_⟩
  · simp only [List.mem_cons] at hz ⊢
    rcases hz with e | e | e
    · exact Or.inr (Or.inl e)
    · exact Or.inl e
    · exact Or.inr (Or.inr e)
  · simp only [List.pairwise_cons, List.mem_cons] at r4 ⊢
    obtain ⟨p1, p2, p3⟩ := r4
    refine ⟨fun z hz => ?_, fun z hz => p1 z (Or.inr hz), p3⟩
    rcases hz with rfl | hz
    · exact (p1 _ (Or.inl rfl)).symm
    · exact p2 z hz
theorem ObjAt.addA (hw : ∀ d ∈ tables_1, d.before a0 Z = true) (F : ObjAt Z h a k ob) (hk : K.2.2[k]? = some t) (A : ArrAt Z h (a + 1 + k) t.2.1 t.2.2 (el t.2.1 ob k)) (W : Wr h h' a (Jvm.RoadKit.slotOf Z K.1 t.1 (aD t.2.1)) (.ref (a + 1 + k))) : ObjAt Z h' a (k + 1) ob := by
  refine ⟨F.1.wr W, fun k' nd hk' => ?_, fun k' t' hk' hq => ?_, fun k' t' hk' hq => ?_⟩
  · obtain ⟨ty', hty'⟩ := pfS hk'
    exact (F.2.1 k' nd hk').other W (Or.inr (Jvm.RoadKit.slot_ne (laidS hw hk') (laidA hw hk) (nm_sa hk' hk) hty' (pfA hk)))
  · by_cases e : k' = k
    · subst e
      have et : t = t' := Option.some.inj (hk.symm.trans hk')
      subst et
      exact ⟨(F.2.2.2 k' t hk (Nat.le_refl _)).same W, arrAt_fr (wr_ne W (by omega)) A⟩
    · obtain ⟨f1, f2⟩ := F.2.2.1 k' t' hk' (by omega)
      exact ⟨f1.other W (Or.inr (Jvm.RoadKit.slot_ne (laidA hw hk') (laidA hw hk) (nm_aa hk' hk e) (pfA hk') (pfA hk))), arrAt_fr (wr_ne W (by omega)) f2⟩
  · exact (F.2.2.2 k' t' hk' (by omega)).other W (Or.inr (Jvm.RoadKit.slot_ne (laidA hw hk') (laidA hw hk) (nm_aa hk' hk (by omega)) (pfA hk') (pfA hk)))
theorem Rep.addA {h1 h2 : Heap} (hw : ∀ d ∈ tables_1, d.before a0 Z = true) (R : Rep Z n0 h (top, (a, k, ob) :: H)) (E : Ext h h1) (s1 : h1.size = top + 1) (htop : top = a + 1 + k) (hk : K.2.2[k]? = some t) (A : ArrAt Z h1 top t.2.1 t.2.2 (el t.2.1 ob k)) (W : Wr h1 h2 a (Jvm.RoadKit.slotOf Z K.1 t.1 (aD t.2.1)) (.ref top)) : Rep Z n0 h2 (top + 1, (a, k + 1, ob) :: H) := by
  obtain ⟨q1, q2, q3⟩ := R.objs
  have hp := List.pairwise_cons.mp R.2.2.2
  have hO : ObjAt Z h2 a (k + 1) ob := by
    subst htop
    exact (q3.ext E).addA hw hk A W
  refine ⟨W.size.trans s1, (R.2.1.ext E).wr W q1, List.forall_mem_cons.mpr ⟨⟨q1, ?_, hO⟩, fun x hx => ?_⟩, List.pairwise_cons.mpr ⟨fun y hy => ?_, hp.2⟩⟩
  · show a + (k + 1) < top + 1; omega
  · obtain ⟨p1, p2, p3⟩ := R.2.2.1 x (List.mem_cons_of_mem _ hx)
    have u1 : a + k < x.1 ∨ x.1 + x.2.1 < a := hp.1 x hx
    have u2 : x.1 + x.2.1 < top := p2
    exact ⟨p1, Nat.lt_succ_of_lt u2, (p3.ext E).frame fun b h1 h2 => wr_ne W (by omega)⟩
  · have u1 : a + k < y.1 ∨ y.1 + y.2.1 < a := hp.1 y hy
    have u2 : y.1 + y.2.1 < top := (R.2.2.1 y (List.mem_cons_of_mem _ hy)).2.1
    show a + (k + 1) < y.1 ∨ y.1 + y.2.1 < a
    omega
theorem arr_new {cA : ClassId} {ty : FieldType} {len : Int32} (A : Arr Z h b (newA cA ty len) ty) (hts : ty = .int ∨ ty = .boolean ∨ ty = .long) (hz : (∀ i, ob.2.1 k i = 0) ∧ (∀ i, ob.2.2 k i = 0)) : ArrAt Z h b ty len (el ty ob k) := by
  refine ⟨_, A, sz_new _ _ _, fun i h0 h1 => ?_⟩
  have hi : ¬ (i < 0 ∨ len.toNatClampNeg ≤ i.toNatClampNeg) := by
    have e0 : (0 : Int32).toInt = 0 := rfl
    simp only [Int32.lt_iff_toInt_lt, Int32.toNatClampNeg] at *
    omega
  rw [get_new hi]
  rcases hts with rfl | rfl | rfl
  · show some (Value.int 0) = some (Value.int (ob.2.1 k i)); rw [hz.1]
  · show some (Value.int 0) = some (Value.int (ob.2.1 k i)); rw [hz.1]
  · show some (Value.long 0) = some (Value.long (ob.2.2 k i)); rw [hz.2]
theorem Rep.start (s : State) : Rep s s.heap.size s.heap (s.heap.size, []) := ⟨rfl, Old.start s, fun x hx => (by cases hx), List.Pairwise.nil⟩
end Facts
/- bodies, decode facts, patterns of local variables -/
abbrev Bdy : Type := MethodName × ByteArray × Nat × Option FieldType × Room
def DAt (M : Bdy) (pc : Nat) (i : Instr) (n q : Nat) : Prop := decode M.2.1 pc = .ok (i, n) ∧ q = pc + n
abbrev Pat : Type := List (Option Slot)
abbrev vi (x : Int32) : Option Slot := some (.val (.int x))
abbrev vl (x : Int64) : Option Slot := some (.val (.long x))
abbrev vr (a : Nat) : Option Slot := some (.val (.ref a))
abbrev v2 : Option Slot := some .second
abbrev vn : Option Slot := none
def pget : Pat → Nat → Option Slot
  | [], _ => none
  | x :: _, 0 => x
  | _ :: l, n + 1 => pget l n
theorem pget_eq : ∀ (P : Pat) (i : Nat), pget P i = (P[i]?).join
  | [], _ => by simp [pget]
  | x :: l, 0 => by simp [pget]
  | x :: l, n + 1 => by simp [pget, pget_eq l n]
def pput : Pat → Nat → Option Slot → Pat
  | [], _, _ => []
  | _ :: l, 0, y => y :: l
  | x :: l, n + 1, y => x :: pput l n y
theorem pget_pput : ∀ (P : Pat) (i j : Nat) (y : Option Slot) (s : Slot), pget (pput P i y) j = some s → (j = i ∧ y = some s) ∨ (j ≠ i ∧ pget P j = some s)
  | [], _, _, _, _, h => by simp [pput, pget] at h
  | x :: l, 0, 0, y, s, h => Or.inl ⟨rfl, h⟩
  | x :: l, 0, j + 1, y, s, h => Or.inr ⟨by omega, h⟩
  | x :: l, i + 1, 0, y, s, h => Or.inr ⟨by omega, h⟩
  | x :: l, i + 1, j + 1, y, s, h => by
    rcases pget_pput l i j y s h with ⟨e, r⟩ | ⟨e, r⟩
    · exact Or.inl ⟨by omega, r⟩
    · exact Or.inr ⟨by omega, r⟩
/-- a two-word value whose first word is at i is forgotten -/
def pk1 (P : Pat) (i : Nat) : Pat := match pget P i with
  | some (.val (.long _)) => pput P i none
  | some (.val (.double _)) => pput P i none
  | _ => P
def pk2 (P : Pat) (i : Nat) : Pat := match pget P i with
  | some .second => pput P i none
  | _ => P
def pkp (P : Pat) : Nat → Pat
  | 0 => P
  | i + 1 => pk1 P i
def ps1 (P : Pat) (i : Nat) (v : Value) : Pat := pput (pk2 (pkp P i) (i + 1)) i (some (.val v))
def ps2 (P : Pat) (i : Nat) (v : Value) : Pat := pput (pput (pk2 (pkp P i) (i + 2)) i (some (.val v))) (i + 1) (some .second)
def WFl (L : Array Slot) : Prop := (∀ i : Nat, L[i]? = some .second → ∃ (j : Nat) (v : Value), i = j + 1 ∧ L[j]? = some (.val v) ∧ v.category = 2) ∧ (∀ (i : Nat) (v : Value), L[i]? = some (.val v) → v.category = 2 → L[i + 1]? = some .second)
def Fits (P : Pat) (L : Array Slot) : Prop := (∀ i s, pget P i = some s → L[i]? = some s) ∧ WFl L
theorem pk1_sub {P : Pat} {i j : Nat} {s : Slot} (h : pget (pk1 P i) j = some s) : pget P j = some s ∧ (j = i → ∀ w : Value, s = .val w → w.category = 1) := by
  unfold pk1 at h
  split at h
  · rcases pget_pput _ _ _ _ _ h with ⟨-, e⟩ | ⟨e, r⟩
    · cases e
    · exact ⟨r, fun q => absurd q e⟩
  · rcases pget_pput _ _ _ _ _ h with ⟨-, e⟩ | ⟨e, r⟩
    · cases e
    · exact ⟨r, fun q => absurd q e⟩
  · rename_i h1 h2
    refine ⟨h, fun q w e => ?_⟩
    subst q e
    cases w <;> first | rfl | exact absurd h (h1 _) | exact absurd h (h2 _)
theorem pk2_sub {P : Pat} {i j : Nat} {s : Slot} (h : pget (pk2 P i) j = some s) : pget P j = some s ∧ (j = i → s ≠ .second) := by
  unfold pk2 at h
  split at h
  · rcases pget_pput _ _ _ _ _ h with ⟨-, e⟩ | ⟨e, r⟩
    · cases e
    · exact ⟨r, fun q => absurd q e⟩
  · rename_i h1
    refine ⟨h, fun q e => ?_⟩
    subst q e; exact h1 h
theorem pkp_sub {P : Pat} {i j : Nat} {s : Slot} (h : pget (pkp P i) j = some s) : pget P j = some s ∧ (j + 1 = i → ∀ w : Value, s = .val w → w.category = 1) := by
  cases i with
  | zero => exact ⟨h, fun q => by omega⟩
  | succ i => obtain ⟨h1, h2⟩ := pk1_sub (show pget (pk1 P i) j = some s from h); exact ⟨h1, fun q => h2 (by omega)⟩
theorem setAt_eq {L : Array Slot} {i : Nat} {x : Slot} (hi : i < L.size) : Jvm.setAt L i x = some (L.setIfInBounds i x) := by simp [Jvm.setAt, hi]
theorem sl_second {L : Array Slot} {i : Nat} {v : Value} (ho : L[i]? = some .second) : storeLocals L i v = (Jvm.setAt L (i - 1) .unset).bind fun l => storeSelf l i v := by
  unfold storeLocals; rw [ho]; rfl
theorem sl_unset {L : Array Slot} {i : Nat} {v : Value} (ho : L[i]? = some .unset) : storeLocals L i v = storeSelf L i v := by
  unfold storeLocals; rw [ho]; rfl
theorem sl_val {L : Array Slot} {i : Nat} {v o : Value} (ho : L[i]? = some (.val o)) : storeLocals L i v = if o.category = 2 then (Jvm.setAt L (i + 1) .unset).bind fun l => storeSelf l i v else storeSelf L i v := by
  unfold storeLocals; rw [ho]; rfl
theorem ss_one {L : Array Slot} {i : Nat} {v : Value} (hi : i < L.size) (hv : ¬ v.category = 2) : storeSelf L i v = some (L.setIfInBounds i (.val v)) := by
  unfold storeSelf; rw [setAt_eq hi]; simp [hv]
theorem ss_two {L : Array Slot} {i : Nat} {v : Value} {o : Slot} (hi : i < L.size) (hv : v.category = 2) (ho : L[i + 1]? = some o) : storeSelf L i v = (match o with
    | .val old => if old.category = 2 then (Jvm.setAt (L.setIfInBounds i (.val v)) (i + 2) .unset).bind fun l => Jvm.setAt l (i + 1) .second else Jvm.setAt (L.setIfInBounds i (.val v)) (i + 1) .second
    | _ => Jvm.setAt (L.setIfInBounds i (.val v)) (i + 1) .second) := by
  have e : (L.setIfInBounds i (.val v))[i + 1]? = some o := by rw [Array.getElem?_setIfInBounds_ne (by omega)]; exact ho
  unfold storeSelf; rw [setAt_eq hi]
  show (if v.category = 2 then _ else _) = _
  rw [if_pos hv, e]
  cases o <;> rfl
theorem cat12 (v : Value) : v.category = 1 ∨ v.category = 2 := by cases v <;> first | exact Or.inl rfl | exact Or.inr rfl
/-- a one-word store: what stands elsewhere stays, but for the halves of a two-word value that it breaks -/
theorem store_one {L : Array Slot} {i : Nat} {v : Value} (hW : WFl L) (hi : i < L.size) (hv : v.category = 1) :
    ∃ L', storeLocals L i v = some L' ∧ L'.size = L.size ∧ WFl L' ∧ L'[i]? = some (.val v) ∧ ∀ j, j ≠ i → L'[j]? = L[j]? ∨ (j + 1 = i ∧ L[i]? = some .second) ∨ (j = i + 1 ∧ L[j]? = some .second) := by
  have hv2 : ¬ v.category = 2 := by omega
  cases ho : L[i]? with
  | none => rw [Array.getElem?_eq_none_iff] at ho; omega
  | some o =>
    cases o with
    | unset =>
      refine ⟨L.setIfInBounds i (.val v), ?_, by simp, ?_, by simp [hi], fun j hj => Or.inl (Array.getElem?_setIfInBounds_ne (Ne.symm hj))⟩
      · rw [sl_unset ho, ss_one hi hv2]
      · refine ⟨fun j hj => ?_, fun j w hj hw => ?_⟩
        · by_cases e : j = i
          · subst e; simp [hi] at hj
          · rw [Array.getElem?_setIfInBounds_ne (Ne.symm e)] at hj
            obtain ⟨j', w, e1, e2, e3⟩ := hW.1 j hj
            refine ⟨j', w, e1, ?_, e3⟩
            rw [Array.getElem?_setIfInBounds_ne]; exact e2
            intro q; subst q; rw [ho] at e2; cases e2
        · by_cases e : j = i
          · subst e; simp [hi] at hj; subst hj; omega
          · rw [Array.getElem?_setIfInBounds_ne (Ne.symm e)] at hj
            have := hW.2 j w hj hw
            rw [Array.getElem?_setIfInBounds_ne]; exact this
            intro q; subst q; rw [ho] at this; cases this
    | second =>
      obtain ⟨j0, w0, rfl, f2, f3⟩ := hW.1 i ho
      have hj0 : j0 < L.size := by omega
      refine ⟨(L.setIfInBounds j0 .unset).setIfInBounds (j0 + 1) (.val v), ?_, by simp, ?_, by simp [hi], fun j hj => ?_⟩
      · rw [sl_second ho, show j0 + 1 - 1 = j0 from rfl, setAt_eq hj0]; exact ss_one (by simpa using hi) hv2
      · refine ⟨fun j hj => ?_, fun j w hj hw => ?_⟩
        · by_cases e : j = j0 + 1
          · subst e; simp [hi] at hj
          · rw [Array.getElem?_setIfInBounds_ne (Ne.symm e)] at hj
            by_cases e' : j = j0
            · subst e'; simp [hj0] at hj
            · rw [Array.getElem?_setIfInBounds_ne (Ne.symm e')] at hj
              obtain ⟨j', w, e1, e2, e3⟩ := hW.1 j hj
              refine ⟨j', w, e1, ?_, e3⟩
              rw [Array.getElem?_setIfInBounds_ne, Array.getElem?_setIfInBounds_ne]
              · exact e2
              · intro q; subst q; omega
              · intro q; subst q; rw [ho] at e2; cases e2
        · by_cases e : j = j0 + 1
          · subst e; simp [hi] at hj; subst hj; omega
          · rw [Array.getElem?_setIfInBounds_ne (Ne.symm e)] at hj
            by_cases e' : j = j0
            · subst e'; simp [hj0] at hj
            · rw [Array.getElem?_setIfInBounds_ne (Ne.symm e')] at hj
              have := hW.2 j w hj hw
              rw [Array.getElem?_setIfInBounds_ne, Array.getElem?_setIfInBounds_ne]
              · exact this
              · intro q; subst q; rw [f2] at this; cases this
              · omega
      · by_cases e' : j = j0
        · exact Or.inr (Or.inl ⟨by omega, rfl⟩)
        · left; rw [Array.getElem?_setIfInBounds_ne (Ne.symm hj), Array.getElem?_setIfInBounds_ne (Ne.symm e')]
    | val old =>
      by_cases hc : old.category = 2
      · have f2 := hW.2 i old ho hc
        have hi1 : i + 1 < L.size := (Array.getElem?_eq_some_iff.mp f2).1
        refine ⟨(L.setIfInBounds (i + 1) .unset).setIfInBounds i (.val v), ?_, by simp, ?_, by simp [hi], fun j hj => ?_⟩
        · rw [sl_val ho, if_pos hc, setAt_eq hi1]; exact ss_one (by simpa using hi) hv2
        · refine ⟨fun j hj => ?_, fun j w hj hw => ?_⟩
          · by_cases e : j = i
            · subst e; simp [hi] at hj
            · rw [Array.getElem?_setIfInBounds_ne (Ne.symm e)] at hj
              by_cases e' : j = i + 1
              · subst e'; simp [hi1] at hj
              · rw [Array.getElem?_setIfInBounds_ne (Ne.symm e')] at hj
                obtain ⟨j', w, e1, e2, e3⟩ := hW.1 j hj
                refine ⟨j', w, e1, ?_, e3⟩
                rw [Array.getElem?_setIfInBounds_ne, Array.getElem?_setIfInBounds_ne]
                · exact e2
                · intro q; subst q; rw [f2] at e2; cases e2
                · omega
          · by_cases e : j = i
            · subst e; simp [hi] at hj; subst hj; omega
            · rw [Array.getElem?_setIfInBounds_ne (Ne.symm e)] at hj
              by_cases e' : j = i + 1
              · subst e'; simp [hi1] at hj
              · rw [Array.getElem?_setIfInBounds_ne (Ne.symm e')] at hj
                have := hW.2 j w hj hw
                rw [Array.getElem?_setIfInBounds_ne, Array.getElem?_setIfInBounds_ne]
                · exact this
                · omega
                · intro q; subst q; rw [ho] at this; cases this
        · by_cases e' : j = i + 1
          · subst e'; exact Or.inr (Or.inr ⟨rfl, f2⟩)
          · left; rw [Array.getElem?_setIfInBounds_ne (Ne.symm hj), Array.getElem?_setIfInBounds_ne (Ne.symm e')]
      · refine ⟨L.setIfInBounds i (.val v), ?_, by simp, ?_, by simp [hi], fun j hj => Or.inl (Array.getElem?_setIfInBounds_ne (Ne.symm hj))⟩
        · rw [sl_val ho, if_neg hc, ss_one hi hv2]
        · refine ⟨fun j hj => ?_, fun j w hj hw => ?_⟩
          · by_cases e : j = i
            · subst e; simp [hi] at hj
            · rw [Array.getElem?_setIfInBounds_ne (Ne.symm e)] at hj
              obtain ⟨j', w, e1, e2, e3⟩ := hW.1 j hj
              refine ⟨j', w, e1, ?_, e3⟩
              rw [Array.getElem?_setIfInBounds_ne]; exact e2
              intro q; subst q; rw [ho] at e2; cases e2; omega
          · by_cases e : j = i
            · subst e; simp [hi] at hj; subst hj; omega
            · rw [Array.getElem?_setIfInBounds_ne (Ne.symm e)] at hj
              have := hW.2 j w hj hw
              rw [Array.getElem?_setIfInBounds_ne]; exact this
              intro q; subst q; rw [ho] at this; cases this
theorem Fits.store1 {P : Pat} {L : Array Slot} {i : Nat} {v : Value} (h : Fits P L) (hi : i < L.size) (hv : v.category = 1) :
    ∃ L', storeLocals L i v = some L' ∧ L'.size = L.size ∧ Fits (ps1 P i v) L' := by
  obtain ⟨L', e1, e2, e3, e4, e5⟩ := store_one h.2 hi hv
  refine ⟨L', e1, e2, fun j s hj => ?_, e3⟩
  rcases pget_pput _ _ _ _ _ hj with ⟨rfl, q⟩ | ⟨ne, q⟩
  · rw [e4]; exact q
  · obtain ⟨q1, q2⟩ := pk2_sub q
    obtain ⟨q3, q4⟩ := pkp_sub q1
    have hL := h.1 j s q3
    rcases e5 j ne with r | ⟨r1, r2⟩ | ⟨r1, r2⟩
    · rw [r]; exact hL
    · obtain ⟨j', w, z1, z2, z3⟩ := h.2.1 i r2
      have : j' = j := by omega
      subst this
      rw [hL] at z2; cases z2
      have := q4 r1 w rfl; omega
    · rw [hL] at r2; cases r2
      exact absurd rfl (q2 r1)
theorem st_ph1 {L : Array Slot} {i : Nat} {v : Value} (hW : WFl L) (hi : i + 1 < L.size) :
    ∃ A : Array Slot, storeLocals L i v = storeSelf A i v ∧ A.size = L.size ∧ (∀ j, j ≠ i → j ≠ i + 1 → A[j]? = L[j]? ∨ (j + 1 = i ∧ L[i]? = some .second ∧ A[j]? = some .unset)) ∧ (A[i + 1]? = L[i + 1]? ∨ (A[i + 1]? = some .unset ∧ L[i + 1]? = some .second)) ∧ (L[i]? = some .second → ∀ j, j + 1 = i → A[j]? = some .unset) := by
  have hi0 : i < L.size := by omega
  cases ho : L[i]? with
  | none => rw [Array.getElem?_eq_none_iff] at ho; omega
  | some o =>
    cases o with
    | unset => exact ⟨L, sl_unset ho, rfl, fun j _ _ => Or.inl rfl, Or.inl rfl, fun q => by cases q⟩
    | second =>
      obtain ⟨j0, w0, rfl, f2, f3⟩ := hW.1 i ho
      have hj0 : j0 < L.size := by omega
      refine ⟨L.setIfInBounds j0 .unset, by rw [sl_second ho, show j0 + 1 - 1 = j0 from rfl, setAt_eq hj0]; rfl, by simp, fun j h1 h2 => ?_, Or.inl (Array.getElem?_setIfInBounds_ne (by omega)), fun _ j hj => ?_⟩
      · by_cases e : j = j0
        · subst e; exact Or.inr ⟨rfl, rfl, by simp [hj0]⟩
        · exact Or.inl (Array.getElem?_setIfInBounds_ne (Ne.symm e))
      · have : j = j0 := by omega
        subst this; simp [hj0]
    | val old =>
      by_cases hc : old.category = 2
      · refine ⟨L.setIfInBounds (i + 1) .unset, by rw [sl_val ho, if_pos hc, setAt_eq hi]; rfl, by simp, fun j h1 h2 => Or.inl (Array.getElem?_setIfInBounds_ne (Ne.symm h2)), Or.inr ⟨by simp [hi], hW.2 i old ho hc⟩, fun q => by cases q⟩
      · exact ⟨L, by rw [sl_val ho, if_neg hc], rfl, fun j _ _ => Or.inl rfl, Or.inl rfl, fun q => by cases q⟩
theorem st_ph2 {A : Array Slot} {i : Nat} {v : Value} (hi : i + 1 < A.size) (hv : v.category = 2) (hn : ∀ w : Value, A[i + 1]? = some (.val w) → w.category = 2 → i + 2 < A.size) :
    ∃ L', storeSelf A i v = some L' ∧ L'.size = A.size ∧ L'[i]? = some (.val v) ∧ L'[i + 1]? = some .second ∧ (∀ j, j ≠ i → j ≠ i + 1 → L'[j]? = A[j]? ∨ (j = i + 2 ∧ L'[j]? = some .unset ∧ ∃ w : Value, A[i + 1]? = some (.val w) ∧ w.category = 2)) ∧ ((∃ w : Value, A[i + 1]? = some (.val w) ∧ w.category = 2) → L'[i + 2]? = some .unset) := by
  have hi0 : i < A.size := by omega
  have eB : (A.setIfInBounds i (.val v))[i + 1]? = A[i + 1]? := Array.getElem?_setIfInBounds_ne (by omega)
  have plain : (∀ w : Value, A[i + 1]? = some (.val w) → w.category ≠ 2) → storeSelf A i v = some ((A.setIfInBounds i (.val v)).setIfInBounds (i + 1) .second) := fun hq => by
    cases ho : A[i + 1]? with
    | none => rw [Array.getElem?_eq_none_iff] at ho; omega
    | some o => cases o with
      | unset => rw [ss_two hi0 hv ho]; exact setAt_eq (by simpa using hi)
      | second => rw [ss_two hi0 hv ho]; exact setAt_eq (by simpa using hi)
      | val w => have := hq w ho; rw [ss_two hi0 hv ho]; simp only [if_neg this]; exact setAt_eq (by simpa using hi)
  by_cases hw : ∃ w : Value, A[i + 1]? = some (.val w) ∧ w.category = 2
  · obtain ⟨w, h1, h2⟩ := hw
    have h3 := hn w h1 h2
    refine ⟨((A.setIfInBounds i (.val v)).setIfInBounds (i + 2) .unset).setIfInBounds (i + 1) .second, by rw [ss_two hi0 hv h1]; simp only [if_pos h2]; rw [setAt_eq (by simpa using h3)]; exact setAt_eq (by simpa using hi), by simp, ?_, by simp [hi], fun j a b => ?_, fun _ => ?_⟩
    · rw [Array.getElem?_setIfInBounds_ne (by omega), Array.getElem?_setIfInBounds_ne (by omega)]; simp [hi0]
    · rw [Array.getElem?_setIfInBounds_ne (by omega)]
      by_cases e : j = i + 2
      · subst e; exact Or.inr ⟨rfl, by simp [h3], w, h1, h2⟩
      · left; rw [Array.getElem?_setIfInBounds_ne (by omega), Array.getElem?_setIfInBounds_ne (by omega)]
    · rw [Array.getElem?_setIfInBounds_ne (by omega)]; simp [h3]
  · refine ⟨_, plain fun w h1 h2 => hw ⟨w, h1, h2⟩, by simp, ?_, by simp [hi], fun j a b => Or.inl ?_, fun q => absurd q hw⟩
    · rw [Array.getElem?_setIfInBounds_ne (by omega)]; simp [hi0]
    · rw [Array.getElem?_setIfInBounds_ne (by omega), Array.getElem?_setIfInBounds_ne (by omega)]
theorem store_two {L : Array Slot} {i : Nat} {v : Value} (hW : WFl L) (hi : i + 1 < L.size) (hv : v.category = 2) :
    ∃ L', storeLocals L i v = some L' ∧ L'.size = L.size ∧ WFl L' ∧ L'[i]? = some (.val v) ∧ L'[i + 1]? = some .second ∧ ∀ j, j ≠ i → j ≠ i + 1 → L'[j]? = L[j]? ∨ (j + 1 = i ∧ L[i]? = some .second) ∨ (j = i + 2 ∧ L[j]? = some .second) := by
  obtain ⟨A, a1, a2, a3, a4, a5⟩ := st_ph1 (v := v) hW hi
  have a6 : ∀ w : Value, A[i + 1]? = some (.val w) → w.category = 2 → L[i + 2]? = some .second := fun w h1 h2 => by
    rcases a4 with e | ⟨e, -⟩
    · rw [e] at h1; exact hW.2 _ _ h1 h2
    · rw [e] at h1; cases h1
  obtain ⟨L', b1, b2, b3, b4, b5, b6⟩ := st_ph2 (A := A) (i := i) (v := v) (by omega) hv (fun w h1 h2 => by have := (Array.getElem?_eq_some_iff.mp (a6 w h1 h2)).1; omega)
  have c : ∀ j, j ≠ i → j ≠ i + 1 → L'[j]? = L[j]? ∨ (j + 1 = i ∧ L[i]? = some .second ∧ L'[j]? = some .unset) ∨ (j = i + 2 ∧ L[j]? = some .second ∧ L'[j]? = some .unset) := fun j h1 h2 => by
    rcases b5 j h1 h2 with e | ⟨e1, e2, w, e3, e4⟩
    · rcases a3 j h1 h2 with r | ⟨r1, r2, r3⟩
      · exact Or.inl (e.trans r)
      · exact Or.inr (Or.inl ⟨r1, r2, e.trans r3⟩)
    · subst e1; exact Or.inr (Or.inr ⟨rfl, a6 w e3 e4, e2⟩)
  have cs : L[i]? = some .second → ∀ j, j + 1 = i → L'[j]? = some .unset := fun q j hj => by
    rcases b5 j (by omega) (by omega) with e | ⟨e1, -⟩
    · exact e.trans (a5 q j hj)
    · omega
  have c2 : L[i + 2]? = some .second → L'[i + 2]? = some .unset := fun q => by
    obtain ⟨j', w, z1, z2, z3⟩ := hW.1 _ q
    have : j' = i + 1 := by omega
    subst this
    rcases a4 with e | ⟨-, e⟩
    · exact b6 ⟨w, e.trans z2, z3⟩
    · rw [e] at z2; cases z2
  refine ⟨L', a1.trans b1, b2.trans a2, ⟨fun j hj => ?_, fun j w hj hw => ?_⟩, b3, b4, fun j h1 h2 => ?_⟩
  · by_cases e0 : j = i
    · subst e0; rw [b3] at hj; cases hj
    by_cases e1 : j = i + 1
    · exact ⟨i, v, e1, b3, hv⟩
    rcases c j e0 e1 with r | ⟨-, -, r⟩ | ⟨-, -, r⟩
    · rw [r] at hj
      obtain ⟨j', w, z1, z2, z3⟩ := hW.1 j hj
      refine ⟨j', w, z1, ?_, z3⟩
      have n0 : j' ≠ i := by omega
      by_cases n1 : j' = i + 1
      · have : j = i + 2 := by omega
        subst this
        rw [c2 hj] at r; rw [hj] at r; cases r
      rcases c j' n0 n1 with u | ⟨u, -, -⟩ | ⟨-, u, -⟩
      · exact u.trans z2
      · omega
      · rw [z2] at u; cases u
    · rw [r] at hj; cases hj
    · rw [r] at hj; cases hj
  · by_cases e0 : j = i
    · subst e0; exact b4
    by_cases e1 : j = i + 1
    · subst e1; rw [b4] at hj; cases hj
    rcases c j e0 e1 with r | ⟨-, -, r⟩ | ⟨-, -, r⟩
    · have hj' := hj
      rw [r] at hj
      have z := hW.2 j w hj hw
      by_cases n0 : j + 1 = i
      · subst n0; rw [cs z j rfl] at hj'; cases hj'
      by_cases n1 : j + 1 = i + 1
      · omega
      rcases c (j + 1) n0 n1 with u | ⟨u1, u2, -⟩ | ⟨u, -, -⟩
      · exact u.trans z
      · obtain ⟨j', w', y1, y2, y3⟩ := hW.1 i u2
        have : j' = j + 1 := by omega
        subst this; rw [z] at y2; cases y2
      · omega
    · rw [r] at hj; cases hj
    · rw [r] at hj; cases hj
  · rcases c j h1 h2 with r | ⟨r1, r2, -⟩ | ⟨r1, r2, -⟩
    · exact Or.inl r
    · exact Or.inr (Or.inl ⟨r1, r2⟩)
    · exact Or.inr (Or.inr ⟨r1, r2⟩)
theorem Fits.store2 {P : Pat} {L : Array Slot} {i : Nat} {v : Value} (h : Fits P L) (hi : i + 1 < L.size) (hv : v.category = 2) :
    ∃ L', storeLocals L i v = some L' ∧ L'.size = L.size ∧ Fits (ps2 P i v) L' := by
  obtain ⟨L', e1, e2, e3, e4, e4', e5⟩ := store_two h.2 hi hv
  refine ⟨L', e1, e2, fun j s hj => ?_, e3⟩
  rcases pget_pput _ _ _ _ _ hj with ⟨rfl, q⟩ | ⟨ne, q⟩
  · rw [e4']; exact q
  rcases pget_pput _ _ _ _ _ q with ⟨rfl, q'⟩ | ⟨ne', q'⟩
  · rw [e4]; exact q'
  obtain ⟨q1, q2⟩ := pk2_sub q'
  obtain ⟨q3, q4⟩ := pkp_sub q1
  have hL := h.1 j s q3
  rcases e5 j ne' ne with r | ⟨r1, r2⟩ | ⟨r1, r2⟩
  · rw [r]; exact hL
  · obtain ⟨j', w, z1, z2, z3⟩ := h.2.1 i r2
    have : j' = j := by omega
    subst this
    rw [hL] at z2; cases z2
    have := q4 r1 w rfl; omega
  · rw [hL] at r2; cases r2
    exact absurd rfl (q2 r1)
/- what a body does from a place on -/
def Runs (C : Ctx) (M : Bdy) (k n pc : Nat) (P : Pat) (S : List Value) (G : AH) (Q : Option Value → AH → Prop) : Prop :=
  Ok C → ∀ (p : Program) (e : Env) (s : State) (m : MethodId) (args : Array Value) (below : List Frame) (meth : Method) (c : Code) (T : State) (locs : List Loc) (L : Array Slot),
    p.tables.exec = Jvm.exec → c.code = M.2.1 → c.maxLocals = M.2.2.1 → meth.sig.returnType = M.2.2.2.1 → meth.name = M.1.name → s.vm.findClass M.1.cls = some m.cls → C.2.1.Warmed39 s.vm →
    Fits P L → L.size = M.2.2.1 → Stand p C.1 e M.2.2.2.2 s m args below meth c T locs k n → Rep C.2.1 C.2.2.1 T.heap G → Fr C.2.2.1 locs →
    ∃ (T' : State) (locs' : List Loc) (k' n' : Nat) (r : Option Value) (G' : AH), Stand p C.1 e M.2.2.2.2 s m args below meth c T' locs' k' n' ∧ k' ≤ M.2.2.2.2.cells ∧ n' ≤ M.2.2.2.2.slots ∧ Rep C.2.1 C.2.2.1 T'.heap G' ∧ Fr C.2.2.1 locs' ∧ Q r G' ∧
      (M.2.2.2.1 = none → r = none) ∧
      ∀ fs : List Frame, (∀ (f : JFrame) (acts : List Action), f.method = m → f.locked = none → f.entered = [] → (doReturn e (T'.setTop f) acts r).1 = T'.setFrames fs) → Steps p.tables e below (T.setTop (mkF m pc L S)) (T'.setFrames fs)
section Rules
variable {C : Ctx} {M : Bdy} {k n pc q : Nat} {P P' : Pat} {S S' : List Value} {G : AH} {Q : Option Value → AH → Prop}
/-- a step that leaves the heap alone -/
theorem Runs.pure {i : Instr} {len : Nat} (d : DAt M pc i len q) {pc' : Nat}
    (st : ∀ (p : Program) (e : Env) (s : State) (m : MethodId) (args : Array Value) (below : List Frame) (meth : Method) (c : Code) (T : State) (locs : List Loc) (L : Array Slot), Ok C → p.tables.exec = Jvm.exec → s.vm.findClass M.1.cls = some m.cls → C.2.1.Warmed39 s.vm → decode c.code pc = .ok (i, len) → Fits P L → L.size = M.2.2.1 → Rep C.2.1 C.2.2.1 T.heap G →
      Stand p C.1 e M.2.2.2.2 s m args below meth c T locs k n → ∃ L', Fits P' L' ∧ L'.size = M.2.2.1 ∧ ∀ t, Steps p.tables e below (T.setTop (mkF m pc' L' S')) t → Steps p.tables e below (T.setTop (mkF m pc L S)) t)
    (h : Runs C M k n pc' P' S' G Q) : Runs C M k n pc P S G Q := by
  intro hw p e s m args below meth c T locs L hx hby hml hret hnm hown hZ hP hsz X hR hF
  obtain ⟨L', f1, f2, f3⟩ := st p e s m args below meth c T locs L hw hx hown hZ (hb hby d.1) hP hsz hR X
  obtain ⟨T', locs', k', n', r, G', g1, g2, g3, g4, g5, g6, g7, g8⟩ := h hw p e s m args below meth c T locs L' hx hby hml hret hnm hown hZ f1 f2 X hR hF
  exact ⟨T', locs', k', n', r, G', g1, g2, g3, g4, g5, g6, g7, fun fs hr => f3 _ (g8 fs hr)⟩
/-- a step that keeps the locals and what the heap says -/
theorem Runs.stk {i : Instr} {len : Nat} (d : DAt M pc i len q)
    (st : ∀ (p : Program) (e : Env) (s : State) (m : MethodId) (args : Array Value) (below : List Frame) (meth : Method) (c : Code) (T : State) (locs : List Loc) (L : Array Slot), p.tables.exec = Jvm.exec → decode c.code pc = .ok (i, len) → Fits P L →
      Stand p C.1 e M.2.2.2.2 s m args below meth c T locs k n → ∀ t, Steps p.tables e below (T.setTop (mkF m (pc + len) L S')) t → Steps p.tables e below (T.setTop (mkF m pc L S)) t)
    (h : Runs C M k n q P S' G Q) : Runs C M k n pc P S G Q := by
  have hq := d.2
  subst hq
  exact Runs.pure d (fun p e s m args below meth c T locs L _ hx _ _ hd hP hsz _ X => ⟨L, hP, hsz, st p e s m args below meth c T locs L hx hd hP X⟩) h
theorem Runs.iloadN {j : Fin 4} {v : Int32} (d : DAt M pc (.iload_n j) 1 q) (hl : pget P j.val = vi v) (h : Runs C M k n q P (.int v :: S) G Q) : Runs C M k n pc P S G Q :=
  Runs.stk d (fun p e s m args below meth c T locs L hx hd hP X t r => XS.iloadN (g := mkF m pc L S) X.here hx rfl hd (hP.1 _ _ hl) r) h
theorem Runs.iload {j : Nat} {v : Int32} (d : DAt M pc (.iload j) 2 q) (hl : pget P j = vi v) (h : Runs C M k n q P (.int v :: S) G Q) : Runs C M k n pc P S G Q :=
  Runs.stk d (fun p e s m args below meth c T locs L hx hd hP X t r => XS.iload (g := mkF m pc L S) X.here hx rfl hd (hP.1 _ _ hl) r) h
theorem Runs.lloadN {j : Fin 4} {v : Int64} (d : DAt M pc (.lload_n j) 1 q) (hl : pget P j.val = vl v) (h : Runs C M k n q P (.long v :: S) G Q) : Runs C M k n pc P S G Q :=
  Runs.stk d (fun p e s m args below meth c T locs L hx hd hP X t r => XS.lloadN (g := mkF m pc L S) X.here hx rfl hd (hP.1 _ _ hl) r) h
theorem Runs.lload {j : Nat} {v : Int64} (d : DAt M pc (.lload j) 2 q) (hl : pget P j = vl v) (h : Runs C M k n q P (.long v :: S) G Q) : Runs C M k n pc P S G Q :=
  Runs.stk d (fun p e s m args below meth c T locs L hx hd hP X t r => XS.lload (g := mkF m pc L S) X.here hx rfl hd (hP.1 _ _ hl) r) h
theorem Runs.aloadN {j : Fin 4} {v : Nat} (d : DAt M pc (.aload_n j) 1 q) (hl : pget P j.val = vr v) (h : Runs C M k n q P (.ref v :: S) G Q) : Runs C M k n pc P S G Q :=
  Runs.stk d (fun p e s m args below meth c T locs L hx hd hP X t r => XS.aloadN (g := mkF m pc L S) X.here hx rfl hd (hP.1 _ _ hl) rfl r) h
theorem Runs.aload {j : Nat} {v : Nat} (d : DAt M pc (.aload j) 2 q) (hl : pget P j = vr v) (h : Runs C M k n q P (.ref v :: S) G Q) : Runs C M k n pc P S G Q :=
  Runs.stk d (fun p e s m args below meth c T locs L hx hd hP X t r => XS.aload (g := mkF m pc L S) X.here hx rfl hd (hP.1 _ _ hl) rfl r) h
theorem Runs.iconst {i : Int} {v : Int32} (d : DAt M pc (.iconst i) 1 q) (hv : Int32.ofInt i = v) (h : Runs C M k n q P (.int v :: S) G Q) : Runs C M k n pc P S G Q :=
  Runs.stk d (fun p e s m args below meth c T locs L hx hd hP X t r => XS.iconst (g := mkF m pc L S) X.here hx rfl hd (by rw [hv]; exact r)) h
theorem Runs.bipush {i : Int} {v : Int32} (d : DAt M pc (.bipush i) 2 q) (hv : (Int8.ofInt i).toInt32 = v) (h : Runs C M k n q P (.int v :: S) G Q) : Runs C M k n pc P S G Q :=
  Runs.stk d (fun p e s m args below meth c T locs L hx hd hP X t r => XS.bipush (g := mkF m pc L S) X.here hx rfl hd (by rw [hv]; exact r)) h
theorem Runs.sipush {i : Int} {v : Int32} (d : DAt M pc (.sipush i) 3 q) (hv : (Int16.ofInt i).toInt32 = v) (h : Runs C M k n q P (.int v :: S) G Q) : Runs C M k n pc P S G Q :=
  Runs.stk d (fun p e s m args below meth c T locs L hx hd hP X t r => XS.sipush (g := mkF m pc L S) X.here hx rfl hd (by rw [hv]; exact r)) h
theorem Runs.lconst {i : Fin 2} {v : Int64} (d : DAt M pc (.lconst i) 1 q) (hv : Int64.ofNat i = v) (h : Runs C M k n q P (.long v :: S) G Q) : Runs C M k n pc P S G Q :=
  Runs.stk d (fun p e s m args below meth c T locs L hx hd hP X t r => Jvm.Free.XT.lconstV (g := mkF m pc L S) X.here hx rfl v hd hv r) h
theorem Runs.ldc {i : Nat} {v : Int32} (d : DAt M pc (.ldc i) 2 q) (w : Jvm.Cond.constant M.1.cls i v ∈ tables_1) (h : Runs C M k n q P (.int v :: S) G Q) : Runs C M k n pc P S G Q := by
  have hq := d.2
  subst hq
  exact Runs.pure d (fun p e s m args below meth c T locs L hw hx hown hZ hd hP hsz _ X => ⟨L, hP, hsz, fun t r => X.ldcInt hx hown (mvT hZ (hw _ w)) (g := mkF m pc L S) rfl hd t r⟩) h
theorem Runs.ldc2 {i : Nat} {v : Int64} (d : DAt M pc (.ldc2_w i) 3 q) (w : Jvm.Cond.constantLong M.1.cls i v ∈ tables_1) (h : Runs C M k n q P (.long v :: S) G Q) : Runs C M k n pc P S G Q := by
  have hq := d.2
  subst hq
  exact Runs.pure d (fun p e s m args below meth c T locs L hw hx hown hZ hd hP hsz _ X => ⟨L, hP, hsz, fun t r => X.ldc2Long hx hown (mvT hZ (hw _ w)) (g := mkF m pc L S) rfl hd t r⟩) h
theorem Runs.iadd {x y : Int32} (d : DAt M pc .iadd 1 q) (h : Runs C M k n q P (.int (x + y) :: S) G Q) : Runs C M k n pc P (.int y :: .int x :: S) G Q :=
  Runs.stk d (fun p e s m args below meth c T locs L hx hd hP X t r => XS.iadd (g := mkF m pc L (.int y :: .int x :: S)) X.here hx rfl hd rfl r) h
theorem Runs.isub {x y : Int32} (d : DAt M pc .isub 1 q) (h : Runs C M k n q P (.int (x - y) :: S) G Q) : Runs C M k n pc P (.int y :: .int x :: S) G Q :=
  Runs.stk d (fun p e s m args below meth c T locs L hx hd hP X t r => XS.isub (g := mkF m pc L (.int y :: .int x :: S)) X.here hx rfl hd rfl r) h
theorem Runs.imul {x y : Int32} (d : DAt M pc .imul 1 q) (h : Runs C M k n q P (.int (x * y) :: S) G Q) : Runs C M k n pc P (.int y :: .int x :: S) G Q :=
  Runs.stk d (fun p e s m args below meth c T locs L hx hd hP X t r => XS.imul (g := mkF m pc L (.int y :: .int x :: S)) X.here hx rfl hd rfl r) h
theorem Runs.iand {x y : Int32} (d : DAt M pc .iand 1 q) (h : Runs C M k n q P (.int (x &&& y) :: S) G Q) : Runs C M k n pc P (.int y :: .int x :: S) G Q :=
  Runs.stk d (fun p e s m args below meth c T locs L hx hd hP X t r => XS.iand (g := mkF m pc L (.int y :: .int x :: S)) X.here hx rfl hd rfl r) h
theorem Runs.ior {x y : Int32} (d : DAt M pc .ior 1 q) (h : Runs C M k n q P (.int (x ||| y) :: S) G Q) : Runs C M k n pc P (.int y :: .int x :: S) G Q :=
  Runs.stk d (fun p e s m args below meth c T locs L hx hd hP X t r => XS.ior (g := mkF m pc L (.int y :: .int x :: S)) X.here hx rfl hd rfl r) h
theorem Runs.ixor {x y : Int32} (d : DAt M pc .ixor 1 q) (h : Runs C M k n q P (.int (x ^^^ y) :: S) G Q) : Runs C M k n pc P (.int y :: .int x :: S) G Q :=
  Runs.stk d (fun p e s m args below meth c T locs L hx hd hP X t r => XS.ixor (g := mkF m pc L (.int y :: .int x :: S)) X.here hx rfl hd rfl r) h
theorem Runs.ladd {x y : Int64} (d : DAt M pc .ladd 1 q) (h : Runs C M k n q P (.long (x + y) :: S) G Q) : Runs C M k n pc P (.long y :: .long x :: S) G Q :=
  Runs.stk d (fun p e s m args below meth c T locs L hx hd hP X t r => XS.ladd (g := mkF m pc L (.long y :: .long x :: S)) X.here hx rfl hd rfl r) h
theorem Runs.lsub {x y : Int64} (d : DAt M pc .lsub 1 q) (h : Runs C M k n q P (.long (x - y) :: S) G Q) : Runs C M k n pc P (.long y :: .long x :: S) G Q :=
  Runs.stk d (fun p e s m args below meth c T locs L hx hd hP X t r => XS.lsub (g := mkF m pc L (.long y :: .long x :: S)) X.here hx rfl hd rfl r) h
theorem Runs.lmul {x y : Int64} (d : DAt M pc .lmul 1 q) (h : Runs C M k n q P (.long (x * y) :: S) G Q) : Runs C M k n pc P (.long y :: .long x :: S) G Q :=
  Runs.stk d (fun p e s m args below meth c T locs L hx hd hP X t r => XS.lmul (g := mkF m pc L (.long y :: .long x :: S)) X.here hx rfl hd rfl r) h
theorem Runs.land {x y : Int64} (d : DAt M pc .land 1 q) (h : Runs C M k n q P (.long (x &&& y) :: S) G Q) : Runs C M k n pc P (.long y :: .long x :: S) G Q :=
  Runs.stk d (fun p e s m args below meth c T locs L hx hd hP X t r => XS.land (g := mkF m pc L (.long y :: .long x :: S)) X.here hx rfl hd rfl r) h
theorem Runs.lor {x y : Int64} (d : DAt M pc .lor 1 q) (h : Runs C M k n q P (.long (x ||| y) :: S) G Q) : Runs C M k n pc P (.long y :: .long x :: S) G Q :=
  Runs.stk d (fun p e s m args below meth c T locs L hx hd hP X t r => XS.lor (g := mkF m pc L (.long y :: .long x :: S)) X.here hx rfl hd rfl r) h
theorem Runs.lxor {x y : Int64} (d : DAt M pc .lxor 1 q) (h : Runs C M k n q P (.long (x ^^^ y) :: S) G Q) : Runs C M k n pc P (.long y :: .long x :: S) G Q :=
  Runs.stk d (fun p e s m args below meth c T locs L hx hd hP X t r => XS.lxor (g := mkF m pc L (.long y :: .long x :: S)) X.here hx rfl hd rfl r) h
theorem Runs.ishl {x : Int32} {y : Int32} (d : DAt M pc .ishl 1 q) (h : Runs C M k n q P (.int (x <<< (y &&& 31)) :: S) G Q) : Runs C M k n pc P (.int y :: .int x :: S) G Q :=
  Runs.stk d (fun p e s m args below meth c T locs L hx hd hP X t r => XS.ishl (g := mkF m pc L (.int y :: .int x :: S)) X.here hx rfl hd rfl r) h
theorem Runs.ishr {x : Int32} {y : Int32} (d : DAt M pc .ishr 1 q) (h : Runs C M k n q P (.int (x >>> (y &&& 31)) :: S) G Q) : Runs C M k n pc P (.int y :: .int x :: S) G Q :=
  Runs.stk d (fun p e s m args below meth c T locs L hx hd hP X t r => XS.ishr (g := mkF m pc L (.int y :: .int x :: S)) X.here hx rfl hd rfl r) h
theorem Runs.iushr {x : Int32} {y : Int32} (d : DAt M pc .iushr 1 q) (h : Runs C M k n q P (.int ((x.toUInt32 >>> (y &&& 31).toUInt32).toInt32) :: S) G Q) : Runs C M k n pc P (.int y :: .int x :: S) G Q :=
  Runs.stk d (fun p e s m args below meth c T locs L hx hd hP X t r => XS.iushr (g := mkF m pc L (.int y :: .int x :: S)) X.here hx rfl hd rfl r) h
theorem Runs.lshl {x : Int64} {y : Int32} (d : DAt M pc .lshl 1 q) (h : Runs C M k n q P (.long (x <<< (y &&& 0x3f).toInt64) :: S) G Q) : Runs C M k n pc P (.int y :: .long x :: S) G Q :=
  Runs.stk d (fun p e s m args below meth c T locs L hx hd hP X t r => XS.lshl (g := mkF m pc L (.int y :: .long x :: S)) X.here hx rfl hd rfl r) h
theorem Runs.lshr {x : Int64} {y : Int32} (d : DAt M pc .lshr 1 q) (h : Runs C M k n q P (.long (x >>> (y &&& 0x3f).toInt64) :: S) G Q) : Runs C M k n pc P (.int y :: .long x :: S) G Q :=
  Runs.stk d (fun p e s m args below meth c T locs L hx hd hP X t r => XS.lshr (g := mkF m pc L (.int y :: .long x :: S)) X.here hx rfl hd rfl r) h
theorem Runs.lushr {x : Int64} {y : Int32} (d : DAt M pc .lushr 1 q) (h : Runs C M k n q P (.long ((x.toUInt64 >>> (y &&& 0x3f).toInt64.toUInt64).toInt64) :: S) G Q) : Runs C M k n pc P (.int y :: .long x :: S) G Q :=
  Runs.stk d (fun p e s m args below meth c T locs L hx hd hP X t r => XS.lushr (g := mkF m pc L (.int y :: .long x :: S)) X.here hx rfl hd rfl r) h
theorem Runs.ineg {x : Int32} (d : DAt M pc .ineg 1 q) (h : Runs C M k n q P (.int (-x) :: S) G Q) : Runs C M k n pc P (.int x :: S) G Q :=
  Runs.stk d (fun p e s m args below meth c T locs L hx hd hP X t r => XS.ineg (g := mkF m pc L (.int x :: S)) X.here hx rfl hd rfl r) h
theorem Runs.lneg {x : Int64} (d : DAt M pc .lneg 1 q) (h : Runs C M k n q P (.long (-x) :: S) G Q) : Runs C M k n pc P (.long x :: S) G Q :=
  Runs.stk d (fun p e s m args below meth c T locs L hx hd hP X t r => XS.lneg (g := mkF m pc L (.long x :: S)) X.here hx rfl hd rfl r) h
theorem Runs.i2l {x : Int32} (d : DAt M pc .i2l 1 q) (h : Runs C M k n q P (.long x.toInt64 :: S) G Q) : Runs C M k n pc P (.int x :: S) G Q :=
  Runs.stk d (fun p e s m args below meth c T locs L hx hd hP X t r => XS.i2l (g := mkF m pc L (.int x :: S)) X.here hx rfl hd rfl r) h
theorem Runs.l2i {x : Int64} (d : DAt M pc .l2i 1 q) (h : Runs C M k n q P (.int x.toInt32 :: S) G Q) : Runs C M k n pc P (.long x :: S) G Q :=
  Runs.stk d (fun p e s m args below meth c T locs L hx hd hP X t r => XS.l2i (g := mkF m pc L (.long x :: S)) X.here hx rfl hd rfl r) h
theorem Runs.lcmp {x y : Int64} (d : DAt M pc .lcmp 1 q) (h : Runs C M k n q P (.int (lcmpW x y) :: S) G Q) : Runs C M k n pc P (.long y :: .long x :: S) G Q :=
  Runs.stk d (fun p e s m args below meth c T locs L hx hd hP X t r => XS.lcmp (g := mkF m pc L (.long y :: .long x :: S)) X.here hx rfl hd rfl r) h
theorem Runs.idiv {x y : Int32} (d : DAt M pc .idiv 1 q) (hy : y ≠ 0) (h : Runs C M k n q P (.int (x / y) :: S) G Q) : Runs C M k n pc P (.int y :: .int x :: S) G Q :=
  Runs.stk d (fun p e s m args below meth c T locs L hx hd hP X t r => XS.idiv (g := mkF m pc L (.int y :: .int x :: S)) X.here hx rfl hd rfl hy r) h
theorem Runs.irem {x y : Int32} (d : DAt M pc .irem 1 q) (hy : y ≠ 0) (h : Runs C M k n q P (.int (x % y) :: S) G Q) : Runs C M k n pc P (.int y :: .int x :: S) G Q :=
  Runs.stk d (fun p e s m args below meth c T locs L hx hd hP X t r => iremM (g := mkF m pc L (.int y :: .int x :: S)) X hx rfl hd rfl hy r) h
theorem Runs.dup {x : Value} (d : DAt M pc .dup 1 q) (hc : x.category = 1) (h : Runs C M k n q P (x :: x :: S) G Q) : Runs C M k n pc P (x :: S) G Q :=
  Runs.stk d (fun p e s m args below meth c T locs L hx hd hP X t r => XS.dup (g := mkF m pc L (x :: S)) X.here hx rfl hd rfl hc r) h
theorem Runs.dup2 {x y : Value} (d : DAt M pc .dup2 1 q) (hc : x.category = 1) (hc' : y.category = 1) (h : Runs C M k n q P (x :: y :: x :: y :: S) G Q) : Runs C M k n pc P (x :: y :: S) G Q :=
  Runs.stk d (fun p e s m args below meth c T locs L hx hd hP X t r => Jvm.Free.XT.dup2 (g := mkF m pc L (x :: y :: S)) X.here hx rfl hd rfl hc hc' r) h
theorem Runs.pop {x : Value} (d : DAt M pc .pop 1 q) (hc : x.category = 1) (h : Runs C M k n q P S G Q) : Runs C M k n pc P (x :: S) G Q :=
  Runs.stk d (fun p e s m args below meth c T locs L hx hd hP X t r => XS.pop (g := mkF m pc L (x :: S)) X.here hx rfl hd rfl hc r) h
theorem Runs.goto {o : Int} {pc' : Nat} (d : DAt M pc (.goto o) 3 q) (ho : 0 ≤ (pc : Int) + o ∧ ((pc : Int) + o).toNat = pc') (h : Runs C M k n pc' P S G Q) : Runs C M k n pc P S G Q :=
  Runs.pure d (fun p e s m args below meth c T locs L hw hx hown hZ hd hP hsz _ X => ⟨L, hP, hsz, fun t r => XS.goto (g := mkF m pc L S) X.here hx rfl (pc0 := pc) rfl hd ho.1 ho.2 r⟩) h
theorem Runs.ifY {cd : ClassFile.Cond} {x : Int32} {o : Int} {pc' : Nat} (d : DAt M pc (.ifCond cd o) 3 q) (hc : if_icmp.holds cd x 0 = true) (ho : 0 ≤ (pc : Int) + o ∧ ((pc : Int) + o).toNat = pc') (h : Runs C M k n pc' P S G Q) : Runs C M k n pc P (.int x :: S) G Q :=
  Runs.pure d (fun p e s m args below meth c T locs L hw hx hown hZ hd hP hsz _ X => ⟨L, hP, hsz, fun t r => XS.ifYes (g := mkF m pc L (.int x :: S)) X.here hx rfl (pc0 := pc) rfl hd rfl ((if0 _ _).trans hc) ho.1 ho.2 r⟩) h
theorem Runs.ifN {cd : ClassFile.Cond} {x : Int32} {o : Int} (d : DAt M pc (.ifCond cd o) 3 q) (hc : if_icmp.holds cd x 0 = false) (h : Runs C M k n q P S G Q) : Runs C M k n pc P (.int x :: S) G Q :=
  Runs.stk d (fun p e s m args below meth c T locs L hx hd hP X t r => XS.ifNo (g := mkF m pc L (.int x :: S)) X.here hx rfl hd rfl ((if0 _ _).trans hc) r) h
theorem Runs.icY {cd : ClassFile.Cond} {x y : Int32} {o : Int} {pc' : Nat} (d : DAt M pc (.if_icmp cd o) 3 q) (hc : if_icmp.holds cd x y = true) (ho : 0 ≤ (pc : Int) + o ∧ ((pc : Int) + o).toNat = pc') (h : Runs C M k n pc' P S G Q) : Runs C M k n pc P (.int y :: .int x :: S) G Q :=
  Runs.pure d (fun p e s m args below meth c T locs L hw hx hown hZ hd hP hsz _ X => ⟨L, hP, hsz, fun t r => XS.icmpYes (g := mkF m pc L (.int y :: .int x :: S)) X.here hx rfl (pc0 := pc) rfl hd rfl hc ho.1 ho.2 r⟩) h
theorem Runs.icN {cd : ClassFile.Cond} {x y : Int32} {o : Int} (d : DAt M pc (.if_icmp cd o) 3 q) (hc : if_icmp.holds cd x y = false) (h : Runs C M k n q P S G Q) : Runs C M k n pc P (.int y :: .int x :: S) G Q :=
  Runs.stk d (fun p e s m args below meth c T locs L hx hd hP X t r => XS.icmpNo (g := mkF m pc L (.int y :: .int x :: S)) X.here hx rfl hd rfl hc r) h
theorem Runs.tswI {dflt low high : Int} {offs : Array Int} {len : Nat} {o : Int} {pc' : Nat} {i : Int32} (d : DAt M pc (.tableswitch dflt low high offs) len q) (hin : ¬ (i.toInt < low ∨ i.toInt > high)) (hoff : offs[(i.toInt - low).toNat]? = some o) (ho : 0 ≤ (pc : Int) + o ∧ ((pc : Int) + o).toNat = pc') (h : Runs C M k n pc' P S G Q) : Runs C M k n pc P (.int i :: S) G Q :=
  Runs.pure d (fun p e s m args below meth c T locs L hw hx hown hZ hd hP hsz _ X => ⟨L, hP, hsz, fun t r => XS.tswIn (g := mkF m pc L (.int i :: S)) X.here hx rfl (pc0 := pc) rfl hd rfl hin hoff ho.1 ho.2 r⟩) h
theorem Runs.tswO {dflt low high : Int} {offs : Array Int} {len : Nat} {pc' : Nat} {i : Int32} (d : DAt M pc (.tableswitch dflt low high offs) len q) (hout : i.toInt < low ∨ i.toInt > high) (ho : 0 ≤ (pc : Int) + dflt ∧ ((pc : Int) + dflt).toNat = pc') (h : Runs C M k n pc' P S G Q) : Runs C M k n pc P (.int i :: S) G Q :=
  Runs.pure d (fun p e s m args below meth c T locs L hw hx hown hZ hd hP hsz _ X => ⟨L, hP, hsz, fun t r => XS.tswOut (g := mkF m pc L (.int i :: S)) X.here hx rfl (pc0 := pc) rfl hd rfl hout ho.1 ho.2 r⟩) h
theorem Runs.istoreN {j : Fin 4} {x : Int32} (d : DAt M pc (.istore_n j) 1 q) (hi : j.val < M.2.2.1) (hP' : ps1 P j.val (.int x) = P') (h : Runs C M k n q P' S G Q) : Runs C M k n pc P (.int x :: S) G Q := by
  have hq := d.2
  subst hq hP'
  refine Runs.pure d (fun p e s m args below meth c T locs L hw hx hown hZ hd hP hsz _ X => ?_) h
  obtain ⟨L', e1, e2, e3⟩ := hP.store1 (i := j.val) (v := .int x) (by omega) rfl
  exact ⟨L', e3, e2.trans hsz, fun t r => XS.istoreN (g := mkF m pc L (.int x :: S)) X.here hx rfl hd rfl e1 r⟩
theorem Runs.istore {j : Nat} {x : Int32} (d : DAt M pc (.istore j) 2 q) (hi : j < M.2.2.1) (hP' : ps1 P j (.int x) = P') (h : Runs C M k n q P' S G Q) : Runs C M k n pc P (.int x :: S) G Q := by
  have hq := d.2
  subst hq hP'
  refine Runs.pure d (fun p e s m args below meth c T locs L hw hx hown hZ hd hP hsz _ X => ?_) h
  obtain ⟨L', e1, e2, e3⟩ := hP.store1 (i := j) (v := .int x) (by omega) rfl
  exact ⟨L', e3, e2.trans hsz, fun t r => XS.istore (g := mkF m pc L (.int x :: S)) X.here hx rfl hd rfl e1 r⟩
theorem Runs.astoreN {j : Fin 4} {x : Nat} (d : DAt M pc (.astore_n j) 1 q) (hi : j.val < M.2.2.1) (hP' : ps1 P j.val (.ref x) = P') (h : Runs C M k n q P' S G Q) : Runs C M k n pc P (.ref x :: S) G Q := by
  have hq := d.2
  subst hq hP'
  refine Runs.pure d (fun p e s m args below meth c T locs L hw hx hown hZ hd hP hsz _ X => ?_) h
  obtain ⟨L', e1, e2, e3⟩ := hP.store1 (i := j.val) (v := .ref x) (by omega) rfl
  exact ⟨L', e3, e2.trans hsz, fun t r => XS.astoreN (g := mkF m pc L (.ref x :: S)) X.here hx rfl hd rfl rfl e1 r⟩
theorem Runs.astore {j : Nat} {x : Nat} (d : DAt M pc (.astore j) 2 q) (hi : j < M.2.2.1) (hP' : ps1 P j (.ref x) = P') (h : Runs C M k n q P' S G Q) : Runs C M k n pc P (.ref x :: S) G Q := by
  have hq := d.2
  subst hq hP'
  refine Runs.pure d (fun p e s m args below meth c T locs L hw hx hown hZ hd hP hsz _ X => ?_) h
  obtain ⟨L', e1, e2, e3⟩ := hP.store1 (i := j) (v := .ref x) (by omega) rfl
  exact ⟨L', e3, e2.trans hsz, fun t r => XS.astore (g := mkF m pc L (.ref x :: S)) X.here hx rfl hd rfl rfl e1 r⟩
theorem Runs.lstoreN {j : Fin 4} {x : Int64} (d : DAt M pc (.lstore_n j) 1 q) (hi : j.val + 1 < M.2.2.1) (hP' : ps2 P j.val (.long x) = P') (h : Runs C M k n q P' S G Q) : Runs C M k n pc P (.long x :: S) G Q := by
  have hq := d.2
  subst hq hP'
  refine Runs.pure d (fun p e s m args below meth c T locs L hw hx hown hZ hd hP hsz _ X => ?_) h
  obtain ⟨L', e1, e2, e3⟩ := hP.store2 (i := j.val) (v := .long x) (by omega) rfl
  exact ⟨L', e3, e2.trans hsz, fun t r => XS.lstoreN (g := mkF m pc L (.long x :: S)) X.here hx rfl hd rfl e1 r⟩
theorem Runs.lstore {j : Nat} {x : Int64} (d : DAt M pc (.lstore j) 2 q) (hi : j + 1 < M.2.2.1) (hP' : ps2 P j (.long x) = P') (h : Runs C M k n q P' S G Q) : Runs C M k n pc P (.long x :: S) G Q := by
  have hq := d.2
  subst hq hP'
  refine Runs.pure d (fun p e s m args below meth c T locs L hw hx hown hZ hd hP hsz _ X => ?_) h
  obtain ⟨L', e1, e2, e3⟩ := hP.store2 (i := j) (v := .long x) (by omega) rfl
  exact ⟨L', e3, e2.trans hsz, fun t r => XS.lstore (g := mkF m pc L (.long x :: S)) X.here hx rfl hd rfl e1 r⟩
theorem Runs.iinc {j : Nat} {cst : Int} {x v : Int32} (d : DAt M pc (.iinc j cst) 3 q) (hv : Int32.ofInt cst = v) (hl : pget P j = vi x) (hi : j < M.2.2.1) (hP' : ps1 P j (.int (x + v)) = P') (h : Runs C M k n q P' S G Q) : Runs C M k n pc P S G Q := by
  have hq := d.2
  subst hq hP' hv
  refine Runs.pure d (fun p e s m args below meth c T locs L hw hx hown hZ hd hP hsz _ X => ?_) h
  obtain ⟨L', e1, e2, e3⟩ := hP.store1 (i := j) (v := .int (x + Int32.ofInt cst)) (by omega) rfl
  exact ⟨L', e3, e2.trans hsz, fun t r => XS.iinc (g := mkF m pc L S) X.here hx rfl hd (hP.1 _ _ hl) e1 r⟩
/-- less is known of the locals -/
def psub : Pat → Pat → Prop
  | [], _ => True
  | none :: l, _ :: l' => psub l l'
  | some s :: l, y :: l' => y = some s ∧ psub l l'
  | none :: l, [] => psub l []
  | some _ :: _, [] => False
theorem psub_get : ∀ (P P' : Pat), psub P P' → ∀ i s, pget P i = some s → pget P' i = some s
  | [], _, _, i, s, h => by simp [pget] at h
  | none :: l, _ :: l', H, 0, s, h => by simp [pget] at h
  | none :: l, _ :: l', H, i + 1, s, h => psub_get l l' H i s h
  | some x :: l, y :: l', H, 0, s, h => by rw [show y = some x from H.1]; exact h
  | some x :: l, y :: l', H, i + 1, s, h => psub_get l l' H.2 i s h
  | none :: l, [], H, 0, s, h => by simp [pget] at h
  | none :: l, [], H, i + 1, s, h => by have := psub_get l [] H i s h; simp [pget] at this
  | some _ :: _, [], H, _, _, _ => H.elim
theorem Runs.weak (hP : psub P' P) (h : Runs C M k n pc P' S G Q) : Runs C M k n pc P S G Q := by
  intro hw p e s m args below meth c T locs L hx hby hml hret hnm hown hZ hf
  exact h hw p e s m args below meth c T locs L hx hby hml hret hnm hown hZ ⟨fun i s hi => hf.1 i s (psub_get _ _ hP i s hi), hf.2⟩
theorem Runs.swap {top : Nat} {x y : Nat × Nat × Rec} {H : List (Nat × Nat × Rec)} (h : Runs C M k n pc P S (top, y :: x :: H) Q) : Runs C M k n pc P S (top, x :: y :: H) Q := by
  intro hw p e s m args below meth c T locs L hx hby hml hret hnm hown hZ hf hsz X hR hF
  exact h hw p e s m args below meth c T locs L hx hby hml hret hnm hown hZ hf hsz X hR.swap hF
end Rules
/- the steps that touch the heap -/
section Made
variable {p : Program} {l : Launch} {e : Env} {R : Room} {s : State} {m : MethodId} {args : Array Value} {below : List Frame} {meth : Method} {c : Code} {T : State} {locs : List Loc} {cells slots : Nat} {Z : State} {a0 : Array Value}
theorem ext_push (h : Heap) (x : Cell) : Ext h (h.push x) := ⟨by simp, fun a c q => by rw [Array.getElem?_push_lt (Array.getElem?_eq_some_iff.mp q).1]; exact (Array.getElem?_eq_getElem _).symm.trans q⟩
/-- 'new', with the heap's size behind it -/
theorem new1 (X : Stand p l e R s m args below meth c T locs cells slots) (hx : p.tables.exec = Jvm.exec) (hZ : Z.Warmed39 s.vm) {own C : String} {index n : Nat} (hown : s.vm.findClass own = some m.cls) (w : (Jvm.Cond.classLink own index C).before a0 Z = true) (wi : (Jvm.Cond.instantiable C n).before a0 Z = true) (wz : (Jvm.Cond.initialized C).before a0 Z = true)
    {g : JFrame} (hg : g.method = m) (hd : decode c.code g.pc = .ok (.new index, 3)) (hc : cells + 1 ≤ R.cells) (hl : slots + n ≤ R.slots) :
    ∃ T', Stand p l e R s m args below meth c T' locs (cells + 1) (slots + n) ∧ T'.heap.size = T.heap.size + 1 ∧ Ext T.heap T'.heap ∧ Exa Z T'.heap T.heap.size C ∧ (∀ {O nm d : String} {ty : FieldType}, Laid Z a0 C O nm d → parseFieldDescriptor d = some ty → Fld Z T'.heap T.heap.size O nm d (defaultValue ty)) ∧
      ∀ target, Steps p.tables e below (T'.setTop { g with pc := g.pc + 3, stack := .ref T.heap.size :: g.stack }) target → Steps p.tables e below (T.setTop g) target := by
  obtain ⟨vm', cC, kC, h1, h2, h3, h4, X', st⟩ := X.newCold hx hown (mv hZ w) (mv hZ wi) (mv hZ wz) hg hd hc hl
  rw [hZ.alike.findClass] at h1
  obtain ⟨kZ, z1, -⟩ := Vm.findClass_spec h1
  obtain ⟨k', z2, z3⟩ := hZ.alike.2.2 _ _ z1
  have ek : kC.instanceTypes = kZ.instanceTypes := by rw [Option.some.inj (h2.symm.trans z2), z3]
  obtain ⟨cell, hcell⟩ : ∃ cell : Cell, cell = { cls := cC, slots := kC.instanceTypes.map defaultValue, vm := .none } := ⟨_, rfl⟩
  rw [← hcell] at X' st
  have hp : ((T.setVm vm').pushCell cell).heap = T.heap.push cell := rfl
  have at' : (T.heap.push cell)[T.heap.size]? = some cell := by simp
  refine ⟨_, X', by rw [hp]; simp, by rw [hp]; exact ext_push _ _, ?_, fun {O nm d ty} L ht => ?_, st⟩
  · rw [hp]; exact ⟨cell, kZ, at', by rw [hcell]; exact h1, by rw [hcell]; exact z1, by rw [hcell]; rfl, fun _ => by rw [hcell]; simp [ek]⟩
  · rw [hp]
    obtain ⟨c1, k1, cf, kf, i, f, a1, a2, a3, a4, a5, a6, -⟩ := L.spec
    cases h1.symm.trans a1
    cases z1.symm.trans a2
    refine ⟨cell, cf, kf, i, f, at', a3, a4, by rw [hcell]; simp, by rw [hcell]; rfl, by rw [hcell]; exact a5, ?_⟩
    rw [hcell]; simp [ek, a6, (State.fieldFound?_type a3 ht).2]
theorem newArr1 (X : Stand p l e R s m args below meth c T locs cells slots) (hx : p.tables.exec = Jvm.exec) (hZ : Z.Warmed39 s.vm) {aty : ArrayType} (w : (Jvm.Cond.arrayClass (newarray.typeOf aty)).before a0 Z = true) {g : JFrame} (hg : g.method = m) (hd : decode c.code g.pc = .ok (.newarray aty, 2)) {n : Int32} {rest : List Value} (hs : g.stack = .int n :: rest)
    (hn : ¬ n < 0) (hb : n.toNatClampNeg * 8 ≤ 536870912) (hc : cells + 1 ≤ R.cells) (hl : slots + n.toNatClampNeg ≤ R.slots) :
    ∃ T' cA, Stand p l e R s m args below meth c T' locs (cells + 1) (slots + n.toNatClampNeg) ∧ T'.heap.size = T.heap.size + 1 ∧ Ext T.heap T'.heap ∧ Arr Z T'.heap T.heap.size (newA cA (newarray.typeOf aty) n) (newarray.typeOf aty) ∧
      ∀ target, Steps p.tables e below (T'.setTop { g with pc := g.pc + 2, stack := .ref T.heap.size :: rest }) target → Steps p.tables e below (T.setTop g) target := by
  have hcb : componentBytes (newarray.typeOf aty) ≤ 8 := by cases aty <;> decide
  obtain ⟨cA, kA, comp, h1, h2, h3, X', st⟩ := X.newarrayPrim hx (mvA hZ w) hg hd hs hn (Nat.le_trans (Nat.mul_le_mul_left _ hcb) hb) hc hl
  rw [hZ.alike.findClass] at h1
  obtain ⟨kZ, z1, -⟩ := Vm.findClass_spec h1
  obtain ⟨k', z2, z3⟩ := hZ.alike.2.2 _ _ z1
  have ek : kA.kind = kZ.kind := by rw [Option.some.inj (h2.symm.trans z2), z3]
  have hp : (T.pushCell (newA cA (newarray.typeOf aty) n)).heap = T.heap.push (newA cA (newarray.typeOf aty) n) := rfl
  refine ⟨T.pushCell (newA cA (newarray.typeOf aty) n), cA, X', by rw [hp]; simp, by rw [hp]; exact ext_push _ _, ?_, st⟩
  rw [hp]
  exact ⟨by simp, ⟨by simp [newA], kZ, z1, comp, by rw [← ek]; exact h3⟩, by simp [newA]⟩
end Made
section Heap
variable {C : Ctx} {M : Bdy} {k n pc q : Nat} {P P' : Pat} {S S' : List Value} {G : AH} {Q : Option Value → AH → Prop} {top : Nat} {a : Nat} {qq j idx : Nat} {ob : Rec} {H : List (Nat × Nat × Rec)} {nm ds : String}
theorem Runs.getI (d : DAt M pc (.getfield idx) 3 q) (w : Jvm.Cond.fieldLink M.1.cls idx K.1 nm ds ∈ tables_1) (hk : K.2.1[j]? = some (nm, ds)) (h : Runs C M k n q P (.int (gI ob j) :: S) (top, (a, qq, ob) :: H) Q) : Runs C M k n pc P (.ref a :: S) (top, (a, qq, ob) :: H) Q := by
  intro hw p e s m args below meth c T locs L hx hby hml hret hnm hown hZ hf hsz X hR hF
  have hq := d.2
  subst hq
  obtain ⟨T1, X1, e1, st1⟩ := getF X hx hZ hown (host := "") (Or.inl (hw _ w)) Via.refl rfl (hR.objs.2.2.2.1 j _ hk) (g := mkF m pc L (.ref a :: S)) rfl rfl (hb hby d.1)
  obtain ⟨T', locs', k', n', r, G', g1, g2, g3, g4, g5, g6, g7, g8⟩ := h hw p e s m args below meth c T1 locs L hx hby hml hret hnm hown hZ hf hsz X1 (by rw [e1]; exact hR) hF
  exact ⟨T', locs', k', n', r, G', g1, g2, g3, g4, g5, g6, g7, fun fs hr => st1 _ (g8 fs hr)⟩
theorem Runs.getA {ty : FieldType} {len : Int32} (d : DAt M pc (.getfield idx) 3 q) (hk : K.2.2[j]? = some (nm, ty, len)) (w : Jvm.Cond.fieldLink M.1.cls idx K.1 nm (aD ty) ∈ tables_1) (hq : j < qq) (h : Runs C M k n q P (.ref (a + 1 + j) :: S) (top, (a, qq, ob) :: H) Q) : Runs C M k n pc P (.ref a :: S) (top, (a, qq, ob) :: H) Q := by
  intro hw p e s m args below meth c T locs L hx hby hml hret hnm hown hZ hf hsz X hR hF
  have hqq := d.2
  subst hqq
  obtain ⟨T1, X1, e1, st1⟩ := getF X hx hZ hown (host := "") (Or.inl (hw _ w)) Via.refl rfl (hR.objs.2.2.2.2.1 j _ hk hq).1 (g := mkF m pc L (.ref a :: S)) rfl rfl (hb hby d.1)
  obtain ⟨T', locs', k', n', r, G', g1, g2, g3, g4, g5, g6, g7, g8⟩ := h hw p e s m args below meth c T1 locs L hx hby hml hret hnm hown hZ hf hsz X1 (by rw [e1]; exact hR) hF
  exact ⟨T', locs', k', n', r, G', g1, g2, g3, g4, g5, g6, g7, fun fs hr => st1 _ (g8 fs hr)⟩
theorem lw_of {Z : State} {a0 : Array Value} {meth : Method} (hw : ∀ d ∈ tables_1, d.before a0 Z = true) {C O n d own : String} (h : Jvm.Cond.lays C O n d ∈ tables_1 ∨ Jvm.Cond.laysFinal C O n d ∈ tables_1) (hc : Jvm.Cond.lays C O n d ∈ tables_1 ∨ (own = O ∧ meth.name = "<init>")) : (Jvm.Cond.lays C O n d).before a0 Z = true ∨ ((Jvm.Cond.laysFinal C O n d).before a0 Z = true ∧ own = O ∧ meth.name = "<init>") := by
  rcases hc with hc | hc
  · exact Or.inl (hw _ hc)
  · exact h.imp (hw _) (fun u => ⟨hw _ u, hc⟩)
/-- a field that may be written here: not final, or in a constructor of its class -/
def Mine (M : Bdy) (nm ds : String) : Prop := Jvm.Cond.lays K.1 K.1 nm ds ∈ tables_1 ∨ (M.1.cls = K.1 ∧ M.1.name = "<init>")
theorem Runs.putI {x : Int32} (d : DAt M pc (.putfield idx) 3 q) (w : Jvm.Cond.fieldLink M.1.cls idx K.1 nm "I" ∈ tables_1) (hk : K.2.1[j]? = some (nm, "I")) (hm : Mine M nm "I") (h : Runs C M k n q P S (top, (a, qq, sI ob j x) :: H) Q) : Runs C M k n pc P (.int x :: .ref a :: S) (top, (a, qq, ob) :: H) Q := by
  intro hw p e s m args below meth c T locs L hx hby hml hret hnm hown hZ hf hsz X hR hF
  have hqq := d.2
  subst hqq
  obtain ⟨T1, h1, X1, e1, W1, st1⟩ := putF X hx hZ hown (host := "") (Or.inl (hw _ w)) Via.refl rfl (hR.objs.2.2.2.1 j _ hk) hR.objs.2.2.1 (lw_of hw ((All.mem kS (List.mem_of_getElem? hk)).1) (hm.imp id (fun u => ⟨u.1, hnm.trans u.2⟩))) (hw _ kI) (ty := .int) (by decide) rfl rfl (g := mkF m pc L (.int x :: .ref a :: S)) rfl rfl (hb hby d.1)
  obtain ⟨T', locs', k', n', r, G', g1, g2, g3, g4, g5, g6, g7, g8⟩ := h hw p e s m args below meth c T1 _ L hx hby hml hret hnm hown hZ hf hsz X1 (by rw [e1]; exact hR.putI hw hk W1) (Fr.snoc X1 hF hR.objs.1)
  exact ⟨T', locs', k', n', r, G', g1, g2, g3, g4, g5, g6, g7, fun fs hr => st1 _ (g8 fs hr)⟩
theorem Runs.putZ {x y : Int32} (d : DAt M pc (.putfield idx) 3 q) (w : Jvm.Cond.fieldLink M.1.cls idx K.1 nm "Z" ∈ tables_1) (hk : K.2.1[j]? = some (nm, "Z")) (hm : Mine M nm "Z") (hy : nar .boolean x = y) (h : Runs C M k n q P S (top, (a, qq, sI ob j y) :: H) Q) : Runs C M k n pc P (.int x :: .ref a :: S) (top, (a, qq, ob) :: H) Q := by
  subst hy
  intro hw p e s m args below meth c T locs L hx hby hml hret hnm hown hZ hf hsz X hR hF
  have hqq := d.2
  subst hqq
  obtain ⟨T1, h1, X1, e1, W1, st1⟩ := putFN X hx hZ hown (hw _ w) Via.refl rfl (hR.objs.2.2.2.1 j _ hk) hR.objs.2.2.1 (lw_of hw ((All.mem kS (List.mem_of_getElem? hk)).1) (hm.imp id (fun u => ⟨u.1, hnm.trans u.2⟩))) (hw _ kI) (ty := .boolean) (v' := .int (nar .boolean x)) (by decide) rfl (fits_nar_bool _) (g := mkF m pc L (.int x :: .ref a :: S)) rfl rfl (hb hby d.1)
  obtain ⟨T', locs', k', n', r, G', g1, g2, g3, g4, g5, g6, g7, g8⟩ := h hw p e s m args below meth c T1 _ L hx hby hml hret hnm hown hZ hf hsz X1 (by rw [e1]; exact hR.putI hw hk W1) (Fr.snoc X1 hF hR.objs.1)
  exact ⟨T', locs', k', n', r, G', g1, g2, g3, g4, g5, g6, g7, fun fs hr => st1 _ (g8 fs hr)⟩
theorem Runs.ialoadA {i len : Int32} (d : DAt M pc .iaload 1 q) (hk : K.2.2[j]? = some (nm, .int, len)) (hq : j < qq) (hi : ¬ i < 0 ∧ i < len) (h : Runs C M k n q P (.int (gA ob j i) :: S) (top, (a, qq, ob) :: H) Q) : Runs C M k n pc P (.int i :: .ref (a + 1 + j) :: S) (top, (a, qq, ob) :: H) Q := by
  have hqq := d.2
  subst hqq
  refine Runs.pure d (fun p e s m args below meth c T locs L hw hx hown hZ hd hP hsz hR X => ⟨L, hP, hsz, fun t r => ?_⟩) h
  obtain ⟨cl, A, Sz, V⟩ := (hR.objs.2.2.2.2.1 j _ hk hq).2
  exact X.iaload hx (j := i) (v := .int (gA ob j i)) A.1 (State.isArrayOf_alike hZ.alike A.2.1) A.2.2 (inb_of Sz hi) (V i hi.1 hi.2) (g := mkF m pc L (.int i :: .ref (a + 1 + j) :: S)) rfl rfl hd _ r
theorem Runs.baloadA {i len : Int32} (d : DAt M pc .baload 1 q) (hk : K.2.2[j]? = some (nm, .boolean, len)) (hq : j < qq) (hi : ¬ i < 0 ∧ i < len) (h : Runs C M k n q P (.int (gA ob j i) :: S) (top, (a, qq, ob) :: H) Q) : Runs C M k n pc P (.int i :: .ref (a + 1 + j) :: S) (top, (a, qq, ob) :: H) Q := by
  have hqq := d.2
  subst hqq
  refine Runs.pure d (fun p e s m args below meth c T locs L hw hx hown hZ hd hP hsz hR X => ⟨L, hP, hsz, fun t r => ?_⟩) h
  obtain ⟨cl, A, Sz, V⟩ := (hR.objs.2.2.2.2.1 j _ hk hq).2
  exact X.baloadBooleans hx (j := i) (v := .int (gA ob j i)) A.1 (State.isArrayOf_alike hZ.alike A.2.1) A.2.2 (inb_of Sz hi) (V i hi.1 hi.2) (g := mkF m pc L (.int i :: .ref (a + 1 + j) :: S)) rfl rfl hd _ r
theorem Runs.laloadA {i len : Int32} (d : DAt M pc .laload 1 q) (hk : K.2.2[j]? = some (nm, .long, len)) (hq : j < qq) (hi : ¬ i < 0 ∧ i < len) (h : Runs C M k n q P (.long (gJ ob j i) :: S) (top, (a, qq, ob) :: H) Q) : Runs C M k n pc P (.int i :: .ref (a + 1 + j) :: S) (top, (a, qq, ob) :: H) Q := by
  have hqq := d.2
  subst hqq
  refine Runs.pure d (fun p e s m args below meth c T locs L hw hx hown hZ hd hP hsz hR X => ⟨L, hP, hsz, fun t r => ?_⟩) h
  obtain ⟨cl, A, Sz, V⟩ := (hR.objs.2.2.2.2.1 j _ hk hq).2
  exact X.laload hx (j := i) (v := .long (gJ ob j i)) A.1 (State.isArrayOf_alike hZ.alike A.2.1) A.2.2 (inb_of Sz hi) (V i hi.1 hi.2) (g := mkF m pc L (.int i :: .ref (a + 1 + j) :: S)) rfl rfl hd _ r
theorem Runs.iastoreA {i x len : Int32} (d : DAt M pc .iastore 1 q) (hk : K.2.2[j]? = some (nm, .int, len)) (hq : j < qq) (hi : ¬ i < 0 ∧ i < len) (h : Runs C M k n q P S (top, (a, qq, sA ob j i x) :: H) Q) : Runs C M k n pc P (.int x :: .int i :: .ref (a + 1 + j) :: S) (top, (a, qq, ob) :: H) Q := by
  intro hw p e s m args below meth c T locs L hx hby hml hret hnm hown hZ hf hsz X hR hF
  have hqq := d.2
  subst hqq
  obtain ⟨cl, A, Sz, V⟩ := (hR.objs.2.2.2.2.1 j _ hk hq).2
  obtain ⟨T1, h1, X1, e1, W1, st1⟩ := stI X hx hZ rfl A (j := i) (x := x) (inb_of Sz hi) (g := mkF m pc L (.int x :: .int i :: .ref (a + 1 + j) :: S)) rfl rfl (hb hby d.1)
  obtain ⟨T', locs', k', n', r, G', g1, g2, g3, g4, g5, g6, g7, g8⟩ := h hw p e s m args below meth c T1 _ L hx hby hml hret hnm hown hZ hf hsz X1 (by rw [e1]; exact hR.putA hk hq (by simp) hi W1) (Fr.snoc X1 hF (by have := hR.objs.1; omega))
  exact ⟨T', locs', k', n', r, G', g1, g2, g3, g4, g5, g6, g7, fun fs hr => st1 _ (g8 fs hr)⟩
theorem Runs.bastoreA {i x len : Int32} (d : DAt M pc .bastore 1 q) (hk : K.2.2[j]? = some (nm, .boolean, len)) (hq : j < qq) (hi : ¬ i < 0 ∧ i < len) {y : Int32} (hy : nar .boolean x = y) (h : Runs C M k n q P S (top, (a, qq, sA ob j i y) :: H) Q) : Runs C M k n pc P (.int x :: .int i :: .ref (a + 1 + j) :: S) (top, (a, qq, ob) :: H) Q := by
  subst hy
  intro hw p e s m args below meth c T locs L hx hby hml hret hnm hown hZ hf hsz X hR hF
  have hqq := d.2
  subst hqq
  obtain ⟨cl, A, Sz, V⟩ := (hR.objs.2.2.2.2.1 j _ hk hq).2
  obtain ⟨T1, h1, X1, e1, W1, st1⟩ := stZ X hx hZ rfl A (j := i) (x := x) (inb_of Sz hi) (g := mkF m pc L (.int x :: .int i :: .ref (a + 1 + j) :: S)) rfl rfl (hb hby d.1)
  obtain ⟨T', locs', k', n', r, G', g1, g2, g3, g4, g5, g6, g7, g8⟩ := h hw p e s m args below meth c T1 _ L hx hby hml hret hnm hown hZ hf hsz X1 (by rw [e1]; exact hR.putA hk hq (by simp) hi W1) (Fr.snoc X1 hF (by have := hR.objs.1; omega))
  exact ⟨T', locs', k', n', r, G', g1, g2, g3, g4, g5, g6, g7, fun fs hr => st1 _ (g8 fs hr)⟩
theorem Runs.lastoreA {i len : Int32} {x : Int64} (d : DAt M pc .lastore 1 q) (hk : K.2.2[j]? = some (nm, .long, len)) (hq : j < qq) (hi : ¬ i < 0 ∧ i < len) (h : Runs C M k n q P S (top, (a, qq, sJ ob j i x) :: H) Q) : Runs C M k n pc P (.long x :: .int i :: .ref (a + 1 + j) :: S) (top, (a, qq, ob) :: H) Q := by
  intro hw p e s m args below meth c T locs L hx hby hml hret hnm hown hZ hf hsz X hR hF
  have hqq := d.2
  subst hqq
  obtain ⟨cl, A, Sz, V⟩ := (hR.objs.2.2.2.2.1 j _ hk hq).2
  obtain ⟨T1, h1, X1, e1, W1, st1⟩ := stJ X hx hZ rfl A (j := i) (x := x) (inb_of Sz hi) (g := mkF m pc L (.long x :: .int i :: .ref (a + 1 + j) :: S)) rfl rfl (hb hby d.1)
  obtain ⟨T', locs', k', n', r, G', g1, g2, g3, g4, g5, g6, g7, g8⟩ := h hw p e s m args below meth c T1 _ L hx hby hml hret hnm hown hZ hf hsz X1 (by rw [e1]; exact hR.putJ hk hq rfl hi W1) (Fr.snoc X1 hF (by have := hR.objs.1; omega))
  exact ⟨T', locs', k', n', r, G', g1, g2, g3, g4, g5, g6, g7, fun fs hr => st1 _ (g8 fs hr)⟩
/-- the script: an array that stood before the law began -/
def ScrF (C : Ctx) (sa : Nat) (z : Int32) (f : Int32 → Int32) : Prop := ∃ cl : Cell, Scr C.2.1 C.2.1.heap sa cl z ∧ f = atv cl
theorem Runs.lenS {sa : Nat} {z : Int32} {f : Int32 → Int32} (hs : ScrF C sa z f) (d : DAt M pc .arraylength 1 q) (h : Runs C M k n q P (.int z :: S) G Q) : Runs C M k n pc P (.ref sa :: S) G Q := by
  have hqq := d.2
  subst hqq
  refine Runs.pure d (fun p e s m args below meth c T locs L hw hx hown hZ hd hP hsz hR X => ⟨L, hP, hsz, fun t r => ?_⟩) h
  obtain ⟨cl, F, -⟩ := hs
  obtain ⟨A, Sz, N, V⟩ := F.ext hR.2.1.2
  exact X.arraylength hx A.1 (State.isArrayOf_alike hZ.alike A.2.1) (g := mkF m pc L (.ref sa :: S)) rfl rfl hd _ (by rw [len_of Sz N]; exact r)
theorem Runs.ialoadS {sa : Nat} {z i : Int32} {f : Int32 → Int32} (hs : ScrF C sa z f) (d : DAt M pc .iaload 1 q) (hi : ¬ i < 0 ∧ i < z) (h : Runs C M k n q P (.int (f i) :: S) G Q) : Runs C M k n pc P (.int i :: .ref sa :: S) G Q := by
  have hqq := d.2
  subst hqq
  refine Runs.pure d (fun p e s m args below meth c T locs L hw hx hown hZ hd hP hsz hR X => ⟨L, hP, hsz, fun t r => ?_⟩) h
  obtain ⟨cl, F, rfl⟩ := hs
  obtain ⟨A, Sz, N, V⟩ := F.ext hR.2.1.2
  exact X.iaload hx (j := i) (v := .int (atv cl i)) A.1 (State.isArrayOf_alike hZ.alike A.2.1) A.2.2 (inb_of Sz hi) (V i (inb_of Sz hi)) (g := mkF m pc L (.int i :: .ref sa :: S)) rfl rfl hd _ r
/- leaving -/
theorem Runs.retI {v : Int32} (d : DAt M pc .ireturn 1 q) (hret : M.2.2.2.1 = some .int) (hk : k ≤ M.2.2.2.2.cells ∧ n ≤ M.2.2.2.2.slots) (hQ : Q (some (.int v)) G) : Runs C M k n pc P (.int v :: S) G Q := by
  intro hw p e s m args below meth c T locs L hx hby hml hr0 hnm hown hZ hf hsz X hR hF
  exact ⟨T, locs, k, n, _, G, X, hk.1, hk.2, hR, hF, hQ, (fun u => by rw [hret] at u; cases u), fun fs hr => Jvm.RoadKit.retI X hx (hr0.trans hret) (hb hby d.1) hr⟩
theorem Runs.retZ {v : Int32} (d : DAt M pc .ireturn 1 q) (hret : M.2.2.2.1 = some .boolean) (hk : k ≤ M.2.2.2.2.cells ∧ n ≤ M.2.2.2.2.slots) {y : Int32} (hy : nar .boolean v = y) (hQ : Q (some (.int y)) G) : Runs C M k n pc P (.int v :: S) G Q := by
  subst hy
  intro hw p e s m args below meth c T locs L hx hby hml hr0 hnm hown hZ hf hsz X hR hF
  exact ⟨T, locs, k, n, _, G, X, hk.1, hk.2, hR, hF, hQ, (fun u => by rw [hret] at u; cases u), fun fs hr => retN X hx (t := .boolean) (hr0.trans hret) (by simp) (hb hby d.1) hr⟩
theorem Runs.retJ {v : Int64} (d : DAt M pc .lreturn 1 q) (hret : M.2.2.2.1 = some .long) (hk : k ≤ M.2.2.2.2.cells ∧ n ≤ M.2.2.2.2.slots) (hQ : Q (some (.long v)) G) : Runs C M k n pc P (.long v :: []) G Q := by
  intro hw p e s m args below meth c T locs L hx hby hml hr0 hnm hown hZ hf hsz X hR hF
  exact ⟨T, locs, k, n, _, G, X, hk.1, hk.2, hR, hF, hQ, (fun u => by rw [hret] at u; cases u), fun fs hr => X.lreturnOut hx (hr0.trans hret) (hb hby d.1) hr⟩
theorem Runs.retV (d : DAt M pc .return_ 1 q) (hret : M.2.2.2.1 = none) (hk : k ≤ M.2.2.2.2.cells ∧ n ≤ M.2.2.2.2.slots) (hQ : Q none G) : Runs C M k n pc P [] G Q := by
  intro hw p e s m args below meth c T locs L hx hby hml hr0 hnm hown hZ hf hsz X hR hF
  exact ⟨T, locs, k, n, _, G, X, hk.1, hk.2, hR, hF, hQ, (fun _ => rfl), fun fs hr => X.returnOut hx (hr0.trans hret) (hb hby d.1) hr⟩
/- a new object, and the arrays that its constructor makes -/
theorem Runs.newK (d : DAt M pc (.new idx) 3 q) (w : Jvm.Cond.classLink M.1.cls idx K.1 ∈ tables_1) (hc : k + 1 ≤ M.2.2.2.2.cells ∧ n + kN ≤ M.2.2.2.2.slots) {k' n' : Nat} (hk' : k + 1 = k') (hn' : n + kN = n') {H : List (Nat × Nat × Rec)} (hd : ∀ x ∈ H, x.1 + x.2.1 < top) (h : Runs C M k' n' q P (.ref top :: S) (top + 1, (top, 0, zrec) :: H) Q) : Runs C M k n pc P S (top, H) Q := by
  subst hk' hn'
  intro hw p e s m args below meth c T locs L hx hby hml hr0 hnm hown hZ hf hsz X hR hF
  have hqq := d.2
  subst hqq
  obtain ⟨T2, X2, s2, E2, A2, D2, st2⟩ := new1 X hx hZ hown (hw _ w) (hw _ kI) (hw _ kZ) (g := mkF m pc L S) rfl (hb hby d.1) hc.1 hc.2
  have hs : T.heap.size = top := hR.1
  rw [hs] at A2 D2 st2 s2
  have hR2 : Rep C.2.1 C.2.2.1 T2.heap (top + 1, (top, 0, zrec) :: H) := by
    refine ⟨s2, hR.2.1.ext E2, fun x hx' => ?_, ?_⟩
    · rcases List.mem_cons.mp hx' with rfl | hx'
      · refine ⟨?_, by simp, A2, fun k nd hk => ?_, fun k t hk hq => by simp at hq, fun k t hk hq => ?_⟩
        · have := hR.2.1.2.1; rw [hR.2.1.1] at this; simp only; omega
        · rcases (All.mem kS (List.mem_of_getElem? hk)).2 with e | e
          · have := D2 (laidS hw hk) (ty := .int) (by rw [e]; decide); exact this
          · have := D2 (laidS hw hk) (ty := .boolean) (by rw [e]; decide); exact this
        · have := D2 (laidA hw hk) (pfA hk); exact this
      · obtain ⟨p1, p2, p3⟩ := hR.2.2.1 x hx'
        exact ⟨p1, by simp only at p2 ⊢; omega, p3.ext E2⟩
    · exact List.pairwise_cons.mpr ⟨fun y hy => Or.inr (hd y hy), hR.2.2.2⟩
  obtain ⟨T', locs', k', n', r, G', g1, g2, g3, g4, g5, g6, g7, g8⟩ := h hw p e s m args below meth c T2 _ L hx hby hml hr0 hnm hown hZ hf hsz X2 hR2 hF
  exact ⟨T', locs', k', n', r, G', g1, g2, g3, g4, g5, g6, g7, fun fs hr => st2 _ (g8 fs hr)⟩
/-- newarray and the putfield behind it: the next array of an object that is being made -/
theorem Runs.newArr {aty : ArrayType} {ty : FieldType} {len : Int32} {q1 : Nat} (d : DAt M pc (.newarray aty) 2 q1) (d' : DAt M q1 (.putfield idx) 3 q) (hk : K.2.2[j]? = some (nm, ty, len)) (w : Jvm.Cond.fieldLink M.1.cls idx K.1 nm (aD ty) ∈ tables_1) (ht : newarray.typeOf aty = ty) (wa : Jvm.Cond.arrayClass ty ∈ tables_1) (hm : Mine M nm (aD ty))
    (htop : top = a + 1 + j) (hlen : ¬ len < 0 ∧ len.toNatClampNeg * 8 ≤ 536870912) (hc : k + 1 ≤ M.2.2.2.2.cells ∧ n + len.toNatClampNeg ≤ M.2.2.2.2.slots) (hz : (∀ i, ob.2.1 j i = 0) ∧ (∀ i, ob.2.2 j i = 0)) {j' top' k' n' : Nat} (hj' : j + 1 = j') (ht' : top + 1 = top') (hk' : k + 1 = k') (hn' : n + len.toNatClampNeg = n')
    (h : Runs C M k' n' q P S (top', (a, j', ob) :: H) Q) : Runs C M k n pc P (.int len :: .ref a :: S) (top, (a, j, ob) :: H) Q := by
  subst hj' ht' hk' hn'
  intro hw p e s m args below meth c T locs L hx hby hml hr0 hnm hown hZ hf hsz X hR hF
  have hqq := d.2
  have hqq' := d'.2
  subst hqq hqq' ht
  obtain ⟨T1, cA, X1, s1, E1, A1, st1⟩ := newArr1 X hx hZ (hw _ wa) (g := mkF m pc L (.int len :: .ref a :: S)) rfl (hb hby d.1) rfl hlen.1 hlen.2 hc.1 hc.2
  have hs : T.heap.size = top := hR.1
  rw [hs] at A1 st1 s1
  have O1 := hR.objs.2.2.ext E1
  obtain ⟨T2, h2, X2, e2, W2, st2⟩ := putF X1 hx hZ hown (host := "") (Or.inl (hw _ w)) Via.refl rfl (O1.2.2.2 j _ hk (Nat.le_refl _)) O1.1 (lw_of hw ((All.mem kA (List.mem_of_getElem? hk)).1) (hm.imp id (fun u => ⟨u.1, hnm.trans u.2⟩))) (hw _ kI) (ty := .array (newarray.typeOf aty)) (pfA hk) rfl rfl (g := mkF m (pc + 2) L (.ref top :: .ref a :: S)) rfl rfl (hb hby d'.1)
  have hts : (newarray.typeOf aty = .int ∨ newarray.typeOf aty = .boolean ∨ newarray.typeOf aty = .long) := (All.mem kA (List.mem_of_getElem? hk)).2.1
  have hA := arr_new A1 hts hz
  have hR2 : Rep C.2.1 C.2.2.1 T2.heap (top + 1, (a, j + 1, ob) :: H) := by rw [e2]; exact hR.addA hw E1 s1 htop hk hA W2
  obtain ⟨T', locs', k', n', r, G', g1, g2, g3, g4, g5, g6, g7, g8⟩ := h hw p e s m args below meth c T2 _ L hx hby hml hr0 hnm hown hZ hf hsz X2 hR2 (Fr.snoc X2 hF hR.objs.1)
  exact ⟨T', locs', k', n', r, G', g1, g2, g3, g4, g5, g6, g7, fun fs hr => st1 _ (st2 _ (g8 fs hr))⟩
theorem Runs.initO {W : Nat} (d : DAt M pc (.invokespecial idx) 3 q) (w1 : Jvm.Cond.methodLink M.1.cls idx Lib.objectInit ∈ tables_1) (w2 : Jvm.Cond.instanceMethod Lib.objectInit ∈ tables_1) (w3 : Jvm.Cond.code Lib.objectInit ⟨#[0xb1]⟩ 1 none ∈ tables_1) (hW : (S.map fun v => v.category).sum = W) (hc : 1 ≤ M.2.2.2.2.frames ∧ W + 12 ≤ M.2.2.2.2.locals) (h : Runs C M k n q P S G Q) : Runs C M k n pc P (.ref a :: S) G Q := by
  intro hw p e s m args below meth c T locs L hx hby hml hr0 hnm hown hZ hf hsz X hR hF
  have hqq := d.2
  subst hqq
  obtain ⟨T1, X1, e1, st1⟩ := Jvm.RoadKit.initO X hx hZ hown (hw _ w1) (hw _ w2) (hw _ w3) rfl (g := mkF m pc L (.ref a :: S)) rfl (by rw [hml]; exact hsz) rfl (hb hby d.1) hc.1 (W := W) (by show 2 * 0 + _ ≤ _; omega) hc.2
  obtain ⟨T', locs', k', n', r, G', g1, g2, g3, g4, g5, g6, g7, g8⟩ := h hw p e s m args below meth c T1 _ L hx hby hml hr0 hnm hown hZ hf hsz X1 (by rw [e1]; exact hR) hF
  exact ⟨T', locs', k', n', r, G', g1, g2, g3, g4, g5, g6, g7, fun fs hr => st1 _ (g8 fs hr)⟩
end Heap
/- a body's contract, and the calls that are paid by one -/
def Pays (C : Ctx) (N : Bdy) (as : List Value) (G : AH) (Q : Option Value → AH → Prop) : Prop :=
  Ok C → ∀ h0 : Heap, Rep C.2.1 C.2.2.1 h0 G → ∀ ws : List Jvm.Cond, MetFree C.1 N.1 (head1 (Jvm.Cond.code N.1 N.2.1 N.2.2.1 N.2.2.2.1 :: ws) N.2.2.2.2) (fun a U => a = as.toArray ∧ C.2.1.Warmed39 U.vm ∧ U.heap = h0) (fun _ _ _ _ _ => True)
    (fun _ U o U' => ∃ v L, o = .returned v ∧ (Fr C.2.2.1 L ∧ ∃ G', Rep C.2.1 C.2.2.1 U'.heap G' ∧ Q v G') ∧ FrameEnd U o U' L N.2.2.2.2.cells N.2.2.2.2.slots)
def lay : List Value → List Slot
  | [] => []
  | v :: l => if v.category = 2 then .val v :: .second :: lay l else .val v :: lay l
theorem lay_foldl (l : List Value) : ∀ acc : Array Slot, (l.foldl (fun acc v => if v.category = 2 then (acc.push (.val v)).push .second else acc.push (.val v)) acc).toList = acc.toList ++ lay l := by
  induction l with
  | nil => intro acc; simp [lay]
  | cons v l ih =>
    intro acc
    rw [List.foldl_cons, ih]
    by_cases h : v.category = 2 <;> simp [lay, h]
theorem args_lay (as : List Value) (ml : Nat) : argsToLocals as.toArray ml = (lay as ++ List.replicate (ml - (lay as).length) Slot.unset).toArray := by
  have h := lay_foldl as #[]
  apply Array.ext'
  simp only [argsToLocals, Array.toList_append, List.toList_toArray] at *
  rw [show (as.toArray.foldl (init := #[]) fun acc v => if v.category = 2 then (acc.push (Slot.val v)).push .second else acc.push (.val v)).toList = lay as by simpa using h]
  congr 1
  rw [← Array.length_toList, show (as.toArray.foldl (init := #[]) fun acc v => if v.category = 2 then (acc.push (Slot.val v)).push .second else acc.push (.val v)).toList = lay as by simpa using h]
  simp
def WFL (l : List Slot) : Prop := (∀ i : Nat, l[i]? = some .second → ∃ (j : Nat) (v : Value), i = j + 1 ∧ l[j]? = some (.val v) ∧ v.category = 2) ∧ (∀ (i : Nat) (v : Value), l[i]? = some (.val v) → v.category = 2 → l[i + 1]? = some .second)
theorem WFL.unset (n : Nat) : WFL (List.replicate n Slot.unset) := by
  refine ⟨fun i h => ?_, fun i v h => ?_⟩ <;> (rw [List.getElem?_replicate] at h; split at h <;> cases h)
theorem WFL.one {l : List Slot} {v : Value} (h : WFL l) (hv : v.category ≠ 2) : WFL (.val v :: l) := by
  refine ⟨fun i hi => ?_, fun i w hi hw => ?_⟩
  · cases i with
    | zero => simp at hi
    | succ i =>
      obtain ⟨j, w, e1, e2, e3⟩ := h.1 i (by simpa using hi)
      exact ⟨j + 1, w, by omega, by simpa using e2, e3⟩
  · cases i with
    | zero => simp at hi; subst hi; exact absurd hw hv
    | succ i => have := h.2 i w (by simpa using hi) hw; simpa using this
theorem WFL.two {l : List Slot} {v : Value} (h : WFL l) (hv : v.category = 2) : WFL (.val v :: .second :: l) := by
  refine ⟨fun i hi => ?_, fun i w hi hw => ?_⟩
  · match i, hi with
    | 0, hi => simp at hi
    | 1, hi => exact ⟨0, v, rfl, by simp, hv⟩
    | i + 2, hi =>
      obtain ⟨j, w, e1, e2, e3⟩ := h.1 i (by simpa using hi)
      exact ⟨j + 2, w, by omega, by simpa using e2, e3⟩
  · match i, hi with
    | 0, hi => simp
    | 1, hi => simp at hi
    | i + 2, hi => have := h.2 i w (by simpa using hi) hw; simpa using this
theorem WFL.lay (as : List Value) (n : Nat) : WFL (lay as ++ List.replicate n Slot.unset) := by
  induction as with
  | nil => exact WFL.unset n
  | cons v l ih =>
    by_cases h : v.category = 2
    · simpa [Jvm.Pilot.@@N@@.lay, h] using ih.two h
    · simpa [Jvm.Pilot.@@N@@.lay, h] using ih.one h
def pforget : List Bool → Pat → Pat
  | [], _ => []
  | _, [] => []
  | true :: ms, x :: l => x :: pforget ms l
  | false :: ms, _ :: l => none :: pforget ms l
theorem pforget_get : ∀ (ms : List Bool) (P : Pat) (i : Nat) (s : Slot), pget (pforget ms P) i = some s → pget P i = some s
  | [], _, i, s, h => by simp [pforget, pget] at h
  | _ :: _, [], i, s, h => by simp [pforget, pget] at h
  | true :: ms, x :: l, 0, s, h => h
  | true :: ms, x :: l, i + 1, s, h => pforget_get ms l i s h
  | false :: ms, x :: l, 0, s, h => by simp [pforget, pget] at h
  | false :: ms, x :: l, i + 1, s, h => pforget_get ms l i s h
section Calls
variable {C : Ctx} {M N : Bdy} {k n pc q : Nat} {P P' : Pat} {S S' : List Value} {G G1 : AH} {Q : Option Value → AH → Prop} {top : Nat} {a : Nat} {qq j idx W : Nat} {ob : Rec} {H : List (Nat × Nat × Rec)} {as : List Value}
theorem Runs.forget (ms : List Bool) (hP : pforget ms P = P') (h : Runs C M k n pc P' S G Q) : Runs C M k n pc P S G Q := by
  intro hw p e s m args below meth c T locs L hx hby hml hret hnm hown hZ hf
  subst hP
  exact h hw p e s m args below meth c T locs L hx hby hml hret hnm hown hZ ⟨fun i s hi => hf.1 i s (pforget_get _ _ i s hi), hf.2⟩
theorem Pays.of (hpl : plainName N.1.cls = true) (hml : (lay as).length ≤ N.2.2.1) (x : Nat) (hP : (lay as).map some ++ List.replicate x none = P) (h : Runs C N 0 0 0 P [] G Q) : Pays C N as G Q := by
  intro hw h0 hR ws
  refine MetFree.of_bodySF (plainFor_of_name hpl) hisR ?_
  intro p e s m args below meth c s₁ Bd hml0 hp hK
  obtain ⟨rfl, hZ, hh⟩ := hp
  have X0 : Stand p C.1 e N.2.2.2.2 s m as.toArray below meth c s₁ [] 0 0 := Stand.of_body Bd
  have e0 : s₁.heap = h0 := by rw [← hh, Bd.state]; rfl
  obtain ⟨L, hL⟩ : ∃ L : Array Slot, L = (lay as ++ List.replicate (N.2.2.1 - (lay as).length) Slot.unset).toArray := ⟨_, rfl⟩
  have hfit : Fits P L := by
    subst hP hL
    refine ⟨fun i s hi => ?_, ?_⟩
    · rw [pget_eq] at hi
      cases hq : (lay as)[i]? with
      | none =>
        rw [List.getElem?_append_right (by simpa using hq), List.getElem?_replicate] at hi
        split at hi <;> simp at hi
      | some y =>
        have hlt := (List.getElem?_eq_some_iff.mp hq).1
        rw [List.getElem?_append_left (by simpa using hlt), List.getElem?_map, hq] at hi
        have this : y = s := by simpa using hi
        simp only [List.getElem?_toArray]
        rw [List.getElem?_append_left hlt, hq, this]
    · have := WFL.lay as (N.2.2.1 - (lay as).length)
      refine ⟨fun i hi => ?_, fun i v hi hv => ?_⟩
      · rw [List.getElem?_toArray] at hi
        obtain ⟨j, v, e1, e2, e3⟩ := this.1 i hi
        exact ⟨j, v, e1, by rw [List.getElem?_toArray]; exact e2, e3⟩
      · rw [List.getElem?_toArray] at hi ⊢
        exact this.2 i v hi hv
  obtain ⟨T', locs', k', n', r, G', g1, g2, g3, g4, g5, g6, g7, g8⟩ := h hw p e s m as.toArray below meth c s₁ [] L Bd.exec Bd.bytes hml0 Bd.returns (name_of_methodNamed Bd.named Bd.method).1 (findClass_of_methodNamed Bd.named) hZ hfit (by rw [hL]; simp; omega) X0 (by rw [e0]; exact hR) (Fr.nil _)
  obtain ⟨fs, hr, hrun, hended, hW, hsame⟩ := g1.leave (v := r) (fun u => g7 (by rw [← Bd.returns]; exact u))
  refine ⟨_, _, ?_, hrun, hended, _, _, rfl, ⟨g5, G', ?_, g6⟩, ⟨_, rfl⟩, hW, hsame.mono g2 g3⟩
  · have ef : entryFrame m as.toArray N.2.2.1 = mkF m 0 L [] := by
      rw [hL, ← args_lay]; rfl
    rw [ef]; exact g8 fs hr
  · exact g4
abbrev room_al (M N : Bdy) (W k n : Nat) : Prop := N.2.2.2.2.frames + 1 ≤ M.2.2.2.2.frames ∧ W + (N.2.2.1 + 11) + N.2.2.2.2.locals ≤ M.2.2.2.2.locals ∧ k + N.2.2.2.2.cells ≤ M.2.2.2.2.cells ∧ n + N.2.2.2.2.slots ≤ M.2.2.2.2.slots
abbrev room_ok (M N : Bdy) (W : Nat) : Prop := N.2.2.2.2.frames + 1 ≤ M.2.2.2.2.frames ∧ W + (N.2.2.1 + 11) + N.2.2.2.2.locals ≤ M.2.2.2.2.locals ∧ N.2.2.2.2.cells = 0 ∧ N.2.2.2.2.slots = 0
abbrev full_ok (M : Bdy) (k n : Nat) : Prop := k ≤ M.2.2.2.2.cells ∧ n ≤ M.2.2.2.2.slots
theorem room_ok.al (h : room_ok M N W) (f : full_ok M k n) : room_al M N W k n := ⟨h.1, h.2.1, by rw [h.2.2.1]; exact f.1, by rw [h.2.2.2]; exact f.2⟩
abbrev code_w (N : Bdy) : Prop := Jvm.Cond.code N.1 N.2.1 N.2.2.1 N.2.2.2.1 ∈ tables_1 ∧ Jvm.Cond.initialized N.1.cls ∈ tables_1 ∧ (N.1.cls ≠ "java/lang/invoke/MethodHandle" ∧ N.1.cls ≠ "java/lang/invoke/VarHandle")
def arity (N : Bdy) (na : Nat) : Prop := ∃ ps r, parseMethodDescriptor N.1.desc = some ⟨ps, r⟩ ∧ na = ps.length
theorem arity.len {na : Nat} (h : arity N na) (e : as.length = na) : ∀ sig, parseMethodDescriptor N.1.desc = some sig → as.length = sig.parameters.length := by
  obtain ⟨ps, r, h1, h2⟩ := h
  exact lenOf h1 (e.trans h2)
theorem after_call {v : Option Value} {p : Program} {e : Env} {s : State} {m : MethodId} {args : Array Value} {below : List Frame} {meth : Method} {c : Code} {T T0 : State} {locs : List Loc} {L : Array Slot} {QN : Option Value → AH → Prop} {Lc : List Loc}
    (hw : Ok C) (hx : p.tables.exec = Jvm.exec) (hby : c.code = M.2.1) (hml : c.maxLocals = M.2.2.1) (hret : meth.sig.returnType = M.2.2.2.1) (hnm : meth.name = M.1.name) (hown : s.vm.findClass M.1.cls = some m.cls) (hZ : C.2.1.Warmed39 s.vm) (hf : Fits P L) (hsz : L.size = M.2.2.1) (hF : Fr C.2.2.1 locs)
    (X : Stand p C.1 e M.2.2.2.2 s m args below meth c T (locs ++ Lc) (k + N.2.2.2.2.cells) (n + N.2.2.2.2.slots)) (hQ : Fr C.2.2.1 Lc ∧ ∃ G', Rep C.2.1 C.2.2.1 T.heap G' ∧ QN v G')
    (h : ∀ v G', QN v G' → Runs C M (k + N.2.2.2.2.cells) (n + N.2.2.2.2.slots) (pc + 3) P (v.toList ++ S') G' Q)
    (st : ∀ t, Steps p.tables e below (T.setTop (mkF m (pc + 3) L (v.toList ++ S'))) t → Steps p.tables e below (T0.setTop (mkF m pc L S)) t) :
    ∃ (T' : State) (locs' : List Loc) (k' n' : Nat) (r : Option Value) (G' : AH), Stand p C.1 e M.2.2.2.2 s m args below meth c T' locs' k' n' ∧ k' ≤ M.2.2.2.2.cells ∧ n' ≤ M.2.2.2.2.slots ∧ Rep C.2.1 C.2.2.1 T'.heap G' ∧ Fr C.2.2.1 locs' ∧ Q r G' ∧
      (M.2.2.2.1 = none → r = none) ∧
      ∀ fs : List Frame, (∀ (f : JFrame) (acts : List Action), f.method = m → f.locked = none → f.entered = [] → (doReturn e (T'.setTop f) acts r).1 = T'.setFrames fs) → Steps p.tables e below (T0.setTop (mkF m pc L S)) (T'.setFrames fs) := by
  obtain ⟨f1, G', f2, f3⟩ := hQ
  obtain ⟨T', locs', k', n', r, G'', g1, g2, g3, g4, g5, g6, g7, g8⟩ := h v G' f3 hw p e s m args below meth c T _ L hx hby hml hret hnm hown hZ hf hsz X f2 (Fr.app hF f1)
  exact ⟨T', locs', k', n', r, G'', g1, g2, g3, g4, g5, g6, g7, fun fs hr => st _ (g8 fs hr)⟩
theorem Runs.callS {QN : Option Value → AH → Prop} (d : DAt M pc (.invokestatic idx) 3 q) (wl : Jvm.Cond.methodLink M.1.cls idx N.1 ∈ tables_1) (wt : Jvm.Cond.static N.1 ∈ tables_1) (wc : code_w N) (ar : arity N as.length) (hr0 : room_ok M N W) (hfull : full_ok M k n) (hS : S = as.reverse ++ S') (hW : (S'.map fun v => v.category).sum = W)
    (hN : Pays C N as G QN) (h : ∀ v G', QN v G' → Runs C M k n q P (v.toList ++ S') G' Q) : Runs C M k n pc P S G Q := by
  intro hw p e s m args below meth c T locs L hx hby hml hret hnm hown hZ hf hsz X hR hF
  have hq := d.2
  subst hq hS
  have hr := hr0.al hfull
  obtain ⟨_, _, ⟨T1, L1, k1, n1⟩, -, X1, ⟨Lc, hQ, l1, y1, z1⟩, st⟩ := Jvm.LawKit.callS X hx (y := N.1) hown (mvT hZ (hw _ wl)) (mvT hZ (hw _ wt)) (mvT hZ (hw _ wc.2.1)) (mvT hZ (hw _ wc.1)) wc.2.2 (backOf (W := W) (Q := fun v h L => Fr C.2.2.1 L ∧ ∃ G', Rep C.2.1 C.2.2.1 h G' ∧ QN v G') (hN hw T.heap hR []) hZ (hw _ wc.1) (hw _ wc.2.1) hr.1 hr.2.1) (g := mkF m pc L (as.reverse ++ S')) rfl (by rw [hml]; exact hsz) (argsL := as) (rest := S') (ar.len rfl) rfl (by show 2 * 0 + _ ≤ _; omega) (hb hby d.1) (fun _ _ => ⟨rfl, rfl, hr.2.2.1, hr.2.2.2⟩)
  dsimp only [Pt.U, Pt.locs, Pt.cells, Pt.slots] at X1 l1 y1 z1 st hQ
  subst l1 y1 z1
  exact after_call hw hx hby hml hret hnm hown hZ hf hsz hF X1 hQ (by rw [hr0.2.2.1, hr0.2.2.2]; exact h) (fun t u => st t u)
theorem Runs.callV {QN : Option Value → AH → Prop} (d : DAt M pc (.invokevirtual idx) 3 q) (wl : Jvm.Cond.methodLink M.1.cls idx N.1 ∈ tables_1) (wd : Jvm.Cond.declares N.1 ∈ tables_1) (wi : Jvm.Cond.instanceMethod N.1 ∈ tables_1) (ws : Jvm.Cond.selects K.1 N.1 N.1 ∈ tables_1) (wc : code_w N) (ar : arity N as.length) (hr0 : room_ok M N W) (hfull : full_ok M k n) (hS : S = as.reverse ++ .ref a :: S') (hW : (S'.map fun v => v.category).sum = W)
    (hN : Pays C N (.ref a :: as) (top, (a, qq, ob) :: H) QN) (h : ∀ v G', QN v G' → Runs C M k n q P (v.toList ++ S') G' Q) : Runs C M k n pc P S (top, (a, qq, ob) :: H) Q := by
  intro hw p e s m args below meth c T locs L hx hby hml hret hnm hown hZ hf hsz X hR hF
  have hq := d.2
  subst hq hS
  have hr := hr0.al hfull
  obtain ⟨cB, kB, u1, -, u3⟩ := isOf hZ rfl hR.objs.2.2.1
  obtain ⟨_, _, ⟨T1, L1, k1, n1⟩, -, X1, ⟨Lc, hQ, l1, y1, z1⟩, st⟩ := X.virtualBack hx (y := N.1) (z := N.1) hown (mvT hZ (hw _ wl)) (mvT hZ (hw _ wd)) (notFace_of_selects (args := #[]) (mvT hZ (hw _ ws))) (mvT hZ (hw _ ws)) (mvT hZ (hw _ wi)) wc.2.2 (backOf (W := W) (Q := fun v h L => Fr C.2.2.1 L ∧ ∃ G', Rep C.2.1 C.2.2.1 h G' ∧ QN v G') (hN hw T.heap hR []) hZ (hw _ wc.1) (hw _ wc.2.1) hr.1 hr.2.1) u1 u3 (g := mkF m pc L (as.reverse ++ .ref a :: S')) rfl (by rw [hml]; exact hsz) (Steps.refl _) (argsL := as) (rest := S') (ar.len rfl) rfl (by show 2 * 0 + _ ≤ _; omega) (hb hby d.1) (fun _ _ => ⟨rfl, rfl, hr.2.2.1, hr.2.2.2⟩)
  dsimp only [Pt.U, Pt.locs, Pt.cells, Pt.slots] at X1 l1 y1 z1 st hQ
  subst l1 y1 z1
  exact after_call hw hx hby hml hret hnm hown hZ hf hsz hF X1 hQ (by rw [hr0.2.2.1, hr0.2.2.2]; exact h) (fun t u => st.trans u)
theorem Runs.callP {QN : Option Value → AH → Prop} (d : DAt M pc (.invokevirtual idx) 3 q) (wl : Jvm.Cond.methodLink M.1.cls idx N.1 ∈ tables_1) (wi : Jvm.Cond.instanceMethod N.1 ∈ tables_1) (wp : Jvm.Cond.privateMethod N.1 ∈ tables_1) (wK : N.1.cls = K.1) (wc : code_w N) (ar : arity N as.length) (hr0 : room_ok M N W) (hfull : full_ok M k n) (hS : S = as.reverse ++ .ref a :: S') (hW : (S'.map fun v => v.category).sum = W)
    (hN : Pays C N (.ref a :: as) (top, (a, qq, ob) :: H) QN) (h : ∀ v G', QN v G' → Runs C M k n q P (v.toList ++ S') G' Q) : Runs C M k n pc P S (top, (a, qq, ob) :: H) Q := by
  intro hw p e s m args below meth c T locs L hx hby hml hret hnm hown hZ hf hsz X hR hF
  have hq := d.2
  subst hq hS
  have hr := hr0.al hfull
  obtain ⟨cl, u1, u2⟩ := hR.objs.2.2.1.cell
  have hpr : s.PrivateAt N.1 := Cond.privateMethod_at (mvP hZ (hw _ wp) (args := #[]))
  obtain ⟨c2, k2, i1, i2, i3, i4, -⟩ := Cond.instantiable_spec (mvT (args := args) hZ (hw _ kI))
  have hsel : (Jvm.Cond.selects N.1.cls N.1 N.1).before args s = true := Stand.selects_self_of_private (by rw [wK]; exact i1) i2 (by simp at i4; exact i4.1) hpr (mvT hZ (hw _ wi)) wc.2.2
  obtain ⟨_, _, ⟨T1, L1, k1, n1⟩, -, X1, ⟨Lc, hQ, l1, y1, z1⟩, st⟩ := X.privateBack hx (y := N.1) hown (mvT hZ (hw _ wl)) (mvT hZ (hw _ wi)) hsel hpr (mvT hZ (hw _ wc.1)) wc.2.2 (backOf (W := W) (Q := fun v h L => Fr C.2.2.1 L ∧ ∃ G', Rep C.2.1 C.2.2.1 h G' ∧ QN v G') (hN hw T.heap hR []) hZ (hw _ wc.1) (hw _ wc.2.1) hr.1 hr.2.1) (g := mkF m pc L (as.reverse ++ .ref a :: S')) rfl (by rw [hml]; exact hsz) (Steps.refl _) (a := a) u1 u2 (argsL := as) (rest := S') (ar.len rfl) rfl (by show 2 * 0 + _ ≤ _; omega) (hb hby d.1) (fun _ _ => ⟨rfl, rfl, hr.2.2.1, hr.2.2.2⟩)
  dsimp only [Pt.U, Pt.locs, Pt.cells, Pt.slots] at X1 l1 y1 z1 st hQ
  subst l1 y1 z1
  exact after_call hw hx hby hml hret hnm hown hZ hf hsz hF X1 hQ (by rw [hr0.2.2.1, hr0.2.2.2]; exact h) (fun t u => st.trans u)
theorem Runs.callI {QN : Option Value → AH → Prop} (d : DAt M pc (.invokespecial idx) 3 q) (hi : N.1.name = "<init>") (hn : N.2.2.2.1 = none) (wl : Jvm.Cond.methodLink M.1.cls idx N.1 ∈ tables_1) (wi : Jvm.Cond.instanceMethod N.1 ∈ tables_1) (wc : code_w N) (ar : arity N as.length) (hr : room_al M N W k n) (hS : S = as.reverse ++ .ref a :: S') (hW : (S'.map fun v => v.category).sum = W) {k' n' : Nat} (hk' : k + N.2.2.2.2.cells = k') (hn' : n + N.2.2.2.2.slots = n')
    (hN : Pays C N (.ref a :: as) G QN) (h : ∀ v G', QN v G' → Runs C M k' n' q P (v.toList ++ S') G' Q) : Runs C M k n pc P S G Q := by
  intro hw p e s m args below meth c T locs L hx hby hml hret hnm hown hZ hf hsz X hR hF
  have hq := d.2
  subst hq hS hk' hn'
  have wc1 := hw _ wc.1
  obtain ⟨_, _, ⟨T1, L1, k1, n1⟩, -, X1, ⟨Lc, hQ, l1, y1, z1⟩, st⟩ := X.specialBack hx (y := N.1) hi hown (mvT hZ (hw _ wl)) (mvT hZ (hw _ wi)) (bytes := N.2.1) (maxL := N.2.2.1) (by have := mvT (args := args) hZ wc1; rw [hn] at this; exact this) wc.2.2 (backOf (W := W) (Q := fun v h L => Fr C.2.2.1 L ∧ ∃ G', Rep C.2.1 C.2.2.1 h G' ∧ QN v G') (hN hw T.heap hR []) hZ wc1 (hw _ wc.2.1) hr.1 hr.2.1) (g := mkF m pc L (as.reverse ++ .ref a :: S')) rfl (by rw [hml]; exact hsz) (Steps.refl _) (a := a) (argsL := as) (rest := S') (ar.len rfl) rfl (by show 2 * 0 + _ ≤ _; omega) (hb hby d.1) (fun _ _ => ⟨rfl, rfl, hr.2.2.1, hr.2.2.2⟩)
  dsimp only [Pt.U, Pt.locs, Pt.cells, Pt.slots] at X1 l1 y1 z1 st hQ
  subst l1 y1 z1
  exact after_call hw hx hby hml hret hnm hown hZ hf hsz hF X1 hQ h (fun t u => st.trans u)
/-- the plain form of a contract: one answer, one heap -/
abbrev Ans (r : Option Value) (G1 : AH) : Option Value → AH → Prop := fun v G' => v = r ∧ G' = G1
theorem ans1 {x : Value} {k n : Nat} (h : Runs C M k n pc P (x :: S) G1 Q) : ∀ v G', Ans (some x) G1 v G' → Runs C M k n pc P (v.toList ++ S) G' Q := by
  rintro v G' ⟨rfl, rfl⟩; exact h
theorem ans0 {k n : Nat} (h : Runs C M k n pc P S G1 Q) : ∀ v G', Ans none G1 v G' → Runs C M k n pc P (v.toList ++ S) G' Q := by
  rintro v G' ⟨rfl, rfl⟩; exact h
end Calls
theorem pnK : plainName "XorGaussSat" = true := by first | (simp [plainName, overriddenIn]; done) | decide +kernel
theorem pnL : plainName "XorGaussSatOwnLaw" = true := by first | (simp [plainName, overriddenIn]; done) | decide +kernel
theorem w0 : (Jvm.Cond.classLink "XorGaussSatOwnLaw" (7 : Nat) "XorGaussSat") ∈ tables_1 := mem1 0 rfl
theorem w3 : (Jvm.Cond.methodLink "XorGaussSatOwnLaw" (9 : Nat) ({ cls := "XorGaussSatOwnLaw", name := "cell", desc := "([II)I" } : Jvm.MethodName)) ∈ tables_1 := mem1 3 rfl
theorem w4 : (Jvm.Cond.static ({ cls := "XorGaussSatOwnLaw", name := "cell", desc := "([II)I" } : Jvm.MethodName)) ∈ tables_1 := mem1 4 rfl
theorem w7 : (Jvm.Cond.methodLink "XorGaussSatOwnLaw" (15 : Nat) ({ cls := "XorGaussSat", name := "<init>", desc := "(I)V" } : Jvm.MethodName)) ∈ tables_1 := mem1 7 rfl
theorem w8 : (Jvm.Cond.instanceMethod ({ cls := "XorGaussSat", name := "<init>", desc := "(I)V" } : Jvm.MethodName)) ∈ tables_1 := mem1 8 rfl
theorem w10 : (Jvm.Cond.methodLink "XorGaussSat" (1 : Nat) ({ cls := "java/lang/Object", name := "<init>", desc := "()V" } : Jvm.MethodName)) ∈ tables_1 := mem1 10 rfl
theorem w11 : (Jvm.Cond.instanceMethod ({ cls := "java/lang/Object", name := "<init>", desc := "()V" } : Jvm.MethodName)) ∈ tables_1 := mem1 11 rfl
theorem w12 : (Jvm.Cond.code ({ cls := "java/lang/Object", name := "<init>", desc := "()V" } : Jvm.MethodName) object_method_1_code (1 : Nat) (Option.none : Option Jvm.ClassFile.FieldType)) ∈ tables_1 := mem1 12 rfl
theorem w13 : (Jvm.Cond.arrayClass Jvm.ClassFile.FieldType.int) ∈ tables_1 := mem1 13 rfl
theorem w14 : (Jvm.Cond.fieldLink "XorGaussSat" (7 : Nat) "XorGaussSat" "pendVar" "[I") ∈ tables_1 := mem1 14 rfl
theorem w16 : (Jvm.Cond.arrayClass Jvm.ClassFile.FieldType.boolean) ∈ tables_1 := mem1 16 rfl
theorem w17 : (Jvm.Cond.fieldLink "XorGaussSat" (13 : Nat) "XorGaussSat" "pendNeg" "[Z") ∈ tables_1 := mem1 17 rfl
theorem w19 : (Jvm.Cond.fieldLink "XorGaussSat" (17 : Nat) "XorGaussSat" "clausePos" "[I") ∈ tables_1 := mem1 19 rfl
theorem w21 : (Jvm.Cond.fieldLink "XorGaussSat" (20 : Nat) "XorGaussSat" "clauseNeg" "[I") ∈ tables_1 := mem1 21 rfl
theorem w23 : (Jvm.Cond.fieldLink "XorGaussSat" (23 : Nat) "XorGaussSat" "xorMask" "[I") ∈ tables_1 := mem1 23 rfl
theorem w25 : (Jvm.Cond.fieldLink "XorGaussSat" (26 : Nat) "XorGaussSat" "xorRhs" "[I") ∈ tables_1 := mem1 25 rfl
theorem w27 : (Jvm.Cond.fieldLink "XorGaussSat" (29 : Nat) "XorGaussSat" "order" "[I") ∈ tables_1 := mem1 27 rfl
theorem w29 : (Jvm.Cond.fieldLink "XorGaussSat" (32 : Nat) "XorGaussSat" "echMask" "[I") ∈ tables_1 := mem1 29 rfl
theorem w31 : (Jvm.Cond.fieldLink "XorGaussSat" (35 : Nat) "XorGaussSat" "echRhs" "[I") ∈ tables_1 := mem1 31 rfl
theorem w33 : (Jvm.Cond.fieldLink "XorGaussSat" (38 : Nat) "XorGaussSat" "echPivot" "[I") ∈ tables_1 := mem1 33 rfl
theorem w35 : (Jvm.Cond.fieldLink "XorGaussSat" (41 : Nat) "XorGaussSat" "gMask" "[I") ∈ tables_1 := mem1 35 rfl
theorem w37 : (Jvm.Cond.fieldLink "XorGaussSat" (44 : Nat) "XorGaussSat" "gRhs" "[I") ∈ tables_1 := mem1 37 rfl
theorem w39 : (Jvm.Cond.fieldLink "XorGaussSat" (47 : Nat) "XorGaussSat" "gPivot" "[I") ∈ tables_1 := mem1 39 rfl
theorem w41 : (Jvm.Cond.fieldLink "XorGaussSat" (50 : Nat) "XorGaussSat" "trail" "[I") ∈ tables_1 := mem1 41 rfl
theorem w43 : (Jvm.Cond.fieldLink "XorGaussSat" (53 : Nat) "XorGaussSat" "lvlVar" "[I") ∈ tables_1 := mem1 43 rfl
theorem w45 : (Jvm.Cond.fieldLink "XorGaussSat" (56 : Nat) "XorGaussSat" "lvlStart" "[I") ∈ tables_1 := mem1 45 rfl
theorem w47 : (Jvm.Cond.fieldLink "XorGaussSat" (59 : Nat) "XorGaussSat" "lvlFlipped" "[Z") ∈ tables_1 := mem1 47 rfl
theorem w49 : (Jvm.Cond.fieldLink "XorGaussSat" (62 : Nat) "XorGaussSat" "n" "I") ∈ tables_1 := mem1 49 rfl
theorem w50 : (Jvm.Cond.lays "XorGaussSat" "XorGaussSat" "n" "I") ∈ tables_1 := mem1 50 rfl
theorem w51 : (Jvm.Cond.fieldLink "XorGaussSat" (66 : Nat) "XorGaussSat" "fullMask" "I") ∈ tables_1 := mem1 51 rfl
theorem w52 : (Jvm.Cond.lays "XorGaussSat" "XorGaussSat" "fullMask" "I") ∈ tables_1 := mem1 52 rfl
theorem w53 : (Jvm.Cond.fieldLink "XorGaussSat" (69 : Nat) "XorGaussSat" "status" "I") ∈ tables_1 := mem1 53 rfl
theorem w54 : (Jvm.Cond.lays "XorGaussSat" "XorGaussSat" "status" "I") ∈ tables_1 := mem1 54 rfl
theorem w55 : (Jvm.Cond.fieldLink "XorGaussSat" (72 : Nat) "XorGaussSat" "model" "I") ∈ tables_1 := mem1 55 rfl
theorem w56 : (Jvm.Cond.lays "XorGaussSat" "XorGaussSat" "model" "I") ∈ tables_1 := mem1 56 rfl
theorem w57 : (Jvm.Cond.fieldLink "XorGaussSat" (75 : Nat) "XorGaussSat" "pendLen" "I") ∈ tables_1 := mem1 57 rfl
theorem w58 : (Jvm.Cond.lays "XorGaussSat" "XorGaussSat" "pendLen" "I") ∈ tables_1 := mem1 58 rfl
theorem w59 : (Jvm.Cond.fieldLink "XorGaussSat" (78 : Nat) "XorGaussSat" "clauseCnt" "I") ∈ tables_1 := mem1 59 rfl
theorem w60 : (Jvm.Cond.lays "XorGaussSat" "XorGaussSat" "clauseCnt" "I") ∈ tables_1 := mem1 60 rfl
theorem w61 : (Jvm.Cond.fieldLink "XorGaussSat" (81 : Nat) "XorGaussSat" "xorCnt" "I") ∈ tables_1 := mem1 61 rfl
theorem w62 : (Jvm.Cond.lays "XorGaussSat" "XorGaussSat" "xorCnt" "I") ∈ tables_1 := mem1 62 rfl
theorem w63 : (Jvm.Cond.fieldLink "XorGaussSat" (84 : Nat) "XorGaussSat" "orderLen" "I") ∈ tables_1 := mem1 63 rfl
theorem w64 : (Jvm.Cond.lays "XorGaussSat" "XorGaussSat" "orderLen" "I") ∈ tables_1 := mem1 64 rfl
theorem w65 : (Jvm.Cond.fieldLink "XorGaussSat" (87 : Nat) "XorGaussSat" "echValid" "Z") ∈ tables_1 := mem1 65 rfl
theorem w66 : (Jvm.Cond.lays "XorGaussSat" "XorGaussSat" "echValid" "Z") ∈ tables_1 := mem1 66 rfl
theorem w67 : (Jvm.Cond.fieldLink "XorGaussSat" (91 : Nat) "XorGaussSat" "echConsistent" "Z") ∈ tables_1 := mem1 67 rfl
theorem w68 : (Jvm.Cond.lays "XorGaussSat" "XorGaussSat" "echConsistent" "Z") ∈ tables_1 := mem1 68 rfl
theorem w69 : (Jvm.Cond.fieldLink "XorGaussSat" (94 : Nat) "XorGaussSat" "echRank" "I") ∈ tables_1 := mem1 69 rfl
theorem w70 : (Jvm.Cond.lays "XorGaussSat" "XorGaussSat" "echRank" "I") ∈ tables_1 := mem1 70 rfl
theorem w71 : (Jvm.Cond.methodLink "XorGaussSatOwnLaw" (18 : Nat) ({ cls := "XorGaussSat", name := "variables", desc := "()I" } : Jvm.MethodName)) ∈ tables_1 := mem1 71 rfl
theorem w72 : (Jvm.Cond.declares ({ cls := "XorGaussSat", name := "variables", desc := "()I" } : Jvm.MethodName)) ∈ tables_1 := mem1 72 rfl
theorem w73 : (Jvm.Cond.instanceMethod ({ cls := "XorGaussSat", name := "variables", desc := "()I" } : Jvm.MethodName)) ∈ tables_1 := mem1 73 rfl
theorem w74 : (Jvm.Cond.selects "XorGaussSat" ({ cls := "XorGaussSat", name := "variables", desc := "()I" } : Jvm.MethodName) ({ cls := "XorGaussSat", name := "variables", desc := "()I" } : Jvm.MethodName)) ∈ tables_1 := mem1 74 rfl
theorem w76 : (Jvm.Cond.methodLink "XorGaussSatOwnLaw" (40 : Nat) ({ cls := "XorGaussSat", name := "violations", desc := "(I)I" } : Jvm.MethodName)) ∈ tables_1 := mem1 76 rfl
theorem w77 : (Jvm.Cond.declares ({ cls := "XorGaussSat", name := "violations", desc := "(I)I" } : Jvm.MethodName)) ∈ tables_1 := mem1 77 rfl
theorem w78 : (Jvm.Cond.instanceMethod ({ cls := "XorGaussSat", name := "violations", desc := "(I)I" } : Jvm.MethodName)) ∈ tables_1 := mem1 78 rfl
theorem w79 : (Jvm.Cond.selects "XorGaussSat" ({ cls := "XorGaussSat", name := "violations", desc := "(I)I" } : Jvm.MethodName) ({ cls := "XorGaussSat", name := "violations", desc := "(I)I" } : Jvm.MethodName)) ∈ tables_1 := mem1 79 rfl
theorem w81 : (Jvm.Cond.methodLink "XorGaussSatOwnLaw" (44 : Nat) ({ cls := "XorGaussSatOwnLaw", name := "before", desc := "(II)Z" } : Jvm.MethodName)) ∈ tables_1 := mem1 81 rfl
theorem w82 : (Jvm.Cond.static ({ cls := "XorGaussSatOwnLaw", name := "before", desc := "(II)Z" } : Jvm.MethodName)) ∈ tables_1 := mem1 82 rfl
theorem w84 : (Jvm.Cond.methodLink "XorGaussSatOwnLaw" (48 : Nat) ({ cls := "XorGaussSat", name := "countModels", desc := "()I" } : Jvm.MethodName)) ∈ tables_1 := mem1 84 rfl
theorem w85 : (Jvm.Cond.declares ({ cls := "XorGaussSat", name := "countModels", desc := "()I" } : Jvm.MethodName)) ∈ tables_1 := mem1 85 rfl
theorem w86 : (Jvm.Cond.instanceMethod ({ cls := "XorGaussSat", name := "countModels", desc := "()I" } : Jvm.MethodName)) ∈ tables_1 := mem1 86 rfl
theorem w87 : (Jvm.Cond.selects "XorGaussSat" ({ cls := "XorGaussSat", name := "countModels", desc := "()I" } : Jvm.MethodName) ({ cls := "XorGaussSat", name := "countModels", desc := "()I" } : Jvm.MethodName)) ∈ tables_1 := mem1 87 rfl
theorem w89 : (Jvm.Cond.methodLink "XorGaussSat" (125 : Nat) ({ cls := "XorGaussSat", name := "ensureEchelon", desc := "()V" } : Jvm.MethodName)) ∈ tables_1 := mem1 89 rfl
theorem w90 : (Jvm.Cond.instanceMethod ({ cls := "XorGaussSat", name := "ensureEchelon", desc := "()V" } : Jvm.MethodName)) ∈ tables_1 := mem1 90 rfl
theorem w91 : (Jvm.Cond.privateMethod ({ cls := "XorGaussSat", name := "ensureEchelon", desc := "()V" } : Jvm.MethodName)) ∈ tables_1 := mem1 91 rfl
theorem w93 : (Jvm.Cond.fieldLink "XorGaussSat" (154 : Nat) "XorGaussSat" "gRows" "I") ∈ tables_1 := mem1 93 rfl
theorem w94 : (Jvm.Cond.lays "XorGaussSat" "XorGaussSat" "gRows" "I") ∈ tables_1 := mem1 94 rfl
theorem w95 : (Jvm.Cond.methodLink "XorGaussSat" (157 : Nat) ({ cls := "XorGaussSat", name := "eliminate", desc := "()V" } : Jvm.MethodName)) ∈ tables_1 := mem1 95 rfl
theorem w96 : (Jvm.Cond.instanceMethod ({ cls := "XorGaussSat", name := "eliminate", desc := "()V" } : Jvm.MethodName)) ∈ tables_1 := mem1 96 rfl
theorem w97 : (Jvm.Cond.privateMethod ({ cls := "XorGaussSat", name := "eliminate", desc := "()V" } : Jvm.MethodName)) ∈ tables_1 := mem1 97 rfl
theorem w99 : (Jvm.Cond.fieldLink "XorGaussSat" (141 : Nat) "XorGaussSat" "gRank" "I") ∈ tables_1 := mem1 99 rfl
theorem w100 : (Jvm.Cond.lays "XorGaussSat" "XorGaussSat" "gRank" "I") ∈ tables_1 := mem1 100 rfl
theorem w101 : (Jvm.Cond.methodLink "XorGaussSat" (144 : Nat) ({ cls := "XorGaussSat", name := "findPivot", desc := "(I)I" } : Jvm.MethodName)) ∈ tables_1 := mem1 101 rfl
theorem w102 : (Jvm.Cond.instanceMethod ({ cls := "XorGaussSat", name := "findPivot", desc := "(I)I" } : Jvm.MethodName)) ∈ tables_1 := mem1 102 rfl
theorem w103 : (Jvm.Cond.privateMethod ({ cls := "XorGaussSat", name := "findPivot", desc := "(I)I" } : Jvm.MethodName)) ∈ tables_1 := mem1 103 rfl
theorem w105 : (Jvm.Cond.methodLink "XorGaussSat" (160 : Nat) ({ cls := "XorGaussSat", name := "scratchConsistent", desc := "()Z" } : Jvm.MethodName)) ∈ tables_1 := mem1 105 rfl
theorem w106 : (Jvm.Cond.instanceMethod ({ cls := "XorGaussSat", name := "scratchConsistent", desc := "()Z" } : Jvm.MethodName)) ∈ tables_1 := mem1 106 rfl
theorem w107 : (Jvm.Cond.privateMethod ({ cls := "XorGaussSat", name := "scratchConsistent", desc := "()Z" } : Jvm.MethodName)) ∈ tables_1 := mem1 107 rfl
theorem w109 : (Jvm.Cond.methodLink "XorGaussSat" (128 : Nat) ({ cls := "XorGaussSat", name := "echPivotMask", desc := "()I" } : Jvm.MethodName)) ∈ tables_1 := mem1 109 rfl
theorem w110 : (Jvm.Cond.instanceMethod ({ cls := "XorGaussSat", name := "echPivotMask", desc := "()I" } : Jvm.MethodName)) ∈ tables_1 := mem1 110 rfl
theorem w111 : (Jvm.Cond.privateMethod ({ cls := "XorGaussSat", name := "echPivotMask", desc := "()I" } : Jvm.MethodName)) ∈ tables_1 := mem1 111 rfl
theorem w113 : (Jvm.Cond.methodLink "XorGaussSat" (131 : Nat) ({ cls := "XorGaussSat", name := "bitCount", desc := "(I)I" } : Jvm.MethodName)) ∈ tables_1 := mem1 113 rfl
theorem w114 : (Jvm.Cond.instanceMethod ({ cls := "XorGaussSat", name := "bitCount", desc := "(I)I" } : Jvm.MethodName)) ∈ tables_1 := mem1 114 rfl
theorem w115 : (Jvm.Cond.privateMethod ({ cls := "XorGaussSat", name := "bitCount", desc := "(I)I" } : Jvm.MethodName)) ∈ tables_1 := mem1 115 rfl
theorem w117 : (Jvm.Cond.methodLink "XorGaussSatOwnLaw" (51 : Nat) ({ cls := "XorGaussSat", name := "solve", desc := "()I" } : Jvm.MethodName)) ∈ tables_1 := mem1 117 rfl
theorem w118 : (Jvm.Cond.declares ({ cls := "XorGaussSat", name := "solve", desc := "()I" } : Jvm.MethodName)) ∈ tables_1 := mem1 118 rfl
theorem w119 : (Jvm.Cond.instanceMethod ({ cls := "XorGaussSat", name := "solve", desc := "()I" } : Jvm.MethodName)) ∈ tables_1 := mem1 119 rfl
theorem w120 : (Jvm.Cond.selects "XorGaussSat" ({ cls := "XorGaussSat", name := "solve", desc := "()I" } : Jvm.MethodName) ({ cls := "XorGaussSat", name := "solve", desc := "()I" } : Jvm.MethodName)) ∈ tables_1 := mem1 120 rfl
theorem w122 : (Jvm.Cond.methodLink "XorGaussSat" (112 : Nat) ({ cls := "XorGaussSat", name := "search", desc := "(II)Z" } : Jvm.MethodName)) ∈ tables_1 := mem1 122 rfl
theorem w123 : (Jvm.Cond.instanceMethod ({ cls := "XorGaussSat", name := "search", desc := "(II)Z" } : Jvm.MethodName)) ∈ tables_1 := mem1 123 rfl
theorem w124 : (Jvm.Cond.privateMethod ({ cls := "XorGaussSat", name := "search", desc := "(II)Z" } : Jvm.MethodName)) ∈ tables_1 := mem1 124 rfl
theorem w126 : (Jvm.Cond.methodLink "XorGaussSat" (171 : Nat) ({ cls := "XorGaussSat", name := "resetSearch", desc := "()V" } : Jvm.MethodName)) ∈ tables_1 := mem1 126 rfl
theorem w127 : (Jvm.Cond.instanceMethod ({ cls := "XorGaussSat", name := "resetSearch", desc := "()V" } : Jvm.MethodName)) ∈ tables_1 := mem1 127 rfl
theorem w128 : (Jvm.Cond.privateMethod ({ cls := "XorGaussSat", name := "resetSearch", desc := "()V" } : Jvm.MethodName)) ∈ tables_1 := mem1 128 rfl
theorem w130 : (Jvm.Cond.fieldLink "XorGaussSat" (183 : Nat) "XorGaussSat" "asgMask" "I") ∈ tables_1 := mem1 130 rfl
theorem w131 : (Jvm.Cond.lays "XorGaussSat" "XorGaussSat" "asgMask" "I") ∈ tables_1 := mem1 131 rfl
theorem w132 : (Jvm.Cond.fieldLink "XorGaussSat" (186 : Nat) "XorGaussSat" "asgVals" "I") ∈ tables_1 := mem1 132 rfl
theorem w133 : (Jvm.Cond.lays "XorGaussSat" "XorGaussSat" "asgVals" "I") ∈ tables_1 := mem1 133 rfl
theorem w134 : (Jvm.Cond.fieldLink "XorGaussSat" (195 : Nat) "XorGaussSat" "trailLen" "I") ∈ tables_1 := mem1 134 rfl
theorem w135 : (Jvm.Cond.lays "XorGaussSat" "XorGaussSat" "trailLen" "I") ∈ tables_1 := mem1 135 rfl
theorem w136 : (Jvm.Cond.fieldLink "XorGaussSat" (198 : Nat) "XorGaussSat" "lvlCnt" "I") ∈ tables_1 := mem1 136 rfl
theorem w137 : (Jvm.Cond.lays "XorGaussSat" "XorGaussSat" "lvlCnt" "I") ∈ tables_1 := mem1 137 rfl
theorem w138 : (Jvm.Cond.fieldLink "XorGaussSat" (116 : Nat) "XorGaussSat" "found" "I") ∈ tables_1 := mem1 138 rfl
theorem w139 : (Jvm.Cond.lays "XorGaussSat" "XorGaussSat" "found" "I") ∈ tables_1 := mem1 139 rfl
theorem w140 : (Jvm.Cond.methodLink "XorGaussSat" (177 : Nat) ({ cls := "XorGaussSat", name := "propagate", desc := "()Z" } : Jvm.MethodName)) ∈ tables_1 := mem1 140 rfl
theorem w141 : (Jvm.Cond.instanceMethod ({ cls := "XorGaussSat", name := "propagate", desc := "()Z" } : Jvm.MethodName)) ∈ tables_1 := mem1 141 rfl
theorem w142 : (Jvm.Cond.privateMethod ({ cls := "XorGaussSat", name := "propagate", desc := "()Z" } : Jvm.MethodName)) ∈ tables_1 := mem1 142 rfl
theorem w144 : (Jvm.Cond.methodLink "XorGaussSat" (207 : Nat) ({ cls := "XorGaussSat", name := "propagateClauses", desc := "()Z" } : Jvm.MethodName)) ∈ tables_1 := mem1 144 rfl
theorem w145 : (Jvm.Cond.instanceMethod ({ cls := "XorGaussSat", name := "propagateClauses", desc := "()Z" } : Jvm.MethodName)) ∈ tables_1 := mem1 145 rfl
theorem w146 : (Jvm.Cond.privateMethod ({ cls := "XorGaussSat", name := "propagateClauses", desc := "()Z" } : Jvm.MethodName)) ∈ tables_1 := mem1 146 rfl
theorem w148 : (Jvm.Cond.methodLink "XorGaussSat" (210 : Nat) ({ cls := "XorGaussSat", name := "propagateXors", desc := "()Z" } : Jvm.MethodName)) ∈ tables_1 := mem1 148 rfl
theorem w149 : (Jvm.Cond.instanceMethod ({ cls := "XorGaussSat", name := "propagateXors", desc := "()Z" } : Jvm.MethodName)) ∈ tables_1 := mem1 149 rfl
theorem w150 : (Jvm.Cond.privateMethod ({ cls := "XorGaussSat", name := "propagateXors", desc := "()Z" } : Jvm.MethodName)) ∈ tables_1 := mem1 150 rfl
theorem w152 : (Jvm.Cond.methodLink "XorGaussSat" (222 : Nat) ({ cls := "XorGaussSat", name := "loadResidualRows", desc := "()V" } : Jvm.MethodName)) ∈ tables_1 := mem1 152 rfl
theorem w153 : (Jvm.Cond.instanceMethod ({ cls := "XorGaussSat", name := "loadResidualRows", desc := "()V" } : Jvm.MethodName)) ∈ tables_1 := mem1 153 rfl
theorem w154 : (Jvm.Cond.privateMethod ({ cls := "XorGaussSat", name := "loadResidualRows", desc := "()V" } : Jvm.MethodName)) ∈ tables_1 := mem1 154 rfl
theorem w156 : (Jvm.Cond.methodLink "XorGaussSat" (192 : Nat) ({ cls := "XorGaussSat", name := "decide", desc := "()V" } : Jvm.MethodName)) ∈ tables_1 := mem1 156 rfl
theorem w157 : (Jvm.Cond.instanceMethod ({ cls := "XorGaussSat", name := "decide", desc := "()V" } : Jvm.MethodName)) ∈ tables_1 := mem1 157 rfl
theorem w158 : (Jvm.Cond.privateMethod ({ cls := "XorGaussSat", name := "decide", desc := "()V" } : Jvm.MethodName)) ∈ tables_1 := mem1 158 rfl
theorem w160 : (Jvm.Cond.methodLink "XorGaussSat" (201 : Nat) ({ cls := "XorGaussSat", name := "lowestUnassigned", desc := "()I" } : Jvm.MethodName)) ∈ tables_1 := mem1 160 rfl
theorem w161 : (Jvm.Cond.instanceMethod ({ cls := "XorGaussSat", name := "lowestUnassigned", desc := "()I" } : Jvm.MethodName)) ∈ tables_1 := mem1 161 rfl
theorem w162 : (Jvm.Cond.privateMethod ({ cls := "XorGaussSat", name := "lowestUnassigned", desc := "()I" } : Jvm.MethodName)) ∈ tables_1 := mem1 162 rfl
theorem w164 : (Jvm.Cond.methodLink "XorGaussSat" (174 : Nat) ({ cls := "XorGaussSat", name := "assign", desc := "(II)V" } : Jvm.MethodName)) ∈ tables_1 := mem1 164 rfl
theorem w165 : (Jvm.Cond.instanceMethod ({ cls := "XorGaussSat", name := "assign", desc := "(II)V" } : Jvm.MethodName)) ∈ tables_1 := mem1 165 rfl
theorem w166 : (Jvm.Cond.privateMethod ({ cls := "XorGaussSat", name := "assign", desc := "(II)V" } : Jvm.MethodName)) ∈ tables_1 := mem1 166 rfl
theorem w168 : (Jvm.Cond.methodLink "XorGaussSat" (189 : Nat) ({ cls := "XorGaussSat", name := "violations", desc := "(I)I" } : Jvm.MethodName)) ∈ tables_1 := mem1 168 rfl
theorem w169 : (Jvm.Cond.methodLink "XorGaussSatOwnLaw" (54 : Nat) ({ cls := "XorGaussSat", name := "modelBits", desc := "()I" } : Jvm.MethodName)) ∈ tables_1 := mem1 169 rfl
theorem w170 : (Jvm.Cond.declares ({ cls := "XorGaussSat", name := "modelBits", desc := "()I" } : Jvm.MethodName)) ∈ tables_1 := mem1 170 rfl
theorem w171 : (Jvm.Cond.instanceMethod ({ cls := "XorGaussSat", name := "modelBits", desc := "()I" } : Jvm.MethodName)) ∈ tables_1 := mem1 171 rfl
theorem w172 : (Jvm.Cond.selects "XorGaussSat" ({ cls := "XorGaussSat", name := "modelBits", desc := "()I" } : Jvm.MethodName) ({ cls := "XorGaussSat", name := "modelBits", desc := "()I" } : Jvm.MethodName)) ∈ tables_1 := mem1 172 rfl
theorem w174 : (Jvm.Cond.constant "XorGaussSatOwnLaw" (22 : Nat) (2147483647 : Int32)) ∈ tables_1 := mem1 174 rfl
theorem w175 : (Jvm.Cond.methodLink "XorGaussSatOwnLaw" (23 : Nat) ({ cls := "XorGaussSat", name := "addLiteral", desc := "(IZ)I" } : Jvm.MethodName)) ∈ tables_1 := mem1 175 rfl
theorem w176 : (Jvm.Cond.declares ({ cls := "XorGaussSat", name := "addLiteral", desc := "(IZ)I" } : Jvm.MethodName)) ∈ tables_1 := mem1 176 rfl
theorem w177 : (Jvm.Cond.instanceMethod ({ cls := "XorGaussSat", name := "addLiteral", desc := "(IZ)I" } : Jvm.MethodName)) ∈ tables_1 := mem1 177 rfl
theorem w178 : (Jvm.Cond.selects "XorGaussSat" ({ cls := "XorGaussSat", name := "addLiteral", desc := "(IZ)I" } : Jvm.MethodName) ({ cls := "XorGaussSat", name := "addLiteral", desc := "(IZ)I" } : Jvm.MethodName)) ∈ tables_1 := mem1 178 rfl
theorem w180 : (Jvm.Cond.methodLink "XorGaussSatOwnLaw" (34 : Nat) ({ cls := "XorGaussSat", name := "popConstraint", desc := "()I" } : Jvm.MethodName)) ∈ tables_1 := mem1 180 rfl
theorem w181 : (Jvm.Cond.declares ({ cls := "XorGaussSat", name := "popConstraint", desc := "()I" } : Jvm.MethodName)) ∈ tables_1 := mem1 181 rfl
theorem w182 : (Jvm.Cond.instanceMethod ({ cls := "XorGaussSat", name := "popConstraint", desc := "()I" } : Jvm.MethodName)) ∈ tables_1 := mem1 182 rfl
theorem w183 : (Jvm.Cond.selects "XorGaussSat" ({ cls := "XorGaussSat", name := "popConstraint", desc := "()I" } : Jvm.MethodName) ({ cls := "XorGaussSat", name := "popConstraint", desc := "()I" } : Jvm.MethodName)) ∈ tables_1 := mem1 183 rfl
theorem w185 : (Jvm.Cond.methodLink "XorGaussSatOwnLaw" (27 : Nat) ({ cls := "XorGaussSat", name := "commitClause", desc := "()I" } : Jvm.MethodName)) ∈ tables_1 := mem1 185 rfl
theorem w186 : (Jvm.Cond.declares ({ cls := "XorGaussSat", name := "commitClause", desc := "()I" } : Jvm.MethodName)) ∈ tables_1 := mem1 186 rfl
theorem w187 : (Jvm.Cond.instanceMethod ({ cls := "XorGaussSat", name := "commitClause", desc := "()I" } : Jvm.MethodName)) ∈ tables_1 := mem1 187 rfl
theorem w188 : (Jvm.Cond.selects "XorGaussSat" ({ cls := "XorGaussSat", name := "commitClause", desc := "()I" } : Jvm.MethodName) ({ cls := "XorGaussSat", name := "commitClause", desc := "()I" } : Jvm.MethodName)) ∈ tables_1 := mem1 188 rfl
theorem w190 : (Jvm.Cond.methodLink "XorGaussSat" (97 : Nat) ({ cls := "XorGaussSat", name := "pendingMask", desc := "(Z)I" } : Jvm.MethodName)) ∈ tables_1 := mem1 190 rfl
theorem w191 : (Jvm.Cond.instanceMethod ({ cls := "XorGaussSat", name := "pendingMask", desc := "(Z)I" } : Jvm.MethodName)) ∈ tables_1 := mem1 191 rfl
theorem w192 : (Jvm.Cond.privateMethod ({ cls := "XorGaussSat", name := "pendingMask", desc := "(Z)I" } : Jvm.MethodName)) ∈ tables_1 := mem1 192 rfl
theorem w194 : (Jvm.Cond.methodLink "XorGaussSat" (101 : Nat) ({ cls := "XorGaussSat", name := "pushOrder", desc := "(I)V" } : Jvm.MethodName)) ∈ tables_1 := mem1 194 rfl
theorem w195 : (Jvm.Cond.instanceMethod ({ cls := "XorGaussSat", name := "pushOrder", desc := "(I)V" } : Jvm.MethodName)) ∈ tables_1 := mem1 195 rfl
theorem w196 : (Jvm.Cond.privateMethod ({ cls := "XorGaussSat", name := "pushOrder", desc := "(I)V" } : Jvm.MethodName)) ∈ tables_1 := mem1 196 rfl
theorem w198 : (Jvm.Cond.methodLink "XorGaussSat" (119 : Nat) ({ cls := "XorGaussSat", name := "clauseHolds", desc := "(II)Z" } : Jvm.MethodName)) ∈ tables_1 := mem1 198 rfl
theorem w199 : (Jvm.Cond.instanceMethod ({ cls := "XorGaussSat", name := "clauseHolds", desc := "(II)Z" } : Jvm.MethodName)) ∈ tables_1 := mem1 199 rfl
theorem w200 : (Jvm.Cond.privateMethod ({ cls := "XorGaussSat", name := "clauseHolds", desc := "(II)Z" } : Jvm.MethodName)) ∈ tables_1 := mem1 200 rfl
theorem w202 : (Jvm.Cond.methodLink "XorGaussSat" (135 : Nat) ({ cls := "XorGaussSat", name := "countAffinePoints", desc := "(I)I" } : Jvm.MethodName)) ∈ tables_1 := mem1 202 rfl
theorem w203 : (Jvm.Cond.instanceMethod ({ cls := "XorGaussSat", name := "countAffinePoints", desc := "(I)I" } : Jvm.MethodName)) ∈ tables_1 := mem1 203 rfl
theorem w204 : (Jvm.Cond.privateMethod ({ cls := "XorGaussSat", name := "countAffinePoints", desc := "(I)I" } : Jvm.MethodName)) ∈ tables_1 := mem1 204 rfl
theorem w206 : (Jvm.Cond.methodLink "XorGaussSat" (164 : Nat) ({ cls := "XorGaussSat", name := "completeFromFree", desc := "(I)I" } : Jvm.MethodName)) ∈ tables_1 := mem1 206 rfl
theorem w207 : (Jvm.Cond.instanceMethod ({ cls := "XorGaussSat", name := "completeFromFree", desc := "(I)I" } : Jvm.MethodName)) ∈ tables_1 := mem1 207 rfl
theorem w208 : (Jvm.Cond.privateMethod ({ cls := "XorGaussSat", name := "completeFromFree", desc := "(I)I" } : Jvm.MethodName)) ∈ tables_1 := mem1 208 rfl
theorem w210 : (Jvm.Cond.methodLink "XorGaussSat" (167 : Nat) ({ cls := "XorGaussSat", name := "allClausesHold", desc := "(I)Z" } : Jvm.MethodName)) ∈ tables_1 := mem1 210 rfl
theorem w211 : (Jvm.Cond.instanceMethod ({ cls := "XorGaussSat", name := "allClausesHold", desc := "(I)Z" } : Jvm.MethodName)) ∈ tables_1 := mem1 211 rfl
theorem w212 : (Jvm.Cond.privateMethod ({ cls := "XorGaussSat", name := "allClausesHold", desc := "(I)Z" } : Jvm.MethodName)) ∈ tables_1 := mem1 212 rfl
theorem w214 : (Jvm.Cond.methodLink "XorGaussSat" (213 : Nat) ({ cls := "XorGaussSat", name := "propagateClause", desc := "(I)Z" } : Jvm.MethodName)) ∈ tables_1 := mem1 214 rfl
theorem w215 : (Jvm.Cond.instanceMethod ({ cls := "XorGaussSat", name := "propagateClause", desc := "(I)Z" } : Jvm.MethodName)) ∈ tables_1 := mem1 215 rfl
theorem w216 : (Jvm.Cond.privateMethod ({ cls := "XorGaussSat", name := "propagateClause", desc := "(I)Z" } : Jvm.MethodName)) ∈ tables_1 := mem1 216 rfl
theorem w218 : (Jvm.Cond.methodLink "XorGaussSat" (180 : Nat) ({ cls := "XorGaussSat", name := "backtrack", desc := "()Z" } : Jvm.MethodName)) ∈ tables_1 := mem1 218 rfl
theorem w219 : (Jvm.Cond.instanceMethod ({ cls := "XorGaussSat", name := "backtrack", desc := "()Z" } : Jvm.MethodName)) ∈ tables_1 := mem1 219 rfl
theorem w220 : (Jvm.Cond.privateMethod ({ cls := "XorGaussSat", name := "backtrack", desc := "()Z" } : Jvm.MethodName)) ∈ tables_1 := mem1 220 rfl
theorem w222 : (Jvm.Cond.methodLink "XorGaussSatOwnLaw" (30 : Nat) ({ cls := "XorGaussSat", name := "commitXor", desc := "(Z)I" } : Jvm.MethodName)) ∈ tables_1 := mem1 222 rfl
theorem w223 : (Jvm.Cond.declares ({ cls := "XorGaussSat", name := "commitXor", desc := "(Z)I" } : Jvm.MethodName)) ∈ tables_1 := mem1 223 rfl
theorem w224 : (Jvm.Cond.instanceMethod ({ cls := "XorGaussSat", name := "commitXor", desc := "(Z)I" } : Jvm.MethodName)) ∈ tables_1 := mem1 224 rfl
theorem w225 : (Jvm.Cond.selects "XorGaussSat" ({ cls := "XorGaussSat", name := "commitXor", desc := "(Z)I" } : Jvm.MethodName) ({ cls := "XorGaussSat", name := "commitXor", desc := "(Z)I" } : Jvm.MethodName)) ∈ tables_1 := mem1 225 rfl
theorem w227 : (Jvm.Cond.methodLink "XorGaussSat" (105 : Nat) ({ cls := "XorGaussSat", name := "pendingNegatedParity", desc := "()I" } : Jvm.MethodName)) ∈ tables_1 := mem1 227 rfl
theorem w228 : (Jvm.Cond.instanceMethod ({ cls := "XorGaussSat", name := "pendingNegatedParity", desc := "()I" } : Jvm.MethodName)) ∈ tables_1 := mem1 228 rfl
theorem w229 : (Jvm.Cond.privateMethod ({ cls := "XorGaussSat", name := "pendingNegatedParity", desc := "()I" } : Jvm.MethodName)) ∈ tables_1 := mem1 229 rfl
theorem w231 : (Jvm.Cond.methodLink "XorGaussSat" (109 : Nat) ({ cls := "XorGaussSat", name := "pendingXorMask", desc := "()I" } : Jvm.MethodName)) ∈ tables_1 := mem1 231 rfl
theorem w232 : (Jvm.Cond.instanceMethod ({ cls := "XorGaussSat", name := "pendingXorMask", desc := "()I" } : Jvm.MethodName)) ∈ tables_1 := mem1 232 rfl
theorem w233 : (Jvm.Cond.privateMethod ({ cls := "XorGaussSat", name := "pendingXorMask", desc := "()I" } : Jvm.MethodName)) ∈ tables_1 := mem1 233 rfl
theorem w235 : (Jvm.Cond.methodLink "XorGaussSat" (122 : Nat) ({ cls := "XorGaussSat", name := "xorHolds", desc := "(II)Z" } : Jvm.MethodName)) ∈ tables_1 := mem1 235 rfl
theorem w236 : (Jvm.Cond.instanceMethod ({ cls := "XorGaussSat", name := "xorHolds", desc := "(II)Z" } : Jvm.MethodName)) ∈ tables_1 := mem1 236 rfl
theorem w237 : (Jvm.Cond.privateMethod ({ cls := "XorGaussSat", name := "xorHolds", desc := "(II)Z" } : Jvm.MethodName)) ∈ tables_1 := mem1 237 rfl
theorem w239 : (Jvm.Cond.methodLink "XorGaussSat" (138 : Nat) ({ cls := "XorGaussSat", name := "parity", desc := "(I)I" } : Jvm.MethodName)) ∈ tables_1 := mem1 239 rfl
theorem w240 : (Jvm.Cond.instanceMethod ({ cls := "XorGaussSat", name := "parity", desc := "(I)I" } : Jvm.MethodName)) ∈ tables_1 := mem1 240 rfl
theorem w241 : (Jvm.Cond.privateMethod ({ cls := "XorGaussSat", name := "parity", desc := "(I)I" } : Jvm.MethodName)) ∈ tables_1 := mem1 241 rfl
theorem w243 : (Jvm.Cond.methodLink "XorGaussSatOwnLaw" (37 : Nat) ({ cls := "XorGaussSat", name := "clearPending", desc := "()V" } : Jvm.MethodName)) ∈ tables_1 := mem1 243 rfl
theorem w244 : (Jvm.Cond.declares ({ cls := "XorGaussSat", name := "clearPending", desc := "()V" } : Jvm.MethodName)) ∈ tables_1 := mem1 244 rfl
theorem w245 : (Jvm.Cond.instanceMethod ({ cls := "XorGaussSat", name := "clearPending", desc := "()V" } : Jvm.MethodName)) ∈ tables_1 := mem1 245 rfl
theorem w246 : (Jvm.Cond.selects "XorGaussSat" ({ cls := "XorGaussSat", name := "clearPending", desc := "()V" } : Jvm.MethodName) ({ cls := "XorGaussSat", name := "clearPending", desc := "()V" } : Jvm.MethodName)) ∈ tables_1 := mem1 246 rfl
theorem w248 : (Jvm.Cond.methodLink "XorGaussSat" (147 : Nat) ({ cls := "XorGaussSat", name := "swapRows", desc := "(II)V" } : Jvm.MethodName)) ∈ tables_1 := mem1 248 rfl
theorem w249 : (Jvm.Cond.instanceMethod ({ cls := "XorGaussSat", name := "swapRows", desc := "(II)V" } : Jvm.MethodName)) ∈ tables_1 := mem1 249 rfl
theorem w250 : (Jvm.Cond.privateMethod ({ cls := "XorGaussSat", name := "swapRows", desc := "(II)V" } : Jvm.MethodName)) ∈ tables_1 := mem1 250 rfl
theorem w252 : (Jvm.Cond.methodLink "XorGaussSat" (151 : Nat) ({ cls := "XorGaussSat", name := "clearColumn", desc := "(II)V" } : Jvm.MethodName)) ∈ tables_1 := mem1 252 rfl
theorem w253 : (Jvm.Cond.instanceMethod ({ cls := "XorGaussSat", name := "clearColumn", desc := "(II)V" } : Jvm.MethodName)) ∈ tables_1 := mem1 253 rfl
theorem w254 : (Jvm.Cond.privateMethod ({ cls := "XorGaussSat", name := "clearColumn", desc := "(II)V" } : Jvm.MethodName)) ∈ tables_1 := mem1 254 rfl
theorem w256 : (Jvm.Cond.methodLink "XorGaussSat" (216 : Nat) ({ cls := "XorGaussSat", name := "isSingleBit", desc := "(I)Z" } : Jvm.MethodName)) ∈ tables_1 := mem1 256 rfl
theorem w257 : (Jvm.Cond.instanceMethod ({ cls := "XorGaussSat", name := "isSingleBit", desc := "(I)Z" } : Jvm.MethodName)) ∈ tables_1 := mem1 257 rfl
theorem w258 : (Jvm.Cond.privateMethod ({ cls := "XorGaussSat", name := "isSingleBit", desc := "(I)Z" } : Jvm.MethodName)) ∈ tables_1 := mem1 258 rfl
theorem w260 : (Jvm.Cond.methodLink "XorGaussSat" (219 : Nat) ({ cls := "XorGaussSat", name := "lowestBit", desc := "(I)I" } : Jvm.MethodName)) ∈ tables_1 := mem1 260 rfl
theorem w261 : (Jvm.Cond.instanceMethod ({ cls := "XorGaussSat", name := "lowestBit", desc := "(I)I" } : Jvm.MethodName)) ∈ tables_1 := mem1 261 rfl
theorem w262 : (Jvm.Cond.privateMethod ({ cls := "XorGaussSat", name := "lowestBit", desc := "(I)I" } : Jvm.MethodName)) ∈ tables_1 := mem1 262 rfl
theorem w264 : (Jvm.Cond.methodLink "XorGaussSat" (204 : Nat) ({ cls := "XorGaussSat", name := "undoTo", desc := "(I)V" } : Jvm.MethodName)) ∈ tables_1 := mem1 264 rfl
theorem w265 : (Jvm.Cond.instanceMethod ({ cls := "XorGaussSat", name := "undoTo", desc := "(I)V" } : Jvm.MethodName)) ∈ tables_1 := mem1 265 rfl
theorem w266 : (Jvm.Cond.privateMethod ({ cls := "XorGaussSat", name := "undoTo", desc := "(I)V" } : Jvm.MethodName)) ∈ tables_1 := mem1 266 rfl
theorem fS_0 : K.2.1[0]? = some ("n", "I") := rfl
theorem fS_1 : K.2.1[1]? = some ("fullMask", "I") := rfl
theorem fS_2 : K.2.1[2]? = some ("status", "I") := rfl
theorem fS_3 : K.2.1[3]? = some ("model", "I") := rfl
theorem fS_4 : K.2.1[4]? = some ("pendLen", "I") := rfl
theorem fS_5 : K.2.1[5]? = some ("clauseCnt", "I") := rfl
theorem fS_6 : K.2.1[6]? = some ("xorCnt", "I") := rfl
theorem fS_7 : K.2.1[7]? = some ("orderLen", "I") := rfl
theorem fS_8 : K.2.1[8]? = some ("echRank", "I") := rfl
theorem fS_9 : K.2.1[9]? = some ("echConsistent", "Z") := rfl
theorem fS_10 : K.2.1[10]? = some ("echValid", "Z") := rfl
theorem fS_11 : K.2.1[11]? = some ("gRows", "I") := rfl
theorem fS_12 : K.2.1[12]? = some ("gRank", "I") := rfl
theorem fS_13 : K.2.1[13]? = some ("asgMask", "I") := rfl
theorem fS_14 : K.2.1[14]? = some ("asgVals", "I") := rfl
theorem fS_15 : K.2.1[15]? = some ("trailLen", "I") := rfl
theorem fS_16 : K.2.1[16]? = some ("lvlCnt", "I") := rfl
theorem fS_17 : K.2.1[17]? = some ("found", "I") := rfl
theorem fA_0 : K.2.2[0]? = some ("pendVar", .int, (8 : Int32)) := rfl
theorem fA_1 : K.2.2[1]? = some ("pendNeg", .boolean, (8 : Int32)) := rfl
theorem fA_2 : K.2.2[2]? = some ("clausePos", .int, (24 : Int32)) := rfl
theorem fA_3 : K.2.2[3]? = some ("clauseNeg", .int, (24 : Int32)) := rfl
theorem fA_4 : K.2.2[4]? = some ("xorMask", .int, (16 : Int32)) := rfl
theorem fA_5 : K.2.2[5]? = some ("xorRhs", .int, (16 : Int32)) := rfl
theorem fA_6 : K.2.2[6]? = some ("order", .int, (40 : Int32)) := rfl
theorem fA_7 : K.2.2[7]? = some ("echMask", .int, (16 : Int32)) := rfl
theorem fA_8 : K.2.2[8]? = some ("echRhs", .int, (16 : Int32)) := rfl
theorem fA_9 : K.2.2[9]? = some ("echPivot", .int, (16 : Int32)) := rfl
theorem fA_10 : K.2.2[10]? = some ("gMask", .int, (16 : Int32)) := rfl
theorem fA_11 : K.2.2[11]? = some ("gRhs", .int, (16 : Int32)) := rfl
theorem fA_12 : K.2.2[12]? = some ("gPivot", .int, (16 : Int32)) := rfl
theorem fA_13 : K.2.2[13]? = some ("trail", .int, (12 : Int32)) := rfl
theorem fA_14 : K.2.2[14]? = some ("lvlVar", .int, (13 : Int32)) := rfl
theorem fA_15 : K.2.2[15]? = some ("lvlStart", .int, (13 : Int32)) := rfl
theorem fA_16 : K.2.2[16]? = some ("lvlFlipped", .boolean, (13 : Int32)) := rfl
theorem cb_m3 : (Int8.ofInt (-3)).toInt32 = (-3 : Int32) := by decide
theorem cb_m2 : (Int8.ofInt (-2)).toInt32 = (-2 : Int32) := by decide
theorem cb_7 : (Int8.ofInt 7).toInt32 = (7 : Int32) := by decide
theorem cb_8 : (Int8.ofInt 8).toInt32 = (8 : Int32) := by decide
theorem cb_10 : (Int8.ofInt 10).toInt32 = (10 : Int32) := by decide
theorem cb_12 : (Int8.ofInt 12).toInt32 = (12 : Int32) := by decide
theorem cb_13 : (Int8.ofInt 13).toInt32 = (13 : Int32) := by decide
theorem cb_14 : (Int8.ofInt 14).toInt32 = (14 : Int32) := by decide
theorem cb_16 : (Int8.ofInt 16).toInt32 = (16 : Int32) := by decide
theorem cb_24 : (Int8.ofInt 24).toInt32 = (24 : Int32) := by decide
theorem cb_32 : (Int8.ofInt 32).toInt32 = (32 : Int32) := by decide
theorem cb_40 : (Int8.ofInt 40).toInt32 = (40 : Int32) := by decide
theorem ci_m1 : Int32.ofInt (-1) = (-1 : Int32) := by decide
theorem ci_0 : Int32.ofInt 0 = (0 : Int32) := by decide
theorem ci_1 : Int32.ofInt 1 = (1 : Int32) := by decide
theorem ci_2 : Int32.ofInt 2 = (2 : Int32) := by decide
theorem ci_4 : Int32.ofInt 4 = (4 : Int32) := by decide
theorem ci_5 : Int32.ofInt 5 = (5 : Int32) := by decide
theorem cs_256 : (Int16.ofInt 256).toInt32 = (256 : Int32) := by decide
theorem cs_300 : (Int16.ofInt 300).toInt32 = (300 : Int32) := by decide
theorem cs_4097 : (Int16.ofInt 4097).toInt32 = (4097 : Int32) := by decide
theorem cs_16384 : (Int16.ofInt 16384).toInt32 = (16384 : Int32) := by decide
def B1 : Bdy := ((⟨"XorGaussSatOwnLaw", "cell", "([II)I"⟩ : MethodName), method_2_code, 2, (some .int), ({ frames := 0, cells := 0, slots := 0, locals := 0 } : Room))
theorem d1_0 : DAt B1 0 (.iload_n 1) 1 1 := ⟨by decide +kernel, rfl⟩
theorem d1_1 : DAt B1 1 (.aload_n 0) 1 2 := ⟨by decide +kernel, rfl⟩
theorem d1_2 : DAt B1 2 (.arraylength) 1 3 := ⟨by decide +kernel, rfl⟩
theorem d1_3 : DAt B1 3 (.if_icmp .ge 9) 3 6 := ⟨by decide +kernel, rfl⟩
theorem d1_6 : DAt B1 6 (.aload_n 0) 1 7 := ⟨by decide +kernel, rfl⟩
theorem d1_7 : DAt B1 7 (.iload_n 1) 1 8 := ⟨by decide +kernel, rfl⟩
theorem d1_8 : DAt B1 8 (.iaload) 1 9 := ⟨by decide +kernel, rfl⟩
theorem d1_9 : DAt B1 9 (.goto 4) 3 12 := ⟨by decide +kernel, rfl⟩
theorem d1_12 : DAt B1 12 (.iconst 0) 1 13 := ⟨by decide +kernel, rfl⟩
theorem d1_13 : DAt B1 13 (.ireturn) 1 14 := ⟨by decide +kernel, rfl⟩
def B2 : Bdy := ((⟨"XorGaussSat", "<init>", "(I)V"⟩ : MethodName), prog_1_method_1_code, 3, none, ({ frames := 1, cells := 17, slots := 283, locals := 12 } : Room))
theorem d2_0 : DAt B2 0 (.aload_n 0) 1 1 := ⟨by decide +kernel, rfl⟩
theorem d2_1 : DAt B2 1 (.invokespecial 1) 3 4 := ⟨by decide +kernel, rfl⟩
theorem d2_4 : DAt B2 4 (.aload_n 0) 1 5 := ⟨by decide +kernel, rfl⟩
theorem d2_5 : DAt B2 5 (.bipush 8) 2 7 := ⟨by decide +kernel, rfl⟩
theorem d2_7 : DAt B2 7 (.newarray .int) 2 9 := ⟨by decide +kernel, rfl⟩
theorem d2_9 : DAt B2 9 (.putfield 7) 3 12 := ⟨by decide +kernel, rfl⟩
theorem d2_12 : DAt B2 12 (.aload_n 0) 1 13 := ⟨by decide +kernel, rfl⟩
theorem d2_13 : DAt B2 13 (.bipush 8) 2 15 := ⟨by decide +kernel, rfl⟩
theorem d2_15 : DAt B2 15 (.newarray .boolean) 2 17 := ⟨by decide +kernel, rfl⟩
theorem d2_17 : DAt B2 17 (.putfield 13) 3 20 := ⟨by decide +kernel, rfl⟩
theorem d2_20 : DAt B2 20 (.aload_n 0) 1 21 := ⟨by decide +kernel, rfl⟩
theorem d2_21 : DAt B2 21 (.bipush 24) 2 23 := ⟨by decide +kernel, rfl⟩
theorem d2_23 : DAt B2 23 (.newarray .int) 2 25 := ⟨by decide +kernel, rfl⟩
theorem d2_25 : DAt B2 25 (.putfield 17) 3 28 := ⟨by decide +kernel, rfl⟩
theorem d2_28 : DAt B2 28 (.aload_n 0) 1 29 := ⟨by decide +kernel, rfl⟩
theorem d2_29 : DAt B2 29 (.bipush 24) 2 31 := ⟨by decide +kernel, rfl⟩
theorem d2_31 : DAt B2 31 (.newarray .int) 2 33 := ⟨by decide +kernel, rfl⟩
theorem d2_33 : DAt B2 33 (.putfield 20) 3 36 := ⟨by decide +kernel, rfl⟩
theorem d2_36 : DAt B2 36 (.aload_n 0) 1 37 := ⟨by decide +kernel, rfl⟩
theorem d2_37 : DAt B2 37 (.bipush 16) 2 39 := ⟨by decide +kernel, rfl⟩
theorem d2_39 : DAt B2 39 (.newarray .int) 2 41 := ⟨by decide +kernel, rfl⟩
theorem d2_41 : DAt B2 41 (.putfield 23) 3 44 := ⟨by decide +kernel, rfl⟩
theorem d2_44 : DAt B2 44 (.aload_n 0) 1 45 := ⟨by decide +kernel, rfl⟩
theorem d2_45 : DAt B2 45 (.bipush 16) 2 47 := ⟨by decide +kernel, rfl⟩
theorem d2_47 : DAt B2 47 (.newarray .int) 2 49 := ⟨by decide +kernel, rfl⟩
theorem d2_49 : DAt B2 49 (.putfield 26) 3 52 := ⟨by decide +kernel, rfl⟩
theorem d2_52 : DAt B2 52 (.aload_n 0) 1 53 := ⟨by decide +kernel, rfl⟩
theorem d2_53 : DAt B2 53 (.bipush 40) 2 55 := ⟨by decide +kernel, rfl⟩
theorem d2_55 : DAt B2 55 (.newarray .int) 2 57 := ⟨by decide +kernel, rfl⟩
theorem d2_57 : DAt B2 57 (.putfield 29) 3 60 := ⟨by decide +kernel, rfl⟩
theorem d2_60 : DAt B2 60 (.aload_n 0) 1 61 := ⟨by decide +kernel, rfl⟩
theorem d2_61 : DAt B2 61 (.bipush 16) 2 63 := ⟨by decide +kernel, rfl⟩
theorem d2_63 : DAt B2 63 (.newarray .int) 2 65 := ⟨by decide +kernel, rfl⟩
theorem d2_65 : DAt B2 65 (.putfield 32) 3 68 := ⟨by decide +kernel, rfl⟩
theorem d2_68 : DAt B2 68 (.aload_n 0) 1 69 := ⟨by decide +kernel, rfl⟩
theorem d2_69 : DAt B2 69 (.bipush 16) 2 71 := ⟨by decide +kernel, rfl⟩
theorem d2_71 : DAt B2 71 (.newarray .int) 2 73 := ⟨by decide +kernel, rfl⟩
theorem d2_73 : DAt B2 73 (.putfield 35) 3 76 := ⟨by decide +kernel, rfl⟩
theorem d2_76 : DAt B2 76 (.aload_n 0) 1 77 := ⟨by decide +kernel, rfl⟩
theorem d2_77 : DAt B2 77 (.bipush 16) 2 79 := ⟨by decide +kernel, rfl⟩
theorem d2_79 : DAt B2 79 (.newarray .int) 2 81 := ⟨by decide +kernel, rfl⟩
theorem d2_81 : DAt B2 81 (.putfield 38) 3 84 := ⟨by decide +kernel, rfl⟩
theorem d2_84 : DAt B2 84 (.aload_n 0) 1 85 := ⟨by decide +kernel, rfl⟩
theorem d2_85 : DAt B2 85 (.bipush 16) 2 87 := ⟨by decide +kernel, rfl⟩
theorem d2_87 : DAt B2 87 (.newarray .int) 2 89 := ⟨by decide +kernel, rfl⟩
theorem d2_89 : DAt B2 89 (.putfield 41) 3 92 := ⟨by decide +kernel, rfl⟩
theorem d2_92 : DAt B2 92 (.aload_n 0) 1 93 := ⟨by decide +kernel, rfl⟩
theorem d2_93 : DAt B2 93 (.bipush 16) 2 95 := ⟨by decide +kernel, rfl⟩
theorem d2_95 : DAt B2 95 (.newarray .int) 2 97 := ⟨by decide +kernel, rfl⟩
theorem d2_97 : DAt B2 97 (.putfield 44) 3 100 := ⟨by decide +kernel, rfl⟩
theorem d2_100 : DAt B2 100 (.aload_n 0) 1 101 := ⟨by decide +kernel, rfl⟩
theorem d2_101 : DAt B2 101 (.bipush 16) 2 103 := ⟨by decide +kernel, rfl⟩
theorem d2_103 : DAt B2 103 (.newarray .int) 2 105 := ⟨by decide +kernel, rfl⟩
theorem d2_105 : DAt B2 105 (.putfield 47) 3 108 := ⟨by decide +kernel, rfl⟩
theorem d2_108 : DAt B2 108 (.aload_n 0) 1 109 := ⟨by decide +kernel, rfl⟩
theorem d2_109 : DAt B2 109 (.bipush 12) 2 111 := ⟨by decide +kernel, rfl⟩
theorem d2_111 : DAt B2 111 (.newarray .int) 2 113 := ⟨by decide +kernel, rfl⟩
theorem d2_113 : DAt B2 113 (.putfield 50) 3 116 := ⟨by decide +kernel, rfl⟩
theorem d2_116 : DAt B2 116 (.aload_n 0) 1 117 := ⟨by decide +kernel, rfl⟩
theorem d2_117 : DAt B2 117 (.bipush 13) 2 119 := ⟨by decide +kernel, rfl⟩
theorem d2_119 : DAt B2 119 (.newarray .int) 2 121 := ⟨by decide +kernel, rfl⟩
theorem d2_121 : DAt B2 121 (.putfield 53) 3 124 := ⟨by decide +kernel, rfl⟩
theorem d2_124 : DAt B2 124 (.aload_n 0) 1 125 := ⟨by decide +kernel, rfl⟩
theorem d2_125 : DAt B2 125 (.bipush 13) 2 127 := ⟨by decide +kernel, rfl⟩
theorem d2_127 : DAt B2 127 (.newarray .int) 2 129 := ⟨by decide +kernel, rfl⟩
theorem d2_129 : DAt B2 129 (.putfield 56) 3 132 := ⟨by decide +kernel, rfl⟩
theorem d2_132 : DAt B2 132 (.aload_n 0) 1 133 := ⟨by decide +kernel, rfl⟩
theorem d2_133 : DAt B2 133 (.bipush 13) 2 135 := ⟨by decide +kernel, rfl⟩
theorem d2_135 : DAt B2 135 (.newarray .boolean) 2 137 := ⟨by decide +kernel, rfl⟩
theorem d2_137 : DAt B2 137 (.putfield 59) 3 140 := ⟨by decide +kernel, rfl⟩
theorem d2_140 : DAt B2 140 (.iload_n 1) 1 141 := ⟨by decide +kernel, rfl⟩
theorem d2_141 : DAt B2 141 (.istore_n 2) 1 142 := ⟨by decide +kernel, rfl⟩
theorem d2_142 : DAt B2 142 (.iload_n 2) 1 143 := ⟨by decide +kernel, rfl⟩
theorem d2_143 : DAt B2 143 (.iconst 1) 1 144 := ⟨by decide +kernel, rfl⟩
theorem d2_144 : DAt B2 144 (.if_icmp .ge 5) 3 147 := ⟨by decide +kernel, rfl⟩
theorem d2_147 : DAt B2 147 (.iconst 1) 1 148 := ⟨by decide +kernel, rfl⟩
theorem d2_148 : DAt B2 148 (.istore_n 2) 1 149 := ⟨by decide +kernel, rfl⟩
theorem d2_149 : DAt B2 149 (.iload_n 2) 1 150 := ⟨by decide +kernel, rfl⟩
theorem d2_150 : DAt B2 150 (.bipush 12) 2 152 := ⟨by decide +kernel, rfl⟩
theorem d2_152 : DAt B2 152 (.if_icmp .le 6) 3 155 := ⟨by decide +kernel, rfl⟩
theorem d2_155 : DAt B2 155 (.bipush 12) 2 157 := ⟨by decide +kernel, rfl⟩
theorem d2_157 : DAt B2 157 (.istore_n 2) 1 158 := ⟨by decide +kernel, rfl⟩
theorem d2_158 : DAt B2 158 (.aload_n 0) 1 159 := ⟨by decide +kernel, rfl⟩
theorem d2_159 : DAt B2 159 (.iload_n 2) 1 160 := ⟨by decide +kernel, rfl⟩
theorem d2_160 : DAt B2 160 (.putfield 62) 3 163 := ⟨by decide +kernel, rfl⟩
theorem d2_163 : DAt B2 163 (.aload_n 0) 1 164 := ⟨by decide +kernel, rfl⟩
theorem d2_164 : DAt B2 164 (.iconst 1) 1 165 := ⟨by decide +kernel, rfl⟩
theorem d2_165 : DAt B2 165 (.iload_n 2) 1 166 := ⟨by decide +kernel, rfl⟩
theorem d2_166 : DAt B2 166 (.ishl) 1 167 := ⟨by decide +kernel, rfl⟩
theorem d2_167 : DAt B2 167 (.iconst 1) 1 168 := ⟨by decide +kernel, rfl⟩
theorem d2_168 : DAt B2 168 (.isub) 1 169 := ⟨by decide +kernel, rfl⟩
theorem d2_169 : DAt B2 169 (.putfield 66) 3 172 := ⟨by decide +kernel, rfl⟩
theorem d2_172 : DAt B2 172 (.aload_n 0) 1 173 := ⟨by decide +kernel, rfl⟩
theorem d2_173 : DAt B2 173 (.iconst 2) 1 174 := ⟨by decide +kernel, rfl⟩
theorem d2_174 : DAt B2 174 (.putfield 69) 3 177 := ⟨by decide +kernel, rfl⟩
theorem d2_177 : DAt B2 177 (.aload_n 0) 1 178 := ⟨by decide +kernel, rfl⟩
theorem d2_178 : DAt B2 178 (.iconst 0) 1 179 := ⟨by decide +kernel, rfl⟩
theorem d2_179 : DAt B2 179 (.putfield 72) 3 182 := ⟨by decide +kernel, rfl⟩
theorem d2_182 : DAt B2 182 (.aload_n 0) 1 183 := ⟨by decide +kernel, rfl⟩
theorem d2_183 : DAt B2 183 (.iconst 0) 1 184 := ⟨by decide +kernel, rfl⟩
theorem d2_184 : DAt B2 184 (.putfield 75) 3 187 := ⟨by decide +kernel, rfl⟩
theorem d2_187 : DAt B2 187 (.aload_n 0) 1 188 := ⟨by decide +kernel, rfl⟩
theorem d2_188 : DAt B2 188 (.iconst 0) 1 189 := ⟨by decide +kernel, rfl⟩
theorem d2_189 : DAt B2 189 (.putfield 78) 3 192 := ⟨by decide +kernel, rfl⟩
theorem d2_192 : DAt B2 192 (.aload_n 0) 1 193 := ⟨by decide +kernel, rfl⟩
theorem d2_193 : DAt B2 193 (.iconst 0) 1 194 := ⟨by decide +kernel, rfl⟩
theorem d2_194 : DAt B2 194 (.putfield 81) 3 197 := ⟨by decide +kernel, rfl⟩
theorem d2_197 : DAt B2 197 (.aload_n 0) 1 198 := ⟨by decide +kernel, rfl⟩
theorem d2_198 : DAt B2 198 (.iconst 0) 1 199 := ⟨by decide +kernel, rfl⟩
theorem d2_199 : DAt B2 199 (.putfield 84) 3 202 := ⟨by decide +kernel, rfl⟩
theorem d2_202 : DAt B2 202 (.aload_n 0) 1 203 := ⟨by decide +kernel, rfl⟩
theorem d2_203 : DAt B2 203 (.iconst 0) 1 204 := ⟨by decide +kernel, rfl⟩
theorem d2_204 : DAt B2 204 (.putfield 87) 3 207 := ⟨by decide +kernel, rfl⟩
theorem d2_207 : DAt B2 207 (.aload_n 0) 1 208 := ⟨by decide +kernel, rfl⟩
theorem d2_208 : DAt B2 208 (.iconst 1) 1 209 := ⟨by decide +kernel, rfl⟩
theorem d2_209 : DAt B2 209 (.putfield 91) 3 212 := ⟨by decide +kernel, rfl⟩
theorem d2_212 : DAt B2 212 (.aload_n 0) 1 213 := ⟨by decide +kernel, rfl⟩
theorem d2_213 : DAt B2 213 (.iconst 0) 1 214 := ⟨by decide +kernel, rfl⟩
theorem d2_214 : DAt B2 214 (.putfield 94) 3 217 := ⟨by decide +kernel, rfl⟩
theorem d2_217 : DAt B2 217 (.return_) 1 218 := ⟨by decide +kernel, rfl⟩
def B3 : Bdy := ((⟨"XorGaussSat", "variables", "()I"⟩ : MethodName), prog_1_method_2_code, 1, (some .int), ({ frames := 0, cells := 0, slots := 0, locals := 0 } : Room))
theorem d3_0 : DAt B3 0 (.aload_n 0) 1 1 := ⟨by decide +kernel, rfl⟩
theorem d3_1 : DAt B3 1 (.getfield 62) 3 4 := ⟨by decide +kernel, rfl⟩
theorem d3_4 : DAt B3 4 (.ireturn) 1 5 := ⟨by decide +kernel, rfl⟩
def B24 : Bdy := ((⟨"XorGaussSat", "addLiteral", "(IZ)I"⟩ : MethodName), prog_1_method_3_code, 3, (some .int), ({ frames := 0, cells := 0, slots := 0, locals := 0 } : Room))
theorem d24_0 : DAt B24 0 (.iload_n 1) 1 1 := ⟨by decide +kernel, rfl⟩
theorem d24_1 : DAt B24 1 (.ifCond .lt 11) 3 4 := ⟨by decide +kernel, rfl⟩
theorem d24_4 : DAt B24 4 (.iload_n 1) 1 5 := ⟨by decide +kernel, rfl⟩
theorem d24_5 : DAt B24 5 (.aload_n 0) 1 6 := ⟨by decide +kernel, rfl⟩
theorem d24_6 : DAt B24 6 (.getfield 62) 3 9 := ⟨by decide +kernel, rfl⟩
theorem d24_9 : DAt B24 9 (.if_icmp .lt 5) 3 12 := ⟨by decide +kernel, rfl⟩
theorem d24_12 : DAt B24 12 (.iconst (-1)) 1 13 := ⟨by decide +kernel, rfl⟩
theorem d24_13 : DAt B24 13 (.ireturn) 1 14 := ⟨by decide +kernel, rfl⟩
theorem d24_14 : DAt B24 14 (.aload_n 0) 1 15 := ⟨by decide +kernel, rfl⟩
theorem d24_15 : DAt B24 15 (.getfield 75) 3 18 := ⟨by decide +kernel, rfl⟩
theorem d24_18 : DAt B24 18 (.bipush 8) 2 20 := ⟨by decide +kernel, rfl⟩
theorem d24_20 : DAt B24 20 (.if_icmp .lt 6) 3 23 := ⟨by decide +kernel, rfl⟩
theorem d24_23 : DAt B24 23 (.bipush (-2)) 2 25 := ⟨by decide +kernel, rfl⟩
theorem d24_25 : DAt B24 25 (.ireturn) 1 26 := ⟨by decide +kernel, rfl⟩
theorem d24_26 : DAt B24 26 (.aload_n 0) 1 27 := ⟨by decide +kernel, rfl⟩
theorem d24_27 : DAt B24 27 (.getfield 7) 3 30 := ⟨by decide +kernel, rfl⟩
theorem d24_30 : DAt B24 30 (.aload_n 0) 1 31 := ⟨by decide +kernel, rfl⟩
theorem d24_31 : DAt B24 31 (.getfield 75) 3 34 := ⟨by decide +kernel, rfl⟩
theorem d24_34 : DAt B24 34 (.iload_n 1) 1 35 := ⟨by decide +kernel, rfl⟩
theorem d24_35 : DAt B24 35 (.iastore) 1 36 := ⟨by decide +kernel, rfl⟩
theorem d24_36 : DAt B24 36 (.aload_n 0) 1 37 := ⟨by decide +kernel, rfl⟩
theorem d24_37 : DAt B24 37 (.getfield 13) 3 40 := ⟨by decide +kernel, rfl⟩
theorem d24_40 : DAt B24 40 (.aload_n 0) 1 41 := ⟨by decide +kernel, rfl⟩
theorem d24_41 : DAt B24 41 (.getfield 75) 3 44 := ⟨by decide +kernel, rfl⟩
theorem d24_44 : DAt B24 44 (.iload_n 2) 1 45 := ⟨by decide +kernel, rfl⟩
theorem d24_45 : DAt B24 45 (.bastore) 1 46 := ⟨by decide +kernel, rfl⟩
theorem d24_46 : DAt B24 46 (.aload_n 0) 1 47 := ⟨by decide +kernel, rfl⟩
theorem d24_47 : DAt B24 47 (.dup) 1 48 := ⟨by decide +kernel, rfl⟩
theorem d24_48 : DAt B24 48 (.getfield 75) 3 51 := ⟨by decide +kernel, rfl⟩
theorem d24_51 : DAt B24 51 (.iconst 1) 1 52 := ⟨by decide +kernel, rfl⟩
theorem d24_52 : DAt B24 52 (.iadd) 1 53 := ⟨by decide +kernel, rfl⟩
theorem d24_53 : DAt B24 53 (.putfield 75) 3 56 := ⟨by decide +kernel, rfl⟩
theorem d24_56 : DAt B24 56 (.aload_n 0) 1 57 := ⟨by decide +kernel, rfl⟩
theorem d24_57 : DAt B24 57 (.getfield 75) 3 60 := ⟨by decide +kernel, rfl⟩
theorem d24_60 : DAt B24 60 (.ireturn) 1 61 := ⟨by decide +kernel, rfl⟩
def B27 : Bdy := ((⟨"XorGaussSat", "pendingMask", "(Z)I"⟩ : MethodName), prog_1_method_18_code, 4, (some .int), ({ frames := 0, cells := 0, slots := 0, locals := 0 } : Room))
theorem d27_0 : DAt B27 0 (.iconst 0) 1 1 := ⟨by decide +kernel, rfl⟩
theorem d27_1 : DAt B27 1 (.istore_n 2) 1 2 := ⟨by decide +kernel, rfl⟩
theorem d27_2 : DAt B27 2 (.iconst 0) 1 3 := ⟨by decide +kernel, rfl⟩
theorem d27_3 : DAt B27 3 (.istore_n 3) 1 4 := ⟨by decide +kernel, rfl⟩
theorem d27_4 : DAt B27 4 (.iload_n 3) 1 5 := ⟨by decide +kernel, rfl⟩
theorem d27_5 : DAt B27 5 (.aload_n 0) 1 6 := ⟨by decide +kernel, rfl⟩
theorem d27_6 : DAt B27 6 (.getfield 75) 3 9 := ⟨by decide +kernel, rfl⟩
theorem d27_9 : DAt B27 9 (.if_icmp .ge 36) 3 12 := ⟨by decide +kernel, rfl⟩
theorem d27_12 : DAt B27 12 (.iload_n 3) 1 13 := ⟨by decide +kernel, rfl⟩
theorem d27_13 : DAt B27 13 (.bipush 8) 2 15 := ⟨by decide +kernel, rfl⟩
theorem d27_15 : DAt B27 15 (.if_icmp .ge 30) 3 18 := ⟨by decide +kernel, rfl⟩
theorem d27_18 : DAt B27 18 (.aload_n 0) 1 19 := ⟨by decide +kernel, rfl⟩
theorem d27_19 : DAt B27 19 (.getfield 13) 3 22 := ⟨by decide +kernel, rfl⟩
theorem d27_22 : DAt B27 22 (.iload_n 3) 1 23 := ⟨by decide +kernel, rfl⟩
theorem d27_23 : DAt B27 23 (.baload) 1 24 := ⟨by decide +kernel, rfl⟩
theorem d27_24 : DAt B27 24 (.iload_n 1) 1 25 := ⟨by decide +kernel, rfl⟩
theorem d27_25 : DAt B27 25 (.if_icmp .ne 14) 3 28 := ⟨by decide +kernel, rfl⟩
theorem d27_28 : DAt B27 28 (.iload_n 2) 1 29 := ⟨by decide +kernel, rfl⟩
theorem d27_29 : DAt B27 29 (.iconst 1) 1 30 := ⟨by decide +kernel, rfl⟩
theorem d27_30 : DAt B27 30 (.aload_n 0) 1 31 := ⟨by decide +kernel, rfl⟩
theorem d27_31 : DAt B27 31 (.getfield 7) 3 34 := ⟨by decide +kernel, rfl⟩
theorem d27_34 : DAt B27 34 (.iload_n 3) 1 35 := ⟨by decide +kernel, rfl⟩
theorem d27_35 : DAt B27 35 (.iaload) 1 36 := ⟨by decide +kernel, rfl⟩
theorem d27_36 : DAt B27 36 (.ishl) 1 37 := ⟨by decide +kernel, rfl⟩
theorem d27_37 : DAt B27 37 (.ior) 1 38 := ⟨by decide +kernel, rfl⟩
theorem d27_38 : DAt B27 38 (.istore_n 2) 1 39 := ⟨by decide +kernel, rfl⟩
theorem d27_39 : DAt B27 39 (.iinc 3 1) 3 42 := ⟨by decide +kernel, rfl⟩
theorem d27_42 : DAt B27 42 (.goto (-38)) 3 45 := ⟨by decide +kernel, rfl⟩
theorem d27_45 : DAt B27 45 (.iload_n 2) 1 46 := ⟨by decide +kernel, rfl⟩
theorem d27_46 : DAt B27 46 (.aload_n 0) 1 47 := ⟨by decide +kernel, rfl⟩
theorem d27_47 : DAt B27 47 (.getfield 66) 3 50 := ⟨by decide +kernel, rfl⟩
theorem d27_50 : DAt B27 50 (.iand) 1 51 := ⟨by decide +kernel, rfl⟩
theorem d27_51 : DAt B27 51 (.ireturn) 1 52 := ⟨by decide +kernel, rfl⟩
def B28 : Bdy := ((⟨"XorGaussSat", "pushOrder", "(I)V"⟩ : MethodName), prog_1_method_21_code, 2, none, ({ frames := 0, cells := 0, slots := 0, locals := 0 } : Room))
theorem d28_0 : DAt B28 0 (.aload_n 0) 1 1 := ⟨by decide +kernel, rfl⟩
theorem d28_1 : DAt B28 1 (.getfield 84) 3 4 := ⟨by decide +kernel, rfl⟩
theorem d28_4 : DAt B28 4 (.ifCond .lt 12) 3 7 := ⟨by decide +kernel, rfl⟩
theorem d28_7 : DAt B28 7 (.aload_n 0) 1 8 := ⟨by decide +kernel, rfl⟩
theorem d28_8 : DAt B28 8 (.getfield 84) 3 11 := ⟨by decide +kernel, rfl⟩
theorem d28_11 : DAt B28 11 (.bipush 40) 2 13 := ⟨by decide +kernel, rfl⟩
theorem d28_13 : DAt B28 13 (.if_icmp .lt 4) 3 16 := ⟨by decide +kernel, rfl⟩
theorem d28_16 : DAt B28 16 (.return_) 1 17 := ⟨by decide +kernel, rfl⟩
theorem d28_17 : DAt B28 17 (.aload_n 0) 1 18 := ⟨by decide +kernel, rfl⟩
theorem d28_18 : DAt B28 18 (.getfield 29) 3 21 := ⟨by decide +kernel, rfl⟩
theorem d28_21 : DAt B28 21 (.aload_n 0) 1 22 := ⟨by decide +kernel, rfl⟩
theorem d28_22 : DAt B28 22 (.getfield 84) 3 25 := ⟨by decide +kernel, rfl⟩
theorem d28_25 : DAt B28 25 (.iload_n 1) 1 26 := ⟨by decide +kernel, rfl⟩
theorem d28_26 : DAt B28 26 (.iastore) 1 27 := ⟨by decide +kernel, rfl⟩
theorem d28_27 : DAt B28 27 (.aload_n 0) 1 28 := ⟨by decide +kernel, rfl⟩
theorem d28_28 : DAt B28 28 (.dup) 1 29 := ⟨by decide +kernel, rfl⟩
theorem d28_29 : DAt B28 29 (.getfield 84) 3 32 := ⟨by decide +kernel, rfl⟩
theorem d28_32 : DAt B28 32 (.iconst 1) 1 33 := ⟨by decide +kernel, rfl⟩
theorem d28_33 : DAt B28 33 (.iadd) 1 34 := ⟨by decide +kernel, rfl⟩
theorem d28_34 : DAt B28 34 (.putfield 84) 3 37 := ⟨by decide +kernel, rfl⟩
theorem d28_37 : DAt B28 37 (.return_) 1 38 := ⟨by decide +kernel, rfl⟩
def B26 : Bdy := ((⟨"XorGaussSat", "commitClause", "()I"⟩ : MethodName), prog_1_method_6_code, 2, (some .int), ({ frames := 1, cells := 0, slots := 0, locals := 17 } : Room))
theorem d26_0 : DAt B26 0 (.aload_n 0) 1 1 := ⟨by decide +kernel, rfl⟩
theorem d26_1 : DAt B26 1 (.getfield 78) 3 4 := ⟨by decide +kernel, rfl⟩
theorem d26_4 : DAt B26 4 (.bipush 24) 2 6 := ⟨by decide +kernel, rfl⟩
theorem d26_6 : DAt B26 6 (.if_icmp .lt 6) 3 9 := ⟨by decide +kernel, rfl⟩
theorem d26_9 : DAt B26 9 (.bipush (-2)) 2 11 := ⟨by decide +kernel, rfl⟩
theorem d26_11 : DAt B26 11 (.ireturn) 1 12 := ⟨by decide +kernel, rfl⟩
theorem d26_12 : DAt B26 12 (.aload_n 0) 1 13 := ⟨by decide +kernel, rfl⟩
theorem d26_13 : DAt B26 13 (.getfield 84) 3 16 := ⟨by decide +kernel, rfl⟩
theorem d26_16 : DAt B26 16 (.bipush 40) 2 18 := ⟨by decide +kernel, rfl⟩
theorem d26_18 : DAt B26 18 (.if_icmp .lt 6) 3 21 := ⟨by decide +kernel, rfl⟩
theorem d26_21 : DAt B26 21 (.bipush (-2)) 2 23 := ⟨by decide +kernel, rfl⟩
theorem d26_23 : DAt B26 23 (.ireturn) 1 24 := ⟨by decide +kernel, rfl⟩
theorem d26_24 : DAt B26 24 (.aload_n 0) 1 25 := ⟨by decide +kernel, rfl⟩
theorem d26_25 : DAt B26 25 (.getfield 78) 3 28 := ⟨by decide +kernel, rfl⟩
theorem d26_28 : DAt B26 28 (.istore_n 1) 1 29 := ⟨by decide +kernel, rfl⟩
theorem d26_29 : DAt B26 29 (.aload_n 0) 1 30 := ⟨by decide +kernel, rfl⟩
theorem d26_30 : DAt B26 30 (.getfield 17) 3 33 := ⟨by decide +kernel, rfl⟩
theorem d26_33 : DAt B26 33 (.iload_n 1) 1 34 := ⟨by decide +kernel, rfl⟩
theorem d26_34 : DAt B26 34 (.aload_n 0) 1 35 := ⟨by decide +kernel, rfl⟩
theorem d26_35 : DAt B26 35 (.iconst 0) 1 36 := ⟨by decide +kernel, rfl⟩
theorem d26_36 : DAt B26 36 (.invokevirtual 97) 3 39 := ⟨by decide +kernel, rfl⟩
theorem d26_39 : DAt B26 39 (.iastore) 1 40 := ⟨by decide +kernel, rfl⟩
theorem d26_40 : DAt B26 40 (.aload_n 0) 1 41 := ⟨by decide +kernel, rfl⟩
theorem d26_41 : DAt B26 41 (.getfield 20) 3 44 := ⟨by decide +kernel, rfl⟩
theorem d26_44 : DAt B26 44 (.iload_n 1) 1 45 := ⟨by decide +kernel, rfl⟩
theorem d26_45 : DAt B26 45 (.aload_n 0) 1 46 := ⟨by decide +kernel, rfl⟩
theorem d26_46 : DAt B26 46 (.iconst 1) 1 47 := ⟨by decide +kernel, rfl⟩
theorem d26_47 : DAt B26 47 (.invokevirtual 97) 3 50 := ⟨by decide +kernel, rfl⟩
theorem d26_50 : DAt B26 50 (.iastore) 1 51 := ⟨by decide +kernel, rfl⟩
theorem d26_51 : DAt B26 51 (.aload_n 0) 1 52 := ⟨by decide +kernel, rfl⟩
theorem d26_52 : DAt B26 52 (.dup) 1 53 := ⟨by decide +kernel, rfl⟩
theorem d26_53 : DAt B26 53 (.getfield 78) 3 56 := ⟨by decide +kernel, rfl⟩
theorem d26_56 : DAt B26 56 (.iconst 1) 1 57 := ⟨by decide +kernel, rfl⟩
theorem d26_57 : DAt B26 57 (.iadd) 1 58 := ⟨by decide +kernel, rfl⟩
theorem d26_58 : DAt B26 58 (.putfield 78) 3 61 := ⟨by decide +kernel, rfl⟩
theorem d26_61 : DAt B26 61 (.aload_n 0) 1 62 := ⟨by decide +kernel, rfl⟩
theorem d26_62 : DAt B26 62 (.iconst 1) 1 63 := ⟨by decide +kernel, rfl⟩
theorem d26_63 : DAt B26 63 (.invokevirtual 101) 3 66 := ⟨by decide +kernel, rfl⟩
theorem d26_66 : DAt B26 66 (.aload_n 0) 1 67 := ⟨by decide +kernel, rfl⟩
theorem d26_67 : DAt B26 67 (.iconst 0) 1 68 := ⟨by decide +kernel, rfl⟩
theorem d26_68 : DAt B26 68 (.putfield 75) 3 71 := ⟨by decide +kernel, rfl⟩
theorem d26_71 : DAt B26 71 (.aload_n 0) 1 72 := ⟨by decide +kernel, rfl⟩
theorem d26_72 : DAt B26 72 (.iconst 2) 1 73 := ⟨by decide +kernel, rfl⟩
theorem d26_73 : DAt B26 73 (.putfield 69) 3 76 := ⟨by decide +kernel, rfl⟩
theorem d26_76 : DAt B26 76 (.iload_n 1) 1 77 := ⟨by decide +kernel, rfl⟩
theorem d26_77 : DAt B26 77 (.ireturn) 1 78 := ⟨by decide +kernel, rfl⟩
def B36 : Bdy := ((⟨"XorGaussSat", "pendingNegatedParity", "()I"⟩ : MethodName), prog_1_method_20_code, 3, (some .int), ({ frames := 0, cells := 0, slots := 0, locals := 0 } : Room))
theorem d36_0 : DAt B36 0 (.iconst 0) 1 1 := ⟨by decide +kernel, rfl⟩
theorem d36_1 : DAt B36 1 (.istore_n 1) 1 2 := ⟨by decide +kernel, rfl⟩
theorem d36_2 : DAt B36 2 (.iconst 0) 1 3 := ⟨by decide +kernel, rfl⟩
theorem d36_3 : DAt B36 3 (.istore_n 2) 1 4 := ⟨by decide +kernel, rfl⟩
theorem d36_4 : DAt B36 4 (.iload_n 2) 1 5 := ⟨by decide +kernel, rfl⟩
theorem d36_5 : DAt B36 5 (.aload_n 0) 1 6 := ⟨by decide +kernel, rfl⟩
theorem d36_6 : DAt B36 6 (.getfield 75) 3 9 := ⟨by decide +kernel, rfl⟩
theorem d36_9 : DAt B36 9 (.if_icmp .ge 28) 3 12 := ⟨by decide +kernel, rfl⟩
theorem d36_12 : DAt B36 12 (.iload_n 2) 1 13 := ⟨by decide +kernel, rfl⟩
theorem d36_13 : DAt B36 13 (.bipush 8) 2 15 := ⟨by decide +kernel, rfl⟩
theorem d36_15 : DAt B36 15 (.if_icmp .ge 22) 3 18 := ⟨by decide +kernel, rfl⟩
theorem d36_18 : DAt B36 18 (.aload_n 0) 1 19 := ⟨by decide +kernel, rfl⟩
theorem d36_19 : DAt B36 19 (.getfield 13) 3 22 := ⟨by decide +kernel, rfl⟩
theorem d36_22 : DAt B36 22 (.iload_n 2) 1 23 := ⟨by decide +kernel, rfl⟩
theorem d36_23 : DAt B36 23 (.baload) 1 24 := ⟨by decide +kernel, rfl⟩
theorem d36_24 : DAt B36 24 (.ifCond .eq 7) 3 27 := ⟨by decide +kernel, rfl⟩
theorem d36_27 : DAt B36 27 (.iload_n 1) 1 28 := ⟨by decide +kernel, rfl⟩
theorem d36_28 : DAt B36 28 (.iconst 1) 1 29 := ⟨by decide +kernel, rfl⟩
theorem d36_29 : DAt B36 29 (.ixor) 1 30 := ⟨by decide +kernel, rfl⟩
theorem d36_30 : DAt B36 30 (.istore_n 1) 1 31 := ⟨by decide +kernel, rfl⟩
theorem d36_31 : DAt B36 31 (.iinc 2 1) 3 34 := ⟨by decide +kernel, rfl⟩
theorem d36_34 : DAt B36 34 (.goto (-30)) 3 37 := ⟨by decide +kernel, rfl⟩
theorem d36_37 : DAt B36 37 (.iload_n 1) 1 38 := ⟨by decide +kernel, rfl⟩
theorem d36_38 : DAt B36 38 (.ireturn) 1 39 := ⟨by decide +kernel, rfl⟩
def B37 : Bdy := ((⟨"XorGaussSat", "pendingXorMask", "()I"⟩ : MethodName), prog_1_method_19_code, 3, (some .int), ({ frames := 0, cells := 0, slots := 0, locals := 0 } : Room))
theorem d37_0 : DAt B37 0 (.iconst 0) 1 1 := ⟨by decide +kernel, rfl⟩
theorem d37_1 : DAt B37 1 (.istore_n 1) 1 2 := ⟨by decide +kernel, rfl⟩
theorem d37_2 : DAt B37 2 (.iconst 0) 1 3 := ⟨by decide +kernel, rfl⟩
theorem d37_3 : DAt B37 3 (.istore_n 2) 1 4 := ⟨by decide +kernel, rfl⟩
theorem d37_4 : DAt B37 4 (.iload_n 2) 1 5 := ⟨by decide +kernel, rfl⟩
theorem d37_5 : DAt B37 5 (.aload_n 0) 1 6 := ⟨by decide +kernel, rfl⟩
theorem d37_6 : DAt B37 6 (.getfield 75) 3 9 := ⟨by decide +kernel, rfl⟩
theorem d37_9 : DAt B37 9 (.if_icmp .ge 26) 3 12 := ⟨by decide +kernel, rfl⟩
theorem d37_12 : DAt B37 12 (.iload_n 2) 1 13 := ⟨by decide +kernel, rfl⟩
theorem d37_13 : DAt B37 13 (.bipush 8) 2 15 := ⟨by decide +kernel, rfl⟩
theorem d37_15 : DAt B37 15 (.if_icmp .ge 20) 3 18 := ⟨by decide +kernel, rfl⟩
theorem d37_18 : DAt B37 18 (.iload_n 1) 1 19 := ⟨by decide +kernel, rfl⟩
theorem d37_19 : DAt B37 19 (.iconst 1) 1 20 := ⟨by decide +kernel, rfl⟩
theorem d37_20 : DAt B37 20 (.aload_n 0) 1 21 := ⟨by decide +kernel, rfl⟩
theorem d37_21 : DAt B37 21 (.getfield 7) 3 24 := ⟨by decide +kernel, rfl⟩
theorem d37_24 : DAt B37 24 (.iload_n 2) 1 25 := ⟨by decide +kernel, rfl⟩
theorem d37_25 : DAt B37 25 (.iaload) 1 26 := ⟨by decide +kernel, rfl⟩
theorem d37_26 : DAt B37 26 (.ishl) 1 27 := ⟨by decide +kernel, rfl⟩
theorem d37_27 : DAt B37 27 (.ixor) 1 28 := ⟨by decide +kernel, rfl⟩
theorem d37_28 : DAt B37 28 (.istore_n 1) 1 29 := ⟨by decide +kernel, rfl⟩
theorem d37_29 : DAt B37 29 (.iinc 2 1) 3 32 := ⟨by decide +kernel, rfl⟩
theorem d37_32 : DAt B37 32 (.goto (-28)) 3 35 := ⟨by decide +kernel, rfl⟩
theorem d37_35 : DAt B37 35 (.iload_n 1) 1 36 := ⟨by decide +kernel, rfl⟩
theorem d37_36 : DAt B37 36 (.aload_n 0) 1 37 := ⟨by decide +kernel, rfl⟩
theorem d37_37 : DAt B37 37 (.getfield 66) 3 40 := ⟨by decide +kernel, rfl⟩
theorem d37_40 : DAt B37 40 (.iand) 1 41 := ⟨by decide +kernel, rfl⟩
theorem d37_41 : DAt B37 41 (.ireturn) 1 42 := ⟨by decide +kernel, rfl⟩
def B35 : Bdy := ((⟨"XorGaussSat", "commitXor", "(Z)I"⟩ : MethodName), prog_1_method_7_code, 4, (some .int), ({ frames := 1, cells := 0, slots := 0, locals := 16 } : Room))
theorem d35_0 : DAt B35 0 (.aload_n 0) 1 1 := ⟨by decide +kernel, rfl⟩
theorem d35_1 : DAt B35 1 (.getfield 81) 3 4 := ⟨by decide +kernel, rfl⟩
theorem d35_4 : DAt B35 4 (.bipush 16) 2 6 := ⟨by decide +kernel, rfl⟩
theorem d35_6 : DAt B35 6 (.if_icmp .lt 6) 3 9 := ⟨by decide +kernel, rfl⟩
theorem d35_9 : DAt B35 9 (.bipush (-2)) 2 11 := ⟨by decide +kernel, rfl⟩
theorem d35_11 : DAt B35 11 (.ireturn) 1 12 := ⟨by decide +kernel, rfl⟩
theorem d35_12 : DAt B35 12 (.aload_n 0) 1 13 := ⟨by decide +kernel, rfl⟩
theorem d35_13 : DAt B35 13 (.getfield 84) 3 16 := ⟨by decide +kernel, rfl⟩
theorem d35_16 : DAt B35 16 (.bipush 40) 2 18 := ⟨by decide +kernel, rfl⟩
theorem d35_18 : DAt B35 18 (.if_icmp .lt 6) 3 21 := ⟨by decide +kernel, rfl⟩
theorem d35_21 : DAt B35 21 (.bipush (-2)) 2 23 := ⟨by decide +kernel, rfl⟩
theorem d35_23 : DAt B35 23 (.ireturn) 1 24 := ⟨by decide +kernel, rfl⟩
theorem d35_24 : DAt B35 24 (.aload_n 0) 1 25 := ⟨by decide +kernel, rfl⟩
theorem d35_25 : DAt B35 25 (.getfield 81) 3 28 := ⟨by decide +kernel, rfl⟩
theorem d35_28 : DAt B35 28 (.istore_n 2) 1 29 := ⟨by decide +kernel, rfl⟩
theorem d35_29 : DAt B35 29 (.aload_n 0) 1 30 := ⟨by decide +kernel, rfl⟩
theorem d35_30 : DAt B35 30 (.invokevirtual 105) 3 33 := ⟨by decide +kernel, rfl⟩
theorem d35_33 : DAt B35 33 (.istore_n 3) 1 34 := ⟨by decide +kernel, rfl⟩
theorem d35_34 : DAt B35 34 (.iload_n 1) 1 35 := ⟨by decide +kernel, rfl⟩
theorem d35_35 : DAt B35 35 (.ifCond .eq 7) 3 38 := ⟨by decide +kernel, rfl⟩
theorem d35_38 : DAt B35 38 (.iload_n 3) 1 39 := ⟨by decide +kernel, rfl⟩
theorem d35_39 : DAt B35 39 (.iconst 1) 1 40 := ⟨by decide +kernel, rfl⟩
theorem d35_40 : DAt B35 40 (.ixor) 1 41 := ⟨by decide +kernel, rfl⟩
theorem d35_41 : DAt B35 41 (.istore_n 3) 1 42 := ⟨by decide +kernel, rfl⟩
theorem d35_42 : DAt B35 42 (.aload_n 0) 1 43 := ⟨by decide +kernel, rfl⟩
theorem d35_43 : DAt B35 43 (.getfield 23) 3 46 := ⟨by decide +kernel, rfl⟩
theorem d35_46 : DAt B35 46 (.iload_n 2) 1 47 := ⟨by decide +kernel, rfl⟩
theorem d35_47 : DAt B35 47 (.aload_n 0) 1 48 := ⟨by decide +kernel, rfl⟩
theorem d35_48 : DAt B35 48 (.invokevirtual 109) 3 51 := ⟨by decide +kernel, rfl⟩
theorem d35_51 : DAt B35 51 (.iastore) 1 52 := ⟨by decide +kernel, rfl⟩
theorem d35_52 : DAt B35 52 (.aload_n 0) 1 53 := ⟨by decide +kernel, rfl⟩
theorem d35_53 : DAt B35 53 (.getfield 26) 3 56 := ⟨by decide +kernel, rfl⟩
theorem d35_56 : DAt B35 56 (.iload_n 2) 1 57 := ⟨by decide +kernel, rfl⟩
theorem d35_57 : DAt B35 57 (.iload_n 3) 1 58 := ⟨by decide +kernel, rfl⟩
theorem d35_58 : DAt B35 58 (.iastore) 1 59 := ⟨by decide +kernel, rfl⟩
theorem d35_59 : DAt B35 59 (.aload_n 0) 1 60 := ⟨by decide +kernel, rfl⟩
theorem d35_60 : DAt B35 60 (.dup) 1 61 := ⟨by decide +kernel, rfl⟩
theorem d35_61 : DAt B35 61 (.getfield 81) 3 64 := ⟨by decide +kernel, rfl⟩
theorem d35_64 : DAt B35 64 (.iconst 1) 1 65 := ⟨by decide +kernel, rfl⟩
theorem d35_65 : DAt B35 65 (.iadd) 1 66 := ⟨by decide +kernel, rfl⟩
theorem d35_66 : DAt B35 66 (.putfield 81) 3 69 := ⟨by decide +kernel, rfl⟩
theorem d35_69 : DAt B35 69 (.aload_n 0) 1 70 := ⟨by decide +kernel, rfl⟩
theorem d35_70 : DAt B35 70 (.iconst 2) 1 71 := ⟨by decide +kernel, rfl⟩
theorem d35_71 : DAt B35 71 (.invokevirtual 101) 3 74 := ⟨by decide +kernel, rfl⟩
theorem d35_74 : DAt B35 74 (.aload_n 0) 1 75 := ⟨by decide +kernel, rfl⟩
theorem d35_75 : DAt B35 75 (.iconst 0) 1 76 := ⟨by decide +kernel, rfl⟩
theorem d35_76 : DAt B35 76 (.putfield 75) 3 79 := ⟨by decide +kernel, rfl⟩
theorem d35_79 : DAt B35 79 (.aload_n 0) 1 80 := ⟨by decide +kernel, rfl⟩
theorem d35_80 : DAt B35 80 (.iconst 2) 1 81 := ⟨by decide +kernel, rfl⟩
theorem d35_81 : DAt B35 81 (.putfield 69) 3 84 := ⟨by decide +kernel, rfl⟩
theorem d35_84 : DAt B35 84 (.aload_n 0) 1 85 := ⟨by decide +kernel, rfl⟩
theorem d35_85 : DAt B35 85 (.iconst 0) 1 86 := ⟨by decide +kernel, rfl⟩
theorem d35_86 : DAt B35 86 (.putfield 87) 3 89 := ⟨by decide +kernel, rfl⟩
theorem d35_89 : DAt B35 89 (.iload_n 2) 1 90 := ⟨by decide +kernel, rfl⟩
theorem d35_90 : DAt B35 90 (.ireturn) 1 91 := ⟨by decide +kernel, rfl⟩
def B25 : Bdy := ((⟨"XorGaussSat", "popConstraint", "()I"⟩ : MethodName), prog_1_method_8_code, 2, (some .int), ({ frames := 0, cells := 0, slots := 0, locals := 0 } : Room))
theorem d25_0 : DAt B25 0 (.aload_n 0) 1 1 := ⟨by decide +kernel, rfl⟩
theorem d25_1 : DAt B25 1 (.getfield 84) 3 4 := ⟨by decide +kernel, rfl⟩
theorem d25_4 : DAt B25 4 (.ifCond .le 12) 3 7 := ⟨by decide +kernel, rfl⟩
theorem d25_7 : DAt B25 7 (.aload_n 0) 1 8 := ⟨by decide +kernel, rfl⟩
theorem d25_8 : DAt B25 8 (.getfield 84) 3 11 := ⟨by decide +kernel, rfl⟩
theorem d25_11 : DAt B25 11 (.bipush 40) 2 13 := ⟨by decide +kernel, rfl⟩
theorem d25_13 : DAt B25 13 (.if_icmp .le 6) 3 16 := ⟨by decide +kernel, rfl⟩
theorem d25_16 : DAt B25 16 (.bipush (-3)) 2 18 := ⟨by decide +kernel, rfl⟩
theorem d25_18 : DAt B25 18 (.ireturn) 1 19 := ⟨by decide +kernel, rfl⟩
theorem d25_19 : DAt B25 19 (.aload_n 0) 1 20 := ⟨by decide +kernel, rfl⟩
theorem d25_20 : DAt B25 20 (.getfield 29) 3 23 := ⟨by decide +kernel, rfl⟩
theorem d25_23 : DAt B25 23 (.aload_n 0) 1 24 := ⟨by decide +kernel, rfl⟩
theorem d25_24 : DAt B25 24 (.getfield 84) 3 27 := ⟨by decide +kernel, rfl⟩
theorem d25_27 : DAt B25 27 (.iconst 1) 1 28 := ⟨by decide +kernel, rfl⟩
theorem d25_28 : DAt B25 28 (.isub) 1 29 := ⟨by decide +kernel, rfl⟩
theorem d25_29 : DAt B25 29 (.iaload) 1 30 := ⟨by decide +kernel, rfl⟩
theorem d25_30 : DAt B25 30 (.istore_n 1) 1 31 := ⟨by decide +kernel, rfl⟩
theorem d25_31 : DAt B25 31 (.aload_n 0) 1 32 := ⟨by decide +kernel, rfl⟩
theorem d25_32 : DAt B25 32 (.dup) 1 33 := ⟨by decide +kernel, rfl⟩
theorem d25_33 : DAt B25 33 (.getfield 84) 3 36 := ⟨by decide +kernel, rfl⟩
theorem d25_36 : DAt B25 36 (.iconst 1) 1 37 := ⟨by decide +kernel, rfl⟩
theorem d25_37 : DAt B25 37 (.isub) 1 38 := ⟨by decide +kernel, rfl⟩
theorem d25_38 : DAt B25 38 (.putfield 84) 3 41 := ⟨by decide +kernel, rfl⟩
theorem d25_41 : DAt B25 41 (.iload_n 1) 1 42 := ⟨by decide +kernel, rfl⟩
theorem d25_42 : DAt B25 42 (.iconst 1) 1 43 := ⟨by decide +kernel, rfl⟩
theorem d25_43 : DAt B25 43 (.if_icmp .ne 23) 3 46 := ⟨by decide +kernel, rfl⟩
theorem d25_46 : DAt B25 46 (.aload_n 0) 1 47 := ⟨by decide +kernel, rfl⟩
theorem d25_47 : DAt B25 47 (.getfield 78) 3 50 := ⟨by decide +kernel, rfl⟩
theorem d25_50 : DAt B25 50 (.ifCond .le 38) 3 53 := ⟨by decide +kernel, rfl⟩
theorem d25_53 : DAt B25 53 (.aload_n 0) 1 54 := ⟨by decide +kernel, rfl⟩
theorem d25_54 : DAt B25 54 (.dup) 1 55 := ⟨by decide +kernel, rfl⟩
theorem d25_55 : DAt B25 55 (.getfield 78) 3 58 := ⟨by decide +kernel, rfl⟩
theorem d25_58 : DAt B25 58 (.iconst 1) 1 59 := ⟨by decide +kernel, rfl⟩
theorem d25_59 : DAt B25 59 (.isub) 1 60 := ⟨by decide +kernel, rfl⟩
theorem d25_60 : DAt B25 60 (.putfield 78) 3 63 := ⟨by decide +kernel, rfl⟩
theorem d25_63 : DAt B25 63 (.goto 25) 3 66 := ⟨by decide +kernel, rfl⟩
theorem d25_66 : DAt B25 66 (.aload_n 0) 1 67 := ⟨by decide +kernel, rfl⟩
theorem d25_67 : DAt B25 67 (.getfield 81) 3 70 := ⟨by decide +kernel, rfl⟩
theorem d25_70 : DAt B25 70 (.ifCond .le 13) 3 73 := ⟨by decide +kernel, rfl⟩
theorem d25_73 : DAt B25 73 (.aload_n 0) 1 74 := ⟨by decide +kernel, rfl⟩
theorem d25_74 : DAt B25 74 (.dup) 1 75 := ⟨by decide +kernel, rfl⟩
theorem d25_75 : DAt B25 75 (.getfield 81) 3 78 := ⟨by decide +kernel, rfl⟩
theorem d25_78 : DAt B25 78 (.iconst 1) 1 79 := ⟨by decide +kernel, rfl⟩
theorem d25_79 : DAt B25 79 (.isub) 1 80 := ⟨by decide +kernel, rfl⟩
theorem d25_80 : DAt B25 80 (.putfield 81) 3 83 := ⟨by decide +kernel, rfl⟩
theorem d25_83 : DAt B25 83 (.aload_n 0) 1 84 := ⟨by decide +kernel, rfl⟩
theorem d25_84 : DAt B25 84 (.iconst 0) 1 85 := ⟨by decide +kernel, rfl⟩
theorem d25_85 : DAt B25 85 (.putfield 87) 3 88 := ⟨by decide +kernel, rfl⟩
theorem d25_88 : DAt B25 88 (.aload_n 0) 1 89 := ⟨by decide +kernel, rfl⟩
theorem d25_89 : DAt B25 89 (.iconst 2) 1 90 := ⟨by decide +kernel, rfl⟩
theorem d25_90 : DAt B25 90 (.putfield 69) 3 93 := ⟨by decide +kernel, rfl⟩
theorem d25_93 : DAt B25 93 (.iload_n 1) 1 94 := ⟨by decide +kernel, rfl⟩
theorem d25_94 : DAt B25 94 (.ireturn) 1 95 := ⟨by decide +kernel, rfl⟩
def B40 : Bdy := ((⟨"XorGaussSat", "clearPending", "()V"⟩ : MethodName), prog_1_method_4_code, 1, none, ({ frames := 0, cells := 0, slots := 0, locals := 0 } : Room))
theorem d40_0 : DAt B40 0 (.aload_n 0) 1 1 := ⟨by decide +kernel, rfl⟩
theorem d40_1 : DAt B40 1 (.iconst 0) 1 2 := ⟨by decide +kernel, rfl⟩
theorem d40_2 : DAt B40 2 (.putfield 75) 3 5 := ⟨by decide +kernel, rfl⟩
theorem d40_5 : DAt B40 5 (.return_) 1 6 := ⟨by decide +kernel, rfl⟩
def B29 : Bdy := ((⟨"XorGaussSat", "clauseHolds", "(II)Z"⟩ : MethodName), prog_1_method_22_code, 4, (some .boolean), ({ frames := 0, cells := 0, slots := 0, locals := 0 } : Room))
theorem d29_0 : DAt B29 0 (.iload_n 1) 1 1 := ⟨by decide +kernel, rfl⟩
theorem d29_1 : DAt B29 1 (.ifCond .lt 9) 3 4 := ⟨by decide +kernel, rfl⟩
theorem d29_4 : DAt B29 4 (.iload_n 1) 1 5 := ⟨by decide +kernel, rfl⟩
theorem d29_5 : DAt B29 5 (.bipush 24) 2 7 := ⟨by decide +kernel, rfl⟩
theorem d29_7 : DAt B29 7 (.if_icmp .lt 5) 3 10 := ⟨by decide +kernel, rfl⟩
theorem d29_10 : DAt B29 10 (.iconst 1) 1 11 := ⟨by decide +kernel, rfl⟩
theorem d29_11 : DAt B29 11 (.ireturn) 1 12 := ⟨by decide +kernel, rfl⟩
theorem d29_12 : DAt B29 12 (.iload_n 2) 1 13 := ⟨by decide +kernel, rfl⟩
theorem d29_13 : DAt B29 13 (.aload_n 0) 1 14 := ⟨by decide +kernel, rfl⟩
theorem d29_14 : DAt B29 14 (.getfield 17) 3 17 := ⟨by decide +kernel, rfl⟩
theorem d29_17 : DAt B29 17 (.iload_n 1) 1 18 := ⟨by decide +kernel, rfl⟩
theorem d29_18 : DAt B29 18 (.iaload) 1 19 := ⟨by decide +kernel, rfl⟩
theorem d29_19 : DAt B29 19 (.iand) 1 20 := ⟨by decide +kernel, rfl⟩
theorem d29_20 : DAt B29 20 (.iload_n 2) 1 21 := ⟨by decide +kernel, rfl⟩
theorem d29_21 : DAt B29 21 (.iconst (-1)) 1 22 := ⟨by decide +kernel, rfl⟩
theorem d29_22 : DAt B29 22 (.ixor) 1 23 := ⟨by decide +kernel, rfl⟩
theorem d29_23 : DAt B29 23 (.aload_n 0) 1 24 := ⟨by decide +kernel, rfl⟩
theorem d29_24 : DAt B29 24 (.getfield 20) 3 27 := ⟨by decide +kernel, rfl⟩
theorem d29_27 : DAt B29 27 (.iload_n 1) 1 28 := ⟨by decide +kernel, rfl⟩
theorem d29_28 : DAt B29 28 (.iaload) 1 29 := ⟨by decide +kernel, rfl⟩
theorem d29_29 : DAt B29 29 (.iand) 1 30 := ⟨by decide +kernel, rfl⟩
theorem d29_30 : DAt B29 30 (.ior) 1 31 := ⟨by decide +kernel, rfl⟩
theorem d29_31 : DAt B29 31 (.istore_n 3) 1 32 := ⟨by decide +kernel, rfl⟩
theorem d29_32 : DAt B29 32 (.iload_n 3) 1 33 := ⟨by decide +kernel, rfl⟩
theorem d29_33 : DAt B29 33 (.ifCond .eq 7) 3 36 := ⟨by decide +kernel, rfl⟩
theorem d29_36 : DAt B29 36 (.iconst 1) 1 37 := ⟨by decide +kernel, rfl⟩
theorem d29_37 : DAt B29 37 (.goto 4) 3 40 := ⟨by decide +kernel, rfl⟩
theorem d29_40 : DAt B29 40 (.iconst 0) 1 41 := ⟨by decide +kernel, rfl⟩
theorem d29_41 : DAt B29 41 (.ireturn) 1 42 := ⟨by decide +kernel, rfl⟩
def B39 : Bdy := ((⟨"XorGaussSat", "parity", "(I)I"⟩ : MethodName), prog_1_method_25_code, 3, (some .int), ({ frames := 0, cells := 0, slots := 0, locals := 0 } : Room))
theorem d39_0 : DAt B39 0 (.iload_n 1) 1 1 := ⟨by decide +kernel, rfl⟩
theorem d39_1 : DAt B39 1 (.iload_n 1) 1 2 := ⟨by decide +kernel, rfl⟩
theorem d39_2 : DAt B39 2 (.bipush 16) 2 4 := ⟨by decide +kernel, rfl⟩
theorem d39_4 : DAt B39 4 (.iushr) 1 5 := ⟨by decide +kernel, rfl⟩
theorem d39_5 : DAt B39 5 (.ixor) 1 6 := ⟨by decide +kernel, rfl⟩
theorem d39_6 : DAt B39 6 (.istore_n 2) 1 7 := ⟨by decide +kernel, rfl⟩
theorem d39_7 : DAt B39 7 (.iload_n 2) 1 8 := ⟨by decide +kernel, rfl⟩
theorem d39_8 : DAt B39 8 (.iload_n 2) 1 9 := ⟨by decide +kernel, rfl⟩
theorem d39_9 : DAt B39 9 (.bipush 8) 2 11 := ⟨by decide +kernel, rfl⟩
theorem d39_11 : DAt B39 11 (.iushr) 1 12 := ⟨by decide +kernel, rfl⟩
theorem d39_12 : DAt B39 12 (.ixor) 1 13 := ⟨by decide +kernel, rfl⟩
theorem d39_13 : DAt B39 13 (.istore_n 2) 1 14 := ⟨by decide +kernel, rfl⟩
theorem d39_14 : DAt B39 14 (.iload_n 2) 1 15 := ⟨by decide +kernel, rfl⟩
theorem d39_15 : DAt B39 15 (.iload_n 2) 1 16 := ⟨by decide +kernel, rfl⟩
theorem d39_16 : DAt B39 16 (.iconst 4) 1 17 := ⟨by decide +kernel, rfl⟩
theorem d39_17 : DAt B39 17 (.iushr) 1 18 := ⟨by decide +kernel, rfl⟩
theorem d39_18 : DAt B39 18 (.ixor) 1 19 := ⟨by decide +kernel, rfl⟩
theorem d39_19 : DAt B39 19 (.istore_n 2) 1 20 := ⟨by decide +kernel, rfl⟩
theorem d39_20 : DAt B39 20 (.iload_n 2) 1 21 := ⟨by decide +kernel, rfl⟩
theorem d39_21 : DAt B39 21 (.iload_n 2) 1 22 := ⟨by decide +kernel, rfl⟩
theorem d39_22 : DAt B39 22 (.iconst 2) 1 23 := ⟨by decide +kernel, rfl⟩
theorem d39_23 : DAt B39 23 (.iushr) 1 24 := ⟨by decide +kernel, rfl⟩
theorem d39_24 : DAt B39 24 (.ixor) 1 25 := ⟨by decide +kernel, rfl⟩
theorem d39_25 : DAt B39 25 (.istore_n 2) 1 26 := ⟨by decide +kernel, rfl⟩
theorem d39_26 : DAt B39 26 (.iload_n 2) 1 27 := ⟨by decide +kernel, rfl⟩
theorem d39_27 : DAt B39 27 (.iload_n 2) 1 28 := ⟨by decide +kernel, rfl⟩
theorem d39_28 : DAt B39 28 (.iconst 1) 1 29 := ⟨by decide +kernel, rfl⟩
theorem d39_29 : DAt B39 29 (.iushr) 1 30 := ⟨by decide +kernel, rfl⟩
theorem d39_30 : DAt B39 30 (.ixor) 1 31 := ⟨by decide +kernel, rfl⟩
theorem d39_31 : DAt B39 31 (.istore_n 2) 1 32 := ⟨by decide +kernel, rfl⟩
theorem d39_32 : DAt B39 32 (.iload_n 2) 1 33 := ⟨by decide +kernel, rfl⟩
theorem d39_33 : DAt B39 33 (.iconst 1) 1 34 := ⟨by decide +kernel, rfl⟩
theorem d39_34 : DAt B39 34 (.iand) 1 35 := ⟨by decide +kernel, rfl⟩
theorem d39_35 : DAt B39 35 (.ireturn) 1 36 := ⟨by decide +kernel, rfl⟩
def B38 : Bdy := ((⟨"XorGaussSat", "xorHolds", "(II)Z"⟩ : MethodName), prog_1_method_23_code, 4, (some .boolean), ({ frames := 1, cells := 0, slots := 0, locals := 14 } : Room))
theorem d38_0 : DAt B38 0 (.iload_n 1) 1 1 := ⟨by decide +kernel, rfl⟩
theorem d38_1 : DAt B38 1 (.ifCond .lt 9) 3 4 := ⟨by decide +kernel, rfl⟩
theorem d38_4 : DAt B38 4 (.iload_n 1) 1 5 := ⟨by decide +kernel, rfl⟩
theorem d38_5 : DAt B38 5 (.bipush 16) 2 7 := ⟨by decide +kernel, rfl⟩
theorem d38_7 : DAt B38 7 (.if_icmp .lt 5) 3 10 := ⟨by decide +kernel, rfl⟩
theorem d38_10 : DAt B38 10 (.iconst 1) 1 11 := ⟨by decide +kernel, rfl⟩
theorem d38_11 : DAt B38 11 (.ireturn) 1 12 := ⟨by decide +kernel, rfl⟩
theorem d38_12 : DAt B38 12 (.aload_n 0) 1 13 := ⟨by decide +kernel, rfl⟩
theorem d38_13 : DAt B38 13 (.iload_n 2) 1 14 := ⟨by decide +kernel, rfl⟩
theorem d38_14 : DAt B38 14 (.aload_n 0) 1 15 := ⟨by decide +kernel, rfl⟩
theorem d38_15 : DAt B38 15 (.getfield 23) 3 18 := ⟨by decide +kernel, rfl⟩
theorem d38_18 : DAt B38 18 (.iload_n 1) 1 19 := ⟨by decide +kernel, rfl⟩
theorem d38_19 : DAt B38 19 (.iaload) 1 20 := ⟨by decide +kernel, rfl⟩
theorem d38_20 : DAt B38 20 (.iand) 1 21 := ⟨by decide +kernel, rfl⟩
theorem d38_21 : DAt B38 21 (.invokevirtual 138) 3 24 := ⟨by decide +kernel, rfl⟩
theorem d38_24 : DAt B38 24 (.istore_n 3) 1 25 := ⟨by decide +kernel, rfl⟩
theorem d38_25 : DAt B38 25 (.iload_n 3) 1 26 := ⟨by decide +kernel, rfl⟩
theorem d38_26 : DAt B38 26 (.aload_n 0) 1 27 := ⟨by decide +kernel, rfl⟩
theorem d38_27 : DAt B38 27 (.getfield 26) 3 30 := ⟨by decide +kernel, rfl⟩
theorem d38_30 : DAt B38 30 (.iload_n 1) 1 31 := ⟨by decide +kernel, rfl⟩
theorem d38_31 : DAt B38 31 (.iaload) 1 32 := ⟨by decide +kernel, rfl⟩
theorem d38_32 : DAt B38 32 (.if_icmp .ne 7) 3 35 := ⟨by decide +kernel, rfl⟩
theorem d38_35 : DAt B38 35 (.iconst 1) 1 36 := ⟨by decide +kernel, rfl⟩
theorem d38_36 : DAt B38 36 (.goto 4) 3 39 := ⟨by decide +kernel, rfl⟩
theorem d38_39 : DAt B38 39 (.iconst 0) 1 40 := ⟨by decide +kernel, rfl⟩
theorem d38_40 : DAt B38 40 (.ireturn) 1 41 := ⟨by decide +kernel, rfl⟩
def B4 : Bdy := ((⟨"XorGaussSat", "violations", "(I)I"⟩ : MethodName), prog_1_method_15_code, 5, (some .int), ({ frames := 2, cells := 0, slots := 0, locals := 29 } : Room))
theorem d4_0 : DAt B4 0 (.iload_n 1) 1 1 := ⟨by decide +kernel, rfl⟩
theorem d4_1 : DAt B4 1 (.aload_n 0) 1 2 := ⟨by decide +kernel, rfl⟩
theorem d4_2 : DAt B4 2 (.getfield 66) 3 5 := ⟨by decide +kernel, rfl⟩
theorem d4_5 : DAt B4 5 (.iand) 1 6 := ⟨by decide +kernel, rfl⟩
theorem d4_6 : DAt B4 6 (.istore_n 2) 1 7 := ⟨by decide +kernel, rfl⟩
theorem d4_7 : DAt B4 7 (.iconst 0) 1 8 := ⟨by decide +kernel, rfl⟩
theorem d4_8 : DAt B4 8 (.istore_n 3) 1 9 := ⟨by decide +kernel, rfl⟩
theorem d4_9 : DAt B4 9 (.iconst 0) 1 10 := ⟨by decide +kernel, rfl⟩
theorem d4_10 : DAt B4 10 (.istore 4) 2 12 := ⟨by decide +kernel, rfl⟩
theorem d4_12 : DAt B4 12 (.iload 4) 2 14 := ⟨by decide +kernel, rfl⟩
theorem d4_14 : DAt B4 14 (.aload_n 0) 1 15 := ⟨by decide +kernel, rfl⟩
theorem d4_15 : DAt B4 15 (.getfield 78) 3 18 := ⟨by decide +kernel, rfl⟩
theorem d4_18 : DAt B4 18 (.if_icmp .ge 29) 3 21 := ⟨by decide +kernel, rfl⟩
theorem d4_21 : DAt B4 21 (.iload 4) 2 23 := ⟨by decide +kernel, rfl⟩
theorem d4_23 : DAt B4 23 (.bipush 24) 2 25 := ⟨by decide +kernel, rfl⟩
theorem d4_25 : DAt B4 25 (.if_icmp .ge 22) 3 28 := ⟨by decide +kernel, rfl⟩
theorem d4_28 : DAt B4 28 (.aload_n 0) 1 29 := ⟨by decide +kernel, rfl⟩
theorem d4_29 : DAt B4 29 (.iload 4) 2 31 := ⟨by decide +kernel, rfl⟩
theorem d4_31 : DAt B4 31 (.iload_n 2) 1 32 := ⟨by decide +kernel, rfl⟩
theorem d4_32 : DAt B4 32 (.invokevirtual 119) 3 35 := ⟨by decide +kernel, rfl⟩
theorem d4_35 : DAt B4 35 (.ifCond .ne 6) 3 38 := ⟨by decide +kernel, rfl⟩
theorem d4_38 : DAt B4 38 (.iinc 3 1) 3 41 := ⟨by decide +kernel, rfl⟩
theorem d4_41 : DAt B4 41 (.iinc 4 1) 3 44 := ⟨by decide +kernel, rfl⟩
theorem d4_44 : DAt B4 44 (.goto (-32)) 3 47 := ⟨by decide +kernel, rfl⟩
theorem d4_47 : DAt B4 47 (.iconst 0) 1 48 := ⟨by decide +kernel, rfl⟩
theorem d4_48 : DAt B4 48 (.istore 4) 2 50 := ⟨by decide +kernel, rfl⟩
theorem d4_50 : DAt B4 50 (.iload 4) 2 52 := ⟨by decide +kernel, rfl⟩
theorem d4_52 : DAt B4 52 (.aload_n 0) 1 53 := ⟨by decide +kernel, rfl⟩
theorem d4_53 : DAt B4 53 (.getfield 81) 3 56 := ⟨by decide +kernel, rfl⟩
theorem d4_56 : DAt B4 56 (.if_icmp .ge 29) 3 59 := ⟨by decide +kernel, rfl⟩
theorem d4_59 : DAt B4 59 (.iload 4) 2 61 := ⟨by decide +kernel, rfl⟩
theorem d4_61 : DAt B4 61 (.bipush 16) 2 63 := ⟨by decide +kernel, rfl⟩
theorem d4_63 : DAt B4 63 (.if_icmp .ge 22) 3 66 := ⟨by decide +kernel, rfl⟩
theorem d4_66 : DAt B4 66 (.aload_n 0) 1 67 := ⟨by decide +kernel, rfl⟩
theorem d4_67 : DAt B4 67 (.iload 4) 2 69 := ⟨by decide +kernel, rfl⟩
theorem d4_69 : DAt B4 69 (.iload_n 2) 1 70 := ⟨by decide +kernel, rfl⟩
theorem d4_70 : DAt B4 70 (.invokevirtual 122) 3 73 := ⟨by decide +kernel, rfl⟩
theorem d4_73 : DAt B4 73 (.ifCond .ne 6) 3 76 := ⟨by decide +kernel, rfl⟩
theorem d4_76 : DAt B4 76 (.iinc 3 1) 3 79 := ⟨by decide +kernel, rfl⟩
theorem d4_79 : DAt B4 79 (.iinc 4 1) 3 82 := ⟨by decide +kernel, rfl⟩
theorem d4_82 : DAt B4 82 (.goto (-32)) 3 85 := ⟨by decide +kernel, rfl⟩
theorem d4_85 : DAt B4 85 (.iload_n 3) 1 86 := ⟨by decide +kernel, rfl⟩
theorem d4_86 : DAt B4 86 (.ireturn) 1 87 := ⟨by decide +kernel, rfl⟩
def B5 : Bdy := ((⟨"XorGaussSatOwnLaw", "before", "(II)Z"⟩ : MethodName), method_3_code, 4, (some .boolean), ({ frames := 0, cells := 0, slots := 0, locals := 0 } : Room))
theorem d5_0 : DAt B5 0 (.iload_n 0) 1 1 := ⟨by decide +kernel, rfl⟩
theorem d5_1 : DAt B5 1 (.iload_n 1) 1 2 := ⟨by decide +kernel, rfl⟩
theorem d5_2 : DAt B5 2 (.ixor) 1 3 := ⟨by decide +kernel, rfl⟩
theorem d5_3 : DAt B5 3 (.istore_n 2) 1 4 := ⟨by decide +kernel, rfl⟩
theorem d5_4 : DAt B5 4 (.iload_n 2) 1 5 := ⟨by decide +kernel, rfl⟩
theorem d5_5 : DAt B5 5 (.ifCond .ne 5) 3 8 := ⟨by decide +kernel, rfl⟩
theorem d5_8 : DAt B5 8 (.iconst 0) 1 9 := ⟨by decide +kernel, rfl⟩
theorem d5_9 : DAt B5 9 (.ireturn) 1 10 := ⟨by decide +kernel, rfl⟩
theorem d5_10 : DAt B5 10 (.iload_n 2) 1 11 := ⟨by decide +kernel, rfl⟩
theorem d5_11 : DAt B5 11 (.iload_n 2) 1 12 := ⟨by decide +kernel, rfl⟩
theorem d5_12 : DAt B5 12 (.ineg) 1 13 := ⟨by decide +kernel, rfl⟩
theorem d5_13 : DAt B5 13 (.iand) 1 14 := ⟨by decide +kernel, rfl⟩
theorem d5_14 : DAt B5 14 (.istore_n 3) 1 15 := ⟨by decide +kernel, rfl⟩
theorem d5_15 : DAt B5 15 (.iload_n 0) 1 16 := ⟨by decide +kernel, rfl⟩
theorem d5_16 : DAt B5 16 (.iload_n 3) 1 17 := ⟨by decide +kernel, rfl⟩
theorem d5_17 : DAt B5 17 (.iand) 1 18 := ⟨by decide +kernel, rfl⟩
theorem d5_18 : DAt B5 18 (.ifCond .ne 7) 3 21 := ⟨by decide +kernel, rfl⟩
theorem d5_21 : DAt B5 21 (.iconst 1) 1 22 := ⟨by decide +kernel, rfl⟩
theorem d5_22 : DAt B5 22 (.goto 4) 3 25 := ⟨by decide +kernel, rfl⟩
theorem d5_25 : DAt B5 25 (.iconst 0) 1 26 := ⟨by decide +kernel, rfl⟩
theorem d5_26 : DAt B5 26 (.ireturn) 1 27 := ⟨by decide +kernel, rfl⟩
def B9 : Bdy := ((⟨"XorGaussSat", "findPivot", "(I)I"⟩ : MethodName), prog_1_method_30_code, 4, (some .int), ({ frames := 0, cells := 0, slots := 0, locals := 0 } : Room))
theorem d9_0 : DAt B9 0 (.iconst 1) 1 1 := ⟨by decide +kernel, rfl⟩
theorem d9_1 : DAt B9 1 (.iload_n 1) 1 2 := ⟨by decide +kernel, rfl⟩
theorem d9_2 : DAt B9 2 (.ishl) 1 3 := ⟨by decide +kernel, rfl⟩
theorem d9_3 : DAt B9 3 (.istore_n 2) 1 4 := ⟨by decide +kernel, rfl⟩
theorem d9_4 : DAt B9 4 (.aload_n 0) 1 5 := ⟨by decide +kernel, rfl⟩
theorem d9_5 : DAt B9 5 (.getfield 141) 3 8 := ⟨by decide +kernel, rfl⟩
theorem d9_8 : DAt B9 8 (.istore_n 3) 1 9 := ⟨by decide +kernel, rfl⟩
theorem d9_9 : DAt B9 9 (.iload_n 3) 1 10 := ⟨by decide +kernel, rfl⟩
theorem d9_10 : DAt B9 10 (.aload_n 0) 1 11 := ⟨by decide +kernel, rfl⟩
theorem d9_11 : DAt B9 11 (.getfield 154) 3 14 := ⟨by decide +kernel, rfl⟩
theorem d9_14 : DAt B9 14 (.if_icmp .ge 32) 3 17 := ⟨by decide +kernel, rfl⟩
theorem d9_17 : DAt B9 17 (.iload_n 3) 1 18 := ⟨by decide +kernel, rfl⟩
theorem d9_18 : DAt B9 18 (.bipush 16) 2 20 := ⟨by decide +kernel, rfl⟩
theorem d9_20 : DAt B9 20 (.if_icmp .ge 26) 3 23 := ⟨by decide +kernel, rfl⟩
theorem d9_23 : DAt B9 23 (.iload_n 3) 1 24 := ⟨by decide +kernel, rfl⟩
theorem d9_24 : DAt B9 24 (.ifCond .lt 16) 3 27 := ⟨by decide +kernel, rfl⟩
theorem d9_27 : DAt B9 27 (.aload_n 0) 1 28 := ⟨by decide +kernel, rfl⟩
theorem d9_28 : DAt B9 28 (.getfield 41) 3 31 := ⟨by decide +kernel, rfl⟩
theorem d9_31 : DAt B9 31 (.iload_n 3) 1 32 := ⟨by decide +kernel, rfl⟩
theorem d9_32 : DAt B9 32 (.iaload) 1 33 := ⟨by decide +kernel, rfl⟩
theorem d9_33 : DAt B9 33 (.iload_n 2) 1 34 := ⟨by decide +kernel, rfl⟩
theorem d9_34 : DAt B9 34 (.iand) 1 35 := ⟨by decide +kernel, rfl⟩
theorem d9_35 : DAt B9 35 (.ifCond .eq 5) 3 38 := ⟨by decide +kernel, rfl⟩
theorem d9_38 : DAt B9 38 (.iload_n 3) 1 39 := ⟨by decide +kernel, rfl⟩
theorem d9_39 : DAt B9 39 (.ireturn) 1 40 := ⟨by decide +kernel, rfl⟩
theorem d9_40 : DAt B9 40 (.iinc 3 1) 3 43 := ⟨by decide +kernel, rfl⟩
theorem d9_43 : DAt B9 43 (.goto (-34)) 3 46 := ⟨by decide +kernel, rfl⟩
theorem d9_46 : DAt B9 46 (.iconst (-1)) 1 47 := ⟨by decide +kernel, rfl⟩
theorem d9_47 : DAt B9 47 (.ireturn) 1 48 := ⟨by decide +kernel, rfl⟩
def B41 : Bdy := ((⟨"XorGaussSat", "swapRows", "(II)V"⟩ : MethodName), prog_1_method_31_code, 5, none, ({ frames := 0, cells := 0, slots := 0, locals := 0 } : Room))
theorem d41_0 : DAt B41 0 (.iload_n 1) 1 1 := ⟨by decide +kernel, rfl⟩
theorem d41_1 : DAt B41 1 (.iload_n 2) 1 2 := ⟨by decide +kernel, rfl⟩
theorem d41_2 : DAt B41 2 (.if_icmp .eq 23) 3 5 := ⟨by decide +kernel, rfl⟩
theorem d41_5 : DAt B41 5 (.iload_n 1) 1 6 := ⟨by decide +kernel, rfl⟩
theorem d41_6 : DAt B41 6 (.ifCond .lt 19) 3 9 := ⟨by decide +kernel, rfl⟩
theorem d41_9 : DAt B41 9 (.iload_n 2) 1 10 := ⟨by decide +kernel, rfl⟩
theorem d41_10 : DAt B41 10 (.ifCond .lt 15) 3 13 := ⟨by decide +kernel, rfl⟩
theorem d41_13 : DAt B41 13 (.iload_n 1) 1 14 := ⟨by decide +kernel, rfl⟩
theorem d41_14 : DAt B41 14 (.bipush 16) 2 16 := ⟨by decide +kernel, rfl⟩
theorem d41_16 : DAt B41 16 (.if_icmp .ge 9) 3 19 := ⟨by decide +kernel, rfl⟩
theorem d41_19 : DAt B41 19 (.iload_n 2) 1 20 := ⟨by decide +kernel, rfl⟩
theorem d41_20 : DAt B41 20 (.bipush 16) 2 22 := ⟨by decide +kernel, rfl⟩
theorem d41_22 : DAt B41 22 (.if_icmp .lt 4) 3 25 := ⟨by decide +kernel, rfl⟩
theorem d41_25 : DAt B41 25 (.return_) 1 26 := ⟨by decide +kernel, rfl⟩
theorem d41_26 : DAt B41 26 (.aload_n 0) 1 27 := ⟨by decide +kernel, rfl⟩
theorem d41_27 : DAt B41 27 (.getfield 41) 3 30 := ⟨by decide +kernel, rfl⟩
theorem d41_30 : DAt B41 30 (.iload_n 1) 1 31 := ⟨by decide +kernel, rfl⟩
theorem d41_31 : DAt B41 31 (.iaload) 1 32 := ⟨by decide +kernel, rfl⟩
theorem d41_32 : DAt B41 32 (.istore_n 3) 1 33 := ⟨by decide +kernel, rfl⟩
theorem d41_33 : DAt B41 33 (.aload_n 0) 1 34 := ⟨by decide +kernel, rfl⟩
theorem d41_34 : DAt B41 34 (.getfield 41) 3 37 := ⟨by decide +kernel, rfl⟩
theorem d41_37 : DAt B41 37 (.iload_n 1) 1 38 := ⟨by decide +kernel, rfl⟩
theorem d41_38 : DAt B41 38 (.aload_n 0) 1 39 := ⟨by decide +kernel, rfl⟩
theorem d41_39 : DAt B41 39 (.getfield 41) 3 42 := ⟨by decide +kernel, rfl⟩
theorem d41_42 : DAt B41 42 (.iload_n 2) 1 43 := ⟨by decide +kernel, rfl⟩
theorem d41_43 : DAt B41 43 (.iaload) 1 44 := ⟨by decide +kernel, rfl⟩
theorem d41_44 : DAt B41 44 (.iastore) 1 45 := ⟨by decide +kernel, rfl⟩
theorem d41_45 : DAt B41 45 (.aload_n 0) 1 46 := ⟨by decide +kernel, rfl⟩
theorem d41_46 : DAt B41 46 (.getfield 41) 3 49 := ⟨by decide +kernel, rfl⟩
theorem d41_49 : DAt B41 49 (.iload_n 2) 1 50 := ⟨by decide +kernel, rfl⟩
theorem d41_50 : DAt B41 50 (.iload_n 3) 1 51 := ⟨by decide +kernel, rfl⟩
theorem d41_51 : DAt B41 51 (.iastore) 1 52 := ⟨by decide +kernel, rfl⟩
theorem d41_52 : DAt B41 52 (.aload_n 0) 1 53 := ⟨by decide +kernel, rfl⟩
theorem d41_53 : DAt B41 53 (.getfield 44) 3 56 := ⟨by decide +kernel, rfl⟩
theorem d41_56 : DAt B41 56 (.iload_n 1) 1 57 := ⟨by decide +kernel, rfl⟩
theorem d41_57 : DAt B41 57 (.iaload) 1 58 := ⟨by decide +kernel, rfl⟩
theorem d41_58 : DAt B41 58 (.istore 4) 2 60 := ⟨by decide +kernel, rfl⟩
theorem d41_60 : DAt B41 60 (.aload_n 0) 1 61 := ⟨by decide +kernel, rfl⟩
theorem d41_61 : DAt B41 61 (.getfield 44) 3 64 := ⟨by decide +kernel, rfl⟩
theorem d41_64 : DAt B41 64 (.iload_n 1) 1 65 := ⟨by decide +kernel, rfl⟩
theorem d41_65 : DAt B41 65 (.aload_n 0) 1 66 := ⟨by decide +kernel, rfl⟩
theorem d41_66 : DAt B41 66 (.getfield 44) 3 69 := ⟨by decide +kernel, rfl⟩
theorem d41_69 : DAt B41 69 (.iload_n 2) 1 70 := ⟨by decide +kernel, rfl⟩
theorem d41_70 : DAt B41 70 (.iaload) 1 71 := ⟨by decide +kernel, rfl⟩
theorem d41_71 : DAt B41 71 (.iastore) 1 72 := ⟨by decide +kernel, rfl⟩
theorem d41_72 : DAt B41 72 (.aload_n 0) 1 73 := ⟨by decide +kernel, rfl⟩
theorem d41_73 : DAt B41 73 (.getfield 44) 3 76 := ⟨by decide +kernel, rfl⟩
theorem d41_76 : DAt B41 76 (.iload_n 2) 1 77 := ⟨by decide +kernel, rfl⟩
theorem d41_77 : DAt B41 77 (.iload 4) 2 79 := ⟨by decide +kernel, rfl⟩
theorem d41_79 : DAt B41 79 (.iastore) 1 80 := ⟨by decide +kernel, rfl⟩
theorem d41_80 : DAt B41 80 (.return_) 1 81 := ⟨by decide +kernel, rfl⟩
def B42 : Bdy := ((⟨"XorGaussSat", "clearColumn", "(II)V"⟩ : MethodName), prog_1_method_32_code, 5, none, ({ frames := 0, cells := 0, slots := 0, locals := 0 } : Room))
theorem d42_0 : DAt B42 0 (.iload_n 2) 1 1 := ⟨by decide +kernel, rfl⟩
theorem d42_1 : DAt B42 1 (.ifCond .lt 9) 3 4 := ⟨by decide +kernel, rfl⟩
theorem d42_4 : DAt B42 4 (.iload_n 2) 1 5 := ⟨by decide +kernel, rfl⟩
theorem d42_5 : DAt B42 5 (.bipush 16) 2 7 := ⟨by decide +kernel, rfl⟩
theorem d42_7 : DAt B42 7 (.if_icmp .lt 4) 3 10 := ⟨by decide +kernel, rfl⟩
theorem d42_10 : DAt B42 10 (.return_) 1 11 := ⟨by decide +kernel, rfl⟩
theorem d42_11 : DAt B42 11 (.iconst 1) 1 12 := ⟨by decide +kernel, rfl⟩
theorem d42_12 : DAt B42 12 (.iload_n 1) 1 13 := ⟨by decide +kernel, rfl⟩
theorem d42_13 : DAt B42 13 (.ishl) 1 14 := ⟨by decide +kernel, rfl⟩
theorem d42_14 : DAt B42 14 (.istore_n 3) 1 15 := ⟨by decide +kernel, rfl⟩
theorem d42_15 : DAt B42 15 (.iconst 0) 1 16 := ⟨by decide +kernel, rfl⟩
theorem d42_16 : DAt B42 16 (.istore 4) 2 18 := ⟨by decide +kernel, rfl⟩
theorem d42_18 : DAt B42 18 (.iload 4) 2 20 := ⟨by decide +kernel, rfl⟩
theorem d42_20 : DAt B42 20 (.aload_n 0) 1 21 := ⟨by decide +kernel, rfl⟩
theorem d42_21 : DAt B42 21 (.getfield 154) 3 24 := ⟨by decide +kernel, rfl⟩
theorem d42_24 : DAt B42 24 (.if_icmp .ge 66) 3 27 := ⟨by decide +kernel, rfl⟩
theorem d42_27 : DAt B42 27 (.iload 4) 2 29 := ⟨by decide +kernel, rfl⟩
theorem d42_29 : DAt B42 29 (.bipush 16) 2 31 := ⟨by decide +kernel, rfl⟩
theorem d42_31 : DAt B42 31 (.if_icmp .ge 59) 3 34 := ⟨by decide +kernel, rfl⟩
theorem d42_34 : DAt B42 34 (.iload 4) 2 36 := ⟨by decide +kernel, rfl⟩
theorem d42_36 : DAt B42 36 (.iload_n 2) 1 37 := ⟨by decide +kernel, rfl⟩
theorem d42_37 : DAt B42 37 (.if_icmp .eq 47) 3 40 := ⟨by decide +kernel, rfl⟩
theorem d42_40 : DAt B42 40 (.aload_n 0) 1 41 := ⟨by decide +kernel, rfl⟩
theorem d42_41 : DAt B42 41 (.getfield 41) 3 44 := ⟨by decide +kernel, rfl⟩
theorem d42_44 : DAt B42 44 (.iload 4) 2 46 := ⟨by decide +kernel, rfl⟩
theorem d42_46 : DAt B42 46 (.iaload) 1 47 := ⟨by decide +kernel, rfl⟩
theorem d42_47 : DAt B42 47 (.iload_n 3) 1 48 := ⟨by decide +kernel, rfl⟩
theorem d42_48 : DAt B42 48 (.iand) 1 49 := ⟨by decide +kernel, rfl⟩
theorem d42_49 : DAt B42 49 (.ifCond .eq 35) 3 52 := ⟨by decide +kernel, rfl⟩
theorem d42_52 : DAt B42 52 (.aload_n 0) 1 53 := ⟨by decide +kernel, rfl⟩
theorem d42_53 : DAt B42 53 (.getfield 41) 3 56 := ⟨by decide +kernel, rfl⟩
theorem d42_56 : DAt B42 56 (.iload 4) 2 58 := ⟨by decide +kernel, rfl⟩
theorem d42_58 : DAt B42 58 (.dup2) 1 59 := ⟨by decide +kernel, rfl⟩
theorem d42_59 : DAt B42 59 (.iaload) 1 60 := ⟨by decide +kernel, rfl⟩
theorem d42_60 : DAt B42 60 (.aload_n 0) 1 61 := ⟨by decide +kernel, rfl⟩
theorem d42_61 : DAt B42 61 (.getfield 41) 3 64 := ⟨by decide +kernel, rfl⟩
theorem d42_64 : DAt B42 64 (.iload_n 2) 1 65 := ⟨by decide +kernel, rfl⟩
theorem d42_65 : DAt B42 65 (.iaload) 1 66 := ⟨by decide +kernel, rfl⟩
theorem d42_66 : DAt B42 66 (.ixor) 1 67 := ⟨by decide +kernel, rfl⟩
theorem d42_67 : DAt B42 67 (.iastore) 1 68 := ⟨by decide +kernel, rfl⟩
theorem d42_68 : DAt B42 68 (.aload_n 0) 1 69 := ⟨by decide +kernel, rfl⟩
theorem d42_69 : DAt B42 69 (.getfield 44) 3 72 := ⟨by decide +kernel, rfl⟩
theorem d42_72 : DAt B42 72 (.iload 4) 2 74 := ⟨by decide +kernel, rfl⟩
theorem d42_74 : DAt B42 74 (.dup2) 1 75 := ⟨by decide +kernel, rfl⟩
theorem d42_75 : DAt B42 75 (.iaload) 1 76 := ⟨by decide +kernel, rfl⟩
theorem d42_76 : DAt B42 76 (.aload_n 0) 1 77 := ⟨by decide +kernel, rfl⟩
theorem d42_77 : DAt B42 77 (.getfield 44) 3 80 := ⟨by decide +kernel, rfl⟩
theorem d42_80 : DAt B42 80 (.iload_n 2) 1 81 := ⟨by decide +kernel, rfl⟩
theorem d42_81 : DAt B42 81 (.iaload) 1 82 := ⟨by decide +kernel, rfl⟩
theorem d42_82 : DAt B42 82 (.ixor) 1 83 := ⟨by decide +kernel, rfl⟩
theorem d42_83 : DAt B42 83 (.iastore) 1 84 := ⟨by decide +kernel, rfl⟩
theorem d42_84 : DAt B42 84 (.iinc 4 1) 3 87 := ⟨by decide +kernel, rfl⟩
theorem d42_87 : DAt B42 87 (.goto (-69)) 3 90 := ⟨by decide +kernel, rfl⟩
theorem d42_90 : DAt B42 90 (.return_) 1 91 := ⟨by decide +kernel, rfl⟩
def B8 : Bdy := ((⟨"XorGaussSat", "eliminate", "()V"⟩ : MethodName), prog_1_method_29_code, 3, none, ({ frames := 1, cells := 0, slots := 0, locals := 16 } : Room))
theorem d8_0 : DAt B8 0 (.aload_n 0) 1 1 := ⟨by decide +kernel, rfl⟩
theorem d8_1 : DAt B8 1 (.iconst 0) 1 2 := ⟨by decide +kernel, rfl⟩
theorem d8_2 : DAt B8 2 (.putfield 141) 3 5 := ⟨by decide +kernel, rfl⟩
theorem d8_5 : DAt B8 5 (.iconst 0) 1 6 := ⟨by decide +kernel, rfl⟩
theorem d8_6 : DAt B8 6 (.istore_n 1) 1 7 := ⟨by decide +kernel, rfl⟩
theorem d8_7 : DAt B8 7 (.iload_n 1) 1 8 := ⟨by decide +kernel, rfl⟩
theorem d8_8 : DAt B8 8 (.aload_n 0) 1 9 := ⟨by decide +kernel, rfl⟩
theorem d8_9 : DAt B8 9 (.getfield 62) 3 12 := ⟨by decide +kernel, rfl⟩
theorem d8_12 : DAt B8 12 (.if_icmp .ge 72) 3 15 := ⟨by decide +kernel, rfl⟩
theorem d8_15 : DAt B8 15 (.iload_n 1) 1 16 := ⟨by decide +kernel, rfl⟩
theorem d8_16 : DAt B8 16 (.bipush 12) 2 18 := ⟨by decide +kernel, rfl⟩
theorem d8_18 : DAt B8 18 (.if_icmp .ge 66) 3 21 := ⟨by decide +kernel, rfl⟩
theorem d8_21 : DAt B8 21 (.aload_n 0) 1 22 := ⟨by decide +kernel, rfl⟩
theorem d8_22 : DAt B8 22 (.iload_n 1) 1 23 := ⟨by decide +kernel, rfl⟩
theorem d8_23 : DAt B8 23 (.invokevirtual 144) 3 26 := ⟨by decide +kernel, rfl⟩
theorem d8_26 : DAt B8 26 (.istore_n 2) 1 27 := ⟨by decide +kernel, rfl⟩
theorem d8_27 : DAt B8 27 (.iload_n 2) 1 28 := ⟨by decide +kernel, rfl⟩
theorem d8_28 : DAt B8 28 (.ifCond .lt 50) 3 31 := ⟨by decide +kernel, rfl⟩
theorem d8_31 : DAt B8 31 (.aload_n 0) 1 32 := ⟨by decide +kernel, rfl⟩
theorem d8_32 : DAt B8 32 (.getfield 141) 3 35 := ⟨by decide +kernel, rfl⟩
theorem d8_35 : DAt B8 35 (.bipush 16) 2 37 := ⟨by decide +kernel, rfl⟩
theorem d8_37 : DAt B8 37 (.if_icmp .ge 41) 3 40 := ⟨by decide +kernel, rfl⟩
theorem d8_40 : DAt B8 40 (.aload_n 0) 1 41 := ⟨by decide +kernel, rfl⟩
theorem d8_41 : DAt B8 41 (.iload_n 2) 1 42 := ⟨by decide +kernel, rfl⟩
theorem d8_42 : DAt B8 42 (.aload_n 0) 1 43 := ⟨by decide +kernel, rfl⟩
theorem d8_43 : DAt B8 43 (.getfield 141) 3 46 := ⟨by decide +kernel, rfl⟩
theorem d8_46 : DAt B8 46 (.invokevirtual 147) 3 49 := ⟨by decide +kernel, rfl⟩
theorem d8_49 : DAt B8 49 (.aload_n 0) 1 50 := ⟨by decide +kernel, rfl⟩
theorem d8_50 : DAt B8 50 (.iload_n 1) 1 51 := ⟨by decide +kernel, rfl⟩
theorem d8_51 : DAt B8 51 (.aload_n 0) 1 52 := ⟨by decide +kernel, rfl⟩
theorem d8_52 : DAt B8 52 (.getfield 141) 3 55 := ⟨by decide +kernel, rfl⟩
theorem d8_55 : DAt B8 55 (.invokevirtual 151) 3 58 := ⟨by decide +kernel, rfl⟩
theorem d8_58 : DAt B8 58 (.aload_n 0) 1 59 := ⟨by decide +kernel, rfl⟩
theorem d8_59 : DAt B8 59 (.getfield 47) 3 62 := ⟨by decide +kernel, rfl⟩
theorem d8_62 : DAt B8 62 (.aload_n 0) 1 63 := ⟨by decide +kernel, rfl⟩
theorem d8_63 : DAt B8 63 (.getfield 141) 3 66 := ⟨by decide +kernel, rfl⟩
theorem d8_66 : DAt B8 66 (.iload_n 1) 1 67 := ⟨by decide +kernel, rfl⟩
theorem d8_67 : DAt B8 67 (.iastore) 1 68 := ⟨by decide +kernel, rfl⟩
theorem d8_68 : DAt B8 68 (.aload_n 0) 1 69 := ⟨by decide +kernel, rfl⟩
theorem d8_69 : DAt B8 69 (.dup) 1 70 := ⟨by decide +kernel, rfl⟩
theorem d8_70 : DAt B8 70 (.getfield 141) 3 73 := ⟨by decide +kernel, rfl⟩
theorem d8_73 : DAt B8 73 (.iconst 1) 1 74 := ⟨by decide +kernel, rfl⟩
theorem d8_74 : DAt B8 74 (.iadd) 1 75 := ⟨by decide +kernel, rfl⟩
theorem d8_75 : DAt B8 75 (.putfield 141) 3 78 := ⟨by decide +kernel, rfl⟩
theorem d8_78 : DAt B8 78 (.iinc 1 1) 3 81 := ⟨by decide +kernel, rfl⟩
theorem d8_81 : DAt B8 81 (.goto (-74)) 3 84 := ⟨by decide +kernel, rfl⟩
theorem d8_84 : DAt B8 84 (.return_) 1 85 := ⟨by decide +kernel, rfl⟩
def B10 : Bdy := ((⟨"XorGaussSat", "scratchConsistent", "()Z"⟩ : MethodName), prog_1_method_33_code, 2, (some .boolean), ({ frames := 0, cells := 0, slots := 0, locals := 0 } : Room))
theorem d10_0 : DAt B10 0 (.iconst 0) 1 1 := ⟨by decide +kernel, rfl⟩
theorem d10_1 : DAt B10 1 (.istore_n 1) 1 2 := ⟨by decide +kernel, rfl⟩
theorem d10_2 : DAt B10 2 (.iload_n 1) 1 3 := ⟨by decide +kernel, rfl⟩
theorem d10_3 : DAt B10 3 (.aload_n 0) 1 4 := ⟨by decide +kernel, rfl⟩
theorem d10_4 : DAt B10 4 (.getfield 154) 3 7 := ⟨by decide +kernel, rfl⟩
theorem d10_7 : DAt B10 7 (.if_icmp .ge 35) 3 10 := ⟨by decide +kernel, rfl⟩
theorem d10_10 : DAt B10 10 (.iload_n 1) 1 11 := ⟨by decide +kernel, rfl⟩
theorem d10_11 : DAt B10 11 (.bipush 16) 2 13 := ⟨by decide +kernel, rfl⟩
theorem d10_13 : DAt B10 13 (.if_icmp .ge 29) 3 16 := ⟨by decide +kernel, rfl⟩
theorem d10_16 : DAt B10 16 (.aload_n 0) 1 17 := ⟨by decide +kernel, rfl⟩
theorem d10_17 : DAt B10 17 (.getfield 41) 3 20 := ⟨by decide +kernel, rfl⟩
theorem d10_20 : DAt B10 20 (.iload_n 1) 1 21 := ⟨by decide +kernel, rfl⟩
theorem d10_21 : DAt B10 21 (.iaload) 1 22 := ⟨by decide +kernel, rfl⟩
theorem d10_22 : DAt B10 22 (.ifCond .ne 14) 3 25 := ⟨by decide +kernel, rfl⟩
theorem d10_25 : DAt B10 25 (.aload_n 0) 1 26 := ⟨by decide +kernel, rfl⟩
theorem d10_26 : DAt B10 26 (.getfield 44) 3 29 := ⟨by decide +kernel, rfl⟩
theorem d10_29 : DAt B10 29 (.iload_n 1) 1 30 := ⟨by decide +kernel, rfl⟩
theorem d10_30 : DAt B10 30 (.iaload) 1 31 := ⟨by decide +kernel, rfl⟩
theorem d10_31 : DAt B10 31 (.ifCond .eq 5) 3 34 := ⟨by decide +kernel, rfl⟩
theorem d10_34 : DAt B10 34 (.iconst 0) 1 35 := ⟨by decide +kernel, rfl⟩
theorem d10_35 : DAt B10 35 (.ireturn) 1 36 := ⟨by decide +kernel, rfl⟩
theorem d10_36 : DAt B10 36 (.iinc 1 1) 3 39 := ⟨by decide +kernel, rfl⟩
theorem d10_39 : DAt B10 39 (.goto (-37)) 3 42 := ⟨by decide +kernel, rfl⟩
theorem d10_42 : DAt B10 42 (.iconst 1) 1 43 := ⟨by decide +kernel, rfl⟩
theorem d10_43 : DAt B10 43 (.ireturn) 1 44 := ⟨by decide +kernel, rfl⟩
def B7 : Bdy := ((⟨"XorGaussSat", "ensureEchelon", "()V"⟩ : MethodName), prog_1_method_34_code, 2, none, ({ frames := 2, cells := 0, slots := 0, locals := 30 } : Room))
theorem d7_0 : DAt B7 0 (.aload_n 0) 1 1 := ⟨by decide +kernel, rfl⟩
theorem d7_1 : DAt B7 1 (.getfield 87) 3 4 := ⟨by decide +kernel, rfl⟩
theorem d7_4 : DAt B7 4 (.ifCond .eq 4) 3 7 := ⟨by decide +kernel, rfl⟩
theorem d7_7 : DAt B7 7 (.return_) 1 8 := ⟨by decide +kernel, rfl⟩
theorem d7_8 : DAt B7 8 (.aload_n 0) 1 9 := ⟨by decide +kernel, rfl⟩
theorem d7_9 : DAt B7 9 (.iconst 0) 1 10 := ⟨by decide +kernel, rfl⟩
theorem d7_10 : DAt B7 10 (.putfield 154) 3 13 := ⟨by decide +kernel, rfl⟩
theorem d7_13 : DAt B7 13 (.iconst 0) 1 14 := ⟨by decide +kernel, rfl⟩
theorem d7_14 : DAt B7 14 (.istore_n 1) 1 15 := ⟨by decide +kernel, rfl⟩
theorem d7_15 : DAt B7 15 (.iload_n 1) 1 16 := ⟨by decide +kernel, rfl⟩
theorem d7_16 : DAt B7 16 (.aload_n 0) 1 17 := ⟨by decide +kernel, rfl⟩
theorem d7_17 : DAt B7 17 (.getfield 81) 3 20 := ⟨by decide +kernel, rfl⟩
theorem d7_20 : DAt B7 20 (.if_icmp .ge 49) 3 23 := ⟨by decide +kernel, rfl⟩
theorem d7_23 : DAt B7 23 (.iload_n 1) 1 24 := ⟨by decide +kernel, rfl⟩
theorem d7_24 : DAt B7 24 (.bipush 16) 2 26 := ⟨by decide +kernel, rfl⟩
theorem d7_26 : DAt B7 26 (.if_icmp .ge 43) 3 29 := ⟨by decide +kernel, rfl⟩
theorem d7_29 : DAt B7 29 (.aload_n 0) 1 30 := ⟨by decide +kernel, rfl⟩
theorem d7_30 : DAt B7 30 (.getfield 41) 3 33 := ⟨by decide +kernel, rfl⟩
theorem d7_33 : DAt B7 33 (.iload_n 1) 1 34 := ⟨by decide +kernel, rfl⟩
theorem d7_34 : DAt B7 34 (.aload_n 0) 1 35 := ⟨by decide +kernel, rfl⟩
theorem d7_35 : DAt B7 35 (.getfield 23) 3 38 := ⟨by decide +kernel, rfl⟩
theorem d7_38 : DAt B7 38 (.iload_n 1) 1 39 := ⟨by decide +kernel, rfl⟩
theorem d7_39 : DAt B7 39 (.iaload) 1 40 := ⟨by decide +kernel, rfl⟩
theorem d7_40 : DAt B7 40 (.iastore) 1 41 := ⟨by decide +kernel, rfl⟩
theorem d7_41 : DAt B7 41 (.aload_n 0) 1 42 := ⟨by decide +kernel, rfl⟩
theorem d7_42 : DAt B7 42 (.getfield 44) 3 45 := ⟨by decide +kernel, rfl⟩
theorem d7_45 : DAt B7 45 (.iload_n 1) 1 46 := ⟨by decide +kernel, rfl⟩
theorem d7_46 : DAt B7 46 (.aload_n 0) 1 47 := ⟨by decide +kernel, rfl⟩
theorem d7_47 : DAt B7 47 (.getfield 26) 3 50 := ⟨by decide +kernel, rfl⟩
theorem d7_50 : DAt B7 50 (.iload_n 1) 1 51 := ⟨by decide +kernel, rfl⟩
theorem d7_51 : DAt B7 51 (.iaload) 1 52 := ⟨by decide +kernel, rfl⟩
theorem d7_52 : DAt B7 52 (.iastore) 1 53 := ⟨by decide +kernel, rfl⟩
theorem d7_53 : DAt B7 53 (.aload_n 0) 1 54 := ⟨by decide +kernel, rfl⟩
theorem d7_54 : DAt B7 54 (.dup) 1 55 := ⟨by decide +kernel, rfl⟩
theorem d7_55 : DAt B7 55 (.getfield 154) 3 58 := ⟨by decide +kernel, rfl⟩
theorem d7_58 : DAt B7 58 (.iconst 1) 1 59 := ⟨by decide +kernel, rfl⟩
theorem d7_59 : DAt B7 59 (.iadd) 1 60 := ⟨by decide +kernel, rfl⟩
theorem d7_60 : DAt B7 60 (.putfield 154) 3 63 := ⟨by decide +kernel, rfl⟩
theorem d7_63 : DAt B7 63 (.iinc 1 1) 3 66 := ⟨by decide +kernel, rfl⟩
theorem d7_66 : DAt B7 66 (.goto (-51)) 3 69 := ⟨by decide +kernel, rfl⟩
theorem d7_69 : DAt B7 69 (.aload_n 0) 1 70 := ⟨by decide +kernel, rfl⟩
theorem d7_70 : DAt B7 70 (.invokevirtual 157) 3 73 := ⟨by decide +kernel, rfl⟩
theorem d7_73 : DAt B7 73 (.aload_n 0) 1 74 := ⟨by decide +kernel, rfl⟩
theorem d7_74 : DAt B7 74 (.aload_n 0) 1 75 := ⟨by decide +kernel, rfl⟩
theorem d7_75 : DAt B7 75 (.invokevirtual 160) 3 78 := ⟨by decide +kernel, rfl⟩
theorem d7_78 : DAt B7 78 (.putfield 91) 3 81 := ⟨by decide +kernel, rfl⟩
theorem d7_81 : DAt B7 81 (.aload_n 0) 1 82 := ⟨by decide +kernel, rfl⟩
theorem d7_82 : DAt B7 82 (.iconst 0) 1 83 := ⟨by decide +kernel, rfl⟩
theorem d7_83 : DAt B7 83 (.putfield 94) 3 86 := ⟨by decide +kernel, rfl⟩
theorem d7_86 : DAt B7 86 (.iconst 0) 1 87 := ⟨by decide +kernel, rfl⟩
theorem d7_87 : DAt B7 87 (.istore_n 1) 1 88 := ⟨by decide +kernel, rfl⟩
theorem d7_88 : DAt B7 88 (.iload_n 1) 1 89 := ⟨by decide +kernel, rfl⟩
theorem d7_89 : DAt B7 89 (.aload_n 0) 1 90 := ⟨by decide +kernel, rfl⟩
theorem d7_90 : DAt B7 90 (.getfield 141) 3 93 := ⟨by decide +kernel, rfl⟩
theorem d7_93 : DAt B7 93 (.if_icmp .ge 61) 3 96 := ⟨by decide +kernel, rfl⟩
theorem d7_96 : DAt B7 96 (.iload_n 1) 1 97 := ⟨by decide +kernel, rfl⟩
theorem d7_97 : DAt B7 97 (.bipush 16) 2 99 := ⟨by decide +kernel, rfl⟩
theorem d7_99 : DAt B7 99 (.if_icmp .ge 55) 3 102 := ⟨by decide +kernel, rfl⟩
theorem d7_102 : DAt B7 102 (.aload_n 0) 1 103 := ⟨by decide +kernel, rfl⟩
theorem d7_103 : DAt B7 103 (.getfield 32) 3 106 := ⟨by decide +kernel, rfl⟩
theorem d7_106 : DAt B7 106 (.iload_n 1) 1 107 := ⟨by decide +kernel, rfl⟩
theorem d7_107 : DAt B7 107 (.aload_n 0) 1 108 := ⟨by decide +kernel, rfl⟩
theorem d7_108 : DAt B7 108 (.getfield 41) 3 111 := ⟨by decide +kernel, rfl⟩
theorem d7_111 : DAt B7 111 (.iload_n 1) 1 112 := ⟨by decide +kernel, rfl⟩
theorem d7_112 : DAt B7 112 (.iaload) 1 113 := ⟨by decide +kernel, rfl⟩
theorem d7_113 : DAt B7 113 (.iastore) 1 114 := ⟨by decide +kernel, rfl⟩
theorem d7_114 : DAt B7 114 (.aload_n 0) 1 115 := ⟨by decide +kernel, rfl⟩
theorem d7_115 : DAt B7 115 (.getfield 35) 3 118 := ⟨by decide +kernel, rfl⟩
theorem d7_118 : DAt B7 118 (.iload_n 1) 1 119 := ⟨by decide +kernel, rfl⟩
theorem d7_119 : DAt B7 119 (.aload_n 0) 1 120 := ⟨by decide +kernel, rfl⟩
theorem d7_120 : DAt B7 120 (.getfield 44) 3 123 := ⟨by decide +kernel, rfl⟩
theorem d7_123 : DAt B7 123 (.iload_n 1) 1 124 := ⟨by decide +kernel, rfl⟩
theorem d7_124 : DAt B7 124 (.iaload) 1 125 := ⟨by decide +kernel, rfl⟩
theorem d7_125 : DAt B7 125 (.iastore) 1 126 := ⟨by decide +kernel, rfl⟩
theorem d7_126 : DAt B7 126 (.aload_n 0) 1 127 := ⟨by decide +kernel, rfl⟩
theorem d7_127 : DAt B7 127 (.getfield 38) 3 130 := ⟨by decide +kernel, rfl⟩
theorem d7_130 : DAt B7 130 (.iload_n 1) 1 131 := ⟨by decide +kernel, rfl⟩
theorem d7_131 : DAt B7 131 (.aload_n 0) 1 132 := ⟨by decide +kernel, rfl⟩
theorem d7_132 : DAt B7 132 (.getfield 47) 3 135 := ⟨by decide +kernel, rfl⟩
theorem d7_135 : DAt B7 135 (.iload_n 1) 1 136 := ⟨by decide +kernel, rfl⟩
theorem d7_136 : DAt B7 136 (.iaload) 1 137 := ⟨by decide +kernel, rfl⟩
theorem d7_137 : DAt B7 137 (.iastore) 1 138 := ⟨by decide +kernel, rfl⟩
theorem d7_138 : DAt B7 138 (.aload_n 0) 1 139 := ⟨by decide +kernel, rfl⟩
theorem d7_139 : DAt B7 139 (.dup) 1 140 := ⟨by decide +kernel, rfl⟩
theorem d7_140 : DAt B7 140 (.getfield 94) 3 143 := ⟨by decide +kernel, rfl⟩
theorem d7_143 : DAt B7 143 (.iconst 1) 1 144 := ⟨by decide +kernel, rfl⟩
theorem d7_144 : DAt B7 144 (.iadd) 1 145 := ⟨by decide +kernel, rfl⟩
theorem d7_145 : DAt B7 145 (.putfield 94) 3 148 := ⟨by decide +kernel, rfl⟩
theorem d7_148 : DAt B7 148 (.iinc 1 1) 3 151 := ⟨by decide +kernel, rfl⟩
theorem d7_151 : DAt B7 151 (.goto (-63)) 3 154 := ⟨by decide +kernel, rfl⟩
theorem d7_154 : DAt B7 154 (.aload_n 0) 1 155 := ⟨by decide +kernel, rfl⟩
theorem d7_155 : DAt B7 155 (.iconst 1) 1 156 := ⟨by decide +kernel, rfl⟩
theorem d7_156 : DAt B7 156 (.putfield 87) 3 159 := ⟨by decide +kernel, rfl⟩
theorem d7_159 : DAt B7 159 (.return_) 1 160 := ⟨by decide +kernel, rfl⟩
def B11 : Bdy := ((⟨"XorGaussSat", "echPivotMask", "()I"⟩ : MethodName), prog_1_method_35_code, 3, (some .int), ({ frames := 0, cells := 0, slots := 0, locals := 0 } : Room))
theorem d11_0 : DAt B11 0 (.iconst 0) 1 1 := ⟨by decide +kernel, rfl⟩
theorem d11_1 : DAt B11 1 (.istore_n 1) 1 2 := ⟨by decide +kernel, rfl⟩
theorem d11_2 : DAt B11 2 (.iconst 0) 1 3 := ⟨by decide +kernel, rfl⟩
theorem d11_3 : DAt B11 3 (.istore_n 2) 1 4 := ⟨by decide +kernel, rfl⟩
theorem d11_4 : DAt B11 4 (.iload_n 2) 1 5 := ⟨by decide +kernel, rfl⟩
theorem d11_5 : DAt B11 5 (.aload_n 0) 1 6 := ⟨by decide +kernel, rfl⟩
theorem d11_6 : DAt B11 6 (.getfield 94) 3 9 := ⟨by decide +kernel, rfl⟩
theorem d11_9 : DAt B11 9 (.if_icmp .ge 26) 3 12 := ⟨by decide +kernel, rfl⟩
theorem d11_12 : DAt B11 12 (.iload_n 2) 1 13 := ⟨by decide +kernel, rfl⟩
theorem d11_13 : DAt B11 13 (.bipush 16) 2 15 := ⟨by decide +kernel, rfl⟩
theorem d11_15 : DAt B11 15 (.if_icmp .ge 20) 3 18 := ⟨by decide +kernel, rfl⟩
theorem d11_18 : DAt B11 18 (.iload_n 1) 1 19 := ⟨by decide +kernel, rfl⟩
theorem d11_19 : DAt B11 19 (.iconst 1) 1 20 := ⟨by decide +kernel, rfl⟩
theorem d11_20 : DAt B11 20 (.aload_n 0) 1 21 := ⟨by decide +kernel, rfl⟩
theorem d11_21 : DAt B11 21 (.getfield 38) 3 24 := ⟨by decide +kernel, rfl⟩
theorem d11_24 : DAt B11 24 (.iload_n 2) 1 25 := ⟨by decide +kernel, rfl⟩
theorem d11_25 : DAt B11 25 (.iaload) 1 26 := ⟨by decide +kernel, rfl⟩
theorem d11_26 : DAt B11 26 (.ishl) 1 27 := ⟨by decide +kernel, rfl⟩
theorem d11_27 : DAt B11 27 (.ior) 1 28 := ⟨by decide +kernel, rfl⟩
theorem d11_28 : DAt B11 28 (.istore_n 1) 1 29 := ⟨by decide +kernel, rfl⟩
theorem d11_29 : DAt B11 29 (.iinc 2 1) 3 32 := ⟨by decide +kernel, rfl⟩
theorem d11_32 : DAt B11 32 (.goto (-28)) 3 35 := ⟨by decide +kernel, rfl⟩
theorem d11_35 : DAt B11 35 (.iload_n 1) 1 36 := ⟨by decide +kernel, rfl⟩
theorem d11_36 : DAt B11 36 (.aload_n 0) 1 37 := ⟨by decide +kernel, rfl⟩
theorem d11_37 : DAt B11 37 (.getfield 66) 3 40 := ⟨by decide +kernel, rfl⟩
theorem d11_40 : DAt B11 40 (.iand) 1 41 := ⟨by decide +kernel, rfl⟩
theorem d11_41 : DAt B11 41 (.ireturn) 1 42 := ⟨by decide +kernel, rfl⟩
def B12 : Bdy := ((⟨"XorGaussSat", "bitCount", "(I)I"⟩ : MethodName), prog_1_method_26_code, 5, (some .int), ({ frames := 0, cells := 0, slots := 0, locals := 0 } : Room))
theorem d12_0 : DAt B12 0 (.iload_n 1) 1 1 := ⟨by decide +kernel, rfl⟩
theorem d12_1 : DAt B12 1 (.istore_n 2) 1 2 := ⟨by decide +kernel, rfl⟩
theorem d12_2 : DAt B12 2 (.iconst 0) 1 3 := ⟨by decide +kernel, rfl⟩
theorem d12_3 : DAt B12 3 (.istore_n 3) 1 4 := ⟨by decide +kernel, rfl⟩
theorem d12_4 : DAt B12 4 (.iconst 0) 1 5 := ⟨by decide +kernel, rfl⟩
theorem d12_5 : DAt B12 5 (.istore 4) 2 7 := ⟨by decide +kernel, rfl⟩
theorem d12_7 : DAt B12 7 (.iload 4) 2 9 := ⟨by decide +kernel, rfl⟩
theorem d12_9 : DAt B12 9 (.bipush 32) 2 11 := ⟨by decide +kernel, rfl⟩
theorem d12_11 : DAt B12 11 (.if_icmp .ge 22) 3 14 := ⟨by decide +kernel, rfl⟩
theorem d12_14 : DAt B12 14 (.iload_n 2) 1 15 := ⟨by decide +kernel, rfl⟩
theorem d12_15 : DAt B12 15 (.ifCond .eq 18) 3 18 := ⟨by decide +kernel, rfl⟩
theorem d12_18 : DAt B12 18 (.iload_n 2) 1 19 := ⟨by decide +kernel, rfl⟩
theorem d12_19 : DAt B12 19 (.iload_n 2) 1 20 := ⟨by decide +kernel, rfl⟩
theorem d12_20 : DAt B12 20 (.iconst 1) 1 21 := ⟨by decide +kernel, rfl⟩
theorem d12_21 : DAt B12 21 (.isub) 1 22 := ⟨by decide +kernel, rfl⟩
theorem d12_22 : DAt B12 22 (.iand) 1 23 := ⟨by decide +kernel, rfl⟩
theorem d12_23 : DAt B12 23 (.istore_n 2) 1 24 := ⟨by decide +kernel, rfl⟩
theorem d12_24 : DAt B12 24 (.iinc 3 1) 3 27 := ⟨by decide +kernel, rfl⟩
theorem d12_27 : DAt B12 27 (.iinc 4 1) 3 30 := ⟨by decide +kernel, rfl⟩
theorem d12_30 : DAt B12 30 (.goto (-23)) 3 33 := ⟨by decide +kernel, rfl⟩
theorem d12_33 : DAt B12 33 (.iload_n 3) 1 34 := ⟨by decide +kernel, rfl⟩
theorem d12_34 : DAt B12 34 (.ireturn) 1 35 := ⟨by decide +kernel, rfl⟩
def B31 : Bdy := ((⟨"XorGaussSat", "completeFromFree", "(I)I"⟩ : MethodName), prog_1_method_36_code, 7, (some .int), ({ frames := 1, cells := 0, slots := 0, locals := 15 } : Room))
theorem d31_0 : DAt B31 0 (.iload_n 1) 1 1 := ⟨by decide +kernel, rfl⟩
theorem d31_1 : DAt B31 1 (.istore_n 2) 1 2 := ⟨by decide +kernel, rfl⟩
theorem d31_2 : DAt B31 2 (.iconst 0) 1 3 := ⟨by decide +kernel, rfl⟩
theorem d31_3 : DAt B31 3 (.istore_n 3) 1 4 := ⟨by decide +kernel, rfl⟩
theorem d31_4 : DAt B31 4 (.iload_n 3) 1 5 := ⟨by decide +kernel, rfl⟩
theorem d31_5 : DAt B31 5 (.aload_n 0) 1 6 := ⟨by decide +kernel, rfl⟩
theorem d31_6 : DAt B31 6 (.getfield 94) 3 9 := ⟨by decide +kernel, rfl⟩
theorem d31_9 : DAt B31 9 (.if_icmp .ge 67) 3 12 := ⟨by decide +kernel, rfl⟩
theorem d31_12 : DAt B31 12 (.iload_n 3) 1 13 := ⟨by decide +kernel, rfl⟩
theorem d31_13 : DAt B31 13 (.bipush 16) 2 15 := ⟨by decide +kernel, rfl⟩
theorem d31_15 : DAt B31 15 (.if_icmp .ge 61) 3 18 := ⟨by decide +kernel, rfl⟩
theorem d31_18 : DAt B31 18 (.aload_n 0) 1 19 := ⟨by decide +kernel, rfl⟩
theorem d31_19 : DAt B31 19 (.getfield 38) 3 22 := ⟨by decide +kernel, rfl⟩
theorem d31_22 : DAt B31 22 (.iload_n 3) 1 23 := ⟨by decide +kernel, rfl⟩
theorem d31_23 : DAt B31 23 (.iaload) 1 24 := ⟨by decide +kernel, rfl⟩
theorem d31_24 : DAt B31 24 (.istore 4) 2 26 := ⟨by decide +kernel, rfl⟩
theorem d31_26 : DAt B31 26 (.aload_n 0) 1 27 := ⟨by decide +kernel, rfl⟩
theorem d31_27 : DAt B31 27 (.getfield 32) 3 30 := ⟨by decide +kernel, rfl⟩
theorem d31_30 : DAt B31 30 (.iload_n 3) 1 31 := ⟨by decide +kernel, rfl⟩
theorem d31_31 : DAt B31 31 (.iaload) 1 32 := ⟨by decide +kernel, rfl⟩
theorem d31_32 : DAt B31 32 (.iconst 1) 1 33 := ⟨by decide +kernel, rfl⟩
theorem d31_33 : DAt B31 33 (.iload 4) 2 35 := ⟨by decide +kernel, rfl⟩
theorem d31_35 : DAt B31 35 (.ishl) 1 36 := ⟨by decide +kernel, rfl⟩
theorem d31_36 : DAt B31 36 (.iconst (-1)) 1 37 := ⟨by decide +kernel, rfl⟩
theorem d31_37 : DAt B31 37 (.ixor) 1 38 := ⟨by decide +kernel, rfl⟩
theorem d31_38 : DAt B31 38 (.iand) 1 39 := ⟨by decide +kernel, rfl⟩
theorem d31_39 : DAt B31 39 (.istore 5) 2 41 := ⟨by decide +kernel, rfl⟩
theorem d31_41 : DAt B31 41 (.aload_n 0) 1 42 := ⟨by decide +kernel, rfl⟩
theorem d31_42 : DAt B31 42 (.getfield 35) 3 45 := ⟨by decide +kernel, rfl⟩
theorem d31_45 : DAt B31 45 (.iload_n 3) 1 46 := ⟨by decide +kernel, rfl⟩
theorem d31_46 : DAt B31 46 (.iaload) 1 47 := ⟨by decide +kernel, rfl⟩
theorem d31_47 : DAt B31 47 (.aload_n 0) 1 48 := ⟨by decide +kernel, rfl⟩
theorem d31_48 : DAt B31 48 (.iload 5) 2 50 := ⟨by decide +kernel, rfl⟩
theorem d31_50 : DAt B31 50 (.iload_n 1) 1 51 := ⟨by decide +kernel, rfl⟩
theorem d31_51 : DAt B31 51 (.iand) 1 52 := ⟨by decide +kernel, rfl⟩
theorem d31_52 : DAt B31 52 (.invokevirtual 138) 3 55 := ⟨by decide +kernel, rfl⟩
theorem d31_55 : DAt B31 55 (.ixor) 1 56 := ⟨by decide +kernel, rfl⟩
theorem d31_56 : DAt B31 56 (.istore 6) 2 58 := ⟨by decide +kernel, rfl⟩
theorem d31_58 : DAt B31 58 (.iload 6) 2 60 := ⟨by decide +kernel, rfl⟩
theorem d31_60 : DAt B31 60 (.ifCond .eq 10) 3 63 := ⟨by decide +kernel, rfl⟩
theorem d31_63 : DAt B31 63 (.iload_n 2) 1 64 := ⟨by decide +kernel, rfl⟩
theorem d31_64 : DAt B31 64 (.iconst 1) 1 65 := ⟨by decide +kernel, rfl⟩
theorem d31_65 : DAt B31 65 (.iload 4) 2 67 := ⟨by decide +kernel, rfl⟩
theorem d31_67 : DAt B31 67 (.ishl) 1 68 := ⟨by decide +kernel, rfl⟩
theorem d31_68 : DAt B31 68 (.ior) 1 69 := ⟨by decide +kernel, rfl⟩
theorem d31_69 : DAt B31 69 (.istore_n 2) 1 70 := ⟨by decide +kernel, rfl⟩
theorem d31_70 : DAt B31 70 (.iinc 3 1) 3 73 := ⟨by decide +kernel, rfl⟩
theorem d31_73 : DAt B31 73 (.goto (-69)) 3 76 := ⟨by decide +kernel, rfl⟩
theorem d31_76 : DAt B31 76 (.iload_n 2) 1 77 := ⟨by decide +kernel, rfl⟩
theorem d31_77 : DAt B31 77 (.aload_n 0) 1 78 := ⟨by decide +kernel, rfl⟩
theorem d31_78 : DAt B31 78 (.getfield 66) 3 81 := ⟨by decide +kernel, rfl⟩
theorem d31_81 : DAt B31 81 (.iand) 1 82 := ⟨by decide +kernel, rfl⟩
theorem d31_82 : DAt B31 82 (.ireturn) 1 83 := ⟨by decide +kernel, rfl⟩
def B32 : Bdy := ((⟨"XorGaussSat", "allClausesHold", "(I)Z"⟩ : MethodName), prog_1_method_24_code, 3, (some .boolean), ({ frames := 1, cells := 0, slots := 0, locals := 15 } : Room))
theorem d32_0 : DAt B32 0 (.iconst 0) 1 1 := ⟨by decide +kernel, rfl⟩
theorem d32_1 : DAt B32 1 (.istore_n 2) 1 2 := ⟨by decide +kernel, rfl⟩
theorem d32_2 : DAt B32 2 (.iload_n 2) 1 3 := ⟨by decide +kernel, rfl⟩
theorem d32_3 : DAt B32 3 (.aload_n 0) 1 4 := ⟨by decide +kernel, rfl⟩
theorem d32_4 : DAt B32 4 (.getfield 78) 3 7 := ⟨by decide +kernel, rfl⟩
theorem d32_7 : DAt B32 7 (.if_icmp .ge 26) 3 10 := ⟨by decide +kernel, rfl⟩
theorem d32_10 : DAt B32 10 (.iload_n 2) 1 11 := ⟨by decide +kernel, rfl⟩
theorem d32_11 : DAt B32 11 (.bipush 24) 2 13 := ⟨by decide +kernel, rfl⟩
theorem d32_13 : DAt B32 13 (.if_icmp .ge 20) 3 16 := ⟨by decide +kernel, rfl⟩
theorem d32_16 : DAt B32 16 (.aload_n 0) 1 17 := ⟨by decide +kernel, rfl⟩
theorem d32_17 : DAt B32 17 (.iload_n 2) 1 18 := ⟨by decide +kernel, rfl⟩
theorem d32_18 : DAt B32 18 (.iload_n 1) 1 19 := ⟨by decide +kernel, rfl⟩
theorem d32_19 : DAt B32 19 (.invokevirtual 119) 3 22 := ⟨by decide +kernel, rfl⟩
theorem d32_22 : DAt B32 22 (.ifCond .ne 5) 3 25 := ⟨by decide +kernel, rfl⟩
theorem d32_25 : DAt B32 25 (.iconst 0) 1 26 := ⟨by decide +kernel, rfl⟩
theorem d32_26 : DAt B32 26 (.ireturn) 1 27 := ⟨by decide +kernel, rfl⟩
theorem d32_27 : DAt B32 27 (.iinc 2 1) 3 30 := ⟨by decide +kernel, rfl⟩
theorem d32_30 : DAt B32 30 (.goto (-28)) 3 33 := ⟨by decide +kernel, rfl⟩
theorem d32_33 : DAt B32 33 (.iconst 1) 1 34 := ⟨by decide +kernel, rfl⟩
theorem d32_34 : DAt B32 34 (.ireturn) 1 35 := ⟨by decide +kernel, rfl⟩
def B30 : Bdy := ((⟨"XorGaussSat", "countAffinePoints", "(I)I"⟩ : MethodName), prog_1_method_37_code, 6, (some .int), ({ frames := 2, cells := 0, slots := 0, locals := 33 } : Room))
theorem d30_0 : DAt B30 0 (.iconst 0) 1 1 := ⟨by decide +kernel, rfl⟩
theorem d30_1 : DAt B30 1 (.istore_n 2) 1 2 := ⟨by decide +kernel, rfl⟩
theorem d30_2 : DAt B30 2 (.iconst 0) 1 3 := ⟨by decide +kernel, rfl⟩
theorem d30_3 : DAt B30 3 (.istore_n 3) 1 4 := ⟨by decide +kernel, rfl⟩
theorem d30_4 : DAt B30 4 (.iconst 0) 1 5 := ⟨by decide +kernel, rfl⟩
theorem d30_5 : DAt B30 5 (.istore 4) 2 7 := ⟨by decide +kernel, rfl⟩
theorem d30_7 : DAt B30 7 (.iload 4) 2 9 := ⟨by decide +kernel, rfl⟩
theorem d30_9 : DAt B30 9 (.sipush 4097) 3 12 := ⟨by decide +kernel, rfl⟩
theorem d30_12 : DAt B30 12 (.if_icmp .ge 41) 3 15 := ⟨by decide +kernel, rfl⟩
theorem d30_15 : DAt B30 15 (.aload_n 0) 1 16 := ⟨by decide +kernel, rfl⟩
theorem d30_16 : DAt B30 16 (.iload_n 3) 1 17 := ⟨by decide +kernel, rfl⟩
theorem d30_17 : DAt B30 17 (.invokevirtual 164) 3 20 := ⟨by decide +kernel, rfl⟩
theorem d30_20 : DAt B30 20 (.istore 5) 2 22 := ⟨by decide +kernel, rfl⟩
theorem d30_22 : DAt B30 22 (.aload_n 0) 1 23 := ⟨by decide +kernel, rfl⟩
theorem d30_23 : DAt B30 23 (.iload 5) 2 25 := ⟨by decide +kernel, rfl⟩
theorem d30_25 : DAt B30 25 (.invokevirtual 167) 3 28 := ⟨by decide +kernel, rfl⟩
theorem d30_28 : DAt B30 28 (.ifCond .eq 6) 3 31 := ⟨by decide +kernel, rfl⟩
theorem d30_31 : DAt B30 31 (.iinc 2 1) 3 34 := ⟨by decide +kernel, rfl⟩
theorem d30_34 : DAt B30 34 (.iload_n 3) 1 35 := ⟨by decide +kernel, rfl⟩
theorem d30_35 : DAt B30 35 (.iload_n 1) 1 36 := ⟨by decide +kernel, rfl⟩
theorem d30_36 : DAt B30 36 (.isub) 1 37 := ⟨by decide +kernel, rfl⟩
theorem d30_37 : DAt B30 37 (.iload_n 1) 1 38 := ⟨by decide +kernel, rfl⟩
theorem d30_38 : DAt B30 38 (.iand) 1 39 := ⟨by decide +kernel, rfl⟩
theorem d30_39 : DAt B30 39 (.istore_n 3) 1 40 := ⟨by decide +kernel, rfl⟩
theorem d30_40 : DAt B30 40 (.iload_n 3) 1 41 := ⟨by decide +kernel, rfl⟩
theorem d30_41 : DAt B30 41 (.ifCond .ne 6) 3 44 := ⟨by decide +kernel, rfl⟩
theorem d30_44 : DAt B30 44 (.goto 9) 3 47 := ⟨by decide +kernel, rfl⟩
theorem d30_47 : DAt B30 47 (.iinc 4 1) 3 50 := ⟨by decide +kernel, rfl⟩
theorem d30_50 : DAt B30 50 (.goto (-43)) 3 53 := ⟨by decide +kernel, rfl⟩
theorem d30_53 : DAt B30 53 (.iload_n 2) 1 54 := ⟨by decide +kernel, rfl⟩
theorem d30_54 : DAt B30 54 (.ireturn) 1 55 := ⟨by decide +kernel, rfl⟩
def B6 : Bdy := ((⟨"XorGaussSat", "countModels", "()I"⟩ : MethodName), prog_1_method_16_code, 3, (some .int), ({ frames := 3, cells := 0, slots := 0, locals := 50 } : Room))
theorem d6_0 : DAt B6 0 (.aload_n 0) 1 1 := ⟨by decide +kernel, rfl⟩
theorem d6_1 : DAt B6 1 (.invokevirtual 125) 3 4 := ⟨by decide +kernel, rfl⟩
theorem d6_4 : DAt B6 4 (.aload_n 0) 1 5 := ⟨by decide +kernel, rfl⟩
theorem d6_5 : DAt B6 5 (.getfield 91) 3 8 := ⟨by decide +kernel, rfl⟩
theorem d6_8 : DAt B6 8 (.ifCond .ne 5) 3 11 := ⟨by decide +kernel, rfl⟩
theorem d6_11 : DAt B6 11 (.iconst 0) 1 12 := ⟨by decide +kernel, rfl⟩
theorem d6_12 : DAt B6 12 (.ireturn) 1 13 := ⟨by decide +kernel, rfl⟩
theorem d6_13 : DAt B6 13 (.aload_n 0) 1 14 := ⟨by decide +kernel, rfl⟩
theorem d6_14 : DAt B6 14 (.getfield 66) 3 17 := ⟨by decide +kernel, rfl⟩
theorem d6_17 : DAt B6 17 (.aload_n 0) 1 18 := ⟨by decide +kernel, rfl⟩
theorem d6_18 : DAt B6 18 (.invokevirtual 128) 3 21 := ⟨by decide +kernel, rfl⟩
theorem d6_21 : DAt B6 21 (.iconst (-1)) 1 22 := ⟨by decide +kernel, rfl⟩
theorem d6_22 : DAt B6 22 (.ixor) 1 23 := ⟨by decide +kernel, rfl⟩
theorem d6_23 : DAt B6 23 (.iand) 1 24 := ⟨by decide +kernel, rfl⟩
theorem d6_24 : DAt B6 24 (.istore_n 1) 1 25 := ⟨by decide +kernel, rfl⟩
theorem d6_25 : DAt B6 25 (.aload_n 0) 1 26 := ⟨by decide +kernel, rfl⟩
theorem d6_26 : DAt B6 26 (.getfield 78) 3 29 := ⟨by decide +kernel, rfl⟩
theorem d6_29 : DAt B6 29 (.ifCond .ne 13) 3 32 := ⟨by decide +kernel, rfl⟩
theorem d6_32 : DAt B6 32 (.aload_n 0) 1 33 := ⟨by decide +kernel, rfl⟩
theorem d6_33 : DAt B6 33 (.iload_n 1) 1 34 := ⟨by decide +kernel, rfl⟩
theorem d6_34 : DAt B6 34 (.invokevirtual 131) 3 37 := ⟨by decide +kernel, rfl⟩
theorem d6_37 : DAt B6 37 (.istore_n 2) 1 38 := ⟨by decide +kernel, rfl⟩
theorem d6_38 : DAt B6 38 (.iconst 1) 1 39 := ⟨by decide +kernel, rfl⟩
theorem d6_39 : DAt B6 39 (.iload_n 2) 1 40 := ⟨by decide +kernel, rfl⟩
theorem d6_40 : DAt B6 40 (.ishl) 1 41 := ⟨by decide +kernel, rfl⟩
theorem d6_41 : DAt B6 41 (.ireturn) 1 42 := ⟨by decide +kernel, rfl⟩
theorem d6_42 : DAt B6 42 (.aload_n 0) 1 43 := ⟨by decide +kernel, rfl⟩
theorem d6_43 : DAt B6 43 (.iload_n 1) 1 44 := ⟨by decide +kernel, rfl⟩
theorem d6_44 : DAt B6 44 (.invokevirtual 135) 3 47 := ⟨by decide +kernel, rfl⟩
theorem d6_47 : DAt B6 47 (.ireturn) 1 48 := ⟨by decide +kernel, rfl⟩
def B15 : Bdy := ((⟨"XorGaussSat", "resetSearch", "()V"⟩ : MethodName), prog_1_method_39_code, 1, none, ({ frames := 0, cells := 0, slots := 0, locals := 0 } : Room))
theorem d15_0 : DAt B15 0 (.aload_n 0) 1 1 := ⟨by decide +kernel, rfl⟩
theorem d15_1 : DAt B15 1 (.iconst 0) 1 2 := ⟨by decide +kernel, rfl⟩
theorem d15_2 : DAt B15 2 (.putfield 183) 3 5 := ⟨by decide +kernel, rfl⟩
theorem d15_5 : DAt B15 5 (.aload_n 0) 1 6 := ⟨by decide +kernel, rfl⟩
theorem d15_6 : DAt B15 6 (.iconst 0) 1 7 := ⟨by decide +kernel, rfl⟩
theorem d15_7 : DAt B15 7 (.putfield 186) 3 10 := ⟨by decide +kernel, rfl⟩
theorem d15_10 : DAt B15 10 (.aload_n 0) 1 11 := ⟨by decide +kernel, rfl⟩
theorem d15_11 : DAt B15 11 (.iconst 0) 1 12 := ⟨by decide +kernel, rfl⟩
theorem d15_12 : DAt B15 12 (.putfield 195) 3 15 := ⟨by decide +kernel, rfl⟩
theorem d15_15 : DAt B15 15 (.aload_n 0) 1 16 := ⟨by decide +kernel, rfl⟩
theorem d15_16 : DAt B15 16 (.iconst 0) 1 17 := ⟨by decide +kernel, rfl⟩
theorem d15_17 : DAt B15 17 (.putfield 198) 3 20 := ⟨by decide +kernel, rfl⟩
theorem d15_20 : DAt B15 20 (.aload_n 0) 1 21 := ⟨by decide +kernel, rfl⟩
theorem d15_21 : DAt B15 21 (.iconst 0) 1 22 := ⟨by decide +kernel, rfl⟩
theorem d15_22 : DAt B15 22 (.putfield 116) 3 25 := ⟨by decide +kernel, rfl⟩
theorem d15_25 : DAt B15 25 (.return_) 1 26 := ⟨by decide +kernel, rfl⟩
def B22 : Bdy := ((⟨"XorGaussSat", "assign", "(II)V"⟩ : MethodName), prog_1_method_40_code, 4, none, ({ frames := 0, cells := 0, slots := 0, locals := 0 } : Room))
theorem d22_0 : DAt B22 0 (.iload_n 1) 1 1 := ⟨by decide +kernel, rfl⟩
theorem d22_1 : DAt B22 1 (.ifCond .lt 11) 3 4 := ⟨by decide +kernel, rfl⟩
theorem d22_4 : DAt B22 4 (.iload_n 1) 1 5 := ⟨by decide +kernel, rfl⟩
theorem d22_5 : DAt B22 5 (.aload_n 0) 1 6 := ⟨by decide +kernel, rfl⟩
theorem d22_6 : DAt B22 6 (.getfield 62) 3 9 := ⟨by decide +kernel, rfl⟩
theorem d22_9 : DAt B22 9 (.if_icmp .lt 4) 3 12 := ⟨by decide +kernel, rfl⟩
theorem d22_12 : DAt B22 12 (.return_) 1 13 := ⟨by decide +kernel, rfl⟩
theorem d22_13 : DAt B22 13 (.iconst 1) 1 14 := ⟨by decide +kernel, rfl⟩
theorem d22_14 : DAt B22 14 (.iload_n 1) 1 15 := ⟨by decide +kernel, rfl⟩
theorem d22_15 : DAt B22 15 (.ishl) 1 16 := ⟨by decide +kernel, rfl⟩
theorem d22_16 : DAt B22 16 (.istore_n 3) 1 17 := ⟨by decide +kernel, rfl⟩
theorem d22_17 : DAt B22 17 (.aload_n 0) 1 18 := ⟨by decide +kernel, rfl⟩
theorem d22_18 : DAt B22 18 (.getfield 183) 3 21 := ⟨by decide +kernel, rfl⟩
theorem d22_21 : DAt B22 21 (.iload_n 3) 1 22 := ⟨by decide +kernel, rfl⟩
theorem d22_22 : DAt B22 22 (.iand) 1 23 := ⟨by decide +kernel, rfl⟩
theorem d22_23 : DAt B22 23 (.ifCond .eq 4) 3 26 := ⟨by decide +kernel, rfl⟩
theorem d22_26 : DAt B22 26 (.return_) 1 27 := ⟨by decide +kernel, rfl⟩
theorem d22_27 : DAt B22 27 (.aload_n 0) 1 28 := ⟨by decide +kernel, rfl⟩
theorem d22_28 : DAt B22 28 (.getfield 195) 3 31 := ⟨by decide +kernel, rfl⟩
theorem d22_31 : DAt B22 31 (.ifCond .lt 12) 3 34 := ⟨by decide +kernel, rfl⟩
theorem d22_34 : DAt B22 34 (.aload_n 0) 1 35 := ⟨by decide +kernel, rfl⟩
theorem d22_35 : DAt B22 35 (.getfield 195) 3 38 := ⟨by decide +kernel, rfl⟩
theorem d22_38 : DAt B22 38 (.bipush 12) 2 40 := ⟨by decide +kernel, rfl⟩
theorem d22_40 : DAt B22 40 (.if_icmp .lt 4) 3 43 := ⟨by decide +kernel, rfl⟩
theorem d22_43 : DAt B22 43 (.return_) 1 44 := ⟨by decide +kernel, rfl⟩
theorem d22_44 : DAt B22 44 (.aload_n 0) 1 45 := ⟨by decide +kernel, rfl⟩
theorem d22_45 : DAt B22 45 (.dup) 1 46 := ⟨by decide +kernel, rfl⟩
theorem d22_46 : DAt B22 46 (.getfield 183) 3 49 := ⟨by decide +kernel, rfl⟩
theorem d22_49 : DAt B22 49 (.iload_n 3) 1 50 := ⟨by decide +kernel, rfl⟩
theorem d22_50 : DAt B22 50 (.ior) 1 51 := ⟨by decide +kernel, rfl⟩
theorem d22_51 : DAt B22 51 (.putfield 183) 3 54 := ⟨by decide +kernel, rfl⟩
theorem d22_54 : DAt B22 54 (.iload_n 2) 1 55 := ⟨by decide +kernel, rfl⟩
theorem d22_55 : DAt B22 55 (.ifCond .eq 16) 3 58 := ⟨by decide +kernel, rfl⟩
theorem d22_58 : DAt B22 58 (.aload_n 0) 1 59 := ⟨by decide +kernel, rfl⟩
theorem d22_59 : DAt B22 59 (.dup) 1 60 := ⟨by decide +kernel, rfl⟩
theorem d22_60 : DAt B22 60 (.getfield 186) 3 63 := ⟨by decide +kernel, rfl⟩
theorem d22_63 : DAt B22 63 (.iload_n 3) 1 64 := ⟨by decide +kernel, rfl⟩
theorem d22_64 : DAt B22 64 (.ior) 1 65 := ⟨by decide +kernel, rfl⟩
theorem d22_65 : DAt B22 65 (.putfield 186) 3 68 := ⟨by decide +kernel, rfl⟩
theorem d22_68 : DAt B22 68 (.goto 15) 3 71 := ⟨by decide +kernel, rfl⟩
theorem d22_71 : DAt B22 71 (.aload_n 0) 1 72 := ⟨by decide +kernel, rfl⟩
theorem d22_72 : DAt B22 72 (.dup) 1 73 := ⟨by decide +kernel, rfl⟩
theorem d22_73 : DAt B22 73 (.getfield 186) 3 76 := ⟨by decide +kernel, rfl⟩
theorem d22_76 : DAt B22 76 (.iload_n 3) 1 77 := ⟨by decide +kernel, rfl⟩
theorem d22_77 : DAt B22 77 (.iconst (-1)) 1 78 := ⟨by decide +kernel, rfl⟩
theorem d22_78 : DAt B22 78 (.ixor) 1 79 := ⟨by decide +kernel, rfl⟩
theorem d22_79 : DAt B22 79 (.iand) 1 80 := ⟨by decide +kernel, rfl⟩
theorem d22_80 : DAt B22 80 (.putfield 186) 3 83 := ⟨by decide +kernel, rfl⟩
theorem d22_83 : DAt B22 83 (.aload_n 0) 1 84 := ⟨by decide +kernel, rfl⟩
theorem d22_84 : DAt B22 84 (.getfield 50) 3 87 := ⟨by decide +kernel, rfl⟩
theorem d22_87 : DAt B22 87 (.aload_n 0) 1 88 := ⟨by decide +kernel, rfl⟩
theorem d22_88 : DAt B22 88 (.getfield 195) 3 91 := ⟨by decide +kernel, rfl⟩
theorem d22_91 : DAt B22 91 (.iload_n 1) 1 92 := ⟨by decide +kernel, rfl⟩
theorem d22_92 : DAt B22 92 (.iastore) 1 93 := ⟨by decide +kernel, rfl⟩
theorem d22_93 : DAt B22 93 (.aload_n 0) 1 94 := ⟨by decide +kernel, rfl⟩
theorem d22_94 : DAt B22 94 (.dup) 1 95 := ⟨by decide +kernel, rfl⟩
theorem d22_95 : DAt B22 95 (.getfield 195) 3 98 := ⟨by decide +kernel, rfl⟩
theorem d22_98 : DAt B22 98 (.iconst 1) 1 99 := ⟨by decide +kernel, rfl⟩
theorem d22_99 : DAt B22 99 (.iadd) 1 100 := ⟨by decide +kernel, rfl⟩
theorem d22_100 : DAt B22 100 (.putfield 195) 3 103 := ⟨by decide +kernel, rfl⟩
theorem d22_103 : DAt B22 103 (.return_) 1 104 := ⟨by decide +kernel, rfl⟩
def B43 : Bdy := ((⟨"XorGaussSat", "isSingleBit", "(I)Z"⟩ : MethodName), prog_1_method_28_code, 2, (some .boolean), ({ frames := 0, cells := 0, slots := 0, locals := 0 } : Room))
theorem d43_0 : DAt B43 0 (.iload_n 1) 1 1 := ⟨by decide +kernel, rfl⟩
theorem d43_1 : DAt B43 1 (.ifCond .eq 15) 3 4 := ⟨by decide +kernel, rfl⟩
theorem d43_4 : DAt B43 4 (.iload_n 1) 1 5 := ⟨by decide +kernel, rfl⟩
theorem d43_5 : DAt B43 5 (.iload_n 1) 1 6 := ⟨by decide +kernel, rfl⟩
theorem d43_6 : DAt B43 6 (.iconst 1) 1 7 := ⟨by decide +kernel, rfl⟩
theorem d43_7 : DAt B43 7 (.isub) 1 8 := ⟨by decide +kernel, rfl⟩
theorem d43_8 : DAt B43 8 (.iand) 1 9 := ⟨by decide +kernel, rfl⟩
theorem d43_9 : DAt B43 9 (.ifCond .ne 7) 3 12 := ⟨by decide +kernel, rfl⟩
theorem d43_12 : DAt B43 12 (.iconst 1) 1 13 := ⟨by decide +kernel, rfl⟩
theorem d43_13 : DAt B43 13 (.goto 4) 3 16 := ⟨by decide +kernel, rfl⟩
theorem d43_16 : DAt B43 16 (.iconst 0) 1 17 := ⟨by decide +kernel, rfl⟩
theorem d43_17 : DAt B43 17 (.ireturn) 1 18 := ⟨by decide +kernel, rfl⟩
def B44 : Bdy := ((⟨"XorGaussSat", "lowestBit", "(I)I"⟩ : MethodName), prog_1_method_27_code, 3, (some .int), ({ frames := 0, cells := 0, slots := 0, locals := 0 } : Room))
theorem d44_0 : DAt B44 0 (.iconst 0) 1 1 := ⟨by decide +kernel, rfl⟩
theorem d44_1 : DAt B44 1 (.istore_n 2) 1 2 := ⟨by decide +kernel, rfl⟩
theorem d44_2 : DAt B44 2 (.iload_n 2) 1 3 := ⟨by decide +kernel, rfl⟩
theorem d44_3 : DAt B44 3 (.bipush 32) 2 5 := ⟨by decide +kernel, rfl⟩
theorem d44_5 : DAt B44 5 (.if_icmp .ge 19) 3 8 := ⟨by decide +kernel, rfl⟩
theorem d44_8 : DAt B44 8 (.iload_n 1) 1 9 := ⟨by decide +kernel, rfl⟩
theorem d44_9 : DAt B44 9 (.iload_n 2) 1 10 := ⟨by decide +kernel, rfl⟩
theorem d44_10 : DAt B44 10 (.iushr) 1 11 := ⟨by decide +kernel, rfl⟩
theorem d44_11 : DAt B44 11 (.iconst 1) 1 12 := ⟨by decide +kernel, rfl⟩
theorem d44_12 : DAt B44 12 (.iand) 1 13 := ⟨by decide +kernel, rfl⟩
theorem d44_13 : DAt B44 13 (.ifCond .eq 5) 3 16 := ⟨by decide +kernel, rfl⟩
theorem d44_16 : DAt B44 16 (.iload_n 2) 1 17 := ⟨by decide +kernel, rfl⟩
theorem d44_17 : DAt B44 17 (.ireturn) 1 18 := ⟨by decide +kernel, rfl⟩
theorem d44_18 : DAt B44 18 (.iinc 2 1) 3 21 := ⟨by decide +kernel, rfl⟩
theorem d44_21 : DAt B44 21 (.goto (-19)) 3 24 := ⟨by decide +kernel, rfl⟩
theorem d44_24 : DAt B44 24 (.iconst (-1)) 1 25 := ⟨by decide +kernel, rfl⟩
theorem d44_25 : DAt B44 25 (.ireturn) 1 26 := ⟨by decide +kernel, rfl⟩
def B33 : Bdy := ((⟨"XorGaussSat", "propagateClause", "(I)Z"⟩ : MethodName), prog_1_method_47_code, 9, (some .boolean), ({ frames := 1, cells := 0, slots := 0, locals := 15 } : Room))
theorem d33_0 : DAt B33 0 (.iload_n 1) 1 1 := ⟨by decide +kernel, rfl⟩
theorem d33_1 : DAt B33 1 (.ifCond .lt 9) 3 4 := ⟨by decide +kernel, rfl⟩
theorem d33_4 : DAt B33 4 (.iload_n 1) 1 5 := ⟨by decide +kernel, rfl⟩
theorem d33_5 : DAt B33 5 (.bipush 24) 2 7 := ⟨by decide +kernel, rfl⟩
theorem d33_7 : DAt B33 7 (.if_icmp .lt 5) 3 10 := ⟨by decide +kernel, rfl⟩
theorem d33_10 : DAt B33 10 (.iconst 1) 1 11 := ⟨by decide +kernel, rfl⟩
theorem d33_11 : DAt B33 11 (.ireturn) 1 12 := ⟨by decide +kernel, rfl⟩
theorem d33_12 : DAt B33 12 (.aload_n 0) 1 13 := ⟨by decide +kernel, rfl⟩
theorem d33_13 : DAt B33 13 (.getfield 17) 3 16 := ⟨by decide +kernel, rfl⟩
theorem d33_16 : DAt B33 16 (.iload_n 1) 1 17 := ⟨by decide +kernel, rfl⟩
theorem d33_17 : DAt B33 17 (.iaload) 1 18 := ⟨by decide +kernel, rfl⟩
theorem d33_18 : DAt B33 18 (.istore_n 2) 1 19 := ⟨by decide +kernel, rfl⟩
theorem d33_19 : DAt B33 19 (.aload_n 0) 1 20 := ⟨by decide +kernel, rfl⟩
theorem d33_20 : DAt B33 20 (.getfield 20) 3 23 := ⟨by decide +kernel, rfl⟩
theorem d33_23 : DAt B33 23 (.iload_n 1) 1 24 := ⟨by decide +kernel, rfl⟩
theorem d33_24 : DAt B33 24 (.iaload) 1 25 := ⟨by decide +kernel, rfl⟩
theorem d33_25 : DAt B33 25 (.istore_n 3) 1 26 := ⟨by decide +kernel, rfl⟩
theorem d33_26 : DAt B33 26 (.aload_n 0) 1 27 := ⟨by decide +kernel, rfl⟩
theorem d33_27 : DAt B33 27 (.getfield 183) 3 30 := ⟨by decide +kernel, rfl⟩
theorem d33_30 : DAt B33 30 (.istore 4) 2 32 := ⟨by decide +kernel, rfl⟩
theorem d33_32 : DAt B33 32 (.iload_n 2) 1 33 := ⟨by decide +kernel, rfl⟩
theorem d33_33 : DAt B33 33 (.iload 4) 2 35 := ⟨by decide +kernel, rfl⟩
theorem d33_35 : DAt B33 35 (.iand) 1 36 := ⟨by decide +kernel, rfl⟩
theorem d33_36 : DAt B33 36 (.aload_n 0) 1 37 := ⟨by decide +kernel, rfl⟩
theorem d33_37 : DAt B33 37 (.getfield 186) 3 40 := ⟨by decide +kernel, rfl⟩
theorem d33_40 : DAt B33 40 (.iand) 1 41 := ⟨by decide +kernel, rfl⟩
theorem d33_41 : DAt B33 41 (.iload_n 3) 1 42 := ⟨by decide +kernel, rfl⟩
theorem d33_42 : DAt B33 42 (.iload 4) 2 44 := ⟨by decide +kernel, rfl⟩
theorem d33_44 : DAt B33 44 (.iand) 1 45 := ⟨by decide +kernel, rfl⟩
theorem d33_45 : DAt B33 45 (.aload_n 0) 1 46 := ⟨by decide +kernel, rfl⟩
theorem d33_46 : DAt B33 46 (.getfield 186) 3 49 := ⟨by decide +kernel, rfl⟩
theorem d33_49 : DAt B33 49 (.iconst (-1)) 1 50 := ⟨by decide +kernel, rfl⟩
theorem d33_50 : DAt B33 50 (.ixor) 1 51 := ⟨by decide +kernel, rfl⟩
theorem d33_51 : DAt B33 51 (.iand) 1 52 := ⟨by decide +kernel, rfl⟩
theorem d33_52 : DAt B33 52 (.ior) 1 53 := ⟨by decide +kernel, rfl⟩
theorem d33_53 : DAt B33 53 (.istore 5) 2 55 := ⟨by decide +kernel, rfl⟩
theorem d33_55 : DAt B33 55 (.iload 5) 2 57 := ⟨by decide +kernel, rfl⟩
theorem d33_57 : DAt B33 57 (.ifCond .eq 5) 3 60 := ⟨by decide +kernel, rfl⟩
theorem d33_60 : DAt B33 60 (.iconst 1) 1 61 := ⟨by decide +kernel, rfl⟩
theorem d33_61 : DAt B33 61 (.ireturn) 1 62 := ⟨by decide +kernel, rfl⟩
theorem d33_62 : DAt B33 62 (.iload_n 2) 1 63 := ⟨by decide +kernel, rfl⟩
theorem d33_63 : DAt B33 63 (.iload 4) 2 65 := ⟨by decide +kernel, rfl⟩
theorem d33_65 : DAt B33 65 (.iconst (-1)) 1 66 := ⟨by decide +kernel, rfl⟩
theorem d33_66 : DAt B33 66 (.ixor) 1 67 := ⟨by decide +kernel, rfl⟩
theorem d33_67 : DAt B33 67 (.iand) 1 68 := ⟨by decide +kernel, rfl⟩
theorem d33_68 : DAt B33 68 (.istore 6) 2 70 := ⟨by decide +kernel, rfl⟩
theorem d33_70 : DAt B33 70 (.iload_n 3) 1 71 := ⟨by decide +kernel, rfl⟩
theorem d33_71 : DAt B33 71 (.iload 4) 2 73 := ⟨by decide +kernel, rfl⟩
theorem d33_73 : DAt B33 73 (.iconst (-1)) 1 74 := ⟨by decide +kernel, rfl⟩
theorem d33_74 : DAt B33 74 (.ixor) 1 75 := ⟨by decide +kernel, rfl⟩
theorem d33_75 : DAt B33 75 (.iand) 1 76 := ⟨by decide +kernel, rfl⟩
theorem d33_76 : DAt B33 76 (.istore 7) 2 78 := ⟨by decide +kernel, rfl⟩
theorem d33_78 : DAt B33 78 (.iload 6) 2 80 := ⟨by decide +kernel, rfl⟩
theorem d33_80 : DAt B33 80 (.iload 7) 2 82 := ⟨by decide +kernel, rfl⟩
theorem d33_82 : DAt B33 82 (.ior) 1 83 := ⟨by decide +kernel, rfl⟩
theorem d33_83 : DAt B33 83 (.ifCond .ne 5) 3 86 := ⟨by decide +kernel, rfl⟩
theorem d33_86 : DAt B33 86 (.iconst 0) 1 87 := ⟨by decide +kernel, rfl⟩
theorem d33_87 : DAt B33 87 (.ireturn) 1 88 := ⟨by decide +kernel, rfl⟩
theorem d33_88 : DAt B33 88 (.iload 7) 2 90 := ⟨by decide +kernel, rfl⟩
theorem d33_90 : DAt B33 90 (.ifCond .ne 30) 3 93 := ⟨by decide +kernel, rfl⟩
theorem d33_93 : DAt B33 93 (.aload_n 0) 1 94 := ⟨by decide +kernel, rfl⟩
theorem d33_94 : DAt B33 94 (.iload 6) 2 96 := ⟨by decide +kernel, rfl⟩
theorem d33_96 : DAt B33 96 (.invokevirtual 216) 3 99 := ⟨by decide +kernel, rfl⟩
theorem d33_99 : DAt B33 99 (.ifCond .eq 21) 3 102 := ⟨by decide +kernel, rfl⟩
theorem d33_102 : DAt B33 102 (.aload_n 0) 1 103 := ⟨by decide +kernel, rfl⟩
theorem d33_103 : DAt B33 103 (.iload 6) 2 105 := ⟨by decide +kernel, rfl⟩
theorem d33_105 : DAt B33 105 (.invokevirtual 219) 3 108 := ⟨by decide +kernel, rfl⟩
theorem d33_108 : DAt B33 108 (.istore 8) 2 110 := ⟨by decide +kernel, rfl⟩
theorem d33_110 : DAt B33 110 (.aload_n 0) 1 111 := ⟨by decide +kernel, rfl⟩
theorem d33_111 : DAt B33 111 (.iload 8) 2 113 := ⟨by decide +kernel, rfl⟩
theorem d33_113 : DAt B33 113 (.iconst 1) 1 114 := ⟨by decide +kernel, rfl⟩
theorem d33_114 : DAt B33 114 (.invokevirtual 174) 3 117 := ⟨by decide +kernel, rfl⟩
theorem d33_117 : DAt B33 117 (.goto 32) 3 120 := ⟨by decide +kernel, rfl⟩
theorem d33_120 : DAt B33 120 (.iload 6) 2 122 := ⟨by decide +kernel, rfl⟩
theorem d33_122 : DAt B33 122 (.ifCond .ne 27) 3 125 := ⟨by decide +kernel, rfl⟩
theorem d33_125 : DAt B33 125 (.aload_n 0) 1 126 := ⟨by decide +kernel, rfl⟩
theorem d33_126 : DAt B33 126 (.iload 7) 2 128 := ⟨by decide +kernel, rfl⟩
theorem d33_128 : DAt B33 128 (.invokevirtual 216) 3 131 := ⟨by decide +kernel, rfl⟩
theorem d33_131 : DAt B33 131 (.ifCond .eq 18) 3 134 := ⟨by decide +kernel, rfl⟩
theorem d33_134 : DAt B33 134 (.aload_n 0) 1 135 := ⟨by decide +kernel, rfl⟩
theorem d33_135 : DAt B33 135 (.iload 7) 2 137 := ⟨by decide +kernel, rfl⟩
theorem d33_137 : DAt B33 137 (.invokevirtual 219) 3 140 := ⟨by decide +kernel, rfl⟩
theorem d33_140 : DAt B33 140 (.istore 8) 2 142 := ⟨by decide +kernel, rfl⟩
theorem d33_142 : DAt B33 142 (.aload_n 0) 1 143 := ⟨by decide +kernel, rfl⟩
theorem d33_143 : DAt B33 143 (.iload 8) 2 145 := ⟨by decide +kernel, rfl⟩
theorem d33_145 : DAt B33 145 (.iconst 0) 1 146 := ⟨by decide +kernel, rfl⟩
theorem d33_146 : DAt B33 146 (.invokevirtual 174) 3 149 := ⟨by decide +kernel, rfl⟩
theorem d33_149 : DAt B33 149 (.iconst 1) 1 150 := ⟨by decide +kernel, rfl⟩
theorem d33_150 : DAt B33 150 (.ireturn) 1 151 := ⟨by decide +kernel, rfl⟩
def B17 : Bdy := ((⟨"XorGaussSat", "propagateClauses", "()Z"⟩ : MethodName), prog_1_method_46_code, 2, (some .boolean), ({ frames := 2, cells := 0, slots := 0, locals := 35 } : Room))
theorem d17_0 : DAt B17 0 (.iconst 0) 1 1 := ⟨by decide +kernel, rfl⟩
theorem d17_1 : DAt B17 1 (.istore_n 1) 1 2 := ⟨by decide +kernel, rfl⟩
theorem d17_2 : DAt B17 2 (.iload_n 1) 1 3 := ⟨by decide +kernel, rfl⟩
theorem d17_3 : DAt B17 3 (.aload_n 0) 1 4 := ⟨by decide +kernel, rfl⟩
theorem d17_4 : DAt B17 4 (.getfield 78) 3 7 := ⟨by decide +kernel, rfl⟩
theorem d17_7 : DAt B17 7 (.if_icmp .ge 25) 3 10 := ⟨by decide +kernel, rfl⟩
theorem d17_10 : DAt B17 10 (.iload_n 1) 1 11 := ⟨by decide +kernel, rfl⟩
theorem d17_11 : DAt B17 11 (.bipush 24) 2 13 := ⟨by decide +kernel, rfl⟩
theorem d17_13 : DAt B17 13 (.if_icmp .ge 19) 3 16 := ⟨by decide +kernel, rfl⟩
theorem d17_16 : DAt B17 16 (.aload_n 0) 1 17 := ⟨by decide +kernel, rfl⟩
theorem d17_17 : DAt B17 17 (.iload_n 1) 1 18 := ⟨by decide +kernel, rfl⟩
theorem d17_18 : DAt B17 18 (.invokevirtual 213) 3 21 := ⟨by decide +kernel, rfl⟩
theorem d17_21 : DAt B17 21 (.ifCond .ne 5) 3 24 := ⟨by decide +kernel, rfl⟩
theorem d17_24 : DAt B17 24 (.iconst 0) 1 25 := ⟨by decide +kernel, rfl⟩
theorem d17_25 : DAt B17 25 (.ireturn) 1 26 := ⟨by decide +kernel, rfl⟩
theorem d17_26 : DAt B17 26 (.iinc 1 1) 3 29 := ⟨by decide +kernel, rfl⟩
theorem d17_29 : DAt B17 29 (.goto (-27)) 3 32 := ⟨by decide +kernel, rfl⟩
theorem d17_32 : DAt B17 32 (.iconst 1) 1 33 := ⟨by decide +kernel, rfl⟩
theorem d17_33 : DAt B17 33 (.ireturn) 1 34 := ⟨by decide +kernel, rfl⟩
def B19 : Bdy := ((⟨"XorGaussSat", "loadResidualRows", "()V"⟩ : MethodName), prog_1_method_48_code, 3, none, ({ frames := 1, cells := 0, slots := 0, locals := 17 } : Room))
theorem d19_0 : DAt B19 0 (.aload_n 0) 1 1 := ⟨by decide +kernel, rfl⟩
theorem d19_1 : DAt B19 1 (.iconst 0) 1 2 := ⟨by decide +kernel, rfl⟩
theorem d19_2 : DAt B19 2 (.putfield 154) 3 5 := ⟨by decide +kernel, rfl⟩
theorem d19_5 : DAt B19 5 (.iconst 0) 1 6 := ⟨by decide +kernel, rfl⟩
theorem d19_6 : DAt B19 6 (.istore_n 1) 1 7 := ⟨by decide +kernel, rfl⟩
theorem d19_7 : DAt B19 7 (.iload_n 1) 1 8 := ⟨by decide +kernel, rfl⟩
theorem d19_8 : DAt B19 8 (.aload_n 0) 1 9 := ⟨by decide +kernel, rfl⟩
theorem d19_9 : DAt B19 9 (.getfield 94) 3 12 := ⟨by decide +kernel, rfl⟩
theorem d19_12 : DAt B19 12 (.if_icmp .ge 74) 3 15 := ⟨by decide +kernel, rfl⟩
theorem d19_15 : DAt B19 15 (.iload_n 1) 1 16 := ⟨by decide +kernel, rfl⟩
theorem d19_16 : DAt B19 16 (.bipush 16) 2 18 := ⟨by decide +kernel, rfl⟩
theorem d19_18 : DAt B19 18 (.if_icmp .ge 68) 3 21 := ⟨by decide +kernel, rfl⟩
theorem d19_21 : DAt B19 21 (.aload_n 0) 1 22 := ⟨by decide +kernel, rfl⟩
theorem d19_22 : DAt B19 22 (.getfield 32) 3 25 := ⟨by decide +kernel, rfl⟩
theorem d19_25 : DAt B19 25 (.iload_n 1) 1 26 := ⟨by decide +kernel, rfl⟩
theorem d19_26 : DAt B19 26 (.iaload) 1 27 := ⟨by decide +kernel, rfl⟩
theorem d19_27 : DAt B19 27 (.istore_n 2) 1 28 := ⟨by decide +kernel, rfl⟩
theorem d19_28 : DAt B19 28 (.aload_n 0) 1 29 := ⟨by decide +kernel, rfl⟩
theorem d19_29 : DAt B19 29 (.getfield 41) 3 32 := ⟨by decide +kernel, rfl⟩
theorem d19_32 : DAt B19 32 (.iload_n 1) 1 33 := ⟨by decide +kernel, rfl⟩
theorem d19_33 : DAt B19 33 (.iload_n 2) 1 34 := ⟨by decide +kernel, rfl⟩
theorem d19_34 : DAt B19 34 (.aload_n 0) 1 35 := ⟨by decide +kernel, rfl⟩
theorem d19_35 : DAt B19 35 (.getfield 183) 3 38 := ⟨by decide +kernel, rfl⟩
theorem d19_38 : DAt B19 38 (.iconst (-1)) 1 39 := ⟨by decide +kernel, rfl⟩
theorem d19_39 : DAt B19 39 (.ixor) 1 40 := ⟨by decide +kernel, rfl⟩
theorem d19_40 : DAt B19 40 (.iand) 1 41 := ⟨by decide +kernel, rfl⟩
theorem d19_41 : DAt B19 41 (.iastore) 1 42 := ⟨by decide +kernel, rfl⟩
theorem d19_42 : DAt B19 42 (.aload_n 0) 1 43 := ⟨by decide +kernel, rfl⟩
theorem d19_43 : DAt B19 43 (.getfield 44) 3 46 := ⟨by decide +kernel, rfl⟩
theorem d19_46 : DAt B19 46 (.iload_n 1) 1 47 := ⟨by decide +kernel, rfl⟩
theorem d19_47 : DAt B19 47 (.aload_n 0) 1 48 := ⟨by decide +kernel, rfl⟩
theorem d19_48 : DAt B19 48 (.getfield 35) 3 51 := ⟨by decide +kernel, rfl⟩
theorem d19_51 : DAt B19 51 (.iload_n 1) 1 52 := ⟨by decide +kernel, rfl⟩
theorem d19_52 : DAt B19 52 (.iaload) 1 53 := ⟨by decide +kernel, rfl⟩
theorem d19_53 : DAt B19 53 (.aload_n 0) 1 54 := ⟨by decide +kernel, rfl⟩
theorem d19_54 : DAt B19 54 (.iload_n 2) 1 55 := ⟨by decide +kernel, rfl⟩
theorem d19_55 : DAt B19 55 (.aload_n 0) 1 56 := ⟨by decide +kernel, rfl⟩
theorem d19_56 : DAt B19 56 (.getfield 183) 3 59 := ⟨by decide +kernel, rfl⟩
theorem d19_59 : DAt B19 59 (.iand) 1 60 := ⟨by decide +kernel, rfl⟩
theorem d19_60 : DAt B19 60 (.aload_n 0) 1 61 := ⟨by decide +kernel, rfl⟩
theorem d19_61 : DAt B19 61 (.getfield 186) 3 64 := ⟨by decide +kernel, rfl⟩
theorem d19_64 : DAt B19 64 (.iand) 1 65 := ⟨by decide +kernel, rfl⟩
theorem d19_65 : DAt B19 65 (.invokevirtual 138) 3 68 := ⟨by decide +kernel, rfl⟩
theorem d19_68 : DAt B19 68 (.ixor) 1 69 := ⟨by decide +kernel, rfl⟩
theorem d19_69 : DAt B19 69 (.iastore) 1 70 := ⟨by decide +kernel, rfl⟩
theorem d19_70 : DAt B19 70 (.aload_n 0) 1 71 := ⟨by decide +kernel, rfl⟩
theorem d19_71 : DAt B19 71 (.dup) 1 72 := ⟨by decide +kernel, rfl⟩
theorem d19_72 : DAt B19 72 (.getfield 154) 3 75 := ⟨by decide +kernel, rfl⟩
theorem d19_75 : DAt B19 75 (.iconst 1) 1 76 := ⟨by decide +kernel, rfl⟩
theorem d19_76 : DAt B19 76 (.iadd) 1 77 := ⟨by decide +kernel, rfl⟩
theorem d19_77 : DAt B19 77 (.putfield 154) 3 80 := ⟨by decide +kernel, rfl⟩
theorem d19_80 : DAt B19 80 (.iinc 1 1) 3 83 := ⟨by decide +kernel, rfl⟩
theorem d19_83 : DAt B19 83 (.goto (-76)) 3 86 := ⟨by decide +kernel, rfl⟩
theorem d19_86 : DAt B19 86 (.return_) 1 87 := ⟨by decide +kernel, rfl⟩
def B18 : Bdy := ((⟨"XorGaussSat", "propagateXors", "()Z"⟩ : MethodName), prog_1_method_49_code, 4, (some .boolean), ({ frames := 2, cells := 0, slots := 0, locals := 31 } : Room))
theorem d18_0 : DAt B18 0 (.aload_n 0) 1 1 := ⟨by decide +kernel, rfl⟩
theorem d18_1 : DAt B18 1 (.invokevirtual 222) 3 4 := ⟨by decide +kernel, rfl⟩
theorem d18_4 : DAt B18 4 (.aload_n 0) 1 5 := ⟨by decide +kernel, rfl⟩
theorem d18_5 : DAt B18 5 (.invokevirtual 157) 3 8 := ⟨by decide +kernel, rfl⟩
theorem d18_8 : DAt B18 8 (.iconst 0) 1 9 := ⟨by decide +kernel, rfl⟩
theorem d18_9 : DAt B18 9 (.istore_n 1) 1 10 := ⟨by decide +kernel, rfl⟩
theorem d18_10 : DAt B18 10 (.iload_n 1) 1 11 := ⟨by decide +kernel, rfl⟩
theorem d18_11 : DAt B18 11 (.aload_n 0) 1 12 := ⟨by decide +kernel, rfl⟩
theorem d18_12 : DAt B18 12 (.getfield 154) 3 15 := ⟨by decide +kernel, rfl⟩
theorem d18_15 : DAt B18 15 (.if_icmp .ge 62) 3 18 := ⟨by decide +kernel, rfl⟩
theorem d18_18 : DAt B18 18 (.iload_n 1) 1 19 := ⟨by decide +kernel, rfl⟩
theorem d18_19 : DAt B18 19 (.bipush 16) 2 21 := ⟨by decide +kernel, rfl⟩
theorem d18_21 : DAt B18 21 (.if_icmp .ge 56) 3 24 := ⟨by decide +kernel, rfl⟩
theorem d18_24 : DAt B18 24 (.aload_n 0) 1 25 := ⟨by decide +kernel, rfl⟩
theorem d18_25 : DAt B18 25 (.getfield 41) 3 28 := ⟨by decide +kernel, rfl⟩
theorem d18_28 : DAt B18 28 (.iload_n 1) 1 29 := ⟨by decide +kernel, rfl⟩
theorem d18_29 : DAt B18 29 (.iaload) 1 30 := ⟨by decide +kernel, rfl⟩
theorem d18_30 : DAt B18 30 (.istore_n 2) 1 31 := ⟨by decide +kernel, rfl⟩
theorem d18_31 : DAt B18 31 (.iload_n 2) 1 32 := ⟨by decide +kernel, rfl⟩
theorem d18_32 : DAt B18 32 (.ifCond .ne 14) 3 35 := ⟨by decide +kernel, rfl⟩
theorem d18_35 : DAt B18 35 (.aload_n 0) 1 36 := ⟨by decide +kernel, rfl⟩
theorem d18_36 : DAt B18 36 (.getfield 44) 3 39 := ⟨by decide +kernel, rfl⟩
theorem d18_39 : DAt B18 39 (.iload_n 1) 1 40 := ⟨by decide +kernel, rfl⟩
theorem d18_40 : DAt B18 40 (.iaload) 1 41 := ⟨by decide +kernel, rfl⟩
theorem d18_41 : DAt B18 41 (.ifCond .eq 30) 3 44 := ⟨by decide +kernel, rfl⟩
theorem d18_44 : DAt B18 44 (.iconst 0) 1 45 := ⟨by decide +kernel, rfl⟩
theorem d18_45 : DAt B18 45 (.ireturn) 1 46 := ⟨by decide +kernel, rfl⟩
theorem d18_46 : DAt B18 46 (.aload_n 0) 1 47 := ⟨by decide +kernel, rfl⟩
theorem d18_47 : DAt B18 47 (.iload_n 2) 1 48 := ⟨by decide +kernel, rfl⟩
theorem d18_48 : DAt B18 48 (.invokevirtual 216) 3 51 := ⟨by decide +kernel, rfl⟩
theorem d18_51 : DAt B18 51 (.ifCond .eq 20) 3 54 := ⟨by decide +kernel, rfl⟩
theorem d18_54 : DAt B18 54 (.aload_n 0) 1 55 := ⟨by decide +kernel, rfl⟩
theorem d18_55 : DAt B18 55 (.iload_n 2) 1 56 := ⟨by decide +kernel, rfl⟩
theorem d18_56 : DAt B18 56 (.invokevirtual 219) 3 59 := ⟨by decide +kernel, rfl⟩
theorem d18_59 : DAt B18 59 (.istore_n 3) 1 60 := ⟨by decide +kernel, rfl⟩
theorem d18_60 : DAt B18 60 (.aload_n 0) 1 61 := ⟨by decide +kernel, rfl⟩
theorem d18_61 : DAt B18 61 (.iload_n 3) 1 62 := ⟨by decide +kernel, rfl⟩
theorem d18_62 : DAt B18 62 (.aload_n 0) 1 63 := ⟨by decide +kernel, rfl⟩
theorem d18_63 : DAt B18 63 (.getfield 44) 3 66 := ⟨by decide +kernel, rfl⟩
theorem d18_66 : DAt B18 66 (.iload_n 1) 1 67 := ⟨by decide +kernel, rfl⟩
theorem d18_67 : DAt B18 67 (.iaload) 1 68 := ⟨by decide +kernel, rfl⟩
theorem d18_68 : DAt B18 68 (.invokevirtual 174) 3 71 := ⟨by decide +kernel, rfl⟩
theorem d18_71 : DAt B18 71 (.iinc 1 1) 3 74 := ⟨by decide +kernel, rfl⟩
theorem d18_74 : DAt B18 74 (.goto (-64)) 3 77 := ⟨by decide +kernel, rfl⟩
theorem d18_77 : DAt B18 77 (.iconst 1) 1 78 := ⟨by decide +kernel, rfl⟩
theorem d18_78 : DAt B18 78 (.ireturn) 1 79 := ⟨by decide +kernel, rfl⟩
def B16 : Bdy := ((⟨"XorGaussSat", "propagate", "()Z"⟩ : MethodName), prog_1_method_45_code, 3, (some .boolean), ({ frames := 3, cells := 0, slots := 0, locals := 48 } : Room))
theorem d16_0 : DAt B16 0 (.iconst 0) 1 1 := ⟨by decide +kernel, rfl⟩
theorem d16_1 : DAt B16 1 (.istore_n 1) 1 2 := ⟨by decide +kernel, rfl⟩
theorem d16_2 : DAt B16 2 (.iload_n 1) 1 3 := ⟨by decide +kernel, rfl⟩
theorem d16_3 : DAt B16 3 (.bipush 14) 2 5 := ⟨by decide +kernel, rfl⟩
theorem d16_5 : DAt B16 5 (.if_icmp .ge 42) 3 8 := ⟨by decide +kernel, rfl⟩
theorem d16_8 : DAt B16 8 (.aload_n 0) 1 9 := ⟨by decide +kernel, rfl⟩
theorem d16_9 : DAt B16 9 (.getfield 195) 3 12 := ⟨by decide +kernel, rfl⟩
theorem d16_12 : DAt B16 12 (.istore_n 2) 1 13 := ⟨by decide +kernel, rfl⟩
theorem d16_13 : DAt B16 13 (.aload_n 0) 1 14 := ⟨by decide +kernel, rfl⟩
theorem d16_14 : DAt B16 14 (.invokevirtual 207) 3 17 := ⟨by decide +kernel, rfl⟩
theorem d16_17 : DAt B16 17 (.ifCond .ne 5) 3 20 := ⟨by decide +kernel, rfl⟩
theorem d16_20 : DAt B16 20 (.iconst 0) 1 21 := ⟨by decide +kernel, rfl⟩
theorem d16_21 : DAt B16 21 (.ireturn) 1 22 := ⟨by decide +kernel, rfl⟩
theorem d16_22 : DAt B16 22 (.aload_n 0) 1 23 := ⟨by decide +kernel, rfl⟩
theorem d16_23 : DAt B16 23 (.invokevirtual 210) 3 26 := ⟨by decide +kernel, rfl⟩
theorem d16_26 : DAt B16 26 (.ifCond .ne 5) 3 29 := ⟨by decide +kernel, rfl⟩
theorem d16_29 : DAt B16 29 (.iconst 0) 1 30 := ⟨by decide +kernel, rfl⟩
theorem d16_30 : DAt B16 30 (.ireturn) 1 31 := ⟨by decide +kernel, rfl⟩
theorem d16_31 : DAt B16 31 (.aload_n 0) 1 32 := ⟨by decide +kernel, rfl⟩
theorem d16_32 : DAt B16 32 (.getfield 195) 3 35 := ⟨by decide +kernel, rfl⟩
theorem d16_35 : DAt B16 35 (.iload_n 2) 1 36 := ⟨by decide +kernel, rfl⟩
theorem d16_36 : DAt B16 36 (.if_icmp .ne 5) 3 39 := ⟨by decide +kernel, rfl⟩
theorem d16_39 : DAt B16 39 (.iconst 1) 1 40 := ⟨by decide +kernel, rfl⟩
theorem d16_40 : DAt B16 40 (.ireturn) 1 41 := ⟨by decide +kernel, rfl⟩
theorem d16_41 : DAt B16 41 (.iinc 1 1) 3 44 := ⟨by decide +kernel, rfl⟩
theorem d16_44 : DAt B16 44 (.goto (-42)) 3 47 := ⟨by decide +kernel, rfl⟩
theorem d16_47 : DAt B16 47 (.iconst 1) 1 48 := ⟨by decide +kernel, rfl⟩
theorem d16_48 : DAt B16 48 (.ireturn) 1 49 := ⟨by decide +kernel, rfl⟩
def B45 : Bdy := ((⟨"XorGaussSat", "undoTo", "(I)V"⟩ : MethodName), prog_1_method_41_code, 5, none, ({ frames := 0, cells := 0, slots := 0, locals := 0 } : Room))
theorem d45_0 : DAt B45 0 (.iconst 0) 1 1 := ⟨by decide +kernel, rfl⟩
theorem d45_1 : DAt B45 1 (.istore_n 2) 1 2 := ⟨by decide +kernel, rfl⟩
theorem d45_2 : DAt B45 2 (.iload_n 2) 1 3 := ⟨by decide +kernel, rfl⟩
theorem d45_3 : DAt B45 3 (.bipush 12) 2 5 := ⟨by decide +kernel, rfl⟩
theorem d45_5 : DAt B45 5 (.if_icmp .ge 75) 3 8 := ⟨by decide +kernel, rfl⟩
theorem d45_8 : DAt B45 8 (.aload_n 0) 1 9 := ⟨by decide +kernel, rfl⟩
theorem d45_9 : DAt B45 9 (.getfield 195) 3 12 := ⟨by decide +kernel, rfl⟩
theorem d45_12 : DAt B45 12 (.iload_n 1) 1 13 := ⟨by decide +kernel, rfl⟩
theorem d45_13 : DAt B45 13 (.if_icmp .le 67) 3 16 := ⟨by decide +kernel, rfl⟩
theorem d45_16 : DAt B45 16 (.aload_n 0) 1 17 := ⟨by decide +kernel, rfl⟩
theorem d45_17 : DAt B45 17 (.getfield 195) 3 20 := ⟨by decide +kernel, rfl⟩
theorem d45_20 : DAt B45 20 (.ifCond .le 60) 3 23 := ⟨by decide +kernel, rfl⟩
theorem d45_23 : DAt B45 23 (.aload_n 0) 1 24 := ⟨by decide +kernel, rfl⟩
theorem d45_24 : DAt B45 24 (.dup) 1 25 := ⟨by decide +kernel, rfl⟩
theorem d45_25 : DAt B45 25 (.getfield 195) 3 28 := ⟨by decide +kernel, rfl⟩
theorem d45_28 : DAt B45 28 (.iconst 1) 1 29 := ⟨by decide +kernel, rfl⟩
theorem d45_29 : DAt B45 29 (.isub) 1 30 := ⟨by decide +kernel, rfl⟩
theorem d45_30 : DAt B45 30 (.putfield 195) 3 33 := ⟨by decide +kernel, rfl⟩
theorem d45_33 : DAt B45 33 (.aload_n 0) 1 34 := ⟨by decide +kernel, rfl⟩
theorem d45_34 : DAt B45 34 (.getfield 50) 3 37 := ⟨by decide +kernel, rfl⟩
theorem d45_37 : DAt B45 37 (.aload_n 0) 1 38 := ⟨by decide +kernel, rfl⟩
theorem d45_38 : DAt B45 38 (.getfield 195) 3 41 := ⟨by decide +kernel, rfl⟩
theorem d45_41 : DAt B45 41 (.iaload) 1 42 := ⟨by decide +kernel, rfl⟩
theorem d45_42 : DAt B45 42 (.istore_n 3) 1 43 := ⟨by decide +kernel, rfl⟩
theorem d45_43 : DAt B45 43 (.iconst 1) 1 44 := ⟨by decide +kernel, rfl⟩
theorem d45_44 : DAt B45 44 (.iload_n 3) 1 45 := ⟨by decide +kernel, rfl⟩
theorem d45_45 : DAt B45 45 (.ishl) 1 46 := ⟨by decide +kernel, rfl⟩
theorem d45_46 : DAt B45 46 (.istore 4) 2 48 := ⟨by decide +kernel, rfl⟩
theorem d45_48 : DAt B45 48 (.aload_n 0) 1 49 := ⟨by decide +kernel, rfl⟩
theorem d45_49 : DAt B45 49 (.dup) 1 50 := ⟨by decide +kernel, rfl⟩
theorem d45_50 : DAt B45 50 (.getfield 183) 3 53 := ⟨by decide +kernel, rfl⟩
theorem d45_53 : DAt B45 53 (.iload 4) 2 55 := ⟨by decide +kernel, rfl⟩
theorem d45_55 : DAt B45 55 (.iconst (-1)) 1 56 := ⟨by decide +kernel, rfl⟩
theorem d45_56 : DAt B45 56 (.ixor) 1 57 := ⟨by decide +kernel, rfl⟩
theorem d45_57 : DAt B45 57 (.iand) 1 58 := ⟨by decide +kernel, rfl⟩
theorem d45_58 : DAt B45 58 (.putfield 183) 3 61 := ⟨by decide +kernel, rfl⟩
theorem d45_61 : DAt B45 61 (.aload_n 0) 1 62 := ⟨by decide +kernel, rfl⟩
theorem d45_62 : DAt B45 62 (.dup) 1 63 := ⟨by decide +kernel, rfl⟩
theorem d45_63 : DAt B45 63 (.getfield 186) 3 66 := ⟨by decide +kernel, rfl⟩
theorem d45_66 : DAt B45 66 (.iload 4) 2 68 := ⟨by decide +kernel, rfl⟩
theorem d45_68 : DAt B45 68 (.iconst (-1)) 1 69 := ⟨by decide +kernel, rfl⟩
theorem d45_69 : DAt B45 69 (.ixor) 1 70 := ⟨by decide +kernel, rfl⟩
theorem d45_70 : DAt B45 70 (.iand) 1 71 := ⟨by decide +kernel, rfl⟩
theorem d45_71 : DAt B45 71 (.putfield 186) 3 74 := ⟨by decide +kernel, rfl⟩
theorem d45_74 : DAt B45 74 (.iinc 2 1) 3 77 := ⟨by decide +kernel, rfl⟩
theorem d45_77 : DAt B45 77 (.goto (-75)) 3 80 := ⟨by decide +kernel, rfl⟩
theorem d45_80 : DAt B45 80 (.return_) 1 81 := ⟨by decide +kernel, rfl⟩
def B34 : Bdy := ((⟨"XorGaussSat", "backtrack", "()Z"⟩ : MethodName), prog_1_method_44_code, 3, (some .boolean), ({ frames := 1, cells := 0, slots := 0, locals := 16 } : Room))
theorem d34_0 : DAt B34 0 (.iconst 0) 1 1 := ⟨by decide +kernel, rfl⟩
theorem d34_1 : DAt B34 1 (.istore_n 1) 1 2 := ⟨by decide +kernel, rfl⟩
theorem d34_2 : DAt B34 2 (.iload_n 1) 1 3 := ⟨by decide +kernel, rfl⟩
theorem d34_3 : DAt B34 3 (.bipush 14) 2 5 := ⟨by decide +kernel, rfl⟩
theorem d34_5 : DAt B34 5 (.if_icmp .ge 83) 3 8 := ⟨by decide +kernel, rfl⟩
theorem d34_8 : DAt B34 8 (.aload_n 0) 1 9 := ⟨by decide +kernel, rfl⟩
theorem d34_9 : DAt B34 9 (.getfield 198) 3 12 := ⟨by decide +kernel, rfl⟩
theorem d34_12 : DAt B34 12 (.ifCond .le 12) 3 15 := ⟨by decide +kernel, rfl⟩
theorem d34_15 : DAt B34 15 (.aload_n 0) 1 16 := ⟨by decide +kernel, rfl⟩
theorem d34_16 : DAt B34 16 (.getfield 198) 3 19 := ⟨by decide +kernel, rfl⟩
theorem d34_19 : DAt B34 19 (.bipush 13) 2 21 := ⟨by decide +kernel, rfl⟩
theorem d34_21 : DAt B34 21 (.if_icmp .le 5) 3 24 := ⟨by decide +kernel, rfl⟩
theorem d34_24 : DAt B34 24 (.iconst 0) 1 25 := ⟨by decide +kernel, rfl⟩
theorem d34_25 : DAt B34 25 (.ireturn) 1 26 := ⟨by decide +kernel, rfl⟩
theorem d34_26 : DAt B34 26 (.aload_n 0) 1 27 := ⟨by decide +kernel, rfl⟩
theorem d34_27 : DAt B34 27 (.getfield 198) 3 30 := ⟨by decide +kernel, rfl⟩
theorem d34_30 : DAt B34 30 (.iconst 1) 1 31 := ⟨by decide +kernel, rfl⟩
theorem d34_31 : DAt B34 31 (.isub) 1 32 := ⟨by decide +kernel, rfl⟩
theorem d34_32 : DAt B34 32 (.istore_n 2) 1 33 := ⟨by decide +kernel, rfl⟩
theorem d34_33 : DAt B34 33 (.aload_n 0) 1 34 := ⟨by decide +kernel, rfl⟩
theorem d34_34 : DAt B34 34 (.aload_n 0) 1 35 := ⟨by decide +kernel, rfl⟩
theorem d34_35 : DAt B34 35 (.getfield 56) 3 38 := ⟨by decide +kernel, rfl⟩
theorem d34_38 : DAt B34 38 (.iload_n 2) 1 39 := ⟨by decide +kernel, rfl⟩
theorem d34_39 : DAt B34 39 (.iaload) 1 40 := ⟨by decide +kernel, rfl⟩
theorem d34_40 : DAt B34 40 (.invokevirtual 204) 3 43 := ⟨by decide +kernel, rfl⟩
theorem d34_43 : DAt B34 43 (.aload_n 0) 1 44 := ⟨by decide +kernel, rfl⟩
theorem d34_44 : DAt B34 44 (.getfield 59) 3 47 := ⟨by decide +kernel, rfl⟩
theorem d34_47 : DAt B34 47 (.iload_n 2) 1 48 := ⟨by decide +kernel, rfl⟩
theorem d34_48 : DAt B34 48 (.baload) 1 49 := ⟨by decide +kernel, rfl⟩
theorem d34_49 : DAt B34 49 (.ifCond .ne 23) 3 52 := ⟨by decide +kernel, rfl⟩
theorem d34_52 : DAt B34 52 (.aload_n 0) 1 53 := ⟨by decide +kernel, rfl⟩
theorem d34_53 : DAt B34 53 (.getfield 59) 3 56 := ⟨by decide +kernel, rfl⟩
theorem d34_56 : DAt B34 56 (.iload_n 2) 1 57 := ⟨by decide +kernel, rfl⟩
theorem d34_57 : DAt B34 57 (.iconst 1) 1 58 := ⟨by decide +kernel, rfl⟩
theorem d34_58 : DAt B34 58 (.bastore) 1 59 := ⟨by decide +kernel, rfl⟩
theorem d34_59 : DAt B34 59 (.aload_n 0) 1 60 := ⟨by decide +kernel, rfl⟩
theorem d34_60 : DAt B34 60 (.aload_n 0) 1 61 := ⟨by decide +kernel, rfl⟩
theorem d34_61 : DAt B34 61 (.getfield 53) 3 64 := ⟨by decide +kernel, rfl⟩
theorem d34_64 : DAt B34 64 (.iload_n 2) 1 65 := ⟨by decide +kernel, rfl⟩
theorem d34_65 : DAt B34 65 (.iaload) 1 66 := ⟨by decide +kernel, rfl⟩
theorem d34_66 : DAt B34 66 (.iconst 1) 1 67 := ⟨by decide +kernel, rfl⟩
theorem d34_67 : DAt B34 67 (.invokevirtual 174) 3 70 := ⟨by decide +kernel, rfl⟩
theorem d34_70 : DAt B34 70 (.iconst 1) 1 71 := ⟨by decide +kernel, rfl⟩
theorem d34_71 : DAt B34 71 (.ireturn) 1 72 := ⟨by decide +kernel, rfl⟩
theorem d34_72 : DAt B34 72 (.aload_n 0) 1 73 := ⟨by decide +kernel, rfl⟩
theorem d34_73 : DAt B34 73 (.dup) 1 74 := ⟨by decide +kernel, rfl⟩
theorem d34_74 : DAt B34 74 (.getfield 198) 3 77 := ⟨by decide +kernel, rfl⟩
theorem d34_77 : DAt B34 77 (.iconst 1) 1 78 := ⟨by decide +kernel, rfl⟩
theorem d34_78 : DAt B34 78 (.isub) 1 79 := ⟨by decide +kernel, rfl⟩
theorem d34_79 : DAt B34 79 (.putfield 198) 3 82 := ⟨by decide +kernel, rfl⟩
theorem d34_82 : DAt B34 82 (.iinc 1 1) 3 85 := ⟨by decide +kernel, rfl⟩
theorem d34_85 : DAt B34 85 (.goto (-83)) 3 88 := ⟨by decide +kernel, rfl⟩
theorem d34_88 : DAt B34 88 (.iconst 0) 1 89 := ⟨by decide +kernel, rfl⟩
theorem d34_89 : DAt B34 89 (.ireturn) 1 90 := ⟨by decide +kernel, rfl⟩
def B21 : Bdy := ((⟨"XorGaussSat", "lowestUnassigned", "()I"⟩ : MethodName), prog_1_method_42_code, 2, (some .int), ({ frames := 0, cells := 0, slots := 0, locals := 0 } : Room))
theorem d21_0 : DAt B21 0 (.iconst 0) 1 1 := ⟨by decide +kernel, rfl⟩
theorem d21_1 : DAt B21 1 (.istore_n 1) 1 2 := ⟨by decide +kernel, rfl⟩
theorem d21_2 : DAt B21 2 (.iload_n 1) 1 3 := ⟨by decide +kernel, rfl⟩
theorem d21_3 : DAt B21 3 (.aload_n 0) 1 4 := ⟨by decide +kernel, rfl⟩
theorem d21_4 : DAt B21 4 (.getfield 62) 3 7 := ⟨by decide +kernel, rfl⟩
theorem d21_7 : DAt B21 7 (.if_icmp .ge 28) 3 10 := ⟨by decide +kernel, rfl⟩
theorem d21_10 : DAt B21 10 (.iload_n 1) 1 11 := ⟨by decide +kernel, rfl⟩
theorem d21_11 : DAt B21 11 (.bipush 12) 2 13 := ⟨by decide +kernel, rfl⟩
theorem d21_13 : DAt B21 13 (.if_icmp .ge 22) 3 16 := ⟨by decide +kernel, rfl⟩
theorem d21_16 : DAt B21 16 (.aload_n 0) 1 17 := ⟨by decide +kernel, rfl⟩
theorem d21_17 : DAt B21 17 (.getfield 183) 3 20 := ⟨by decide +kernel, rfl⟩
theorem d21_20 : DAt B21 20 (.iload_n 1) 1 21 := ⟨by decide +kernel, rfl⟩
theorem d21_21 : DAt B21 21 (.iushr) 1 22 := ⟨by decide +kernel, rfl⟩
theorem d21_22 : DAt B21 22 (.iconst 1) 1 23 := ⟨by decide +kernel, rfl⟩
theorem d21_23 : DAt B21 23 (.iand) 1 24 := ⟨by decide +kernel, rfl⟩
theorem d21_24 : DAt B21 24 (.ifCond .ne 5) 3 27 := ⟨by decide +kernel, rfl⟩
theorem d21_27 : DAt B21 27 (.iload_n 1) 1 28 := ⟨by decide +kernel, rfl⟩
theorem d21_28 : DAt B21 28 (.ireturn) 1 29 := ⟨by decide +kernel, rfl⟩
theorem d21_29 : DAt B21 29 (.iinc 1 1) 3 32 := ⟨by decide +kernel, rfl⟩
theorem d21_32 : DAt B21 32 (.goto (-30)) 3 35 := ⟨by decide +kernel, rfl⟩
theorem d21_35 : DAt B21 35 (.iconst (-1)) 1 36 := ⟨by decide +kernel, rfl⟩
theorem d21_36 : DAt B21 36 (.ireturn) 1 37 := ⟨by decide +kernel, rfl⟩
def B20 : Bdy := ((⟨"XorGaussSat", "decide", "()V"⟩ : MethodName), prog_1_method_43_code, 2, none, ({ frames := 1, cells := 0, slots := 0, locals := 15 } : Room))
theorem d20_0 : DAt B20 0 (.aload_n 0) 1 1 := ⟨by decide +kernel, rfl⟩
theorem d20_1 : DAt B20 1 (.invokevirtual 201) 3 4 := ⟨by decide +kernel, rfl⟩
theorem d20_4 : DAt B20 4 (.istore_n 1) 1 5 := ⟨by decide +kernel, rfl⟩
theorem d20_5 : DAt B20 5 (.iload_n 1) 1 6 := ⟨by decide +kernel, rfl⟩
theorem d20_6 : DAt B20 6 (.ifCond .lt 19) 3 9 := ⟨by decide +kernel, rfl⟩
theorem d20_9 : DAt B20 9 (.aload_n 0) 1 10 := ⟨by decide +kernel, rfl⟩
theorem d20_10 : DAt B20 10 (.getfield 198) 3 13 := ⟨by decide +kernel, rfl⟩
theorem d20_13 : DAt B20 13 (.ifCond .lt 12) 3 16 := ⟨by decide +kernel, rfl⟩
theorem d20_16 : DAt B20 16 (.aload_n 0) 1 17 := ⟨by decide +kernel, rfl⟩
theorem d20_17 : DAt B20 17 (.getfield 198) 3 20 := ⟨by decide +kernel, rfl⟩
theorem d20_20 : DAt B20 20 (.bipush 13) 2 22 := ⟨by decide +kernel, rfl⟩
theorem d20_22 : DAt B20 22 (.if_icmp .lt 4) 3 25 := ⟨by decide +kernel, rfl⟩
theorem d20_25 : DAt B20 25 (.return_) 1 26 := ⟨by decide +kernel, rfl⟩
theorem d20_26 : DAt B20 26 (.aload_n 0) 1 27 := ⟨by decide +kernel, rfl⟩
theorem d20_27 : DAt B20 27 (.getfield 56) 3 30 := ⟨by decide +kernel, rfl⟩
theorem d20_30 : DAt B20 30 (.aload_n 0) 1 31 := ⟨by decide +kernel, rfl⟩
theorem d20_31 : DAt B20 31 (.getfield 198) 3 34 := ⟨by decide +kernel, rfl⟩
theorem d20_34 : DAt B20 34 (.aload_n 0) 1 35 := ⟨by decide +kernel, rfl⟩
theorem d20_35 : DAt B20 35 (.getfield 195) 3 38 := ⟨by decide +kernel, rfl⟩
theorem d20_38 : DAt B20 38 (.iastore) 1 39 := ⟨by decide +kernel, rfl⟩
theorem d20_39 : DAt B20 39 (.aload_n 0) 1 40 := ⟨by decide +kernel, rfl⟩
theorem d20_40 : DAt B20 40 (.getfield 53) 3 43 := ⟨by decide +kernel, rfl⟩
theorem d20_43 : DAt B20 43 (.aload_n 0) 1 44 := ⟨by decide +kernel, rfl⟩
theorem d20_44 : DAt B20 44 (.getfield 198) 3 47 := ⟨by decide +kernel, rfl⟩
theorem d20_47 : DAt B20 47 (.iload_n 1) 1 48 := ⟨by decide +kernel, rfl⟩
theorem d20_48 : DAt B20 48 (.iastore) 1 49 := ⟨by decide +kernel, rfl⟩
theorem d20_49 : DAt B20 49 (.aload_n 0) 1 50 := ⟨by decide +kernel, rfl⟩
theorem d20_50 : DAt B20 50 (.getfield 59) 3 53 := ⟨by decide +kernel, rfl⟩
theorem d20_53 : DAt B20 53 (.aload_n 0) 1 54 := ⟨by decide +kernel, rfl⟩
theorem d20_54 : DAt B20 54 (.getfield 198) 3 57 := ⟨by decide +kernel, rfl⟩
theorem d20_57 : DAt B20 57 (.iconst 0) 1 58 := ⟨by decide +kernel, rfl⟩
theorem d20_58 : DAt B20 58 (.bastore) 1 59 := ⟨by decide +kernel, rfl⟩
theorem d20_59 : DAt B20 59 (.aload_n 0) 1 60 := ⟨by decide +kernel, rfl⟩
theorem d20_60 : DAt B20 60 (.dup) 1 61 := ⟨by decide +kernel, rfl⟩
theorem d20_61 : DAt B20 61 (.getfield 198) 3 64 := ⟨by decide +kernel, rfl⟩
theorem d20_64 : DAt B20 64 (.iconst 1) 1 65 := ⟨by decide +kernel, rfl⟩
theorem d20_65 : DAt B20 65 (.iadd) 1 66 := ⟨by decide +kernel, rfl⟩
theorem d20_66 : DAt B20 66 (.putfield 198) 3 69 := ⟨by decide +kernel, rfl⟩
theorem d20_69 : DAt B20 69 (.aload_n 0) 1 70 := ⟨by decide +kernel, rfl⟩
theorem d20_70 : DAt B20 70 (.iload_n 1) 1 71 := ⟨by decide +kernel, rfl⟩
theorem d20_71 : DAt B20 71 (.iconst 0) 1 72 := ⟨by decide +kernel, rfl⟩
theorem d20_72 : DAt B20 72 (.invokevirtual 174) 3 75 := ⟨by decide +kernel, rfl⟩
theorem d20_75 : DAt B20 75 (.return_) 1 76 := ⟨by decide +kernel, rfl⟩
def B14 : Bdy := ((⟨"XorGaussSat", "search", "(II)Z"⟩ : MethodName), prog_1_method_38_code, 4, (some .boolean), ({ frames := 4, cells := 0, slots := 0, locals := 62 } : Room))
theorem d14_0 : DAt B14 0 (.aload_n 0) 1 1 := ⟨by decide +kernel, rfl⟩
theorem d14_1 : DAt B14 1 (.invokevirtual 125) 3 4 := ⟨by decide +kernel, rfl⟩
theorem d14_4 : DAt B14 4 (.aload_n 0) 1 5 := ⟨by decide +kernel, rfl⟩
theorem d14_5 : DAt B14 5 (.getfield 91) 3 8 := ⟨by decide +kernel, rfl⟩
theorem d14_8 : DAt B14 8 (.ifCond .ne 5) 3 11 := ⟨by decide +kernel, rfl⟩
theorem d14_11 : DAt B14 11 (.iconst 0) 1 12 := ⟨by decide +kernel, rfl⟩
theorem d14_12 : DAt B14 12 (.ireturn) 1 13 := ⟨by decide +kernel, rfl⟩
theorem d14_13 : DAt B14 13 (.aload_n 0) 1 14 := ⟨by decide +kernel, rfl⟩
theorem d14_14 : DAt B14 14 (.invokevirtual 171) 3 17 := ⟨by decide +kernel, rfl⟩
theorem d14_17 : DAt B14 17 (.iload_n 1) 1 18 := ⟨by decide +kernel, rfl⟩
theorem d14_18 : DAt B14 18 (.ifCond .lt 9) 3 21 := ⟨by decide +kernel, rfl⟩
theorem d14_21 : DAt B14 21 (.aload_n 0) 1 22 := ⟨by decide +kernel, rfl⟩
theorem d14_22 : DAt B14 22 (.iload_n 1) 1 23 := ⟨by decide +kernel, rfl⟩
theorem d14_23 : DAt B14 23 (.iload_n 2) 1 24 := ⟨by decide +kernel, rfl⟩
theorem d14_24 : DAt B14 24 (.invokevirtual 174) 3 27 := ⟨by decide +kernel, rfl⟩
theorem d14_27 : DAt B14 27 (.iconst 0) 1 28 := ⟨by decide +kernel, rfl⟩
theorem d14_28 : DAt B14 28 (.istore_n 3) 1 29 := ⟨by decide +kernel, rfl⟩
theorem d14_29 : DAt B14 29 (.iload_n 3) 1 30 := ⟨by decide +kernel, rfl⟩
theorem d14_30 : DAt B14 30 (.sipush 16384) 3 33 := ⟨by decide +kernel, rfl⟩
theorem d14_33 : DAt B14 33 (.if_icmp .ge 75) 3 36 := ⟨by decide +kernel, rfl⟩
theorem d14_36 : DAt B14 36 (.aload_n 0) 1 37 := ⟨by decide +kernel, rfl⟩
theorem d14_37 : DAt B14 37 (.invokevirtual 177) 3 40 := ⟨by decide +kernel, rfl⟩
theorem d14_40 : DAt B14 40 (.ifCond .ne 12) 3 43 := ⟨by decide +kernel, rfl⟩
theorem d14_43 : DAt B14 43 (.aload_n 0) 1 44 := ⟨by decide +kernel, rfl⟩
theorem d14_44 : DAt B14 44 (.invokevirtual 180) 3 47 := ⟨by decide +kernel, rfl⟩
theorem d14_47 : DAt B14 47 (.ifCond .ne 55) 3 50 := ⟨by decide +kernel, rfl⟩
theorem d14_50 : DAt B14 50 (.iconst 0) 1 51 := ⟨by decide +kernel, rfl⟩
theorem d14_51 : DAt B14 51 (.ireturn) 1 52 := ⟨by decide +kernel, rfl⟩
theorem d14_52 : DAt B14 52 (.aload_n 0) 1 53 := ⟨by decide +kernel, rfl⟩
theorem d14_53 : DAt B14 53 (.getfield 183) 3 56 := ⟨by decide +kernel, rfl⟩
theorem d14_56 : DAt B14 56 (.aload_n 0) 1 57 := ⟨by decide +kernel, rfl⟩
theorem d14_57 : DAt B14 57 (.getfield 66) 3 60 := ⟨by decide +kernel, rfl⟩
theorem d14_60 : DAt B14 60 (.if_icmp .ne 38) 3 63 := ⟨by decide +kernel, rfl⟩
theorem d14_63 : DAt B14 63 (.aload_n 0) 1 64 := ⟨by decide +kernel, rfl⟩
theorem d14_64 : DAt B14 64 (.aload_n 0) 1 65 := ⟨by decide +kernel, rfl⟩
theorem d14_65 : DAt B14 65 (.getfield 186) 3 68 := ⟨by decide +kernel, rfl⟩
theorem d14_68 : DAt B14 68 (.invokevirtual 189) 3 71 := ⟨by decide +kernel, rfl⟩
theorem d14_71 : DAt B14 71 (.ifCond .ne 18) 3 74 := ⟨by decide +kernel, rfl⟩
theorem d14_74 : DAt B14 74 (.aload_n 0) 1 75 := ⟨by decide +kernel, rfl⟩
theorem d14_75 : DAt B14 75 (.aload_n 0) 1 76 := ⟨by decide +kernel, rfl⟩
theorem d14_76 : DAt B14 76 (.getfield 186) 3 79 := ⟨by decide +kernel, rfl⟩
theorem d14_79 : DAt B14 79 (.aload_n 0) 1 80 := ⟨by decide +kernel, rfl⟩
theorem d14_80 : DAt B14 80 (.getfield 66) 3 83 := ⟨by decide +kernel, rfl⟩
theorem d14_83 : DAt B14 83 (.iand) 1 84 := ⟨by decide +kernel, rfl⟩
theorem d14_84 : DAt B14 84 (.putfield 116) 3 87 := ⟨by decide +kernel, rfl⟩
theorem d14_87 : DAt B14 87 (.iconst 1) 1 88 := ⟨by decide +kernel, rfl⟩
theorem d14_88 : DAt B14 88 (.ireturn) 1 89 := ⟨by decide +kernel, rfl⟩
theorem d14_89 : DAt B14 89 (.aload_n 0) 1 90 := ⟨by decide +kernel, rfl⟩
theorem d14_90 : DAt B14 90 (.invokevirtual 180) 3 93 := ⟨by decide +kernel, rfl⟩
theorem d14_93 : DAt B14 93 (.ifCond .ne 9) 3 96 := ⟨by decide +kernel, rfl⟩
theorem d14_96 : DAt B14 96 (.iconst 0) 1 97 := ⟨by decide +kernel, rfl⟩
theorem d14_97 : DAt B14 97 (.ireturn) 1 98 := ⟨by decide +kernel, rfl⟩
theorem d14_98 : DAt B14 98 (.aload_n 0) 1 99 := ⟨by decide +kernel, rfl⟩
theorem d14_99 : DAt B14 99 (.invokevirtual 192) 3 102 := ⟨by decide +kernel, rfl⟩
theorem d14_102 : DAt B14 102 (.iinc 3 1) 3 105 := ⟨by decide +kernel, rfl⟩
theorem d14_105 : DAt B14 105 (.goto (-76)) 3 108 := ⟨by decide +kernel, rfl⟩
theorem d14_108 : DAt B14 108 (.iconst 0) 1 109 := ⟨by decide +kernel, rfl⟩
theorem d14_109 : DAt B14 109 (.ireturn) 1 110 := ⟨by decide +kernel, rfl⟩
def B13 : Bdy := ((⟨"XorGaussSat", "solve", "()I"⟩ : MethodName), prog_1_method_11_code, 1, (some .int), ({ frames := 5, cells := 0, slots := 0, locals := 77 } : Room))
theorem d13_0 : DAt B13 0 (.aload_n 0) 1 1 := ⟨by decide +kernel, rfl⟩
theorem d13_1 : DAt B13 1 (.getfield 69) 3 4 := ⟨by decide +kernel, rfl⟩
theorem d13_4 : DAt B13 4 (.iconst 1) 1 5 := ⟨by decide +kernel, rfl⟩
theorem d13_5 : DAt B13 5 (.if_icmp .eq 10) 3 8 := ⟨by decide +kernel, rfl⟩
theorem d13_8 : DAt B13 8 (.aload_n 0) 1 9 := ⟨by decide +kernel, rfl⟩
theorem d13_9 : DAt B13 9 (.getfield 69) 3 12 := ⟨by decide +kernel, rfl⟩
theorem d13_12 : DAt B13 12 (.ifCond .ne 8) 3 15 := ⟨by decide +kernel, rfl⟩
theorem d13_15 : DAt B13 15 (.aload_n 0) 1 16 := ⟨by decide +kernel, rfl⟩
theorem d13_16 : DAt B13 16 (.getfield 69) 3 19 := ⟨by decide +kernel, rfl⟩
theorem d13_19 : DAt B13 19 (.ireturn) 1 20 := ⟨by decide +kernel, rfl⟩
theorem d13_20 : DAt B13 20 (.aload_n 0) 1 21 := ⟨by decide +kernel, rfl⟩
theorem d13_21 : DAt B13 21 (.iconst (-1)) 1 22 := ⟨by decide +kernel, rfl⟩
theorem d13_22 : DAt B13 22 (.iconst 0) 1 23 := ⟨by decide +kernel, rfl⟩
theorem d13_23 : DAt B13 23 (.invokevirtual 112) 3 26 := ⟨by decide +kernel, rfl⟩
theorem d13_26 : DAt B13 26 (.ifCond .eq 24) 3 29 := ⟨by decide +kernel, rfl⟩
theorem d13_29 : DAt B13 29 (.aload_n 0) 1 30 := ⟨by decide +kernel, rfl⟩
theorem d13_30 : DAt B13 30 (.aload_n 0) 1 31 := ⟨by decide +kernel, rfl⟩
theorem d13_31 : DAt B13 31 (.getfield 116) 3 34 := ⟨by decide +kernel, rfl⟩
theorem d13_34 : DAt B13 34 (.aload_n 0) 1 35 := ⟨by decide +kernel, rfl⟩
theorem d13_35 : DAt B13 35 (.getfield 66) 3 38 := ⟨by decide +kernel, rfl⟩
theorem d13_38 : DAt B13 38 (.iand) 1 39 := ⟨by decide +kernel, rfl⟩
theorem d13_39 : DAt B13 39 (.putfield 72) 3 42 := ⟨by decide +kernel, rfl⟩
theorem d13_42 : DAt B13 42 (.aload_n 0) 1 43 := ⟨by decide +kernel, rfl⟩
theorem d13_43 : DAt B13 43 (.iconst 1) 1 44 := ⟨by decide +kernel, rfl⟩
theorem d13_44 : DAt B13 44 (.putfield 69) 3 47 := ⟨by decide +kernel, rfl⟩
theorem d13_47 : DAt B13 47 (.goto 8) 3 50 := ⟨by decide +kernel, rfl⟩
theorem d13_50 : DAt B13 50 (.aload_n 0) 1 51 := ⟨by decide +kernel, rfl⟩
theorem d13_51 : DAt B13 51 (.iconst 0) 1 52 := ⟨by decide +kernel, rfl⟩
theorem d13_52 : DAt B13 52 (.putfield 69) 3 55 := ⟨by decide +kernel, rfl⟩
theorem d13_55 : DAt B13 55 (.aload_n 0) 1 56 := ⟨by decide +kernel, rfl⟩
theorem d13_56 : DAt B13 56 (.getfield 69) 3 59 := ⟨by decide +kernel, rfl⟩
theorem d13_59 : DAt B13 59 (.ireturn) 1 60 := ⟨by decide +kernel, rfl⟩
def B23 : Bdy := ((⟨"XorGaussSat", "modelBits", "()I"⟩ : MethodName), prog_1_method_14_code, 1, (some .int), ({ frames := 0, cells := 0, slots := 0, locals := 0 } : Room))
theorem d23_0 : DAt B23 0 (.aload_n 0) 1 1 := ⟨by decide +kernel, rfl⟩
theorem d23_1 : DAt B23 1 (.getfield 69) 3 4 := ⟨by decide +kernel, rfl⟩
theorem d23_4 : DAt B23 4 (.iconst 1) 1 5 := ⟨by decide +kernel, rfl⟩
theorem d23_5 : DAt B23 5 (.if_icmp .eq 5) 3 8 := ⟨by decide +kernel, rfl⟩
theorem d23_8 : DAt B23 8 (.iconst (-1)) 1 9 := ⟨by decide +kernel, rfl⟩
theorem d23_9 : DAt B23 9 (.ireturn) 1 10 := ⟨by decide +kernel, rfl⟩
theorem d23_10 : DAt B23 10 (.aload_n 0) 1 11 := ⟨by decide +kernel, rfl⟩
theorem d23_11 : DAt B23 11 (.getfield 72) 3 14 := ⟨by decide +kernel, rfl⟩
theorem d23_14 : DAt B23 14 (.aload_n 0) 1 15 := ⟨by decide +kernel, rfl⟩
theorem d23_15 : DAt B23 15 (.getfield 66) 3 18 := ⟨by decide +kernel, rfl⟩
theorem d23_18 : DAt B23 18 (.iand) 1 19 := ⟨by decide +kernel, rfl⟩
theorem d23_19 : DAt B23 19 (.ireturn) 1 20 := ⟨by decide +kernel, rfl⟩
def B0 : Bdy := (x, code, maxLocals, ret, room_1)
theorem d0_0 : DAt B0 0 (.new 7) 3 3 := ⟨at_0, rfl⟩
theorem d0_3 : DAt B0 3 (.dup) 1 4 := ⟨at_3, rfl⟩
theorem d0_4 : DAt B0 4 (.iconst 1) 1 5 := ⟨at_4, rfl⟩
theorem d0_5 : DAt B0 5 (.aload_n 0) 1 6 := ⟨at_5, rfl⟩
theorem d0_6 : DAt B0 6 (.iconst 0) 1 7 := ⟨at_6, rfl⟩
theorem d0_7 : DAt B0 7 (.invokestatic 9) 3 10 := ⟨at_7, rfl⟩
theorem d0_10 : DAt B0 10 (.bipush 7) 2 12 := ⟨at_10, rfl⟩
theorem d0_12 : DAt B0 12 (.iand) 1 13 := ⟨at_12, rfl⟩
theorem d0_13 : DAt B0 13 (.iadd) 1 14 := ⟨at_13, rfl⟩
theorem d0_14 : DAt B0 14 (.invokespecial 15) 3 17 := ⟨at_14, rfl⟩
theorem d0_17 : DAt B0 17 (.astore_n 1) 1 18 := ⟨at_17, rfl⟩
theorem d0_18 : DAt B0 18 (.aload_n 1) 1 19 := ⟨at_18, rfl⟩
theorem d0_19 : DAt B0 19 (.invokevirtual 18) 3 22 := ⟨at_19, rfl⟩
theorem d0_22 : DAt B0 22 (.istore_n 2) 1 23 := ⟨at_22, rfl⟩
theorem d0_23 : DAt B0 23 (.iload_n 2) 1 24 := ⟨at_23, rfl⟩
theorem d0_24 : DAt B0 24 (.iconst 1) 1 25 := ⟨at_24, rfl⟩
theorem d0_25 : DAt B0 25 (.if_icmp .lt 9) 3 28 := ⟨at_25, rfl⟩
theorem d0_28 : DAt B0 28 (.iload_n 2) 1 29 := ⟨at_28, rfl⟩
theorem d0_29 : DAt B0 29 (.bipush 12) 2 31 := ⟨at_29, rfl⟩
theorem d0_31 : DAt B0 31 (.if_icmp .le 5) 3 34 := ⟨at_31, rfl⟩
theorem d0_34 : DAt B0 34 (.iconst 0) 1 35 := ⟨at_34, rfl⟩
theorem d0_35 : DAt B0 35 (.ireturn) 1 36 := ⟨at_35, rfl⟩
theorem d0_36 : DAt B0 36 (.iconst 1) 1 37 := ⟨at_36, rfl⟩
theorem d0_37 : DAt B0 37 (.iload_n 2) 1 38 := ⟨at_37, rfl⟩
theorem d0_38 : DAt B0 38 (.ishl) 1 39 := ⟨at_38, rfl⟩
theorem d0_39 : DAt B0 39 (.istore_n 3) 1 40 := ⟨at_39, rfl⟩
theorem d0_40 : DAt B0 40 (.aload_n 0) 1 41 := ⟨at_40, rfl⟩
theorem d0_41 : DAt B0 41 (.arraylength) 1 42 := ⟨at_41, rfl⟩
theorem d0_42 : DAt B0 42 (.iconst 1) 1 43 := ⟨at_42, rfl⟩
theorem d0_43 : DAt B0 43 (.isub) 1 44 := ⟨at_43, rfl⟩
theorem d0_44 : DAt B0 44 (.istore 4) 2 46 := ⟨at_44, rfl⟩
theorem d0_46 : DAt B0 46 (.iload 4) 2 48 := ⟨at_46, rfl⟩
theorem d0_48 : DAt B0 48 (.sipush 300) 3 51 := ⟨at_48, rfl⟩
theorem d0_51 : DAt B0 51 (.if_icmp .le 8) 3 54 := ⟨at_51, rfl⟩
theorem d0_54 : DAt B0 54 (.sipush 300) 3 57 := ⟨at_54, rfl⟩
theorem d0_57 : DAt B0 57 (.istore 4) 2 59 := ⟨at_57, rfl⟩
theorem d0_59 : DAt B0 59 (.iload 4) 2 61 := ⟨at_59, rfl⟩
theorem d0_61 : DAt B0 61 (.ifCond .ge 6) 3 64 := ⟨at_61, rfl⟩
theorem d0_64 : DAt B0 64 (.iconst 0) 1 65 := ⟨at_64, rfl⟩
theorem d0_65 : DAt B0 65 (.istore 4) 2 67 := ⟨at_65, rfl⟩
theorem d0_67 : DAt B0 67 (.iconst 0) 1 68 := ⟨at_67, rfl⟩
theorem d0_68 : DAt B0 68 (.istore 5) 2 70 := ⟨at_68, rfl⟩
theorem d0_70 : DAt B0 70 (.iload 5) 2 72 := ⟨at_70, rfl⟩
theorem d0_72 : DAt B0 72 (.iload 4) 2 74 := ⟨at_72, rfl⟩
theorem d0_74 : DAt B0 74 (.if_icmp .gt 255) 3 77 := ⟨at_74, rfl⟩
theorem d0_77 : DAt B0 77 (.iload 5) 2 79 := ⟨at_77, rfl⟩
theorem d0_79 : DAt B0 79 (.iconst 1) 1 80 := ⟨at_79, rfl⟩
theorem d0_80 : DAt B0 80 (.if_icmp .lt 139) 3 83 := ⟨at_80, rfl⟩
theorem d0_83 : DAt B0 83 (.aload_n 0) 1 84 := ⟨at_83, rfl⟩
theorem d0_84 : DAt B0 84 (.iload 5) 2 86 := ⟨at_84, rfl⟩
theorem d0_86 : DAt B0 86 (.invokestatic 9) 3 89 := ⟨at_86, rfl⟩
theorem d0_89 : DAt B0 89 (.ldc 22) 2 91 := ⟨at_89, rfl⟩
theorem d0_91 : DAt B0 91 (.iand) 1 92 := ⟨at_91, rfl⟩
theorem d0_92 : DAt B0 92 (.istore 6) 2 94 := ⟨at_92, rfl⟩
theorem d0_94 : DAt B0 94 (.iload 6) 2 96 := ⟨at_94, rfl⟩
theorem d0_96 : DAt B0 96 (.bipush 16) 2 98 := ⟨at_96, rfl⟩
theorem d0_98 : DAt B0 98 (.irem) 1 99 := ⟨at_98, rfl⟩
theorem d0_99 : DAt B0 99 (.istore 7) 2 101 := ⟨at_99, rfl⟩
theorem d0_101 : DAt B0 101 (.iload 6) 2 103 := ⟨at_101, rfl⟩
theorem d0_103 : DAt B0 103 (.bipush 16) 2 105 := ⟨at_103, rfl⟩
theorem d0_105 : DAt B0 105 (.idiv) 1 106 := ⟨at_105, rfl⟩
theorem d0_106 : DAt B0 106 (.iload_n 2) 1 107 := ⟨at_106, rfl⟩
theorem d0_107 : DAt B0 107 (.irem) 1 108 := ⟨at_107, rfl⟩
theorem d0_108 : DAt B0 108 (.istore 8) 2 110 := ⟨at_108, rfl⟩
theorem d0_110 : DAt B0 110 (.iload 6) 2 112 := ⟨at_110, rfl⟩
theorem d0_112 : DAt B0 112 (.sipush 256) 3 115 := ⟨at_112, rfl⟩
theorem d0_115 : DAt B0 115 (.idiv) 1 116 := ⟨at_115, rfl⟩
theorem d0_116 : DAt B0 116 (.iconst 1) 1 117 := ⟨at_116, rfl⟩
theorem d0_117 : DAt B0 117 (.iand) 1 118 := ⟨at_117, rfl⟩
theorem d0_118 : DAt B0 118 (.iconst 1) 1 119 := ⟨at_118, rfl⟩
theorem d0_119 : DAt B0 119 (.if_icmp .ne 7) 3 122 := ⟨at_119, rfl⟩
theorem d0_122 : DAt B0 122 (.iconst 1) 1 123 := ⟨at_122, rfl⟩
theorem d0_123 : DAt B0 123 (.goto 4) 3 126 := ⟨at_123, rfl⟩
theorem d0_126 : DAt B0 126 (.iconst 0) 1 127 := ⟨at_126, rfl⟩
theorem d0_127 : DAt B0 127 (.istore 9) 2 129 := ⟨at_127, rfl⟩
theorem d0_129 : DAt B0 129 (.iload 7) 2 131 := ⟨at_129, rfl⟩
theorem d0_131 : DAt B0 131 (.iconst 5) 1 132 := ⟨at_131, rfl⟩
theorem d0_132 : DAt B0 132 (.if_icmp .gt 15) 3 135 := ⟨at_132, rfl⟩
theorem d0_135 : DAt B0 135 (.aload_n 1) 1 136 := ⟨at_135, rfl⟩
theorem d0_136 : DAt B0 136 (.iload 8) 2 138 := ⟨at_136, rfl⟩
theorem d0_138 : DAt B0 138 (.iload 9) 2 140 := ⟨at_138, rfl⟩
theorem d0_140 : DAt B0 140 (.invokevirtual 23) 3 143 := ⟨at_140, rfl⟩
theorem d0_143 : DAt B0 143 (.pop) 1 144 := ⟨at_143, rfl⟩
theorem d0_144 : DAt B0 144 (.goto 75) 3 147 := ⟨at_144, rfl⟩
theorem d0_147 : DAt B0 147 (.iload 7) 2 149 := ⟨at_147, rfl⟩
theorem d0_149 : DAt B0 149 (.bipush 8) 2 151 := ⟨at_149, rfl⟩
theorem d0_151 : DAt B0 151 (.if_icmp .gt 11) 3 154 := ⟨at_151, rfl⟩
theorem d0_154 : DAt B0 154 (.aload_n 1) 1 155 := ⟨at_154, rfl⟩
theorem d0_155 : DAt B0 155 (.invokevirtual 27) 3 158 := ⟨at_155, rfl⟩
theorem d0_158 : DAt B0 158 (.pop) 1 159 := ⟨at_158, rfl⟩
theorem d0_159 : DAt B0 159 (.goto 60) 3 162 := ⟨at_159, rfl⟩
theorem d0_162 : DAt B0 162 (.iload 7) 2 164 := ⟨at_162, rfl⟩
theorem d0_164 : DAt B0 164 (.bipush 10) 2 166 := ⟨at_164, rfl⟩
theorem d0_166 : DAt B0 166 (.if_icmp .gt 27) 3 169 := ⟨at_166, rfl⟩
theorem d0_169 : DAt B0 169 (.aload_n 1) 1 170 := ⟨at_169, rfl⟩
theorem d0_170 : DAt B0 170 (.iload 6) 2 172 := ⟨at_170, rfl⟩
theorem d0_172 : DAt B0 172 (.bipush 16) 2 174 := ⟨at_172, rfl⟩
theorem d0_174 : DAt B0 174 (.idiv) 1 175 := ⟨at_174, rfl⟩
theorem d0_175 : DAt B0 175 (.iconst 1) 1 176 := ⟨at_175, rfl⟩
theorem d0_176 : DAt B0 176 (.iand) 1 177 := ⟨at_176, rfl⟩
theorem d0_177 : DAt B0 177 (.iconst 1) 1 178 := ⟨at_177, rfl⟩
theorem d0_178 : DAt B0 178 (.if_icmp .ne 7) 3 181 := ⟨at_178, rfl⟩
theorem d0_181 : DAt B0 181 (.iconst 1) 1 182 := ⟨at_181, rfl⟩
theorem d0_182 : DAt B0 182 (.goto 4) 3 185 := ⟨at_182, rfl⟩
theorem d0_185 : DAt B0 185 (.iconst 0) 1 186 := ⟨at_185, rfl⟩
theorem d0_186 : DAt B0 186 (.invokevirtual 30) 3 189 := ⟨at_186, rfl⟩
theorem d0_189 : DAt B0 189 (.pop) 1 190 := ⟨at_189, rfl⟩
theorem d0_190 : DAt B0 190 (.goto 29) 3 193 := ⟨at_190, rfl⟩
theorem d0_193 : DAt B0 193 (.iload 7) 2 195 := ⟨at_193, rfl⟩
theorem d0_195 : DAt B0 195 (.bipush 12) 2 197 := ⟨at_195, rfl⟩
theorem d0_197 : DAt B0 197 (.if_icmp .gt 11) 3 200 := ⟨at_197, rfl⟩
theorem d0_200 : DAt B0 200 (.aload_n 1) 1 201 := ⟨at_200, rfl⟩
theorem d0_201 : DAt B0 201 (.invokevirtual 34) 3 204 := ⟨at_201, rfl⟩
theorem d0_204 : DAt B0 204 (.pop) 1 205 := ⟨at_204, rfl⟩
theorem d0_205 : DAt B0 205 (.goto 14) 3 208 := ⟨at_205, rfl⟩
theorem d0_208 : DAt B0 208 (.iload 7) 2 210 := ⟨at_208, rfl⟩
theorem d0_210 : DAt B0 210 (.bipush 13) 2 212 := ⟨at_210, rfl⟩
theorem d0_212 : DAt B0 212 (.if_icmp .ne 7) 3 215 := ⟨at_212, rfl⟩
theorem d0_215 : DAt B0 215 (.aload_n 1) 1 216 := ⟨at_215, rfl⟩
theorem d0_216 : DAt B0 216 (.invokevirtual 37) 3 219 := ⟨at_216, rfl⟩
theorem d0_219 : DAt B0 219 (.iconst 0) 1 220 := ⟨at_219, rfl⟩
theorem d0_220 : DAt B0 220 (.istore 6) 2 222 := ⟨at_220, rfl⟩
theorem d0_222 : DAt B0 222 (.iconst (-1)) 1 223 := ⟨at_222, rfl⟩
theorem d0_223 : DAt B0 223 (.istore 7) 2 225 := ⟨at_223, rfl⟩
theorem d0_225 : DAt B0 225 (.iconst 0) 1 226 := ⟨at_225, rfl⟩
theorem d0_226 : DAt B0 226 (.istore 8) 2 228 := ⟨at_226, rfl⟩
theorem d0_228 : DAt B0 228 (.iload 8) 2 230 := ⟨at_228, rfl⟩
theorem d0_230 : DAt B0 230 (.iload_n 3) 1 231 := ⟨at_230, rfl⟩
theorem d0_231 : DAt B0 231 (.if_icmp .ge 40) 3 234 := ⟨at_231, rfl⟩
theorem d0_234 : DAt B0 234 (.aload_n 1) 1 235 := ⟨at_234, rfl⟩
theorem d0_235 : DAt B0 235 (.iload 8) 2 237 := ⟨at_235, rfl⟩
theorem d0_237 : DAt B0 237 (.invokevirtual 40) 3 240 := ⟨at_237, rfl⟩
theorem d0_240 : DAt B0 240 (.ifCond .ne 25) 3 243 := ⟨at_240, rfl⟩
theorem d0_243 : DAt B0 243 (.iinc 6 1) 3 246 := ⟨at_243, rfl⟩
theorem d0_246 : DAt B0 246 (.iload 7) 2 248 := ⟨at_246, rfl⟩
theorem d0_248 : DAt B0 248 (.ifCond .lt 13) 3 251 := ⟨at_248, rfl⟩
theorem d0_251 : DAt B0 251 (.iload 8) 2 253 := ⟨at_251, rfl⟩
theorem d0_253 : DAt B0 253 (.iload 7) 2 255 := ⟨at_253, rfl⟩
theorem d0_255 : DAt B0 255 (.invokestatic 44) 3 258 := ⟨at_255, rfl⟩
theorem d0_258 : DAt B0 258 (.ifCond .eq 7) 3 261 := ⟨at_258, rfl⟩
theorem d0_261 : DAt B0 261 (.iload 8) 2 263 := ⟨at_261, rfl⟩
theorem d0_263 : DAt B0 263 (.istore 7) 2 265 := ⟨at_263, rfl⟩
theorem d0_265 : DAt B0 265 (.iinc 8 1) 3 268 := ⟨at_265, rfl⟩
theorem d0_268 : DAt B0 268 (.goto (-40)) 3 271 := ⟨at_268, rfl⟩
theorem d0_271 : DAt B0 271 (.aload_n 1) 1 272 := ⟨at_271, rfl⟩
theorem d0_272 : DAt B0 272 (.invokevirtual 48) 3 275 := ⟨at_272, rfl⟩
theorem d0_275 : DAt B0 275 (.iload 6) 2 277 := ⟨at_275, rfl⟩
theorem d0_277 : DAt B0 277 (.if_icmp .eq 5) 3 280 := ⟨at_277, rfl⟩
theorem d0_280 : DAt B0 280 (.iconst 0) 1 281 := ⟨at_280, rfl⟩
theorem d0_281 : DAt B0 281 (.ireturn) 1 282 := ⟨at_281, rfl⟩
theorem d0_282 : DAt B0 282 (.aload_n 1) 1 283 := ⟨at_282, rfl⟩
theorem d0_283 : DAt B0 283 (.invokevirtual 51) 3 286 := ⟨at_283, rfl⟩
theorem d0_286 : DAt B0 286 (.istore 8) 2 288 := ⟨at_286, rfl⟩
theorem d0_288 : DAt B0 288 (.iload 6) 2 290 := ⟨at_288, rfl⟩
theorem d0_290 : DAt B0 290 (.ifCond .ne 10) 3 293 := ⟨at_290, rfl⟩
theorem d0_293 : DAt B0 293 (.iload 8) 2 295 := ⟨at_293, rfl⟩
theorem d0_295 : DAt B0 295 (.ifCond .eq 28) 3 298 := ⟨at_295, rfl⟩
theorem d0_298 : DAt B0 298 (.iconst 0) 1 299 := ⟨at_298, rfl⟩
theorem d0_299 : DAt B0 299 (.ireturn) 1 300 := ⟨at_299, rfl⟩
theorem d0_300 : DAt B0 300 (.iload 8) 2 302 := ⟨at_300, rfl⟩
theorem d0_302 : DAt B0 302 (.iconst 1) 1 303 := ⟨at_302, rfl⟩
theorem d0_303 : DAt B0 303 (.if_icmp .eq 5) 3 306 := ⟨at_303, rfl⟩
theorem d0_306 : DAt B0 306 (.iconst 0) 1 307 := ⟨at_306, rfl⟩
theorem d0_307 : DAt B0 307 (.ireturn) 1 308 := ⟨at_307, rfl⟩
theorem d0_308 : DAt B0 308 (.aload_n 1) 1 309 := ⟨at_308, rfl⟩
theorem d0_309 : DAt B0 309 (.invokevirtual 54) 3 312 := ⟨at_309, rfl⟩
theorem d0_312 : DAt B0 312 (.istore 9) 2 314 := ⟨at_312, rfl⟩
theorem d0_314 : DAt B0 314 (.iload 9) 2 316 := ⟨at_314, rfl⟩
theorem d0_316 : DAt B0 316 (.iload 7) 2 318 := ⟨at_316, rfl⟩
theorem d0_318 : DAt B0 318 (.if_icmp .eq 5) 3 321 := ⟨at_318, rfl⟩
theorem d0_321 : DAt B0 321 (.iconst 0) 1 322 := ⟨at_321, rfl⟩
theorem d0_322 : DAt B0 322 (.ireturn) 1 323 := ⟨at_322, rfl⟩
theorem d0_323 : DAt B0 323 (.iinc 5 1) 3 326 := ⟨at_323, rfl⟩
theorem d0_326 : DAt B0 326 (.goto (-256)) 3 329 := ⟨at_326, rfl⟩
theorem d0_329 : DAt B0 329 (.iconst 1) 1 330 := ⟨at_329, rfl⟩
theorem d0_330 : DAt B0 330 (.ireturn) 1 331 := ⟨at_330, rfl⟩
theorem ar1 : arity B1 2 := ⟨[(.array .int), .int], some .int, by decide +kernel, rfl⟩
theorem ar2 : arity B2 1 := ⟨[.int], none, by decide +kernel, rfl⟩
theorem ar3 : arity B3 0 := ⟨[], some .int, by decide +kernel, rfl⟩
theorem ar4 : arity B4 1 := ⟨[.int], some .int, by decide +kernel, rfl⟩
theorem ar5 : arity B5 2 := ⟨[.int, .int], some .boolean, by decide +kernel, rfl⟩
theorem ar6 : arity B6 0 := ⟨[], some .int, by decide +kernel, rfl⟩
theorem ar7 : arity B7 0 := ⟨[], none, by decide +kernel, rfl⟩
theorem ar8 : arity B8 0 := ⟨[], none, by decide +kernel, rfl⟩
theorem ar9 : arity B9 1 := ⟨[.int], some .int, by decide +kernel, rfl⟩
theorem ar10 : arity B10 0 := ⟨[], some .boolean, by decide +kernel, rfl⟩
theorem ar11 : arity B11 0 := ⟨[], some .int, by decide +kernel, rfl⟩
theorem ar12 : arity B12 1 := ⟨[.int], some .int, by decide +kernel, rfl⟩
theorem ar13 : arity B13 0 := ⟨[], some .int, by decide +kernel, rfl⟩
theorem ar14 : arity B14 2 := ⟨[.int, .int], some .boolean, by decide +kernel, rfl⟩
theorem ar15 : arity B15 0 := ⟨[], none, by decide +kernel, rfl⟩
theorem ar16 : arity B16 0 := ⟨[], some .boolean, by decide +kernel, rfl⟩
theorem ar17 : arity B17 0 := ⟨[], some .boolean, by decide +kernel, rfl⟩
theorem ar18 : arity B18 0 := ⟨[], some .boolean, by decide +kernel, rfl⟩
theorem ar19 : arity B19 0 := ⟨[], none, by decide +kernel, rfl⟩
theorem ar20 : arity B20 0 := ⟨[], none, by decide +kernel, rfl⟩
theorem ar21 : arity B21 0 := ⟨[], some .int, by decide +kernel, rfl⟩
theorem ar22 : arity B22 2 := ⟨[.int, .int], none, by decide +kernel, rfl⟩
theorem ar23 : arity B23 0 := ⟨[], some .int, by decide +kernel, rfl⟩
theorem ar24 : arity B24 2 := ⟨[.int, .boolean], some .int, by decide +kernel, rfl⟩
theorem ar25 : arity B25 0 := ⟨[], some .int, by decide +kernel, rfl⟩
theorem ar26 : arity B26 0 := ⟨[], some .int, by decide +kernel, rfl⟩
theorem ar27 : arity B27 1 := ⟨[.boolean], some .int, by decide +kernel, rfl⟩
theorem ar28 : arity B28 1 := ⟨[.int], none, by decide +kernel, rfl⟩
theorem ar29 : arity B29 2 := ⟨[.int, .int], some .boolean, by decide +kernel, rfl⟩
theorem ar30 : arity B30 1 := ⟨[.int], some .int, by decide +kernel, rfl⟩
theorem ar31 : arity B31 1 := ⟨[.int], some .int, by decide +kernel, rfl⟩
theorem ar32 : arity B32 1 := ⟨[.int], some .boolean, by decide +kernel, rfl⟩
theorem ar33 : arity B33 1 := ⟨[.int], some .boolean, by decide +kernel, rfl⟩
theorem ar34 : arity B34 0 := ⟨[], some .boolean, by decide +kernel, rfl⟩
theorem ar35 : arity B35 1 := ⟨[.boolean], some .int, by decide +kernel, rfl⟩
theorem ar36 : arity B36 0 := ⟨[], some .int, by decide +kernel, rfl⟩
theorem ar37 : arity B37 0 := ⟨[], some .int, by decide +kernel, rfl⟩
theorem ar38 : arity B38 2 := ⟨[.int, .int], some .boolean, by decide +kernel, rfl⟩
theorem ar39 : arity B39 1 := ⟨[.int], some .int, by decide +kernel, rfl⟩
theorem ar40 : arity B40 0 := ⟨[], none, by decide +kernel, rfl⟩
theorem ar41 : arity B41 2 := ⟨[.int, .int], none, by decide +kernel, rfl⟩
theorem ar42 : arity B42 2 := ⟨[.int, .int], none, by decide +kernel, rfl⟩
theorem ar43 : arity B43 1 := ⟨[.int], some .boolean, by decide +kernel, rfl⟩
theorem ar44 : arity B44 1 := ⟨[.int], some .int, by decide +kernel, rfl⟩
theorem ar45 : arity B45 1 := ⟨[.int], none, by decide +kernel, rfl⟩
theorem cw1 : code_w B1 := ⟨mem1 6 rfl, mem1 5 rfl, by decide⟩
theorem cw2 : code_w B2 := ⟨mem1 9 rfl, mem1 2 rfl, by decide⟩
theorem cw3 : code_w B3 := ⟨mem1 75 rfl, mem1 2 rfl, by decide⟩
theorem cw4 : code_w B4 := ⟨mem1 80 rfl, mem1 2 rfl, by decide⟩
theorem cw5 : code_w B5 := ⟨mem1 83 rfl, mem1 5 rfl, by decide⟩
theorem cw6 : code_w B6 := ⟨mem1 88 rfl, mem1 2 rfl, by decide⟩
theorem cw7 : code_w B7 := ⟨mem1 92 rfl, mem1 2 rfl, by decide⟩
theorem cw8 : code_w B8 := ⟨mem1 98 rfl, mem1 2 rfl, by decide⟩
theorem cw9 : code_w B9 := ⟨mem1 104 rfl, mem1 2 rfl, by decide⟩
theorem cw10 : code_w B10 := ⟨mem1 108 rfl, mem1 2 rfl, by decide⟩
theorem cw11 : code_w B11 := ⟨mem1 112 rfl, mem1 2 rfl, by decide⟩
theorem cw12 : code_w B12 := ⟨mem1 116 rfl, mem1 2 rfl, by decide⟩
theorem cw13 : code_w B13 := ⟨mem1 121 rfl, mem1 2 rfl, by decide⟩
theorem cw14 : code_w B14 := ⟨mem1 125 rfl, mem1 2 rfl, by decide⟩
theorem cw15 : code_w B15 := ⟨mem1 129 rfl, mem1 2 rfl, by decide⟩
theorem cw16 : code_w B16 := ⟨mem1 143 rfl, mem1 2 rfl, by decide⟩
theorem cw17 : code_w B17 := ⟨mem1 147 rfl, mem1 2 rfl, by decide⟩
theorem cw18 : code_w B18 := ⟨mem1 151 rfl, mem1 2 rfl, by decide⟩
theorem cw19 : code_w B19 := ⟨mem1 155 rfl, mem1 2 rfl, by decide⟩
theorem cw20 : code_w B20 := ⟨mem1 159 rfl, mem1 2 rfl, by decide⟩
theorem cw21 : code_w B21 := ⟨mem1 163 rfl, mem1 2 rfl, by decide⟩
theorem cw22 : code_w B22 := ⟨mem1 167 rfl, mem1 2 rfl, by decide⟩
theorem cw23 : code_w B23 := ⟨mem1 173 rfl, mem1 2 rfl, by decide⟩
theorem cw24 : code_w B24 := ⟨mem1 179 rfl, mem1 2 rfl, by decide⟩
theorem cw25 : code_w B25 := ⟨mem1 184 rfl, mem1 2 rfl, by decide⟩
theorem cw26 : code_w B26 := ⟨mem1 189 rfl, mem1 2 rfl, by decide⟩
theorem cw27 : code_w B27 := ⟨mem1 193 rfl, mem1 2 rfl, by decide⟩
theorem cw28 : code_w B28 := ⟨mem1 197 rfl, mem1 2 rfl, by decide⟩
theorem cw29 : code_w B29 := ⟨mem1 201 rfl, mem1 2 rfl, by decide⟩
theorem cw30 : code_w B30 := ⟨mem1 205 rfl, mem1 2 rfl, by decide⟩
theorem cw31 : code_w B31 := ⟨mem1 209 rfl, mem1 2 rfl, by decide⟩
theorem cw32 : code_w B32 := ⟨mem1 213 rfl, mem1 2 rfl, by decide⟩
theorem cw33 : code_w B33 := ⟨mem1 217 rfl, mem1 2 rfl, by decide⟩
theorem cw34 : code_w B34 := ⟨mem1 221 rfl, mem1 2 rfl, by decide⟩
theorem cw35 : code_w B35 := ⟨mem1 226 rfl, mem1 2 rfl, by decide⟩
theorem cw36 : code_w B36 := ⟨mem1 230 rfl, mem1 2 rfl, by decide⟩
theorem cw37 : code_w B37 := ⟨mem1 234 rfl, mem1 2 rfl, by decide⟩
theorem cw38 : code_w B38 := ⟨mem1 238 rfl, mem1 2 rfl, by decide⟩
theorem cw39 : code_w B39 := ⟨mem1 242 rfl, mem1 2 rfl, by decide⟩
theorem cw40 : code_w B40 := ⟨mem1 247 rfl, mem1 2 rfl, by decide⟩
theorem cw41 : code_w B41 := ⟨mem1 251 rfl, mem1 2 rfl, by decide⟩
theorem cw42 : code_w B42 := ⟨mem1 255 rfl, mem1 2 rfl, by decide⟩
theorem cw43 : code_w B43 := ⟨mem1 259 rfl, mem1 2 rfl, by decide⟩
theorem cw44 : code_w B44 := ⟨mem1 263 rfl, mem1 2 rfl, by decide⟩
theorem cw45 : code_w B45 := ⟨mem1 267 rfl, mem1 2 rfl, by decide⟩
theorem rk0_1_0 : room_ok B0 B1 0 := by decide
theorem rk0_1_3 : room_ok B0 B1 3 := by decide
theorem rk0_3_0 : room_ok B0 B3 0 := by decide
theorem rk0_4_0 : room_ok B0 B4 0 := by decide
theorem rk0_5_0 : room_ok B0 B5 0 := by decide
theorem rk0_6_0 : room_ok B0 B6 0 := by decide
theorem rk0_13_0 : room_ok B0 B13 0 := by decide
theorem rk0_23_0 : room_ok B0 B23 0 := by decide
theorem rk0_24_0 : room_ok B0 B24 0 := by decide
theorem rk0_25_0 : room_ok B0 B25 0 := by decide
theorem rk0_26_0 : room_ok B0 B26 0 := by decide
theorem rk0_35_0 : room_ok B0 B35 0 := by decide
theorem rk0_40_0 : room_ok B0 B40 0 := by decide
theorem rk4_29_0 : room_ok B4 B29 0 := by decide
theorem rk4_38_0 : room_ok B4 B38 0 := by decide
theorem rk6_7_0 : room_ok B6 B7 0 := by decide
theorem rk6_11_1 : room_ok B6 B11 1 := by decide
theorem rk6_12_0 : room_ok B6 B12 0 := by decide
theorem rk6_30_0 : room_ok B6 B30 0 := by decide
theorem rk7_8_0 : room_ok B7 B8 0 := by decide
theorem rk7_10_1 : room_ok B7 B10 1 := by decide
theorem rk8_9_0 : room_ok B8 B9 0 := by decide
theorem rk8_41_0 : room_ok B8 B41 0 := by decide
theorem rk8_42_0 : room_ok B8 B42 0 := by decide
theorem rk13_14_0 : room_ok B13 B14 0 := by decide
theorem rk14_4_0 : room_ok B14 B4 0 := by decide
theorem rk14_7_0 : room_ok B14 B7 0 := by decide
theorem rk14_15_0 : room_ok B14 B15 0 := by decide
theorem rk14_16_0 : room_ok B14 B16 0 := by decide
theorem rk14_20_0 : room_ok B14 B20 0 := by decide
theorem rk14_22_0 : room_ok B14 B22 0 := by decide
theorem rk14_34_0 : room_ok B14 B34 0 := by decide
theorem rk16_17_0 : room_ok B16 B17 0 := by decide
theorem rk16_18_0 : room_ok B16 B18 0 := by decide
theorem rk17_33_0 : room_ok B17 B33 0 := by decide
theorem rk18_8_0 : room_ok B18 B8 0 := by decide
theorem rk18_19_0 : room_ok B18 B19 0 := by decide
theorem rk18_22_0 : room_ok B18 B22 0 := by decide
theorem rk18_43_0 : room_ok B18 B43 0 := by decide
theorem rk18_44_0 : room_ok B18 B44 0 := by decide
theorem rk19_39_3 : room_ok B19 B39 3 := by decide
theorem rk20_21_0 : room_ok B20 B21 0 := by decide
theorem rk20_22_0 : room_ok B20 B22 0 := by decide
theorem rk26_27_2 : room_ok B26 B27 2 := by decide
theorem rk26_28_0 : room_ok B26 B28 0 := by decide
theorem rk30_31_0 : room_ok B30 B31 0 := by decide
theorem rk30_32_0 : room_ok B30 B32 0 := by decide
theorem rk31_39_1 : room_ok B31 B39 1 := by decide
theorem rk32_29_0 : room_ok B32 B29 0 := by decide
theorem rk33_22_0 : room_ok B33 B22 0 := by decide
theorem rk33_43_0 : room_ok B33 B43 0 := by decide
theorem rk33_44_0 : room_ok B33 B44 0 := by decide
theorem rk34_22_0 : room_ok B34 B22 0 := by decide
theorem rk34_45_0 : room_ok B34 B45 0 := by decide
theorem rk35_28_0 : room_ok B35 B28 0 := by decide
theorem rk35_36_0 : room_ok B35 B36 0 := by decide
theorem rk35_37_2 : room_ok B35 B37 2 := by decide
theorem rk38_39_0 : room_ok B38 B39 0 := by decide
def L_cell (z : Int32) (f : Int32 → Int32) (i1 : Int32) : Option (Int32) :=
  if i1 < z then
    chk z i1 <|
    some (f i1)
  else
    some (0 : Int32)
set_option maxRecDepth 65536 in
set_option maxHeartbeats 4000000 in
theorem L_cell_p {C : Ctx} {G : AH} {sa : Nat} {z : Int32} {f : Int32 → Int32} (hs : ScrF C sa z f) {res : Int32} (i1 : Int32) (hf : L_cell z f i1 = some res) : Runs C B1 0 0 0 [vr sa, vi i1] [] G (Ans (some (.int res)) G) := by
  delta L_cell at hf
  refine Runs.iloadN d1_0 rfl <| Runs.aloadN d1_1 rfl <| Runs.lenS hs d1_2 <| ?_
  refine ite_el hf (fun hc1 hf => ?_) (fun hc1 hf => ?_)
  · refine Runs.icN d1_3 (tlt hc1).2.1 <| ?_
    refine Runs.aloadN d1_6 rfl <| Runs.iloadN d1_7 rfl <| ?_
    refine chk_el hf fun hi2 hf => ?_
    obtain rfl := Option.some.inj hf
    exact Runs.ialoadS hs d1_8 hi2 <| Runs.goto (pc' := 13) d1_9 (by decide) <| Runs.retI d1_13 rfl ⟨by decide, by decide⟩ ⟨rfl, rfl⟩
  · refine Runs.icY (pc' := 12) d1_3 (flt hc1).2.1 (by decide) <| ?_
    obtain rfl := Option.some.inj hf
    exact Runs.iconst d1_12 ci_0 <| Runs.retI d1_13 rfl ⟨by decide, by decide⟩ ⟨rfl, rfl⟩
theorem L_cell_pay {C : Ctx} {G : AH} {sa : Nat} {z : Int32} {f : Int32 → Int32} (hs : ScrF C sa z f) {res : Int32} {i1 : Int32} (hf : L_cell z f i1 = some res) : Pays C B1 [.ref sa, .int i1] G (Ans (some (.int res)) G) :=
  Pays.of pnL (Nat.le_of_ble_eq_true rfl) (P := [vr sa, vi i1]) 0 rfl (L_cell_p hs i1 hf)
def X_init_b158 (ob : Rec) (i2 : Int32) : Option (Rec) :=
  some (sI (sI (sI (sI (sI (sI (sI (sI (sI (sI (sI ob 0 i2) 1 (((1 : Int32) <<< (i2 &&& 31)) - (1 : Int32))) 2 (2 : Int32)) 3 (0 : Int32)) 4 (0 : Int32)) 5 (0 : Int32)) 6 (0 : Int32)) 7 (0 : Int32)) 10 (0 : Int32)) 9 (1 : Int32)) 8 (0 : Int32))
set_option maxRecDepth 65536 in
set_option maxHeartbeats 4000000 in
theorem X_init_b158_p {C : Ctx} {a : Nat} {H : List (Nat × Nat × Rec)} {res : Rec} (ob : Rec) (i2 : Int32) (hf : X_init_b158 ob i2 = some res) : Runs C B2 17 283 158 [vr a, vn, vi i2] [] (a + 1 + 17, (a, 17, ob) :: H) (Ans none (a + 1 + 17, (a, 17, res) :: H)) := by
  delta X_init_b158 at hf
  refine Runs.aloadN d2_158 rfl <| Runs.iloadN d2_159 rfl <| Runs.putI d2_160 w49 fS_0 (Or.inl w50) <| Runs.aloadN d2_163 rfl <| Runs.iconst d2_164 ci_1 <| Runs.iloadN d2_165 rfl <| Runs.ishl d2_166 <| Runs.iconst d2_167 ci_1 <| Runs.isub d2_168 <| Runs.putI d2_169 w51 fS_1 (Or.inl w52) <| Runs.aloadN d2_172 rfl <| Runs.iconst d2_173 ci_2 <| ?_
  refine Runs.putI d2_174 w53 fS_2 (Or.inl w54) <| Runs.aloadN d2_177 rfl <| Runs.iconst d2_178 ci_0 <| Runs.putI d2_179 w55 fS_3 (Or.inl w56) <| Runs.aloadN d2_182 rfl <| Runs.iconst d2_183 ci_0 <| Runs.putI d2_184 w57 fS_4 (Or.inl w58) <| Runs.aloadN d2_187 rfl <| Runs.iconst d2_188 ci_0 <| Runs.putI d2_189 w59 fS_5 (Or.inl w60) <| Runs.aloadN d2_192 rfl <| Runs.iconst d2_193 ci_0 <| ?_
  refine Runs.putI d2_194 w61 fS_6 (Or.inl w62) <| Runs.aloadN d2_197 rfl <| Runs.iconst d2_198 ci_0 <| Runs.putI d2_199 w63 fS_7 (Or.inl w64) <| Runs.aloadN d2_202 rfl <| Runs.iconst d2_203 ci_0 <| Runs.putZ (y := (0 : Int32)) d2_204 w65 fS_10 (Or.inl w66) rfl <| Runs.aloadN d2_207 rfl <| Runs.iconst d2_208 ci_1 <| Runs.putZ (y := (1 : Int32)) d2_209 w67 fS_9 (Or.inl w68) rfl <| Runs.aloadN d2_212 rfl <| Runs.iconst d2_213 ci_0 <| ?_
  obtain rfl := Option.some.inj hf
  exact Runs.putI d2_214 w69 fS_8 (Or.inl w70) <| Runs.retV d2_217 rfl ⟨by decide, by decide⟩ ⟨rfl, rfl⟩
def X_init_b149 (ob : Rec) (i2 : Int32) : Option (Rec) :=
  if (12 : Int32) < i2 then
    X_init_b158 ob (12 : Int32)
  else
    X_init_b158 ob i2
set_option maxRecDepth 65536 in
set_option maxHeartbeats 4000000 in
theorem X_init_b149_p {C : Ctx} {a : Nat} {H : List (Nat × Nat × Rec)} {res : Rec} (ob : Rec) (i2 : Int32) (hf : X_init_b149 ob i2 = some res) : Runs C B2 17 283 149 [vr a, vn, vi i2] [] (a + 1 + 17, (a, 17, ob) :: H) (Ans none (a + 1 + 17, (a, 17, res) :: H)) := by
  delta X_init_b149 at hf
  refine Runs.iloadN d2_149 rfl <| Runs.bipush d2_150 cb_12 <| ?_
  refine ite_el hf (fun hc1 hf => ?_) (fun hc1 hf => ?_)
  · refine Runs.icN d2_152 (tlt hc1).2.2.2 <| ?_
    exact Runs.bipush d2_155 cb_12 <| Runs.istoreN (P' := [vr a, vn, vi (12 : Int32)]) d2_157 (by decide) rfl <| X_init_b158_p ob (12 : Int32) hf
  · exact Runs.icY (pc' := 158) d2_152 (flt hc1).2.2.2 (by decide) <| X_init_b158_p ob i2 hf
def X_init (i1 : Int32) : Option (Rec) :=
  if i1 < (1 : Int32) then
    X_init_b149 zrec (1 : Int32)
  else
    X_init_b149 zrec i1
set_option maxRecDepth 65536 in
set_option maxHeartbeats 4000000 in
theorem X_init_p {C : Ctx} {a : Nat} {H : List (Nat × Nat × Rec)} {res : Rec} (i1 : Int32) (hf : X_init i1 = some res) : Runs C B2 0 0 0 [vr a, vi i1, vn] [] (a + 1, (a, 0, zrec) :: H) (Ans none (a + 1 + 17, (a, 17, res) :: H)) := by
  delta X_init at hf
  refine Runs.aloadN d2_0 rfl <| Runs.initO (W := 0) d2_1 w10 w11 w12 rfl (by decide) <| Runs.aloadN d2_4 rfl <| Runs.bipush d2_5 cb_8 <| Runs.newArr (j' := 1) (top' := a + 1 + 1) (k' := 1) (n' := 8) d2_7 d2_9 fA_0 w14 rfl w13 (Or.inr ⟨rfl, rfl⟩) rfl (by decide) ⟨by decide, by decide⟩ ⟨fun _ => rfl, fun _ => rfl⟩ rfl rfl rfl (by decide) <| Runs.aloadN d2_12 rfl <| Runs.bipush d2_13 cb_8 <| Runs.newArr (j' := 2) (top' := a + 1 + 2) (k' := 2) (n' := 16) d2_15 d2_17 fA_1 w17 rfl w16 (Or.inr ⟨rfl, rfl⟩) rfl (by decide) ⟨by decide, by decide⟩ ⟨fun _ => rfl, fun _ => rfl⟩ rfl rfl rfl (by decide) <| Runs.aloadN d2_20 rfl <| Runs.bipush d2_21 cb_24 <| Runs.newArr (j' := 3) (top' := a + 1 + 3) (k' := 3) (n' := 40) d2_23 d2_25 fA_2 w19 rfl w13 (Or.inr ⟨rfl, rfl⟩) rfl (by decide) ⟨by decide, by decide⟩ ⟨fun _ => rfl, fun _ => rfl⟩ rfl rfl rfl (by decide) <| Runs.aloadN d2_28 rfl <| ?_
  refine Runs.bipush d2_29 cb_24 <| Runs.newArr (j' := 4) (top' := a + 1 + 4) (k' := 4) (n' := 64) d2_31 d2_33 fA_3 w21 rfl w13 (Or.inr ⟨rfl, rfl⟩) rfl (by decide) ⟨by decide, by decide⟩ ⟨fun _ => rfl, fun _ => rfl⟩ rfl rfl rfl (by decide) <| Runs.aloadN d2_36 rfl <| Runs.bipush d2_37 cb_16 <| Runs.newArr (j' := 5) (top' := a + 1 + 5) (k' := 5) (n' := 80) d2_39 d2_41 fA_4 w23 rfl w13 (Or.inr ⟨rfl, rfl⟩) rfl (by decide) ⟨by decide, by decide⟩ ⟨fun _ => rfl, fun _ => rfl⟩ rfl rfl rfl (by decide) <| Runs.aloadN d2_44 rfl <| Runs.bipush d2_45 cb_16 <| Runs.newArr (j' := 6) (top' := a + 1 + 6) (k' := 6) (n' := 96) d2_47 d2_49 fA_5 w25 rfl w13 (Or.inr ⟨rfl, rfl⟩) rfl (by decide) ⟨by decide, by decide⟩ ⟨fun _ => rfl, fun _ => rfl⟩ rfl rfl rfl (by decide) <| Runs.aloadN d2_52 rfl <| Runs.bipush d2_53 cb_40 <| Runs.newArr (j' := 7) (top' := a + 1 + 7) (k' := 7) (n' := 136) d2_55 d2_57 fA_6 w27 rfl w13 (Or.inr ⟨rfl, rfl⟩) rfl (by decide) ⟨by decide, by decide⟩ ⟨fun _ => rfl, fun _ => rfl⟩ rfl rfl rfl (by decide) <| Runs.aloadN d2_60 rfl <| ?_
  refine Runs.bipush d2_61 cb_16 <| Runs.newArr (j' := 8) (top' := a + 1 + 8) (k' := 8) (n' := 152) d2_63 d2_65 fA_7 w29 rfl w13 (Or.inr ⟨rfl, rfl⟩) rfl (by decide) ⟨by decide, by decide⟩ ⟨fun _ => rfl, fun _ => rfl⟩ rfl rfl rfl (by decide) <| Runs.aloadN d2_68 rfl <| Runs.bipush d2_69 cb_16 <| Runs.newArr (j' := 9) (top' := a + 1 + 9) (k' := 9) (n' := 168) d2_71 d2_73 fA_8 w31 rfl w13 (Or.inr ⟨rfl, rfl⟩) rfl (by decide) ⟨by decide, by decide⟩ ⟨fun _ => rfl, fun _ => rfl⟩ rfl rfl rfl (by decide) <| Runs.aloadN d2_76 rfl <| Runs.bipush d2_77 cb_16 <| Runs.newArr (j' := 10) (top' := a + 1 + 10) (k' := 10) (n' := 184) d2_79 d2_81 fA_9 w33 rfl w13 (Or.inr ⟨rfl, rfl⟩) rfl (by decide) ⟨by decide, by decide⟩ ⟨fun _ => rfl, fun _ => rfl⟩ rfl rfl rfl (by decide) <| Runs.aloadN d2_84 rfl <| Runs.bipush d2_85 cb_16 <| Runs.newArr (j' := 11) (top' := a + 1 + 11) (k' := 11) (n' := 200) d2_87 d2_89 fA_10 w35 rfl w13 (Or.inr ⟨rfl, rfl⟩) rfl (by decide) ⟨by decide, by decide⟩ ⟨fun _ => rfl, fun _ => rfl⟩ rfl rfl rfl (by decide) <| Runs.aloadN d2_92 rfl <| ?_
  refine Runs.bipush d2_93 cb_16 <| Runs.newArr (j' := 12) (top' := a + 1 + 12) (k' := 12) (n' := 216) d2_95 d2_97 fA_11 w37 rfl w13 (Or.inr ⟨rfl, rfl⟩) rfl (by decide) ⟨by decide, by decide⟩ ⟨fun _ => rfl, fun _ => rfl⟩ rfl rfl rfl (by decide) <| Runs.aloadN d2_100 rfl <| Runs.bipush d2_101 cb_16 <| Runs.newArr (j' := 13) (top' := a + 1 + 13) (k' := 13) (n' := 232) d2_103 d2_105 fA_12 w39 rfl w13 (Or.inr ⟨rfl, rfl⟩) rfl (by decide) ⟨by decide, by decide⟩ ⟨fun _ => rfl, fun _ => rfl⟩ rfl rfl rfl (by decide) <| Runs.aloadN d2_108 rfl <| Runs.bipush d2_109 cb_12 <| Runs.newArr (j' := 14) (top' := a + 1 + 14) (k' := 14) (n' := 244) d2_111 d2_113 fA_13 w41 rfl w13 (Or.inr ⟨rfl, rfl⟩) rfl (by decide) ⟨by decide, by decide⟩ ⟨fun _ => rfl, fun _ => rfl⟩ rfl rfl rfl (by decide) <| Runs.aloadN d2_116 rfl <| Runs.bipush d2_117 cb_13 <| Runs.newArr (j' := 15) (top' := a + 1 + 15) (k' := 15) (n' := 257) d2_119 d2_121 fA_14 w43 rfl w13 (Or.inr ⟨rfl, rfl⟩) rfl (by decide) ⟨by decide, by decide⟩ ⟨fun _ => rfl, fun _ => rfl⟩ rfl rfl rfl (by decide) <| Runs.aloadN d2_124 rfl <| ?_
  refine Runs.bipush d2_125 cb_13 <| Runs.newArr (j' := 16) (top' := a + 1 + 16) (k' := 16) (n' := 270) d2_127 d2_129 fA_15 w45 rfl w13 (Or.inr ⟨rfl, rfl⟩) rfl (by decide) ⟨by decide, by decide⟩ ⟨fun _ => rfl, fun _ => rfl⟩ rfl rfl rfl (by decide) <| Runs.aloadN d2_132 rfl <| Runs.bipush d2_133 cb_13 <| Runs.newArr (j' := 17) (top' := a + 1 + 17) (k' := 17) (n' := 283) d2_135 d2_137 fA_16 w47 rfl w16 (Or.inr ⟨rfl, rfl⟩) rfl (by decide) ⟨by decide, by decide⟩ ⟨fun _ => rfl, fun _ => rfl⟩ rfl rfl rfl (by decide) <| Runs.iloadN d2_140 rfl <| Runs.istoreN (P' := [vr a, vi i1, vi i1]) d2_141 (by decide) rfl <| Runs.iloadN d2_142 rfl <| Runs.iconst d2_143 ci_1 <| ?_
  refine ite_el hf (fun hc2 hf => ?_) (fun hc2 hf => ?_)
  · refine Runs.icN d2_144 (tlt hc2).2.1 <| ?_
    exact Runs.iconst d2_147 ci_1 <| Runs.istoreN (P' := [vr a, vi i1, vi (1 : Int32)]) d2_148 (by decide) rfl <| Runs.forget [true, false, true] rfl <| X_init_b149_p zrec (1 : Int32) hf
  · exact Runs.icY (pc' := 149) d2_144 (flt hc2).2.1 (by decide) <| Runs.forget [true, false, true] rfl <| X_init_b149_p zrec i1 hf
theorem X_init_pay {C : Ctx} {a : Nat} {H : List (Nat × Nat × Rec)} {res : Rec} {i1 : Int32} (hf : X_init i1 = some res) : Pays C B2 [.ref a, .int i1] (a + 1, (a, 0, zrec) :: H) (Ans none (a + 1 + 17, (a, 17, res) :: H)) :=
  Pays.of pnK (Nat.le_of_ble_eq_true rfl) (P := [vr a, vi i1, vn]) 1 rfl (X_init_p i1 hf)
def X_variables (ob : Rec) : Option (Int32) :=
  some (gI ob 0)
set_option maxRecDepth 65536 in
set_option maxHeartbeats 4000000 in
theorem X_variables_p {C : Ctx} {top : Nat} {a : Nat} {H : List (Nat × Nat × Rec)} {ob : Rec} {res : Int32} (hf : X_variables ob = some res) : Runs C B3 0 0 0 [vr a] [] (top, (a, 17, ob) :: H) (Ans (some (.int res)) (top, (a, 17, ob) :: H)) := by
  delta X_variables at hf
  obtain rfl := Option.some.inj hf
  exact Runs.aloadN d3_0 rfl <| Runs.getI d3_1 w49 fS_0 <| Runs.retI d3_4 rfl ⟨by decide, by decide⟩ ⟨rfl, rfl⟩
theorem X_variables_pay {C : Ctx} {top : Nat} {a : Nat} {H : List (Nat × Nat × Rec)} {ob : Rec} {res : Int32} (hf : X_variables ob = some res) : Pays C B3 [.ref a] (top, (a, 17, ob) :: H) (Ans (some (.int res)) (top, (a, 17, ob) :: H)) :=
  Pays.of pnK (Nat.le_of_ble_eq_true rfl) (P := [vr a]) 0 rfl (X_variables_p hf)
def X_addLiteral (ob : Rec) (i1 : Int32) (i2 : Int32) : Option (Int32 × Rec) :=
  if i1 < (0 : Int32) then
    some ((-1 : Int32), ob)
  else
    if i1 < (gI ob 0) then
      if (gI ob 4) < (8 : Int32) then
        chk (8 : Int32) (gI ob 4) <|
        chk (8 : Int32) (gI ob 4) <|
        some (((gI ob 4) + (1 : Int32)), (sI (sA (sA ob 0 (gI ob 4) i1) 1 (gI ob 4) (i2 &&& 1)) 4 ((gI ob 4) + (1 : Int32))))
      else
        some ((-2 : Int32), ob)
    else
      some ((-1 : Int32), ob)
set_option maxRecDepth 65536 in
set_option maxHeartbeats 4000000 in
theorem X_addLiteral_p {C : Ctx} {top : Nat} {a : Nat} {H : List (Nat × Nat × Rec)} {res : Int32 × Rec} (ob : Rec) (i1 : Int32) (i2 : Int32) (hf : X_addLiteral ob i1 i2 = some res) : Runs C B24 0 0 0 [vr a, vi i1, vi i2] [] (top, (a, 17, ob) :: H) (Ans (some (.int res.1)) (top, (a, 17, res.2) :: H)) := by
  delta X_addLiteral at hf
  refine Runs.iloadN d24_0 rfl <| ?_
  refine ite_el hf (fun hc1 hf => ?_) (fun hc1 hf => ?_)
  · refine Runs.ifY (pc' := 12) d24_1 (tlt hc1).1 (by decide) <| ?_
    obtain rfl := Option.some.inj hf
    exact Runs.iconst d24_12 ci_m1 <| Runs.retI d24_13 rfl ⟨by decide, by decide⟩ ⟨rfl, rfl⟩
  · refine Runs.ifN d24_1 (flt hc1).1 <| ?_
    refine Runs.iloadN d24_4 rfl <| Runs.aloadN d24_5 rfl <| Runs.getI d24_6 w49 fS_0 <| ?_
    refine ite_el hf (fun hc2 hf => ?_) (fun hc2 hf => ?_)
    · refine Runs.icY (pc' := 14) d24_9 (tlt hc2).1 (by decide) <| ?_
      refine Runs.aloadN d24_14 rfl <| Runs.getI d24_15 w57 fS_4 <| Runs.bipush d24_18 cb_8 <| ?_
      refine ite_el hf (fun hc3 hf => ?_) (fun hc3 hf => ?_)
      · refine Runs.icY (pc' := 26) d24_20 (tlt hc3).1 (by decide) <| ?_
        refine Runs.aloadN d24_26 rfl <| Runs.getA d24_27 fA_0 w14 (by decide) <| Runs.aloadN d24_30 rfl <| Runs.getI d24_31 w57 fS_4 <| Runs.iloadN d24_34 rfl <| ?_
        refine chk_el hf fun hi4 hf => ?_
        refine Runs.iastoreA d24_35 fA_0 (by decide) hi4 <| Runs.aloadN d24_36 rfl <| Runs.getA d24_37 fA_1 w17 (by decide) <| Runs.aloadN d24_40 rfl <| Runs.getI d24_41 w57 fS_4 <| Runs.iloadN d24_44 rfl <| ?_
        refine chk_el hf fun hi5 hf => ?_
        obtain rfl := Option.some.inj hf
        exact Runs.bastoreA (y := (i2 &&& 1)) d24_45 fA_1 (by decide) hi5 rfl <| Runs.aloadN d24_46 rfl <| Runs.dup d24_47 rfl <| Runs.getI d24_48 w57 fS_4 <| Runs.iconst d24_51 ci_1 <| Runs.iadd d24_52 <| Runs.putI d24_53 w57 fS_4 (Or.inl w58) <| Runs.aloadN d24_56 rfl <| Runs.getI d24_57 w57 fS_4 <| Runs.retI d24_60 rfl ⟨by decide, by decide⟩ ⟨rfl, rfl⟩
      · refine Runs.icN d24_20 (flt hc3).1 <| ?_
        obtain rfl := Option.some.inj hf
        exact Runs.bipush d24_23 cb_m2 <| Runs.retI d24_25 rfl ⟨by decide, by decide⟩ ⟨rfl, rfl⟩
    · refine Runs.icN d24_9 (flt hc2).1 <| ?_
      obtain rfl := Option.some.inj hf
      exact Runs.iconst d24_12 ci_m1 <| Runs.retI d24_13 rfl ⟨by decide, by decide⟩ ⟨rfl, rfl⟩
theorem X_addLiteral_pay {C : Ctx} {top : Nat} {a : Nat} {H : List (Nat × Nat × Rec)} {res : Int32 × Rec} {ob : Rec} {i1 : Int32} {i2 : Int32} (hf : X_addLiteral ob i1 i2 = some res) : Pays C B24 [.ref a, .int i1, .int i2] (top, (a, 17, ob) :: H) (Ans (some (.int res.1)) (top, (a, 17, res.2) :: H)) :=
  Pays.of pnK (Nat.le_of_ble_eq_true rfl) (P := [vr a, vi i1, vi i2]) 0 rfl (X_addLiteral_p ob i1 i2 hf)
def X_pendingMask_w4 (NF : Nat) (ob : Rec) (k4 : Int32 → Int32 → Int32 → Option (Int32)) (i1 : Int32) (i2 : Int32) (i3 : Int32) : Option (Int32) :=
  if i3 < (gI ob 4) then
    if i3 < (8 : Int32) then
      chk (8 : Int32) i3 <|
      if (gA ob 1 i3) = i1 then
        chk (8 : Int32) i3 <|
        k4 i1 (i2 ||| ((1 : Int32) <<< ((gA ob 0 i3) &&& 31))) (i3 + (1 : Int32))
      else
        k4 i1 i2 (i3 + (1 : Int32))
    else
      some (i2 &&& (gI ob 1))
  else
    some (i2 &&& (gI ob 1))
def X_pendingMask_l4 (NF : Nat) (ob : Rec) : Nat → Int32 → Int32 → Int32 → Option (Int32)
  | 0, _, _, _ => none
  | n + 1, i1, i2, i3 => X_pendingMask_w4 NF ob (X_pendingMask_l4 NF ob n) i1 i2 i3
set_option maxRecDepth 65536 in
set_option maxHeartbeats 4000000 in
theorem X_pendingMask_w4_p {C : Ctx} {top : Nat} {a : Nat} {H : List (Nat × Nat × Rec)} {ob : Rec} {res : Int32} {NF : Nat} (k4 : Int32 → Int32 → Int32 → Option (Int32)) (hk4 : ∀ (i1 : Int32) (i2 : Int32) (i3 : Int32), k4 i1 i2 i3 = some res → Runs C B27 0 0 4 [vr a, vi i1, vi i2, vi i3] [] (top, (a, 17, ob) :: H) (Ans (some (.int res)) (top, (a, 17, ob) :: H))) (i1 : Int32) (i2 : Int32) (i3 : Int32) (hf : X_pendingMask_w4 NF ob k4 i1 i2 i3 = some res) : Runs C B27 0 0 4 [vr a, vi i1, vi i2, vi i3] [] (top, (a, 17, ob) :: H) (Ans (some (.int res)) (top, (a, 17, ob) :: H)) := by
  delta X_pendingMask_w4 at hf
  refine Runs.iloadN d27_4 rfl <| Runs.aloadN d27_5 rfl <| Runs.getI d27_6 w57 fS_4 <| ?_
  refine ite_el hf (fun hc1 hf => ?_) (fun hc1 hf => ?_)
  · refine Runs.icN d27_9 (tlt hc1).2.1 <| ?_
    refine Runs.iloadN d27_12 rfl <| Runs.bipush d27_13 cb_8 <| ?_
    refine ite_el hf (fun hc2 hf => ?_) (fun hc2 hf => ?_)
    · refine Runs.icN d27_15 (tlt hc2).2.1 <| ?_
      refine Runs.aloadN d27_18 rfl <| Runs.getA d27_19 fA_1 w17 (by decide) <| Runs.iloadN d27_22 rfl <| ?_
      refine chk_el hf fun hi3 hf => ?_
      refine Runs.baloadA d27_23 fA_1 (by decide) hi3 <| Runs.iloadN d27_24 rfl <| ?_
      refine ite_el hf (fun hc4 hf => ?_) (fun hc4 hf => ?_)
      · refine Runs.icN d27_25 (teq hc4).2 <| ?_
        refine Runs.iloadN d27_28 rfl <| Runs.iconst d27_29 ci_1 <| Runs.aloadN d27_30 rfl <| Runs.getA d27_31 fA_0 w14 (by decide) <| Runs.iloadN d27_34 rfl <| ?_
        refine chk_el hf fun hi5 hf => ?_
        exact Runs.ialoadA d27_35 fA_0 (by decide) hi5 <| Runs.ishl d27_36 <| Runs.ior d27_37 <| Runs.istoreN (P' := [vr a, vi i1, vi (i2 ||| ((1 : Int32) <<< ((gA ob 0 i3) &&& 31))), vi i3]) d27_38 (by decide) rfl <| Runs.iinc (P' := [vr a, vi i1, vi (i2 ||| ((1 : Int32) <<< ((gA ob 0 i3) &&& 31))), vi (i3 + (1 : Int32))]) d27_39 ci_1 rfl (by decide) rfl <| Runs.goto (pc' := 4) d27_42 (by decide) <| hk4 i1 (i2 ||| ((1 : Int32) <<< ((gA ob 0 i3) &&& 31))) (i3 + (1 : Int32)) hf
      · refine Runs.icY (pc' := 39) d27_25 (feq hc4).2 (by decide) <| ?_
        exact Runs.iinc (P' := [vr a, vi i1, vi i2, vi (i3 + (1 : Int32))]) d27_39 ci_1 rfl (by decide) rfl <| Runs.goto (pc' := 4) d27_42 (by decide) <| hk4 i1 i2 (i3 + (1 : Int32)) hf
    · refine Runs.icY (pc' := 45) d27_15 (flt hc2).2.1 (by decide) <| ?_
      obtain rfl := Option.some.inj hf
      exact Runs.iloadN d27_45 rfl <| Runs.aloadN d27_46 rfl <| Runs.getI d27_47 w51 fS_1 <| Runs.iand d27_50 <| Runs.retI d27_51 rfl ⟨by decide, by decide⟩ ⟨rfl, rfl⟩
  · refine Runs.icY (pc' := 45) d27_9 (flt hc1).2.1 (by decide) <| ?_
    obtain rfl := Option.some.inj hf
    exact Runs.iloadN d27_45 rfl <| Runs.aloadN d27_46 rfl <| Runs.getI d27_47 w51 fS_1 <| Runs.iand d27_50 <| Runs.retI d27_51 rfl ⟨by decide, by decide⟩ ⟨rfl, rfl⟩
theorem X_pendingMask_l4_p {C : Ctx} {top : Nat} {a : Nat} {H : List (Nat × Nat × Rec)} {ob : Rec} {res : Int32} {NF : Nat} (n : Nat) (i1 : Int32) (i2 : Int32) (i3 : Int32) (hf : X_pendingMask_l4 NF ob n i1 i2 i3 = some res) : Runs C B27 0 0 4 [vr a, vi i1, vi i2, vi i3] [] (top, (a, 17, ob) :: H) (Ans (some (.int res)) (top, (a, 17, ob) :: H)) := by
  induction n generalizing i1 i2 i3 with
  | zero => cases (show (none : Option (Int32)) = some res from hf)
  | succ n ih => exact X_pendingMask_w4_p (X_pendingMask_l4 NF ob n) (fun i1 i2 i3 h => ih _ _ _ h) i1 i2 i3 hf
def X_pendingMask (NF : Nat) (ob : Rec) (i1 : Int32) : Option (Int32) :=
  X_pendingMask_l4 NF ob NF i1 (0 : Int32) (0 : Int32)
set_option maxRecDepth 65536 in
set_option maxHeartbeats 4000000 in
theorem X_pendingMask_p {C : Ctx} {top : Nat} {a : Nat} {H : List (Nat × Nat × Rec)} {ob : Rec} {res : Int32} {NF : Nat} (i1 : Int32) (hf : X_pendingMask NF ob i1 = some res) : Runs C B27 0 0 0 [vr a, vi i1, vn, vn] [] (top, (a, 17, ob) :: H) (Ans (some (.int res)) (top, (a, 17, ob) :: H)) := by
  delta X_pendingMask at hf
  exact Runs.iconst d27_0 ci_0 <| Runs.istoreN (P' := [vr a, vi i1, vi (0 : Int32), vn]) d27_1 (by decide) rfl <| Runs.iconst d27_2 ci_0 <| Runs.istoreN (P' := [vr a, vi i1, vi (0 : Int32), vi (0 : Int32)]) d27_3 (by decide) rfl <| X_pendingMask_l4_p NF i1 (0 : Int32) (0 : Int32) hf
theorem X_pendingMask_pay {C : Ctx} {top : Nat} {a : Nat} {H : List (Nat × Nat × Rec)} {ob : Rec} {res : Int32} {NF : Nat} {i1 : Int32} (hf : X_pendingMask NF ob i1 = some res) : Pays C B27 [.ref a, .int i1] (top, (a, 17, ob) :: H) (Ans (some (.int res)) (top, (a, 17, ob) :: H)) :=
  Pays.of pnK (Nat.le_of_ble_eq_true rfl) (P := [vr a, vi i1, vn, vn]) 2 rfl (X_pendingMask_p i1 hf)
def X_pushOrder (ob : Rec) (i1 : Int32) : Option (Rec) :=
  if (gI ob 7) < (0 : Int32) then
    some ob
  else
    if (gI ob 7) < (40 : Int32) then
      chk (40 : Int32) (gI ob 7) <|
      some (sI (sA ob 6 (gI ob 7) i1) 7 ((gI ob 7) + (1 : Int32)))
    else
      some ob
set_option maxRecDepth 65536 in
set_option maxHeartbeats 4000000 in
theorem X_pushOrder_p {C : Ctx} {top : Nat} {a : Nat} {H : List (Nat × Nat × Rec)} {res : Rec} (ob : Rec) (i1 : Int32) (hf : X_pushOrder ob i1 = some res) : Runs C B28 0 0 0 [vr a, vi i1] [] (top, (a, 17, ob) :: H) (Ans none (top, (a, 17, res) :: H)) := by
  delta X_pushOrder at hf
  refine Runs.aloadN d28_0 rfl <| Runs.getI d28_1 w63 fS_7 <| ?_
  refine ite_el hf (fun hc1 hf => ?_) (fun hc1 hf => ?_)
  · refine Runs.ifY (pc' := 16) d28_4 (tlt hc1).1 (by decide) <| ?_
    obtain rfl := Option.some.inj hf
    exact Runs.retV d28_16 rfl ⟨by decide, by decide⟩ ⟨rfl, rfl⟩
  · refine Runs.ifN d28_4 (flt hc1).1 <| ?_
    refine Runs.aloadN d28_7 rfl <| Runs.getI d28_8 w63 fS_7 <| Runs.bipush d28_11 cb_40 <| ?_
    refine ite_el hf (fun hc2 hf => ?_) (fun hc2 hf => ?_)
    · refine Runs.icY (pc' := 17) d28_13 (tlt hc2).1 (by decide) <| ?_
      refine Runs.aloadN d28_17 rfl <| Runs.getA d28_18 fA_6 w27 (by decide) <| Runs.aloadN d28_21 rfl <| Runs.getI d28_22 w63 fS_7 <| Runs.iloadN d28_25 rfl <| ?_
      refine chk_el hf fun hi3 hf => ?_
      obtain rfl := Option.some.inj hf
      exact Runs.iastoreA d28_26 fA_6 (by decide) hi3 <| Runs.aloadN d28_27 rfl <| Runs.dup d28_28 rfl <| Runs.getI d28_29 w63 fS_7 <| Runs.iconst d28_32 ci_1 <| Runs.iadd d28_33 <| Runs.putI d28_34 w63 fS_7 (Or.inl w64) <| Runs.retV d28_37 rfl ⟨by decide, by decide⟩ ⟨rfl, rfl⟩
    · refine Runs.icN d28_13 (flt hc2).1 <| ?_
      obtain rfl := Option.some.inj hf
      exact Runs.retV d28_16 rfl ⟨by decide, by decide⟩ ⟨rfl, rfl⟩
theorem X_pushOrder_pay {C : Ctx} {top : Nat} {a : Nat} {H : List (Nat × Nat × Rec)} {res : Rec} {ob : Rec} {i1 : Int32} (hf : X_pushOrder ob i1 = some res) : Pays C B28 [.ref a, .int i1] (top, (a, 17, ob) :: H) (Ans none (top, (a, 17, res) :: H)) :=
  Pays.of pnK (Nat.le_of_ble_eq_true rfl) (P := [vr a, vi i1]) 0 rfl (X_pushOrder_p ob i1 hf)
def X_commitClause (NF : Nat) (ob : Rec) : Option (Int32 × Rec) :=
  if (gI ob 5) < (24 : Int32) then
    if (gI ob 7) < (40 : Int32) then
      (X_pendingMask NF ob (0 : Int32)).bind fun r3 =>
      chk (24 : Int32) (gI ob 5) <|
      (X_pendingMask NF (sA ob 2 (gI ob 5) r3) (1 : Int32)).bind fun r6 =>
      chk (24 : Int32) (gI ob 5) <|
      (X_pushOrder (sI (sA (sA ob 2 (gI ob 5) r3) 3 (gI ob 5) r6) 5 ((gI ob 5) + (1 : Int32))) (1 : Int32)).bind fun q9 =>
      some ((gI ob 5), (sI (sI q9 4 (0 : Int32)) 2 (2 : Int32)))
    else
      some ((-2 : Int32), ob)
  else
    some ((-2 : Int32), ob)
set_option maxRecDepth 65536 in
set_option maxHeartbeats 4000000 in
theorem X_commitClause_p {C : Ctx} {top : Nat} {a : Nat} {H : List (Nat × Nat × Rec)} {res : Int32 × Rec} {NF : Nat} (ob : Rec) (hf : X_commitClause NF ob = some res) : Runs C B26 0 0 0 [vr a, vn] [] (top, (a, 17, ob) :: H) (Ans (some (.int res.1)) (top, (a, 17, res.2) :: H)) := by
  delta X_commitClause at hf
  refine Runs.aloadN d26_0 rfl <| Runs.getI d26_1 w59 fS_5 <| Runs.bipush d26_4 cb_24 <| ?_
  refine ite_el hf (fun hc1 hf => ?_) (fun hc1 hf => ?_)
  · refine Runs.icY (pc' := 12) d26_6 (tlt hc1).1 (by decide) <| ?_
    refine Runs.aloadN d26_12 rfl <| Runs.getI d26_13 w63 fS_7 <| Runs.bipush d26_16 cb_40 <| ?_
    refine ite_el hf (fun hc2 hf => ?_) (fun hc2 hf => ?_)
    · refine Runs.icY (pc' := 24) d26_18 (tlt hc2).1 (by decide) <| ?_
      refine Runs.aloadN d26_24 rfl <| Runs.getI d26_25 w59 fS_5 <| Runs.istoreN (P' := [vr a, vi (gI ob 5)]) d26_28 (by decide) rfl <| Runs.aloadN d26_29 rfl <| Runs.getA d26_30 fA_2 w19 (by decide) <| Runs.iloadN d26_33 rfl <| Runs.aloadN d26_34 rfl <| Runs.iconst d26_35 ci_0 <| ?_
      refine bind_el hf fun r3 hg4 hf => ?_
      refine Runs.callP (N := B27) (W := 2) (as := [.int (0 : Int32)]) (S' := [.int (gI ob 5), .ref (a + 1 + 2)]) d26_36 w190 w191 w192 rfl cw27 ar27 rk26_27_2 (by decide) rfl rfl (X_pendingMask_pay hg4) <| ans1 <| ?_
      refine chk_el hf fun hi5 hf => ?_
      refine Runs.iastoreA d26_39 fA_2 (by decide) hi5 <| Runs.aloadN d26_40 rfl <| Runs.getA d26_41 fA_3 w21 (by decide) <| Runs.iloadN d26_44 rfl <| Runs.aloadN d26_45 rfl <| Runs.iconst d26_46 ci_1 <| ?_
      refine bind_el hf fun r6 hg7 hf => ?_
      refine Runs.callP (N := B27) (W := 2) (as := [.int (1 : Int32)]) (S' := [.int (gI ob 5), .ref (a + 1 + 3)]) d26_47 w190 w191 w192 rfl cw27 ar27 rk26_27_2 (by decide) rfl rfl (X_pendingMask_pay hg7) <| ans1 <| ?_
      refine chk_el hf fun hi8 hf => ?_
      refine Runs.iastoreA d26_50 fA_3 (by decide) hi8 <| Runs.aloadN d26_51 rfl <| Runs.dup d26_52 rfl <| Runs.getI d26_53 w59 fS_5 <| Runs.iconst d26_56 ci_1 <| Runs.iadd d26_57 <| Runs.putI d26_58 w59 fS_5 (Or.inl w60) <| Runs.aloadN d26_61 rfl <| Runs.iconst d26_62 ci_1 <| ?_
      refine bind_el hf fun q9 hg10 hf => ?_
      obtain rfl := Option.some.inj hf
      exact Runs.callP (N := B28) (W := 0) (as := [.int (1 : Int32)]) (S' := []) d26_63 w194 w195 w196 rfl cw28 ar28 rk26_28_0 (by decide) rfl rfl (X_pushOrder_pay hg10) <| ans0 <| Runs.aloadN d26_66 rfl <| Runs.iconst d26_67 ci_0 <| Runs.putI d26_68 w57 fS_4 (Or.inl w58) <| Runs.aloadN d26_71 rfl <| Runs.iconst d26_72 ci_2 <| Runs.putI d26_73 w53 fS_2 (Or.inl w54) <| Runs.iloadN d26_76 rfl <| Runs.retI d26_77 rfl ⟨by decide, by decide⟩ ⟨rfl, rfl⟩
    · refine Runs.icN d26_18 (flt hc2).1 <| ?_
      obtain rfl := Option.some.inj hf
      exact Runs.bipush d26_21 cb_m2 <| Runs.retI d26_23 rfl ⟨by decide, by decide⟩ ⟨rfl, rfl⟩
  · refine Runs.icN d26_6 (flt hc1).1 <| ?_
    obtain rfl := Option.some.inj hf
    exact Runs.bipush d26_9 cb_m2 <| Runs.retI d26_11 rfl ⟨by decide, by decide⟩ ⟨rfl, rfl⟩
theorem X_commitClause_pay {C : Ctx} {top : Nat} {a : Nat} {H : List (Nat × Nat × Rec)} {res : Int32 × Rec} {NF : Nat} {ob : Rec} (hf : X_commitClause NF ob = some res) : Pays C B26 [.ref a] (top, (a, 17, ob) :: H) (Ans (some (.int res.1)) (top, (a, 17, res.2) :: H)) :=
  Pays.of pnK (Nat.le_of_ble_eq_true rfl) (P := [vr a, vn]) 1 rfl (X_commitClause_p ob hf)
def X_pendingNegatedParity_w4 (NF : Nat) (ob : Rec) (k4 : Int32 → Int32 → Option (Int32)) (i1 : Int32) (i2 : Int32) : Option (Int32) :=
  if i2 < (gI ob 4) then
    if i2 < (8 : Int32) then
      chk (8 : Int32) i2 <|
      if (gA ob 1 i2) = (0 : Int32) then
        k4 i1 (i2 + (1 : Int32))
      else
        k4 (i1 ^^^ (1 : Int32)) (i2 + (1 : Int32))
    else
      some i1
  else
    some i1
def X_pendingNegatedParity_l4 (NF : Nat) (ob : Rec) : Nat → Int32 → Int32 → Option (Int32)
  | 0, _, _ => none
  | n + 1, i1, i2 => X_pendingNegatedParity_w4 NF ob (X_pendingNegatedParity_l4 NF ob n) i1 i2
set_option maxRecDepth 65536 in
set_option maxHeartbeats 4000000 in
theorem X_pendingNegatedParity_w4_p {C : Ctx} {top : Nat} {a : Nat} {H : List (Nat × Nat × Rec)} {ob : Rec} {res : Int32} {NF : Nat} (k4 : Int32 → Int32 → Option (Int32)) (hk4 : ∀ (i1 : Int32) (i2 : Int32), k4 i1 i2 = some res → Runs C B36 0 0 4 [vr a, vi i1, vi i2] [] (top, (a, 17, ob) :: H) (Ans (some (.int res)) (top, (a, 17, ob) :: H))) (i1 : Int32) (i2 : Int32) (hf : X_pendingNegatedParity_w4 NF ob k4 i1 i2 = some res) : Runs C B36 0 0 4 [vr a, vi i1, vi i2] [] (top, (a, 17, ob) :: H) (Ans (some (.int res)) (top, (a, 17, ob) :: H)) := by
  delta X_pendingNegatedParity_w4 at hf
  refine Runs.iloadN d36_4 rfl <| Runs.aloadN d36_5 rfl <| Runs.getI d36_6 w57 fS_4 <| ?_
  refine ite_el hf (fun hc1 hf => ?_) (fun hc1 hf => ?_)
  · refine Runs.icN d36_9 (tlt hc1).2.1 <| ?_
    refine Runs.iloadN d36_12 rfl <| Runs.bipush d36_13 cb_8 <| ?_
    refine ite_el hf (fun hc2 hf => ?_) (fun hc2 hf => ?_)
    · refine Runs.icN d36_15 (tlt hc2).2.1 <| ?_
      refine Runs.aloadN d36_18 rfl <| Runs.getA d36_19 fA_1 w17 (by decide) <| Runs.iloadN d36_22 rfl <| ?_
      refine chk_el hf fun hi3 hf => ?_
      refine Runs.baloadA d36_23 fA_1 (by decide) hi3 <| ?_
      refine ite_el hf (fun hc4 hf => ?_) (fun hc4 hf => ?_)
      · refine Runs.ifY (pc' := 31) d36_24 (teq hc4).1 (by decide) <| ?_
        exact Runs.iinc (P' := [vr a, vi i1, vi (i2 + (1 : Int32))]) d36_31 ci_1 rfl (by decide) rfl <| Runs.goto (pc' := 4) d36_34 (by decide) <| hk4 i1 (i2 + (1 : Int32)) hf
      · refine Runs.ifN d36_24 (feq hc4).1 <| ?_
        exact Runs.iloadN d36_27 rfl <| Runs.iconst d36_28 ci_1 <| Runs.ixor d36_29 <| Runs.istoreN (P' := [vr a, vi (i1 ^^^ (1 : Int32)), vi i2]) d36_30 (by decide) rfl <| Runs.iinc (P' := [vr a, vi (i1 ^^^ (1 : Int32)), vi (i2 + (1 : Int32))]) d36_31 ci_1 rfl (by decide) rfl <| Runs.goto (pc' := 4) d36_34 (by decide) <| hk4 (i1 ^^^ (1 : Int32)) (i2 + (1 : Int32)) hf
    · refine Runs.icY (pc' := 37) d36_15 (flt hc2).2.1 (by decide) <| ?_
      obtain rfl := Option.some.inj hf
      exact Runs.iloadN d36_37 rfl <| Runs.retI d36_38 rfl ⟨by decide, by decide⟩ ⟨rfl, rfl⟩
  · refine Runs.icY (pc' := 37) d36_9 (flt hc1).2.1 (by decide) <| ?_
    obtain rfl := Option.some.inj hf
    exact Runs.iloadN d36_37 rfl <| Runs.retI d36_38 rfl ⟨by decide, by decide⟩ ⟨rfl, rfl⟩
theorem X_pendingNegatedParity_l4_p {C : Ctx} {top : Nat} {a : Nat} {H : List (Nat × Nat × Rec)} {ob : Rec} {res : Int32} {NF : Nat} (n : Nat) (i1 : Int32) (i2 : Int32) (hf : X_pendingNegatedParity_l4 NF ob n i1 i2 = some res) : Runs C B36 0 0 4 [vr a, vi i1, vi i2] [] (top, (a, 17, ob) :: H) (Ans (some (.int res)) (top, (a, 17, ob) :: H)) := by
  induction n generalizing i1 i2 with
  | zero => cases (show (none : Option (Int32)) = some res from hf)
  | succ n ih => exact X_pendingNegatedParity_w4_p (X_pendingNegatedParity_l4 NF ob n) (fun i1 i2 h => ih _ _ h) i1 i2 hf
def X_pendingNegatedParity (NF : Nat) (ob : Rec) : Option (Int32) :=
  X_pendingNegatedParity_l4 NF ob NF (0 : Int32) (0 : Int32)
set_option maxRecDepth 65536 in
set_option maxHeartbeats 4000000 in
theorem X_pendingNegatedParity_p {C : Ctx} {top : Nat} {a : Nat} {H : List (Nat × Nat × Rec)} {ob : Rec} {res : Int32} {NF : Nat} (hf : X_pendingNegatedParity NF ob = some res) : Runs C B36 0 0 0 [vr a, vn, vn] [] (top, (a, 17, ob) :: H) (Ans (some (.int res)) (top, (a, 17, ob) :: H)) := by
  delta X_pendingNegatedParity at hf
  exact Runs.iconst d36_0 ci_0 <| Runs.istoreN (P' := [vr a, vi (0 : Int32), vn]) d36_1 (by decide) rfl <| Runs.iconst d36_2 ci_0 <| Runs.istoreN (P' := [vr a, vi (0 : Int32), vi (0 : Int32)]) d36_3 (by decide) rfl <| X_pendingNegatedParity_l4_p NF (0 : Int32) (0 : Int32) hf
theorem X_pendingNegatedParity_pay {C : Ctx} {top : Nat} {a : Nat} {H : List (Nat × Nat × Rec)} {ob : Rec} {res : Int32} {NF : Nat} (hf : X_pendingNegatedParity NF ob = some res) : Pays C B36 [.ref a] (top, (a, 17, ob) :: H) (Ans (some (.int res)) (top, (a, 17, ob) :: H)) :=
  Pays.of pnK (Nat.le_of_ble_eq_true rfl) (P := [vr a, vn, vn]) 2 rfl (X_pendingNegatedParity_p hf)
def X_pendingXorMask_w4 (NF : Nat) (ob : Rec) (k4 : Int32 → Int32 → Option (Int32)) (i1 : Int32) (i2 : Int32) : Option (Int32) :=
  if i2 < (gI ob 4) then
    if i2 < (8 : Int32) then
      chk (8 : Int32) i2 <|
      k4 (i1 ^^^ ((1 : Int32) <<< ((gA ob 0 i2) &&& 31))) (i2 + (1 : Int32))
    else
      some (i1 &&& (gI ob 1))
  else
    some (i1 &&& (gI ob 1))
def X_pendingXorMask_l4 (NF : Nat) (ob : Rec) : Nat → Int32 → Int32 → Option (Int32)
  | 0, _, _ => none
  | n + 1, i1, i2 => X_pendingXorMask_w4 NF ob (X_pendingXorMask_l4 NF ob n) i1 i2
set_option maxRecDepth 65536 in
set_option maxHeartbeats 4000000 in
theorem X_pendingXorMask_w4_p {C : Ctx} {top : Nat} {a : Nat} {H : List (Nat × Nat × Rec)} {ob : Rec} {res : Int32} {NF : Nat} (k4 : Int32 → Int32 → Option (Int32)) (hk4 : ∀ (i1 : Int32) (i2 : Int32), k4 i1 i2 = some res → Runs C B37 0 0 4 [vr a, vi i1, vi i2] [] (top, (a, 17, ob) :: H) (Ans (some (.int res)) (top, (a, 17, ob) :: H))) (i1 : Int32) (i2 : Int32) (hf : X_pendingXorMask_w4 NF ob k4 i1 i2 = some res) : Runs C B37 0 0 4 [vr a, vi i1, vi i2] [] (top, (a, 17, ob) :: H) (Ans (some (.int res)) (top, (a, 17, ob) :: H)) := by
  delta X_pendingXorMask_w4 at hf
  refine Runs.iloadN d37_4 rfl <| Runs.aloadN d37_5 rfl <| Runs.getI d37_6 w57 fS_4 <| ?_
  refine ite_el hf (fun hc1 hf => ?_) (fun hc1 hf => ?_)
  · refine Runs.icN d37_9 (tlt hc1).2.1 <| ?_
    refine Runs.iloadN d37_12 rfl <| Runs.bipush d37_13 cb_8 <| ?_
    refine ite_el hf (fun hc2 hf => ?_) (fun hc2 hf => ?_)
    · refine Runs.icN d37_15 (tlt hc2).2.1 <| ?_
      refine Runs.iloadN d37_18 rfl <| Runs.iconst d37_19 ci_1 <| Runs.aloadN d37_20 rfl <| Runs.getA d37_21 fA_0 w14 (by decide) <| Runs.iloadN d37_24 rfl <| ?_
      refine chk_el hf fun hi3 hf => ?_
      exact Runs.ialoadA d37_25 fA_0 (by decide) hi3 <| Runs.ishl d37_26 <| Runs.ixor d37_27 <| Runs.istoreN (P' := [vr a, vi (i1 ^^^ ((1 : Int32) <<< ((gA ob 0 i2) &&& 31))), vi i2]) d37_28 (by decide) rfl <| Runs.iinc (P' := [vr a, vi (i1 ^^^ ((1 : Int32) <<< ((gA ob 0 i2) &&& 31))), vi (i2 + (1 : Int32))]) d37_29 ci_1 rfl (by decide) rfl <| Runs.goto (pc' := 4) d37_32 (by decide) <| hk4 (i1 ^^^ ((1 : Int32) <<< ((gA ob 0 i2) &&& 31))) (i2 + (1 : Int32)) hf
    · refine Runs.icY (pc' := 35) d37_15 (flt hc2).2.1 (by decide) <| ?_
      obtain rfl := Option.some.inj hf
      exact Runs.iloadN d37_35 rfl <| Runs.aloadN d37_36 rfl <| Runs.getI d37_37 w51 fS_1 <| Runs.iand d37_40 <| Runs.retI d37_41 rfl ⟨by decide, by decide⟩ ⟨rfl, rfl⟩
  · refine Runs.icY (pc' := 35) d37_9 (flt hc1).2.1 (by decide) <| ?_
    obtain rfl := Option.some.inj hf
    exact Runs.iloadN d37_35 rfl <| Runs.aloadN d37_36 rfl <| Runs.getI d37_37 w51 fS_1 <| Runs.iand d37_40 <| Runs.retI d37_41 rfl ⟨by decide, by decide⟩ ⟨rfl, rfl⟩
theorem X_pendingXorMask_l4_p {C : Ctx} {top : Nat} {a : Nat} {H : List (Nat × Nat × Rec)} {ob : Rec} {res : Int32} {NF : Nat} (n : Nat) (i1 : Int32) (i2 : Int32) (hf : X_pendingXorMask_l4 NF ob n i1 i2 = some res) : Runs C B37 0 0 4 [vr a, vi i1, vi i2] [] (top, (a, 17, ob) :: H) (Ans (some (.int res)) (top, (a, 17, ob) :: H)) := by
  induction n generalizing i1 i2 with
  | zero => cases (show (none : Option (Int32)) = some res from hf)
  | succ n ih => exact X_pendingXorMask_w4_p (X_pendingXorMask_l4 NF ob n) (fun i1 i2 h => ih _ _ h) i1 i2 hf
def X_pendingXorMask (NF : Nat) (ob : Rec) : Option (Int32) :=
  X_pendingXorMask_l4 NF ob NF (0 : Int32) (0 : Int32)
set_option maxRecDepth 65536 in
set_option maxHeartbeats 4000000 in
theorem X_pendingXorMask_p {C : Ctx} {top : Nat} {a : Nat} {H : List (Nat × Nat × Rec)} {ob : Rec} {res : Int32} {NF : Nat} (hf : X_pendingXorMask NF ob = some res) : Runs C B37 0 0 0 [vr a, vn, vn] [] (top, (a, 17, ob) :: H) (Ans (some (.int res)) (top, (a, 17, ob) :: H)) := by
  delta X_pendingXorMask at hf
  exact Runs.iconst d37_0 ci_0 <| Runs.istoreN (P' := [vr a, vi (0 : Int32), vn]) d37_1 (by decide) rfl <| Runs.iconst d37_2 ci_0 <| Runs.istoreN (P' := [vr a, vi (0 : Int32), vi (0 : Int32)]) d37_3 (by decide) rfl <| X_pendingXorMask_l4_p NF (0 : Int32) (0 : Int32) hf
theorem X_pendingXorMask_pay {C : Ctx} {top : Nat} {a : Nat} {H : List (Nat × Nat × Rec)} {ob : Rec} {res : Int32} {NF : Nat} (hf : X_pendingXorMask NF ob = some res) : Pays C B37 [.ref a] (top, (a, 17, ob) :: H) (Ans (some (.int res)) (top, (a, 17, ob) :: H)) :=
  Pays.of pnK (Nat.le_of_ble_eq_true rfl) (P := [vr a, vn, vn]) 2 rfl (X_pendingXorMask_p hf)
def X_commitXor_b42 (NF : Nat) (ob : Rec) (i2 : Int32) (i3 : Int32) : Option (Int32 × Rec) :=
  (X_pendingXorMask NF ob).bind fun r1 =>
  chk (16 : Int32) i2 <|
  chk (16 : Int32) i2 <|
  (X_pushOrder (sI (sA (sA ob 4 i2 r1) 5 i2 i3) 6 ((gI ob 6) + (1 : Int32))) (2 : Int32)).bind fun q5 =>
  some (i2, (sI (sI (sI q5 4 (0 : Int32)) 2 (2 : Int32)) 10 (0 : Int32)))
set_option maxRecDepth 65536 in
set_option maxHeartbeats 4000000 in
theorem X_commitXor_b42_p {C : Ctx} {top : Nat} {a : Nat} {H : List (Nat × Nat × Rec)} {res : Int32 × Rec} {NF : Nat} (ob : Rec) (i2 : Int32) (i3 : Int32) (hf : X_commitXor_b42 NF ob i2 i3 = some res) : Runs C B35 0 0 42 [vr a, vn, vi i2, vi i3] [] (top, (a, 17, ob) :: H) (Ans (some (.int res.1)) (top, (a, 17, res.2) :: H)) := by
  delta X_commitXor_b42 at hf
  refine Runs.aloadN d35_42 rfl <| Runs.getA d35_43 fA_4 w23 (by decide) <| Runs.iloadN d35_46 rfl <| Runs.aloadN d35_47 rfl <| ?_
  refine bind_el hf fun r1 hg2 hf => ?_
  refine Runs.callP (N := B37) (W := 2) (as := []) (S' := [.int i2, .ref (a + 1 + 4)]) d35_48 w231 w232 w233 rfl cw37 ar37 rk35_37_2 (by decide) rfl rfl (X_pendingXorMask_pay hg2) <| ans1 <| ?_
  refine chk_el hf fun hi3 hf => ?_
  refine Runs.iastoreA d35_51 fA_4 (by decide) hi3 <| Runs.aloadN d35_52 rfl <| Runs.getA d35_53 fA_5 w25 (by decide) <| Runs.iloadN d35_56 rfl <| Runs.iloadN d35_57 rfl <| ?_
  refine chk_el hf fun hi4 hf => ?_
  refine Runs.iastoreA d35_58 fA_5 (by decide) hi4 <| Runs.aloadN d35_59 rfl <| Runs.dup d35_60 rfl <| Runs.getI d35_61 w61 fS_6 <| Runs.iconst d35_64 ci_1 <| Runs.iadd d35_65 <| Runs.putI d35_66 w61 fS_6 (Or.inl w62) <| Runs.aloadN d35_69 rfl <| Runs.iconst d35_70 ci_2 <| ?_
  refine bind_el hf fun q5 hg6 hf => ?_
  obtain rfl := Option.some.inj hf
  exact Runs.callP (N := B28) (W := 0) (as := [.int (2 : Int32)]) (S' := []) d35_71 w194 w195 w196 rfl cw28 ar28 rk35_28_0 (by decide) rfl rfl (X_pushOrder_pay hg6) <| ans0 <| Runs.aloadN d35_74 rfl <| Runs.iconst d35_75 ci_0 <| Runs.putI d35_76 w57 fS_4 (Or.inl w58) <| Runs.aloadN d35_79 rfl <| Runs.iconst d35_80 ci_2 <| Runs.putI d35_81 w53 fS_2 (Or.inl w54) <| Runs.aloadN d35_84 rfl <| Runs.iconst d35_85 ci_0 <| Runs.putZ (y := (0 : Int32)) d35_86 w65 fS_10 (Or.inl w66) rfl <| Runs.iloadN d35_89 rfl <| Runs.retI d35_90 rfl ⟨by decide, by decide⟩ ⟨rfl, rfl⟩
def X_commitXor (NF : Nat) (ob : Rec) (i1 : Int32) : Option (Int32 × Rec) :=
  if (gI ob 6) < (16 : Int32) then
    if (gI ob 7) < (40 : Int32) then
      (X_pendingNegatedParity NF ob).bind fun r9 =>
      if i1 = (0 : Int32) then
        X_commitXor_b42 NF ob (gI ob 6) r9
      else
        X_commitXor_b42 NF ob (gI ob 6) (r9 ^^^ (1 : Int32))
    else
      some ((-2 : Int32), ob)
  else
    some ((-2 : Int32), ob)
set_option maxRecDepth 65536 in
set_option maxHeartbeats 4000000 in
theorem X_commitXor_p {C : Ctx} {top : Nat} {a : Nat} {H : List (Nat × Nat × Rec)} {res : Int32 × Rec} {NF : Nat} (ob : Rec) (i1 : Int32) (hf : X_commitXor NF ob i1 = some res) : Runs C B35 0 0 0 [vr a, vi i1, vn, vn] [] (top, (a, 17, ob) :: H) (Ans (some (.int res.1)) (top, (a, 17, res.2) :: H)) := by
  delta X_commitXor at hf
  refine Runs.aloadN d35_0 rfl <| Runs.getI d35_1 w61 fS_6 <| Runs.bipush d35_4 cb_16 <| ?_
  refine ite_el hf (fun hc7 hf => ?_) (fun hc7 hf => ?_)
  · refine Runs.icY (pc' := 12) d35_6 (tlt hc7).1 (by decide) <| ?_
    refine Runs.aloadN d35_12 rfl <| Runs.getI d35_13 w63 fS_7 <| Runs.bipush d35_16 cb_40 <| ?_
    refine ite_el hf (fun hc8 hf => ?_) (fun hc8 hf => ?_)
    · refine Runs.icY (pc' := 24) d35_18 (tlt hc8).1 (by decide) <| ?_
      refine Runs.aloadN d35_24 rfl <| Runs.getI d35_25 w61 fS_6 <| Runs.istoreN (P' := [vr a, vi i1, vi (gI ob 6), vn]) d35_28 (by decide) rfl <| Runs.aloadN d35_29 rfl <| ?_
      refine bind_el hf fun r9 hg10 hf => ?_
      refine Runs.callP (N := B36) (W := 0) (as := []) (S' := []) d35_30 w227 w228 w229 rfl cw36 ar36 rk35_36_0 (by decide) rfl rfl (X_pendingNegatedParity_pay hg10) <| ans1 <| Runs.istoreN (P' := [vr a, vi i1, vi (gI ob 6), vi r9]) d35_33 (by decide) rfl <| Runs.iloadN d35_34 rfl <| ?_
      refine ite_el hf (fun hc11 hf => ?_) (fun hc11 hf => ?_)
      · exact Runs.ifY (pc' := 42) d35_35 (teq hc11).1 (by decide) <| Runs.forget [true, false, true, true] rfl <| X_commitXor_b42_p ob (gI ob 6) r9 hf
      · refine Runs.ifN d35_35 (feq hc11).1 <| ?_
        exact Runs.iloadN d35_38 rfl <| Runs.iconst d35_39 ci_1 <| Runs.ixor d35_40 <| Runs.istoreN (P' := [vr a, vi i1, vi (gI ob 6), vi (r9 ^^^ (1 : Int32))]) d35_41 (by decide) rfl <| Runs.forget [true, false, true, true] rfl <| X_commitXor_b42_p ob (gI ob 6) (r9 ^^^ (1 : Int32)) hf
    · refine Runs.icN d35_18 (flt hc8).1 <| ?_
      obtain rfl := Option.some.inj hf
      exact Runs.bipush d35_21 cb_m2 <| Runs.retI d35_23 rfl ⟨by decide, by decide⟩ ⟨rfl, rfl⟩
  · refine Runs.icN d35_6 (flt hc7).1 <| ?_
    obtain rfl := Option.some.inj hf
    exact Runs.bipush d35_9 cb_m2 <| Runs.retI d35_11 rfl ⟨by decide, by decide⟩ ⟨rfl, rfl⟩
theorem X_commitXor_pay {C : Ctx} {top : Nat} {a : Nat} {H : List (Nat × Nat × Rec)} {res : Int32 × Rec} {NF : Nat} {ob : Rec} {i1 : Int32} (hf : X_commitXor NF ob i1 = some res) : Pays C B35 [.ref a, .int i1] (top, (a, 17, ob) :: H) (Ans (some (.int res.1)) (top, (a, 17, res.2) :: H)) :=
  Pays.of pnK (Nat.le_of_ble_eq_true rfl) (P := [vr a, vi i1, vn, vn]) 2 rfl (X_commitXor_p ob i1 hf)
def X_popConstraint (ob : Rec) : Option (Int32 × Rec) :=
  if (0 : Int32) < (gI ob 7) then
    if (40 : Int32) < (gI ob 7) then
      some ((-3 : Int32), ob)
    else
      chk (40 : Int32) ((gI ob 7) - (1 : Int32)) <|
      if (gA ob 6 ((gI ob 7) - (1 : Int32))) = (1 : Int32) then
        if (0 : Int32) < (gI ob 5) then
          some ((gA ob 6 ((gI ob 7) - (1 : Int32))), (sI (sI (sI ob 7 ((gI ob 7) - (1 : Int32))) 5 ((gI ob 5) - (1 : Int32))) 2 (2 : Int32)))
        else
          some ((gA ob 6 ((gI ob 7) - (1 : Int32))), (sI (sI ob 7 ((gI ob 7) - (1 : Int32))) 2 (2 : Int32)))
      else
        if (0 : Int32) < (gI ob 6) then
          some ((gA ob 6 ((gI ob 7) - (1 : Int32))), (sI (sI (sI (sI ob 7 ((gI ob 7) - (1 : Int32))) 6 ((gI ob 6) - (1 : Int32))) 10 (0 : Int32)) 2 (2 : Int32)))
        else
          some ((gA ob 6 ((gI ob 7) - (1 : Int32))), (sI (sI (sI ob 7 ((gI ob 7) - (1 : Int32))) 10 (0 : Int32)) 2 (2 : Int32)))
  else
    some ((-3 : Int32), ob)
set_option maxRecDepth 65536 in
set_option maxHeartbeats 4000000 in
theorem X_popConstraint_p {C : Ctx} {top : Nat} {a : Nat} {H : List (Nat × Nat × Rec)} {res : Int32 × Rec} (ob : Rec) (hf : X_popConstraint ob = some res) : Runs C B25 0 0 0 [vr a, vn] [] (top, (a, 17, ob) :: H) (Ans (some (.int res.1)) (top, (a, 17, res.2) :: H)) := by
  delta X_popConstraint at hf
  refine Runs.aloadN d25_0 rfl <| Runs.getI d25_1 w63 fS_7 <| ?_
  refine ite_el hf (fun hc1 hf => ?_) (fun hc1 hf => ?_)
  · refine Runs.ifN d25_4 (tlt hc1).2.2.2 <| ?_
    refine Runs.aloadN d25_7 rfl <| Runs.getI d25_8 w63 fS_7 <| Runs.bipush d25_11 cb_40 <| ?_
    refine ite_el hf (fun hc2 hf => ?_) (fun hc2 hf => ?_)
    · refine Runs.icN d25_13 (tlt hc2).2.2.2 <| ?_
      obtain rfl := Option.some.inj hf
      exact Runs.bipush d25_16 cb_m3 <| Runs.retI d25_18 rfl ⟨by decide, by decide⟩ ⟨rfl, rfl⟩
    · refine Runs.icY (pc' := 19) d25_13 (flt hc2).2.2.2 (by decide) <| ?_
      refine Runs.aloadN d25_19 rfl <| Runs.getA d25_20 fA_6 w27 (by decide) <| Runs.aloadN d25_23 rfl <| Runs.getI d25_24 w63 fS_7 <| Runs.iconst d25_27 ci_1 <| Runs.isub d25_28 <| ?_
      refine chk_el hf fun hi3 hf => ?_
      refine Runs.ialoadA d25_29 fA_6 (by decide) hi3 <| Runs.istoreN (P' := [vr a, vi (gA ob 6 ((gI ob 7) - (1 : Int32)))]) d25_30 (by decide) rfl <| Runs.aloadN d25_31 rfl <| Runs.dup d25_32 rfl <| Runs.getI d25_33 w63 fS_7 <| Runs.iconst d25_36 ci_1 <| Runs.isub d25_37 <| Runs.putI d25_38 w63 fS_7 (Or.inl w64) <| Runs.iloadN d25_41 rfl <| Runs.iconst d25_42 ci_1 <| ?_
      refine ite_el hf (fun hc4 hf => ?_) (fun hc4 hf => ?_)
      · refine Runs.icN d25_43 (teq hc4).2 <| ?_
        refine Runs.aloadN d25_46 rfl <| Runs.getI d25_47 w59 fS_5 <| ?_
        refine ite_el hf (fun hc5 hf => ?_) (fun hc5 hf => ?_)
        · refine Runs.ifN d25_50 (tlt hc5).2.2.2 <| ?_
          obtain rfl := Option.some.inj hf
          exact Runs.aloadN d25_53 rfl <| Runs.dup d25_54 rfl <| Runs.getI d25_55 w59 fS_5 <| Runs.iconst d25_58 ci_1 <| Runs.isub d25_59 <| Runs.putI d25_60 w59 fS_5 (Or.inl w60) <| Runs.goto (pc' := 88) d25_63 (by decide) <| Runs.aloadN d25_88 rfl <| Runs.iconst d25_89 ci_2 <| Runs.putI d25_90 w53 fS_2 (Or.inl w54) <| Runs.iloadN d25_93 rfl <| Runs.retI d25_94 rfl ⟨by decide, by decide⟩ ⟨rfl, rfl⟩
        · refine Runs.ifY (pc' := 88) d25_50 (flt hc5).2.2.2 (by decide) <| ?_
          obtain rfl := Option.some.inj hf
          exact Runs.aloadN d25_88 rfl <| Runs.iconst d25_89 ci_2 <| Runs.putI d25_90 w53 fS_2 (Or.inl w54) <| Runs.iloadN d25_93 rfl <| Runs.retI d25_94 rfl ⟨by decide, by decide⟩ ⟨rfl, rfl⟩
      · refine Runs.icY (pc' := 66) d25_43 (feq hc4).2 (by decide) <| ?_
        refine Runs.aloadN d25_66 rfl <| Runs.getI d25_67 w61 fS_6 <| ?_
        refine ite_el hf (fun hc6 hf => ?_) (fun hc6 hf => ?_)
        · refine Runs.ifN d25_70 (tlt hc6).2.2.2 <| ?_
          refine Runs.aloadN d25_73 rfl <| Runs.dup d25_74 rfl <| Runs.getI d25_75 w61 fS_6 <| Runs.iconst d25_78 ci_1 <| Runs.isub d25_79 <| Runs.putI d25_80 w61 fS_6 (Or.inl w62) <| Runs.aloadN d25_83 rfl <| Runs.iconst d25_84 ci_0 <| Runs.putZ (y := (0 : Int32)) d25_85 w65 fS_10 (Or.inl w66) rfl <| Runs.aloadN d25_88 rfl <| Runs.iconst d25_89 ci_2 <| Runs.putI d25_90 w53 fS_2 (Or.inl w54) <| ?_
          obtain rfl := Option.some.inj hf
          exact Runs.iloadN d25_93 rfl <| Runs.retI d25_94 rfl ⟨by decide, by decide⟩ ⟨rfl, rfl⟩
        · refine Runs.ifY (pc' := 83) d25_70 (flt hc6).2.2.2 (by decide) <| ?_
          obtain rfl := Option.some.inj hf
          exact Runs.aloadN d25_83 rfl <| Runs.iconst d25_84 ci_0 <| Runs.putZ (y := (0 : Int32)) d25_85 w65 fS_10 (Or.inl w66) rfl <| Runs.aloadN d25_88 rfl <| Runs.iconst d25_89 ci_2 <| Runs.putI d25_90 w53 fS_2 (Or.inl w54) <| Runs.iloadN d25_93 rfl <| Runs.retI d25_94 rfl ⟨by decide, by decide⟩ ⟨rfl, rfl⟩
  · refine Runs.ifY (pc' := 16) d25_4 (flt hc1).2.2.2 (by decide) <| ?_
    obtain rfl := Option.some.inj hf
    exact Runs.bipush d25_16 cb_m3 <| Runs.retI d25_18 rfl ⟨by decide, by decide⟩ ⟨rfl, rfl⟩
theorem X_popConstraint_pay {C : Ctx} {top : Nat} {a : Nat} {H : List (Nat × Nat × Rec)} {res : Int32 × Rec} {ob : Rec} (hf : X_popConstraint ob = some res) : Pays C B25 [.ref a] (top, (a, 17, ob) :: H) (Ans (some (.int res.1)) (top, (a, 17, res.2) :: H)) :=
  Pays.of pnK (Nat.le_of_ble_eq_true rfl) (P := [vr a, vn]) 1 rfl (X_popConstraint_p ob hf)
def X_clearPending (ob : Rec) : Option (Rec) :=
  some (sI ob 4 (0 : Int32))
set_option maxRecDepth 65536 in
set_option maxHeartbeats 4000000 in
theorem X_clearPending_p {C : Ctx} {top : Nat} {a : Nat} {H : List (Nat × Nat × Rec)} {res : Rec} (ob : Rec) (hf : X_clearPending ob = some res) : Runs C B40 0 0 0 [vr a] [] (top, (a, 17, ob) :: H) (Ans none (top, (a, 17, res) :: H)) := by
  delta X_clearPending at hf
  obtain rfl := Option.some.inj hf
  exact Runs.aloadN d40_0 rfl <| Runs.iconst d40_1 ci_0 <| Runs.putI d40_2 w57 fS_4 (Or.inl w58) <| Runs.retV d40_5 rfl ⟨by decide, by decide⟩ ⟨rfl, rfl⟩
theorem X_clearPending_pay {C : Ctx} {top : Nat} {a : Nat} {H : List (Nat × Nat × Rec)} {res : Rec} {ob : Rec} (hf : X_clearPending ob = some res) : Pays C B40 [.ref a] (top, (a, 17, ob) :: H) (Ans none (top, (a, 17, res) :: H)) :=
  Pays.of pnK (Nat.le_of_ble_eq_true rfl) (P := [vr a]) 0 rfl (X_clearPending_p ob hf)
def X_clauseHolds (ob : Rec) (i1 : Int32) (i2 : Int32) : Option (Int32) :=
  if i1 < (0 : Int32) then
    some (1 : Int32)
  else
    if i1 < (24 : Int32) then
      chk (24 : Int32) i1 <|
      chk (24 : Int32) i1 <|
      if ((i2 &&& (gA ob 2 i1)) ||| ((i2 ^^^ (-1 : Int32)) &&& (gA ob 3 i1))) = (0 : Int32) then
        some (0 : Int32)
      else
        some (1 : Int32)
    else
      some (1 : Int32)
set_option maxRecDepth 65536 in
set_option maxHeartbeats 4000000 in
theorem X_clauseHolds_p {C : Ctx} {top : Nat} {a : Nat} {H : List (Nat × Nat × Rec)} {ob : Rec} {res : Int32} (i1 : Int32) (i2 : Int32) (hf : X_clauseHolds ob i1 i2 = some res) : Runs C B29 0 0 0 [vr a, vi i1, vi i2, vn] [] (top, (a, 17, ob) :: H) (Ans (some (.int res)) (top, (a, 17, ob) :: H)) := by
  delta X_clauseHolds at hf
  refine Runs.iloadN d29_0 rfl <| ?_
  refine ite_el hf (fun hc1 hf => ?_) (fun hc1 hf => ?_)
  · refine Runs.ifY (pc' := 10) d29_1 (tlt hc1).1 (by decide) <| ?_
    obtain rfl := Option.some.inj hf
    exact Runs.iconst d29_10 ci_1 <| Runs.retZ (y := (1 : Int32)) d29_11 rfl ⟨by decide, by decide⟩ rfl ⟨rfl, rfl⟩
  · refine Runs.ifN d29_1 (flt hc1).1 <| ?_
    refine Runs.iloadN d29_4 rfl <| Runs.bipush d29_5 cb_24 <| ?_
    refine ite_el hf (fun hc2 hf => ?_) (fun hc2 hf => ?_)
    · refine Runs.icY (pc' := 12) d29_7 (tlt hc2).1 (by decide) <| ?_
      refine Runs.iloadN d29_12 rfl <| Runs.aloadN d29_13 rfl <| Runs.getA d29_14 fA_2 w19 (by decide) <| Runs.iloadN d29_17 rfl <| ?_
      refine chk_el hf fun hi3 hf => ?_
      refine Runs.ialoadA d29_18 fA_2 (by decide) hi3 <| Runs.iand d29_19 <| Runs.iloadN d29_20 rfl <| Runs.iconst d29_21 ci_m1 <| Runs.ixor d29_22 <| Runs.aloadN d29_23 rfl <| Runs.getA d29_24 fA_3 w21 (by decide) <| Runs.iloadN d29_27 rfl <| ?_
      refine chk_el hf fun hi4 hf => ?_
      refine Runs.ialoadA d29_28 fA_3 (by decide) hi4 <| Runs.iand d29_29 <| Runs.ior d29_30 <| Runs.istoreN (P' := [vr a, vi i1, vi i2, vi ((i2 &&& (gA ob 2 i1)) ||| ((i2 ^^^ (-1 : Int32)) &&& (gA ob 3 i1)))]) d29_31 (by decide) rfl <| Runs.iloadN d29_32 rfl <| ?_
      refine ite_el hf (fun hc5 hf => ?_) (fun hc5 hf => ?_)
      · refine Runs.ifY (pc' := 40) d29_33 (teq hc5).1 (by decide) <| ?_
        obtain rfl := Option.some.inj hf
        exact Runs.iconst d29_40 ci_0 <| Runs.retZ (y := (0 : Int32)) d29_41 rfl ⟨by decide, by decide⟩ rfl ⟨rfl, rfl⟩
      · refine Runs.ifN d29_33 (feq hc5).1 <| ?_
        obtain rfl := Option.some.inj hf
        exact Runs.iconst d29_36 ci_1 <| Runs.goto (pc' := 41) d29_37 (by decide) <| Runs.retZ (y := (1 : Int32)) d29_41 rfl ⟨by decide, by decide⟩ rfl ⟨rfl, rfl⟩
    · refine Runs.icN d29_7 (flt hc2).1 <| ?_
      obtain rfl := Option.some.inj hf
      exact Runs.iconst d29_10 ci_1 <| Runs.retZ (y := (1 : Int32)) d29_11 rfl ⟨by decide, by decide⟩ rfl ⟨rfl, rfl⟩
theorem X_clauseHolds_pay {C : Ctx} {top : Nat} {a : Nat} {H : List (Nat × Nat × Rec)} {ob : Rec} {res : Int32} {i1 : Int32} {i2 : Int32} (hf : X_clauseHolds ob i1 i2 = some res) : Pays C B29 [.ref a, .int i1, .int i2] (top, (a, 17, ob) :: H) (Ans (some (.int res)) (top, (a, 17, ob) :: H)) :=
  Pays.of pnK (Nat.le_of_ble_eq_true rfl) (P := [vr a, vi i1, vi i2, vn]) 1 rfl (X_clauseHolds_p i1 i2 hf)
def X_parity (ob : Rec) (i1 : Int32) : Option (Int32) :=
  (some ((i1 ^^^ ((i1.toUInt32 >>> ((16 : Int32) &&& 31).toUInt32).toInt32)) ^^^ (((i1 ^^^ ((i1.toUInt32 >>> ((16 : Int32) &&& 31).toUInt32).toInt32)).toUInt32 >>> ((8 : Int32) &&& 31).toUInt32).toInt32))).bind fun v1 =>
  (some ((v1 ^^^ ((v1.toUInt32 >>> ((4 : Int32) &&& 31).toUInt32).toInt32)) ^^^ (((v1 ^^^ ((v1.toUInt32 >>> ((4 : Int32) &&& 31).toUInt32).toInt32)).toUInt32 >>> ((2 : Int32) &&& 31).toUInt32).toInt32))).bind fun v2 =>
  some ((v2 ^^^ ((v2.toUInt32 >>> ((1 : Int32) &&& 31).toUInt32).toInt32)) &&& (1 : Int32))
set_option maxRecDepth 65536 in
set_option maxHeartbeats 4000000 in
theorem X_parity_p {C : Ctx} {top : Nat} {a : Nat} {H : List (Nat × Nat × Rec)} {ob : Rec} {res : Int32} (i1 : Int32) (hf : X_parity ob i1 = some res) : Runs C B39 0 0 0 [vr a, vi i1, vn] [] (top, (a, 17, ob) :: H) (Ans (some (.int res)) (top, (a, 17, ob) :: H)) := by
  delta X_parity at hf
  refine Runs.iloadN d39_0 rfl <| Runs.iloadN d39_1 rfl <| Runs.bipush d39_2 cb_16 <| Runs.iushr d39_4 <| Runs.ixor d39_5 <| Runs.istoreN (P' := [vr a, vi i1, vi (i1 ^^^ ((i1.toUInt32 >>> ((16 : Int32) &&& 31).toUInt32).toInt32))]) d39_6 (by decide) rfl <| Runs.iloadN d39_7 rfl <| Runs.iloadN d39_8 rfl <| Runs.bipush d39_9 cb_8 <| Runs.iushr d39_11 <| Runs.ixor d39_12 <| ?_
  refine bind_el hf fun v1 hv1 hf => ?_
  rw [Option.some.inj hv1]
  refine Runs.istoreN (P' := [vr a, vi i1, vi v1]) d39_13 (by decide) rfl <| Runs.iloadN d39_14 rfl <| Runs.iloadN d39_15 rfl <| Runs.iconst d39_16 ci_4 <| Runs.iushr d39_17 <| Runs.ixor d39_18 <| Runs.istoreN (P' := [vr a, vi i1, vi (v1 ^^^ ((v1.toUInt32 >>> ((4 : Int32) &&& 31).toUInt32).toInt32))]) d39_19 (by decide) rfl <| Runs.iloadN d39_20 rfl <| Runs.iloadN d39_21 rfl <| Runs.iconst d39_22 ci_2 <| Runs.iushr d39_23 <| Runs.ixor d39_24 <| ?_
  refine bind_el hf fun v2 hv2 hf => ?_
  rw [Option.some.inj hv2]
  obtain rfl := Option.some.inj hf
  exact Runs.istoreN (P' := [vr a, vi i1, vi v2]) d39_25 (by decide) rfl <| Runs.iloadN d39_26 rfl <| Runs.iloadN d39_27 rfl <| Runs.iconst d39_28 ci_1 <| Runs.iushr d39_29 <| Runs.ixor d39_30 <| Runs.istoreN (P' := [vr a, vi i1, vi (v2 ^^^ ((v2.toUInt32 >>> ((1 : Int32) &&& 31).toUInt32).toInt32))]) d39_31 (by decide) rfl <| Runs.iloadN d39_32 rfl <| Runs.iconst d39_33 ci_1 <| Runs.iand d39_34 <| Runs.retI d39_35 rfl ⟨by decide, by decide⟩ ⟨rfl, rfl⟩
theorem X_parity_pay {C : Ctx} {top : Nat} {a : Nat} {H : List (Nat × Nat × Rec)} {ob : Rec} {res : Int32} {i1 : Int32} (hf : X_parity ob i1 = some res) : Pays C B39 [.ref a, .int i1] (top, (a, 17, ob) :: H) (Ans (some (.int res)) (top, (a, 17, ob) :: H)) :=
  Pays.of pnK (Nat.le_of_ble_eq_true rfl) (P := [vr a, vi i1, vn]) 1 rfl (X_parity_p i1 hf)
def X_xorHolds (ob : Rec) (i1 : Int32) (i2 : Int32) : Option (Int32) :=
  if i1 < (0 : Int32) then
    some (1 : Int32)
  else
    if i1 < (16 : Int32) then
      chk (16 : Int32) i1 <|
      (X_parity ob (i2 &&& (gA ob 4 i1))).bind fun r4 =>
      chk (16 : Int32) i1 <|
      if r4 = (gA ob 5 i1) then
        some (1 : Int32)
      else
        some (0 : Int32)
    else
      some (1 : Int32)
set_option maxRecDepth 65536 in
set_option maxHeartbeats 4000000 in
theorem X_xorHolds_p {C : Ctx} {top : Nat} {a : Nat} {H : List (Nat × Nat × Rec)} {ob : Rec} {res : Int32} (i1 : Int32) (i2 : Int32) (hf : X_xorHolds ob i1 i2 = some res) : Runs C B38 0 0 0 [vr a, vi i1, vi i2, vn] [] (top, (a, 17, ob) :: H) (Ans (some (.int res)) (top, (a, 17, ob) :: H)) := by
  delta X_xorHolds at hf
  refine Runs.iloadN d38_0 rfl <| ?_
  refine ite_el hf (fun hc1 hf => ?_) (fun hc1 hf => ?_)
  · refine Runs.ifY (pc' := 10) d38_1 (tlt hc1).1 (by decide) <| ?_
    obtain rfl := Option.some.inj hf
    exact Runs.iconst d38_10 ci_1 <| Runs.retZ (y := (1 : Int32)) d38_11 rfl ⟨by decide, by decide⟩ rfl ⟨rfl, rfl⟩
  · refine Runs.ifN d38_1 (flt hc1).1 <| ?_
    refine Runs.iloadN d38_4 rfl <| Runs.bipush d38_5 cb_16 <| ?_
    refine ite_el hf (fun hc2 hf => ?_) (fun hc2 hf => ?_)
    · refine Runs.icY (pc' := 12) d38_7 (tlt hc2).1 (by decide) <| ?_
      refine Runs.aloadN d38_12 rfl <| Runs.iloadN d38_13 rfl <| Runs.aloadN d38_14 rfl <| Runs.getA d38_15 fA_4 w23 (by decide) <| Runs.iloadN d38_18 rfl <| ?_
      refine chk_el hf fun hi3 hf => ?_
      refine Runs.ialoadA d38_19 fA_4 (by decide) hi3 <| Runs.iand d38_20 <| ?_
      refine bind_el hf fun r4 hg5 hf => ?_
      refine Runs.callP (N := B39) (W := 0) (as := [.int (i2 &&& (gA ob 4 i1))]) (S' := []) d38_21 w239 w240 w241 rfl cw39 ar39 rk38_39_0 (by decide) rfl rfl (X_parity_pay hg5) <| ans1 <| Runs.istoreN (P' := [vr a, vi i1, vi i2, vi r4]) d38_24 (by decide) rfl <| Runs.iloadN d38_25 rfl <| Runs.aloadN d38_26 rfl <| Runs.getA d38_27 fA_5 w25 (by decide) <| Runs.iloadN d38_30 rfl <| ?_
      refine chk_el hf fun hi6 hf => ?_
      refine Runs.ialoadA d38_31 fA_5 (by decide) hi6 <| ?_
      refine ite_el hf (fun hc7 hf => ?_) (fun hc7 hf => ?_)
      · refine Runs.icN d38_32 (teq hc7).2 <| ?_
        obtain rfl := Option.some.inj hf
        exact Runs.iconst d38_35 ci_1 <| Runs.goto (pc' := 40) d38_36 (by decide) <| Runs.retZ (y := (1 : Int32)) d38_40 rfl ⟨by decide, by decide⟩ rfl ⟨rfl, rfl⟩
      · refine Runs.icY (pc' := 39) d38_32 (feq hc7).2 (by decide) <| ?_
        obtain rfl := Option.some.inj hf
        exact Runs.iconst d38_39 ci_0 <| Runs.retZ (y := (0 : Int32)) d38_40 rfl ⟨by decide, by decide⟩ rfl ⟨rfl, rfl⟩
    · refine Runs.icN d38_7 (flt hc2).1 <| ?_
      obtain rfl := Option.some.inj hf
      exact Runs.iconst d38_10 ci_1 <| Runs.retZ (y := (1 : Int32)) d38_11 rfl ⟨by decide, by decide⟩ rfl ⟨rfl, rfl⟩
theorem X_xorHolds_pay {C : Ctx} {top : Nat} {a : Nat} {H : List (Nat × Nat × Rec)} {ob : Rec} {res : Int32} {i1 : Int32} {i2 : Int32} (hf : X_xorHolds ob i1 i2 = some res) : Pays C B38 [.ref a, .int i1, .int i2] (top, (a, 17, ob) :: H) (Ans (some (.int res)) (top, (a, 17, ob) :: H)) :=
  Pays.of pnK (Nat.le_of_ble_eq_true rfl) (P := [vr a, vi i1, vi i2, vn]) 1 rfl (X_xorHolds_p i1 i2 hf)
def X_violations_w50 (NF : Nat) (ob : Rec) (k50 : Int32 → Int32 → Int32 → Option (Int32)) (i2 : Int32) (i3 : Int32) (i4 : Int32) : Option (Int32) :=
  if i4 < (gI ob 6) then
    if i4 < (16 : Int32) then
      (X_xorHolds ob i4 i2).bind fun r8 =>
      if r8 = (0 : Int32) then
        k50 i2 (i3 + (1 : Int32)) (i4 + (1 : Int32))
      else
        k50 i2 i3 (i4 + (1 : Int32))
    else
      some i3
  else
    some i3
def X_violations_l50 (NF : Nat) (ob : Rec) : Nat → Int32 → Int32 → Int32 → Option (Int32)
  | 0, _, _, _ => none
  | n + 1, i2, i3, i4 => X_violations_w50 NF ob (X_violations_l50 NF ob n) i2 i3 i4
set_option maxRecDepth 65536 in
set_option maxHeartbeats 4000000 in
theorem X_violations_w50_p {C : Ctx} {top : Nat} {a : Nat} {H : List (Nat × Nat × Rec)} {ob : Rec} {res : Int32} {NF : Nat} (k50 : Int32 → Int32 → Int32 → Option (Int32)) (hk50 : ∀ (i2 : Int32) (i3 : Int32) (i4 : Int32), k50 i2 i3 i4 = some res → Runs C B4 0 0 50 [vr a, vn, vi i2, vi i3, vi i4] [] (top, (a, 17, ob) :: H) (Ans (some (.int res)) (top, (a, 17, ob) :: H))) (i2 : Int32) (i3 : Int32) (i4 : Int32) (hf : X_violations_w50 NF ob k50 i2 i3 i4 = some res) : Runs C B4 0 0 50 [vr a, vn, vi i2, vi i3, vi i4] [] (top, (a, 17, ob) :: H) (Ans (some (.int res)) (top, (a, 17, ob) :: H)) := by
  delta X_violations_w50 at hf
  refine Runs.iload d4_50 rfl <| Runs.aloadN d4_52 rfl <| Runs.getI d4_53 w61 fS_6 <| ?_
  refine ite_el hf (fun hc6 hf => ?_) (fun hc6 hf => ?_)
  · refine Runs.icN d4_56 (tlt hc6).2.1 <| ?_
    refine Runs.iload d4_59 rfl <| Runs.bipush d4_61 cb_16 <| ?_
    refine ite_el hf (fun hc7 hf => ?_) (fun hc7 hf => ?_)
    · refine Runs.icN d4_63 (tlt hc7).2.1 <| ?_
      refine Runs.aloadN d4_66 rfl <| Runs.iload d4_67 rfl <| Runs.iloadN d4_69 rfl <| ?_
      refine bind_el hf fun r8 hg9 hf => ?_
      refine Runs.callP (N := B38) (W := 0) (as := [.int i4, .int i2]) (S' := []) d4_70 w235 w236 w237 rfl cw38 ar38 rk4_38_0 (by decide) rfl rfl (X_xorHolds_pay hg9) <| ans1 <| ?_
      refine ite_el hf (fun hc10 hf => ?_) (fun hc10 hf => ?_)
      · refine Runs.ifN d4_73 (teq hc10).2 <| ?_
        exact Runs.iinc (P' := [vr a, vn, vi i2, vi (i3 + (1 : Int32)), vi i4]) d4_76 ci_1 rfl (by decide) rfl <| Runs.iinc (P' := [vr a, vn, vi i2, vi (i3 + (1 : Int32)), vi (i4 + (1 : Int32))]) d4_79 ci_1 rfl (by decide) rfl <| Runs.goto (pc' := 50) d4_82 (by decide) <| hk50 i2 (i3 + (1 : Int32)) (i4 + (1 : Int32)) hf
      · refine Runs.ifY (pc' := 79) d4_73 (feq hc10).2 (by decide) <| ?_
        exact Runs.iinc (P' := [vr a, vn, vi i2, vi i3, vi (i4 + (1 : Int32))]) d4_79 ci_1 rfl (by decide) rfl <| Runs.goto (pc' := 50) d4_82 (by decide) <| hk50 i2 i3 (i4 + (1 : Int32)) hf
    · refine Runs.icY (pc' := 85) d4_63 (flt hc7).2.1 (by decide) <| ?_
      obtain rfl := Option.some.inj hf
      exact Runs.iloadN d4_85 rfl <| Runs.retI d4_86 rfl ⟨by decide, by decide⟩ ⟨rfl, rfl⟩
  · refine Runs.icY (pc' := 85) d4_56 (flt hc6).2.1 (by decide) <| ?_
    obtain rfl := Option.some.inj hf
    exact Runs.iloadN d4_85 rfl <| Runs.retI d4_86 rfl ⟨by decide, by decide⟩ ⟨rfl, rfl⟩
theorem X_violations_l50_p {C : Ctx} {top : Nat} {a : Nat} {H : List (Nat × Nat × Rec)} {ob : Rec} {res : Int32} {NF : Nat} (n : Nat) (i2 : Int32) (i3 : Int32) (i4 : Int32) (hf : X_violations_l50 NF ob n i2 i3 i4 = some res) : Runs C B4 0 0 50 [vr a, vn, vi i2, vi i3, vi i4] [] (top, (a, 17, ob) :: H) (Ans (some (.int res)) (top, (a, 17, ob) :: H)) := by
  induction n generalizing i2 i3 i4 with
  | zero => cases (show (none : Option (Int32)) = some res from hf)
  | succ n ih => exact X_violations_w50_p (X_violations_l50 NF ob n) (fun i2 i3 i4 h => ih _ _ _ h) i2 i3 i4 hf
def X_violations_w12 (NF : Nat) (ob : Rec) (k12 : Int32 → Int32 → Int32 → Option (Int32)) (i2 : Int32) (i3 : Int32) (i4 : Int32) : Option (Int32) :=
  if i4 < (gI ob 5) then
    if i4 < (24 : Int32) then
      (X_clauseHolds ob i4 i2).bind fun r3 =>
      if r3 = (0 : Int32) then
        k12 i2 (i3 + (1 : Int32)) (i4 + (1 : Int32))
      else
        k12 i2 i3 (i4 + (1 : Int32))
    else
      X_violations_l50 NF ob NF i2 i3 (0 : Int32)
  else
    X_violations_l50 NF ob NF i2 i3 (0 : Int32)
def X_violations_l12 (NF : Nat) (ob : Rec) : Nat → Int32 → Int32 → Int32 → Option (Int32)
  | 0, _, _, _ => none
  | n + 1, i2, i3, i4 => X_violations_w12 NF ob (X_violations_l12 NF ob n) i2 i3 i4
set_option maxRecDepth 65536 in
set_option maxHeartbeats 4000000 in
theorem X_violations_w12_p {C : Ctx} {top : Nat} {a : Nat} {H : List (Nat × Nat × Rec)} {ob : Rec} {res : Int32} {NF : Nat} (k12 : Int32 → Int32 → Int32 → Option (Int32)) (hk12 : ∀ (i2 : Int32) (i3 : Int32) (i4 : Int32), k12 i2 i3 i4 = some res → Runs C B4 0 0 12 [vr a, vn, vi i2, vi i3, vi i4] [] (top, (a, 17, ob) :: H) (Ans (some (.int res)) (top, (a, 17, ob) :: H))) (i2 : Int32) (i3 : Int32) (i4 : Int32) (hf : X_violations_w12 NF ob k12 i2 i3 i4 = some res) : Runs C B4 0 0 12 [vr a, vn, vi i2, vi i3, vi i4] [] (top, (a, 17, ob) :: H) (Ans (some (.int res)) (top, (a, 17, ob) :: H)) := by
  delta X_violations_w12 at hf
  refine Runs.iload d4_12 rfl <| Runs.aloadN d4_14 rfl <| Runs.getI d4_15 w59 fS_5 <| ?_
  refine ite_el hf (fun hc1 hf => ?_) (fun hc1 hf => ?_)
  · refine Runs.icN d4_18 (tlt hc1).2.1 <| ?_
    refine Runs.iload d4_21 rfl <| Runs.bipush d4_23 cb_24 <| ?_
    refine ite_el hf (fun hc2 hf => ?_) (fun hc2 hf => ?_)
    · refine Runs.icN d4_25 (tlt hc2).2.1 <| ?_
      refine Runs.aloadN d4_28 rfl <| Runs.iload d4_29 rfl <| Runs.iloadN d4_31 rfl <| ?_
      refine bind_el hf fun r3 hg4 hf => ?_
      refine Runs.callP (N := B29) (W := 0) (as := [.int i4, .int i2]) (S' := []) d4_32 w198 w199 w200 rfl cw29 ar29 rk4_29_0 (by decide) rfl rfl (X_clauseHolds_pay hg4) <| ans1 <| ?_
      refine ite_el hf (fun hc5 hf => ?_) (fun hc5 hf => ?_)
      · refine Runs.ifN d4_35 (teq hc5).2 <| ?_
        exact Runs.iinc (P' := [vr a, vn, vi i2, vi (i3 + (1 : Int32)), vi i4]) d4_38 ci_1 rfl (by decide) rfl <| Runs.iinc (P' := [vr a, vn, vi i2, vi (i3 + (1 : Int32)), vi (i4 + (1 : Int32))]) d4_41 ci_1 rfl (by decide) rfl <| Runs.goto (pc' := 12) d4_44 (by decide) <| hk12 i2 (i3 + (1 : Int32)) (i4 + (1 : Int32)) hf
      · refine Runs.ifY (pc' := 41) d4_35 (feq hc5).2 (by decide) <| ?_
        exact Runs.iinc (P' := [vr a, vn, vi i2, vi i3, vi (i4 + (1 : Int32))]) d4_41 ci_1 rfl (by decide) rfl <| Runs.goto (pc' := 12) d4_44 (by decide) <| hk12 i2 i3 (i4 + (1 : Int32)) hf
    · refine Runs.icY (pc' := 47) d4_25 (flt hc2).2.1 (by decide) <| ?_
      exact Runs.iconst d4_47 ci_0 <| Runs.istore (P' := [vr a, vn, vi i2, vi i3, vi (0 : Int32)]) d4_48 (by decide) rfl <| X_violations_l50_p NF i2 i3 (0 : Int32) hf
  · refine Runs.icY (pc' := 47) d4_18 (flt hc1).2.1 (by decide) <| ?_
    exact Runs.iconst d4_47 ci_0 <| Runs.istore (P' := [vr a, vn, vi i2, vi i3, vi (0 : Int32)]) d4_48 (by decide) rfl <| X_violations_l50_p NF i2 i3 (0 : Int32) hf
theorem X_violations_l12_p {C : Ctx} {top : Nat} {a : Nat} {H : List (Nat × Nat × Rec)} {ob : Rec} {res : Int32} {NF : Nat} (n : Nat) (i2 : Int32) (i3 : Int32) (i4 : Int32) (hf : X_violations_l12 NF ob n i2 i3 i4 = some res) : Runs C B4 0 0 12 [vr a, vn, vi i2, vi i3, vi i4] [] (top, (a, 17, ob) :: H) (Ans (some (.int res)) (top, (a, 17, ob) :: H)) := by
  induction n generalizing i2 i3 i4 with
  | zero => cases (show (none : Option (Int32)) = some res from hf)
  | succ n ih => exact X_violations_w12_p (X_violations_l12 NF ob n) (fun i2 i3 i4 h => ih _ _ _ h) i2 i3 i4 hf
def X_violations (NF : Nat) (ob : Rec) (i1 : Int32) : Option (Int32) :=
  X_violations_l12 NF ob NF (i1 &&& (gI ob 1)) (0 : Int32) (0 : Int32)
set_option maxRecDepth 65536 in
set_option maxHeartbeats 4000000 in
theorem X_violations_p {C : Ctx} {top : Nat} {a : Nat} {H : List (Nat × Nat × Rec)} {ob : Rec} {res : Int32} {NF : Nat} (i1 : Int32) (hf : X_violations NF ob i1 = some res) : Runs C B4 0 0 0 [vr a, vi i1, vn, vn, vn] [] (top, (a, 17, ob) :: H) (Ans (some (.int res)) (top, (a, 17, ob) :: H)) := by
  delta X_violations at hf
  exact Runs.iloadN d4_0 rfl <| Runs.aloadN d4_1 rfl <| Runs.getI d4_2 w51 fS_1 <| Runs.iand d4_5 <| Runs.istoreN (P' := [vr a, vi i1, vi (i1 &&& (gI ob 1)), vn, vn]) d4_6 (by decide) rfl <| Runs.iconst d4_7 ci_0 <| Runs.istoreN (P' := [vr a, vi i1, vi (i1 &&& (gI ob 1)), vi (0 : Int32), vn]) d4_8 (by decide) rfl <| Runs.iconst d4_9 ci_0 <| Runs.istore (P' := [vr a, vi i1, vi (i1 &&& (gI ob 1)), vi (0 : Int32), vi (0 : Int32)]) d4_10 (by decide) rfl <| Runs.forget [true, false, true, true, true] rfl <| X_violations_l12_p NF (i1 &&& (gI ob 1)) (0 : Int32) (0 : Int32) hf
theorem X_violations_pay {C : Ctx} {top : Nat} {a : Nat} {H : List (Nat × Nat × Rec)} {ob : Rec} {res : Int32} {NF : Nat} {i1 : Int32} (hf : X_violations NF ob i1 = some res) : Pays C B4 [.ref a, .int i1] (top, (a, 17, ob) :: H) (Ans (some (.int res)) (top, (a, 17, ob) :: H)) :=
  Pays.of pnK (Nat.le_of_ble_eq_true rfl) (P := [vr a, vi i1, vn, vn, vn]) 3 rfl (X_violations_p i1 hf)
def L_before (i0 : Int32) (i1 : Int32) : Option (Int32) :=
  if (i0 ^^^ i1) = (0 : Int32) then
    some (0 : Int32)
  else
    if (i0 &&& ((i0 ^^^ i1) &&& (-(i0 ^^^ i1)))) = (0 : Int32) then
      some (1 : Int32)
    else
      some (0 : Int32)
set_option maxRecDepth 65536 in
set_option maxHeartbeats 4000000 in
theorem L_before_p {C : Ctx} {G : AH} {res : Int32} (i0 : Int32) (i1 : Int32) (hf : L_before i0 i1 = some res) : Runs C B5 0 0 0 [vi i0, vi i1, vn, vn] [] G (Ans (some (.int res)) G) := by
  delta L_before at hf
  refine Runs.iloadN d5_0 rfl <| Runs.iloadN d5_1 rfl <| Runs.ixor d5_2 <| Runs.istoreN (P' := [vi i0, vi i1, vi (i0 ^^^ i1), vn]) d5_3 (by decide) rfl <| Runs.iloadN d5_4 rfl <| ?_
  refine ite_el hf (fun hc1 hf => ?_) (fun hc1 hf => ?_)
  · refine Runs.ifN d5_5 (teq hc1).2 <| ?_
    obtain rfl := Option.some.inj hf
    exact Runs.iconst d5_8 ci_0 <| Runs.retZ (y := (0 : Int32)) d5_9 rfl ⟨by decide, by decide⟩ rfl ⟨rfl, rfl⟩
  · refine Runs.ifY (pc' := 10) d5_5 (feq hc1).2 (by decide) <| ?_
    refine Runs.iloadN d5_10 rfl <| Runs.iloadN d5_11 rfl <| Runs.ineg d5_12 <| Runs.iand d5_13 <| Runs.istoreN (P' := [vi i0, vi i1, vi (i0 ^^^ i1), vi ((i0 ^^^ i1) &&& (-(i0 ^^^ i1)))]) d5_14 (by decide) rfl <| Runs.iloadN d5_15 rfl <| Runs.iloadN d5_16 rfl <| Runs.iand d5_17 <| ?_
    refine ite_el hf (fun hc2 hf => ?_) (fun hc2 hf => ?_)
    · refine Runs.ifN d5_18 (teq hc2).2 <| ?_
      obtain rfl := Option.some.inj hf
      exact Runs.iconst d5_21 ci_1 <| Runs.goto (pc' := 26) d5_22 (by decide) <| Runs.retZ (y := (1 : Int32)) d5_26 rfl ⟨by decide, by decide⟩ rfl ⟨rfl, rfl⟩
    · refine Runs.ifY (pc' := 25) d5_18 (feq hc2).2 (by decide) <| ?_
      obtain rfl := Option.some.inj hf
      exact Runs.iconst d5_25 ci_0 <| Runs.retZ (y := (0 : Int32)) d5_26 rfl ⟨by decide, by decide⟩ rfl ⟨rfl, rfl⟩
theorem L_before_pay {C : Ctx} {G : AH} {res : Int32} {i0 : Int32} {i1 : Int32} (hf : L_before i0 i1 = some res) : Pays C B5 [.int i0, .int i1] G (Ans (some (.int res)) G) :=
  Pays.of pnL (Nat.le_of_ble_eq_true rfl) (P := [vi i0, vi i1, vn, vn]) 2 rfl (L_before_p i0 i1 hf)
def X_findPivot_w9 (NF : Nat) (ob : Rec) (k9 : Int32 → Int32 → Option (Int32)) (i2 : Int32) (i3 : Int32) : Option (Int32) :=
  if i3 < (gI ob 11) then
    if i3 < (16 : Int32) then
      if i3 < (0 : Int32) then
        k9 i2 (i3 + (1 : Int32))
      else
        chk (16 : Int32) i3 <|
        if ((gA ob 10 i3) &&& i2) = (0 : Int32) then
          k9 i2 (i3 + (1 : Int32))
        else
          some i3
    else
      some (-1 : Int32)
  else
    some (-1 : Int32)
def X_findPivot_l9 (NF : Nat) (ob : Rec) : Nat → Int32 → Int32 → Option (Int32)
  | 0, _, _ => none
  | n + 1, i2, i3 => X_findPivot_w9 NF ob (X_findPivot_l9 NF ob n) i2 i3
set_option maxRecDepth 65536 in
set_option maxHeartbeats 4000000 in
theorem X_findPivot_w9_p {C : Ctx} {top : Nat} {a : Nat} {H : List (Nat × Nat × Rec)} {ob : Rec} {res : Int32} {NF : Nat} (k9 : Int32 → Int32 → Option (Int32)) (hk9 : ∀ (i2 : Int32) (i3 : Int32), k9 i2 i3 = some res → Runs C B9 0 0 9 [vr a, vn, vi i2, vi i3] [] (top, (a, 17, ob) :: H) (Ans (some (.int res)) (top, (a, 17, ob) :: H))) (i2 : Int32) (i3 : Int32) (hf : X_findPivot_w9 NF ob k9 i2 i3 = some res) : Runs C B9 0 0 9 [vr a, vn, vi i2, vi i3] [] (top, (a, 17, ob) :: H) (Ans (some (.int res)) (top, (a, 17, ob) :: H)) := by
  delta X_findPivot_w9 at hf
  refine Runs.iloadN d9_9 rfl <| Runs.aloadN d9_10 rfl <| Runs.getI d9_11 w93 fS_11 <| ?_
  refine ite_el hf (fun hc1 hf => ?_) (fun hc1 hf => ?_)
  · refine Runs.icN d9_14 (tlt hc1).2.1 <| ?_
    refine Runs.iloadN d9_17 rfl <| Runs.bipush d9_18 cb_16 <| ?_
    refine ite_el hf (fun hc2 hf => ?_) (fun hc2 hf => ?_)
    · refine Runs.icN d9_20 (tlt hc2).2.1 <| ?_
      refine Runs.iloadN d9_23 rfl <| ?_
      refine ite_el hf (fun hc3 hf => ?_) (fun hc3 hf => ?_)
      · refine Runs.ifY (pc' := 40) d9_24 (tlt hc3).1 (by decide) <| ?_
        exact Runs.iinc (P' := [vr a, vn, vi i2, vi (i3 + (1 : Int32))]) d9_40 ci_1 rfl (by decide) rfl <| Runs.goto (pc' := 9) d9_43 (by decide) <| hk9 i2 (i3 + (1 : Int32)) hf
      · refine Runs.ifN d9_24 (flt hc3).1 <| ?_
        refine Runs.aloadN d9_27 rfl <| Runs.getA d9_28 fA_10 w35 (by decide) <| Runs.iloadN d9_31 rfl <| ?_
        refine chk_el hf fun hi4 hf => ?_
        refine Runs.ialoadA d9_32 fA_10 (by decide) hi4 <| Runs.iloadN d9_33 rfl <| Runs.iand d9_34 <| ?_
        refine ite_el hf (fun hc5 hf => ?_) (fun hc5 hf => ?_)
        · refine Runs.ifY (pc' := 40) d9_35 (teq hc5).1 (by decide) <| ?_
          exact Runs.iinc (P' := [vr a, vn, vi i2, vi (i3 + (1 : Int32))]) d9_40 ci_1 rfl (by decide) rfl <| Runs.goto (pc' := 9) d9_43 (by decide) <| hk9 i2 (i3 + (1 : Int32)) hf
        · refine Runs.ifN d9_35 (feq hc5).1 <| ?_
          obtain rfl := Option.some.inj hf
          exact Runs.iloadN d9_38 rfl <| Runs.retI d9_39 rfl ⟨by decide, by decide⟩ ⟨rfl, rfl⟩
    · refine Runs.icY (pc' := 46) d9_20 (flt hc2).2.1 (by decide) <| ?_
      obtain rfl := Option.some.inj hf
      exact Runs.iconst d9_46 ci_m1 <| Runs.retI d9_47 rfl ⟨by decide, by decide⟩ ⟨rfl, rfl⟩
  · refine Runs.icY (pc' := 46) d9_14 (flt hc1).2.1 (by decide) <| ?_
    obtain rfl := Option.some.inj hf
    exact Runs.iconst d9_46 ci_m1 <| Runs.retI d9_47 rfl ⟨by decide, by decide⟩ ⟨rfl, rfl⟩
theorem X_findPivot_l9_p {C : Ctx} {top : Nat} {a : Nat} {H : List (Nat × Nat × Rec)} {ob : Rec} {res : Int32} {NF : Nat} (n : Nat) (i2 : Int32) (i3 : Int32) (hf : X_findPivot_l9 NF ob n i2 i3 = some res) : Runs C B9 0 0 9 [vr a, vn, vi i2, vi i3] [] (top, (a, 17, ob) :: H) (Ans (some (.int res)) (top, (a, 17, ob) :: H)) := by
  induction n generalizing i2 i3 with
  | zero => cases (show (none : Option (Int32)) = some res from hf)
  | succ n ih => exact X_findPivot_w9_p (X_findPivot_l9 NF ob n) (fun i2 i3 h => ih _ _ h) i2 i3 hf
def X_findPivot (NF : Nat) (ob : Rec) (i1 : Int32) : Option (Int32) :=
  X_findPivot_l9 NF ob NF ((1 : Int32) <<< (i1 &&& 31)) (gI ob 12)
set_option maxRecDepth 65536 in
set_option maxHeartbeats 4000000 in
theorem X_findPivot_p {C : Ctx} {top : Nat} {a : Nat} {H : List (Nat × Nat × Rec)} {ob : Rec} {res : Int32} {NF : Nat} (i1 : Int32) (hf : X_findPivot NF ob i1 = some res) : Runs C B9 0 0 0 [vr a, vi i1, vn, vn] [] (top, (a, 17, ob) :: H) (Ans (some (.int res)) (top, (a, 17, ob) :: H)) := by
  delta X_findPivot at hf
  exact Runs.iconst d9_0 ci_1 <| Runs.iloadN d9_1 rfl <| Runs.ishl d9_2 <| Runs.istoreN (P' := [vr a, vi i1, vi ((1 : Int32) <<< (i1 &&& 31)), vn]) d9_3 (by decide) rfl <| Runs.aloadN d9_4 rfl <| Runs.getI d9_5 w99 fS_12 <| Runs.istoreN (P' := [vr a, vi i1, vi ((1 : Int32) <<< (i1 &&& 31)), vi (gI ob 12)]) d9_8 (by decide) rfl <| Runs.forget [true, false, true, true] rfl <| X_findPivot_l9_p NF ((1 : Int32) <<< (i1 &&& 31)) (gI ob 12) hf
theorem X_findPivot_pay {C : Ctx} {top : Nat} {a : Nat} {H : List (Nat × Nat × Rec)} {ob : Rec} {res : Int32} {NF : Nat} {i1 : Int32} (hf : X_findPivot NF ob i1 = some res) : Pays C B9 [.ref a, .int i1] (top, (a, 17, ob) :: H) (Ans (some (.int res)) (top, (a, 17, ob) :: H)) :=
  Pays.of pnK (Nat.le_of_ble_eq_true rfl) (P := [vr a, vi i1, vn, vn]) 2 rfl (X_findPivot_p i1 hf)
def X_swapRows (ob : Rec) (i1 : Int32) (i2 : Int32) : Option (Rec) :=
  if i1 = i2 then
    some ob
  else
    if i1 < (0 : Int32) then
      some ob
    else
      if i2 < (0 : Int32) then
        some ob
      else
        if i1 < (16 : Int32) then
          if i2 < (16 : Int32) then
            chk (16 : Int32) i1 <|
            chk (16 : Int32) i2 <|
            chk (16 : Int32) i1 <|
            chk (16 : Int32) i2 <|
            chk (16 : Int32) i1 <|
            chk (16 : Int32) i2 <|
            chk (16 : Int32) i1 <|
            chk (16 : Int32) i2 <|
            some (sA (sA (sA (sA ob 10 i1 (gA ob 10 i2)) 10 i2 (gA ob 10 i1)) 11 i1 (gA ob 11 i2)) 11 i2 (gA ob 11 i1))
          else
            some ob
        else
          some ob
set_option maxRecDepth 65536 in
set_option maxHeartbeats 4000000 in
theorem X_swapRows_p {C : Ctx} {top : Nat} {a : Nat} {H : List (Nat × Nat × Rec)} {res : Rec} (ob : Rec) (i1 : Int32) (i2 : Int32) (hf : X_swapRows ob i1 i2 = some res) : Runs C B41 0 0 0 [vr a, vi i1, vi i2, vn, vn] [] (top, (a, 17, ob) :: H) (Ans none (top, (a, 17, res) :: H)) := by
  delta X_swapRows at hf
  refine Runs.iloadN d41_0 rfl <| Runs.iloadN d41_1 rfl <| ?_
  refine ite_el hf (fun hc1 hf => ?_) (fun hc1 hf => ?_)
  · refine Runs.icY (pc' := 25) d41_2 (teq hc1).1 (by decide) <| ?_
    obtain rfl := Option.some.inj hf
    exact Runs.retV d41_25 rfl ⟨by decide, by decide⟩ ⟨rfl, rfl⟩
  · refine Runs.icN d41_2 (feq hc1).1 <| ?_
    refine Runs.iloadN d41_5 rfl <| ?_
    refine ite_el hf (fun hc2 hf => ?_) (fun hc2 hf => ?_)
    · refine Runs.ifY (pc' := 25) d41_6 (tlt hc2).1 (by decide) <| ?_
      obtain rfl := Option.some.inj hf
      exact Runs.retV d41_25 rfl ⟨by decide, by decide⟩ ⟨rfl, rfl⟩
    · refine Runs.ifN d41_6 (flt hc2).1 <| ?_
      refine Runs.iloadN d41_9 rfl <| ?_
      refine ite_el hf (fun hc3 hf => ?_) (fun hc3 hf => ?_)
      · refine Runs.ifY (pc' := 25) d41_10 (tlt hc3).1 (by decide) <| ?_
        obtain rfl := Option.some.inj hf
        exact Runs.retV d41_25 rfl ⟨by decide, by decide⟩ ⟨rfl, rfl⟩
      · refine Runs.ifN d41_10 (flt hc3).1 <| ?_
        refine Runs.iloadN d41_13 rfl <| Runs.bipush d41_14 cb_16 <| ?_
        refine ite_el hf (fun hc4 hf => ?_) (fun hc4 hf => ?_)
        · refine Runs.icN d41_16 (tlt hc4).2.1 <| ?_
          refine Runs.iloadN d41_19 rfl <| Runs.bipush d41_20 cb_16 <| ?_
          refine ite_el hf (fun hc5 hf => ?_) (fun hc5 hf => ?_)
          · refine Runs.icY (pc' := 26) d41_22 (tlt hc5).1 (by decide) <| ?_
            refine Runs.aloadN d41_26 rfl <| Runs.getA d41_27 fA_10 w35 (by decide) <| Runs.iloadN d41_30 rfl <| ?_
            refine chk_el hf fun hi6 hf => ?_
            refine Runs.ialoadA d41_31 fA_10 (by decide) hi6 <| Runs.istoreN (P' := [vr a, vi i1, vi i2, vi (gA ob 10 i1), vn]) d41_32 (by decide) rfl <| Runs.aloadN d41_33 rfl <| Runs.getA d41_34 fA_10 w35 (by decide) <| Runs.iloadN d41_37 rfl <| Runs.aloadN d41_38 rfl <| Runs.getA d41_39 fA_10 w35 (by decide) <| Runs.iloadN d41_42 rfl <| ?_
            refine chk_el hf fun hi7 hf => ?_
            refine Runs.ialoadA d41_43 fA_10 (by decide) hi7 <| ?_
            refine chk_el hf fun hi8 hf => ?_
            refine Runs.iastoreA d41_44 fA_10 (by decide) hi8 <| Runs.aloadN d41_45 rfl <| Runs.getA d41_46 fA_10 w35 (by decide) <| Runs.iloadN d41_49 rfl <| Runs.iloadN d41_50 rfl <| ?_
            refine chk_el hf fun hi9 hf => ?_
            refine Runs.iastoreA d41_51 fA_10 (by decide) hi9 <| Runs.aloadN d41_52 rfl <| Runs.getA d41_53 fA_11 w37 (by decide) <| Runs.iloadN d41_56 rfl <| ?_
            refine chk_el hf fun hi10 hf => ?_
            refine Runs.ialoadA d41_57 fA_11 (by decide) hi10 <| Runs.istore (P' := [vr a, vi i1, vi i2, vi (gA ob 10 i1), vi (gA ob 11 i1)]) d41_58 (by decide) rfl <| Runs.aloadN d41_60 rfl <| Runs.getA d41_61 fA_11 w37 (by decide) <| Runs.iloadN d41_64 rfl <| Runs.aloadN d41_65 rfl <| Runs.getA d41_66 fA_11 w37 (by decide) <| Runs.iloadN d41_69 rfl <| ?_
            refine chk_el hf fun hi11 hf => ?_
            refine Runs.ialoadA d41_70 fA_11 (by decide) hi11 <| ?_
            refine chk_el hf fun hi12 hf => ?_
            refine Runs.iastoreA d41_71 fA_11 (by decide) hi12 <| Runs.aloadN d41_72 rfl <| Runs.getA d41_73 fA_11 w37 (by decide) <| Runs.iloadN d41_76 rfl <| Runs.iload d41_77 rfl <| ?_
            refine chk_el hf fun hi13 hf => ?_
            obtain rfl := Option.some.inj hf
            exact Runs.iastoreA d41_79 fA_11 (by decide) hi13 <| Runs.retV d41_80 rfl ⟨by decide, by decide⟩ ⟨rfl, rfl⟩
          · refine Runs.icN d41_22 (flt hc5).1 <| ?_
            obtain rfl := Option.some.inj hf
            exact Runs.retV d41_25 rfl ⟨by decide, by decide⟩ ⟨rfl, rfl⟩
        · refine Runs.icY (pc' := 25) d41_16 (flt hc4).2.1 (by decide) <| ?_
          obtain rfl := Option.some.inj hf
          exact Runs.retV d41_25 rfl ⟨by decide, by decide⟩ ⟨rfl, rfl⟩
theorem X_swapRows_pay {C : Ctx} {top : Nat} {a : Nat} {H : List (Nat × Nat × Rec)} {res : Rec} {ob : Rec} {i1 : Int32} {i2 : Int32} (hf : X_swapRows ob i1 i2 = some res) : Pays C B41 [.ref a, .int i1, .int i2] (top, (a, 17, ob) :: H) (Ans none (top, (a, 17, res) :: H)) :=
  Pays.of pnK (Nat.le_of_ble_eq_true rfl) (P := [vr a, vi i1, vi i2, vn, vn]) 2 rfl (X_swapRows_p ob i1 i2 hf)
def X_clearColumn_w18 (NF : Nat) (k18 : Rec → Int32 → Int32 → Int32 → Option (Rec)) (ob : Rec) (i2 : Int32) (i3 : Int32) (i4 : Int32) : Option (Rec) :=
  if i4 < (gI ob 11) then
    if i4 < (16 : Int32) then
      if i4 = i2 then
        k18 ob i2 i3 (i4 + (1 : Int32))
      else
        chk (16 : Int32) i4 <|
        if ((gA ob 10 i4) &&& i3) = (0 : Int32) then
          k18 ob i2 i3 (i4 + (1 : Int32))
        else
          chk (16 : Int32) i4 <|
          chk (16 : Int32) i2 <|
          chk (16 : Int32) i4 <|
          chk (16 : Int32) i4 <|
          chk (16 : Int32) i2 <|
          chk (16 : Int32) i4 <|
          k18 (sA (sA ob 10 i4 ((gA ob 10 i4) ^^^ (gA ob 10 i2))) 11 i4 ((gA ob 11 i4) ^^^ (gA ob 11 i2))) i2 i3 (i4 + (1 : Int32))
    else
      some ob
  else
    some ob
def X_clearColumn_l18 (NF : Nat) : Nat → Rec → Int32 → Int32 → Int32 → Option (Rec)
  | 0, _, _, _, _ => none
  | n + 1, ob, i2, i3, i4 => X_clearColumn_w18 NF (X_clearColumn_l18 NF n) ob i2 i3 i4
set_option maxRecDepth 65536 in
set_option maxHeartbeats 4000000 in
theorem X_clearColumn_w18_p {C : Ctx} {top : Nat} {a : Nat} {H : List (Nat × Nat × Rec)} {res : Rec} {NF : Nat} (k18 : Rec → Int32 → Int32 → Int32 → Option (Rec)) (hk18 : ∀ (ob : Rec) (i2 : Int32) (i3 : Int32) (i4 : Int32), k18 ob i2 i3 i4 = some res → Runs C B42 0 0 18 [vr a, vn, vi i2, vi i3, vi i4] [] (top, (a, 17, ob) :: H) (Ans none (top, (a, 17, res) :: H))) (ob : Rec) (i2 : Int32) (i3 : Int32) (i4 : Int32) (hf : X_clearColumn_w18 NF k18 ob i2 i3 i4 = some res) : Runs C B42 0 0 18 [vr a, vn, vi i2, vi i3, vi i4] [] (top, (a, 17, ob) :: H) (Ans none (top, (a, 17, res) :: H)) := by
  delta X_clearColumn_w18 at hf
  refine Runs.iload d42_18 rfl <| Runs.aloadN d42_20 rfl <| Runs.getI d42_21 w93 fS_11 <| ?_
  refine ite_el hf (fun hc1 hf => ?_) (fun hc1 hf => ?_)
  · refine Runs.icN d42_24 (tlt hc1).2.1 <| ?_
    refine Runs.iload d42_27 rfl <| Runs.bipush d42_29 cb_16 <| ?_
    refine ite_el hf (fun hc2 hf => ?_) (fun hc2 hf => ?_)
    · refine Runs.icN d42_31 (tlt hc2).2.1 <| ?_
      refine Runs.iload d42_34 rfl <| Runs.iloadN d42_36 rfl <| ?_
      refine ite_el hf (fun hc3 hf => ?_) (fun hc3 hf => ?_)
      · refine Runs.icY (pc' := 84) d42_37 (teq hc3).1 (by decide) <| ?_
        exact Runs.iinc (P' := [vr a, vn, vi i2, vi i3, vi (i4 + (1 : Int32))]) d42_84 ci_1 rfl (by decide) rfl <| Runs.goto (pc' := 18) d42_87 (by decide) <| hk18 ob i2 i3 (i4 + (1 : Int32)) hf
      · refine Runs.icN d42_37 (feq hc3).1 <| ?_
        refine Runs.aloadN d42_40 rfl <| Runs.getA d42_41 fA_10 w35 (by decide) <| Runs.iload d42_44 rfl <| ?_
        refine chk_el hf fun hi4 hf => ?_
        refine Runs.ialoadA d42_46 fA_10 (by decide) hi4 <| Runs.iloadN d42_47 rfl <| Runs.iand d42_48 <| ?_
        refine ite_el hf (fun hc5 hf => ?_) (fun hc5 hf => ?_)
        · refine Runs.ifY (pc' := 84) d42_49 (teq hc5).1 (by decide) <| ?_
          exact Runs.iinc (P' := [vr a, vn, vi i2, vi i3, vi (i4 + (1 : Int32))]) d42_84 ci_1 rfl (by decide) rfl <| Runs.goto (pc' := 18) d42_87 (by decide) <| hk18 ob i2 i3 (i4 + (1 : Int32)) hf
        · refine Runs.ifN d42_49 (feq hc5).1 <| ?_
          refine Runs.aloadN d42_52 rfl <| Runs.getA d42_53 fA_10 w35 (by decide) <| Runs.iload d42_56 rfl <| Runs.dup2 d42_58 rfl rfl <| ?_
          refine chk_el hf fun hi6 hf => ?_
          refine Runs.ialoadA d42_59 fA_10 (by decide) hi6 <| Runs.aloadN d42_60 rfl <| Runs.getA d42_61 fA_10 w35 (by decide) <| Runs.iloadN d42_64 rfl <| ?_
          refine chk_el hf fun hi7 hf => ?_
          refine Runs.ialoadA d42_65 fA_10 (by decide) hi7 <| Runs.ixor d42_66 <| ?_
          refine chk_el hf fun hi8 hf => ?_
          refine Runs.iastoreA d42_67 fA_10 (by decide) hi8 <| Runs.aloadN d42_68 rfl <| Runs.getA d42_69 fA_11 w37 (by decide) <| Runs.iload d42_72 rfl <| Runs.dup2 d42_74 rfl rfl <| ?_
          refine chk_el hf fun hi9 hf => ?_
          refine Runs.ialoadA d42_75 fA_11 (by decide) hi9 <| Runs.aloadN d42_76 rfl <| Runs.getA d42_77 fA_11 w37 (by decide) <| Runs.iloadN d42_80 rfl <| ?_
          refine chk_el hf fun hi10 hf => ?_
          refine Runs.ialoadA d42_81 fA_11 (by decide) hi10 <| Runs.ixor d42_82 <| ?_
          refine chk_el hf fun hi11 hf => ?_
          exact Runs.iastoreA d42_83 fA_11 (by decide) hi11 <| Runs.iinc (P' := [vr a, vn, vi i2, vi i3, vi (i4 + (1 : Int32))]) d42_84 ci_1 rfl (by decide) rfl <| Runs.goto (pc' := 18) d42_87 (by decide) <| hk18 (sA (sA ob 10 i4 ((gA ob 10 i4) ^^^ (gA ob 10 i2))) 11 i4 ((gA ob 11 i4) ^^^ (gA ob 11 i2))) i2 i3 (i4 + (1 : Int32)) hf
    · refine Runs.icY (pc' := 90) d42_31 (flt hc2).2.1 (by decide) <| ?_
      obtain rfl := Option.some.inj hf
      exact Runs.retV d42_90 rfl ⟨by decide, by decide⟩ ⟨rfl, rfl⟩
  · refine Runs.icY (pc' := 90) d42_24 (flt hc1).2.1 (by decide) <| ?_
    obtain rfl := Option.some.inj hf
    exact Runs.retV d42_90 rfl ⟨by decide, by decide⟩ ⟨rfl, rfl⟩
theorem X_clearColumn_l18_p {C : Ctx} {top : Nat} {a : Nat} {H : List (Nat × Nat × Rec)} {res : Rec} {NF : Nat} (n : Nat) (ob : Rec) (i2 : Int32) (i3 : Int32) (i4 : Int32) (hf : X_clearColumn_l18 NF n ob i2 i3 i4 = some res) : Runs C B42 0 0 18 [vr a, vn, vi i2, vi i3, vi i4] [] (top, (a, 17, ob) :: H) (Ans none (top, (a, 17, res) :: H)) := by
  induction n generalizing ob i2 i3 i4 with
  | zero => cases (show (none : Option (Rec)) = some res from hf)
  | succ n ih => exact X_clearColumn_w18_p (X_clearColumn_l18 NF n) (fun ob i2 i3 i4 h => ih _ _ _ _ h) ob i2 i3 i4 hf
def X_clearColumn (NF : Nat) (ob : Rec) (i1 : Int32) (i2 : Int32) : Option (Rec) :=
  if i2 < (0 : Int32) then
    some ob
  else
    if i2 < (16 : Int32) then
      X_clearColumn_l18 NF NF ob i2 ((1 : Int32) <<< (i1 &&& 31)) (0 : Int32)
    else
      some ob
set_option maxRecDepth 65536 in
set_option maxHeartbeats 4000000 in
theorem X_clearColumn_p {C : Ctx} {top : Nat} {a : Nat} {H : List (Nat × Nat × Rec)} {res : Rec} {NF : Nat} (ob : Rec) (i1 : Int32) (i2 : Int32) (hf : X_clearColumn NF ob i1 i2 = some res) : Runs C B42 0 0 0 [vr a, vi i1, vi i2, vn, vn] [] (top, (a, 17, ob) :: H) (Ans none (top, (a, 17, res) :: H)) := by
  delta X_clearColumn at hf
  refine Runs.iloadN d42_0 rfl <| ?_
  refine ite_el hf (fun hc12 hf => ?_) (fun hc12 hf => ?_)
  · refine Runs.ifY (pc' := 10) d42_1 (tlt hc12).1 (by decide) <| ?_
    obtain rfl := Option.some.inj hf
    exact Runs.retV d42_10 rfl ⟨by decide, by decide⟩ ⟨rfl, rfl⟩
  · refine Runs.ifN d42_1 (flt hc12).1 <| ?_
    refine Runs.iloadN d42_4 rfl <| Runs.bipush d42_5 cb_16 <| ?_
    refine ite_el hf (fun hc13 hf => ?_) (fun hc13 hf => ?_)
    · refine Runs.icY (pc' := 11) d42_7 (tlt hc13).1 (by decide) <| ?_
      exact Runs.iconst d42_11 ci_1 <| Runs.iloadN d42_12 rfl <| Runs.ishl d42_13 <| Runs.istoreN (P' := [vr a, vi i1, vi i2, vi ((1 : Int32) <<< (i1 &&& 31)), vn]) d42_14 (by decide) rfl <| Runs.iconst d42_15 ci_0 <| Runs.istore (P' := [vr a, vi i1, vi i2, vi ((1 : Int32) <<< (i1 &&& 31)), vi (0 : Int32)]) d42_16 (by decide) rfl <| Runs.forget [true, false, true, true, true] rfl <| X_clearColumn_l18_p NF ob i2 ((1 : Int32) <<< (i1 &&& 31)) (0 : Int32) hf
    · refine Runs.icN d42_7 (flt hc13).1 <| ?_
      obtain rfl := Option.some.inj hf
      exact Runs.retV d42_10 rfl ⟨by decide, by decide⟩ ⟨rfl, rfl⟩
theorem X_clearColumn_pay {C : Ctx} {top : Nat} {a : Nat} {H : List (Nat × Nat × Rec)} {res : Rec} {NF : Nat} {ob : Rec} {i1 : Int32} {i2 : Int32} (hf : X_clearColumn NF ob i1 i2 = some res) : Pays C B42 [.ref a, .int i1, .int i2] (top, (a, 17, ob) :: H) (Ans none (top, (a, 17, res) :: H)) :=
  Pays.of pnK (Nat.le_of_ble_eq_true rfl) (P := [vr a, vi i1, vi i2, vn, vn]) 2 rfl (X_clearColumn_p ob i1 i2 hf)
def X_eliminate_w7 (NF : Nat) (k7 : Rec → Int32 → Option (Rec)) (ob : Rec) (i1 : Int32) : Option (Rec) :=
  if i1 < (gI ob 0) then
    if i1 < (12 : Int32) then
      (X_findPivot NF ob i1).bind fun r3 =>
      if r3 < (0 : Int32) then
        k7 ob (i1 + (1 : Int32))
      else
        if (gI ob 12) < (16 : Int32) then
          (X_swapRows ob r3 (gI ob 12)).bind fun q7 =>
          (X_clearColumn NF q7 i1 (gI q7 12)).bind fun q9 =>
          chk (16 : Int32) (gI q9 12) <|
          k7 (sI (sA q9 12 (gI q9 12) i1) 12 ((gI q9 12) + (1 : Int32))) (i1 + (1 : Int32))
        else
          k7 ob (i1 + (1 : Int32))
    else
      some ob
  else
    some ob
def X_eliminate_l7 (NF : Nat) : Nat → Rec → Int32 → Option (Rec)
  | 0, _, _ => none
  | n + 1, ob, i1 => X_eliminate_w7 NF (X_eliminate_l7 NF n) ob i1
set_option maxRecDepth 65536 in
set_option maxHeartbeats 4000000 in
theorem X_eliminate_w7_p {C : Ctx} {top : Nat} {a : Nat} {H : List (Nat × Nat × Rec)} {res : Rec} {NF : Nat} (k7 : Rec → Int32 → Option (Rec)) (hk7 : ∀ (ob : Rec) (i1 : Int32), k7 ob i1 = some res → Runs C B8 0 0 7 [vr a, vi i1, vn] [] (top, (a, 17, ob) :: H) (Ans none (top, (a, 17, res) :: H))) (ob : Rec) (i1 : Int32) (hf : X_eliminate_w7 NF k7 ob i1 = some res) : Runs C B8 0 0 7 [vr a, vi i1, vn] [] (top, (a, 17, ob) :: H) (Ans none (top, (a, 17, res) :: H)) := by
  delta X_eliminate_w7 at hf
  refine Runs.iloadN d8_7 rfl <| Runs.aloadN d8_8 rfl <| Runs.getI d8_9 w49 fS_0 <| ?_
  refine ite_el hf (fun hc1 hf => ?_) (fun hc1 hf => ?_)
  · refine Runs.icN d8_12 (tlt hc1).2.1 <| ?_
    refine Runs.iloadN d8_15 rfl <| Runs.bipush d8_16 cb_12 <| ?_
    refine ite_el hf (fun hc2 hf => ?_) (fun hc2 hf => ?_)
    · refine Runs.icN d8_18 (tlt hc2).2.1 <| ?_
      refine Runs.aloadN d8_21 rfl <| Runs.iloadN d8_22 rfl <| ?_
      refine bind_el hf fun r3 hg4 hf => ?_
      refine Runs.callP (N := B9) (W := 0) (as := [.int i1]) (S' := []) d8_23 w101 w102 w103 rfl cw9 ar9 rk8_9_0 (by decide) rfl rfl (X_findPivot_pay hg4) <| ans1 <| Runs.istoreN (P' := [vr a, vi i1, vi r3]) d8_26 (by decide) rfl <| Runs.iloadN d8_27 rfl <| ?_
      refine ite_el hf (fun hc5 hf => ?_) (fun hc5 hf => ?_)
      · refine Runs.ifY (pc' := 78) d8_28 (tlt hc5).1 (by decide) <| ?_
        exact Runs.iinc (P' := [vr a, vi (i1 + (1 : Int32)), vi r3]) d8_78 ci_1 rfl (by decide) rfl <| Runs.goto (pc' := 7) d8_81 (by decide) <| Runs.forget [true, true, false] rfl <| hk7 ob (i1 + (1 : Int32)) hf
      · refine Runs.ifN d8_28 (flt hc5).1 <| ?_
        refine Runs.aloadN d8_31 rfl <| Runs.getI d8_32 w99 fS_12 <| Runs.bipush d8_35 cb_16 <| ?_
        refine ite_el hf (fun hc6 hf => ?_) (fun hc6 hf => ?_)
        · refine Runs.icN d8_37 (tlt hc6).2.1 <| ?_
          refine Runs.aloadN d8_40 rfl <| Runs.iloadN d8_41 rfl <| Runs.aloadN d8_42 rfl <| Runs.getI d8_43 w99 fS_12 <| ?_
          refine bind_el hf fun q7 hg8 hf => ?_
          refine Runs.callP (N := B41) (W := 0) (as := [.int r3, .int (gI ob 12)]) (S' := []) d8_46 w248 w249 w250 rfl cw41 ar41 rk8_41_0 (by decide) rfl rfl (X_swapRows_pay hg8) <| ans0 <| Runs.aloadN d8_49 rfl <| Runs.iloadN d8_50 rfl <| Runs.aloadN d8_51 rfl <| Runs.getI d8_52 w99 fS_12 <| ?_
          refine bind_el hf fun q9 hg10 hf => ?_
          refine Runs.callP (N := B42) (W := 0) (as := [.int i1, .int (gI q7 12)]) (S' := []) d8_55 w252 w253 w254 rfl cw42 ar42 rk8_42_0 (by decide) rfl rfl (X_clearColumn_pay hg10) <| ans0 <| Runs.aloadN d8_58 rfl <| Runs.getA d8_59 fA_12 w39 (by decide) <| Runs.aloadN d8_62 rfl <| Runs.getI d8_63 w99 fS_12 <| Runs.iloadN d8_66 rfl <| ?_
          refine chk_el hf fun hi11 hf => ?_
          exact Runs.iastoreA d8_67 fA_12 (by decide) hi11 <| Runs.aloadN d8_68 rfl <| Runs.dup d8_69 rfl <| Runs.getI d8_70 w99 fS_12 <| Runs.iconst d8_73 ci_1 <| Runs.iadd d8_74 <| Runs.putI d8_75 w99 fS_12 (Or.inl w100) <| Runs.iinc (P' := [vr a, vi (i1 + (1 : Int32)), vi r3]) d8_78 ci_1 rfl (by decide) rfl <| Runs.goto (pc' := 7) d8_81 (by decide) <| Runs.forget [true, true, false] rfl <| hk7 (sI (sA q9 12 (gI q9 12) i1) 12 ((gI q9 12) + (1 : Int32))) (i1 + (1 : Int32)) hf
        · refine Runs.icY (pc' := 78) d8_37 (flt hc6).2.1 (by decide) <| ?_
          exact Runs.iinc (P' := [vr a, vi (i1 + (1 : Int32)), vi r3]) d8_78 ci_1 rfl (by decide) rfl <| Runs.goto (pc' := 7) d8_81 (by decide) <| Runs.forget [true, true, false] rfl <| hk7 ob (i1 + (1 : Int32)) hf
    · refine Runs.icY (pc' := 84) d8_18 (flt hc2).2.1 (by decide) <| ?_
      obtain rfl := Option.some.inj hf
      exact Runs.retV d8_84 rfl ⟨by decide, by decide⟩ ⟨rfl, rfl⟩
  · refine Runs.icY (pc' := 84) d8_12 (flt hc1).2.1 (by decide) <| ?_
    obtain rfl := Option.some.inj hf
    exact Runs.retV d8_84 rfl ⟨by decide, by decide⟩ ⟨rfl, rfl⟩
theorem X_eliminate_l7_p {C : Ctx} {top : Nat} {a : Nat} {H : List (Nat × Nat × Rec)} {res : Rec} {NF : Nat} (n : Nat) (ob : Rec) (i1 : Int32) (hf : X_eliminate_l7 NF n ob i1 = some res) : Runs C B8 0 0 7 [vr a, vi i1, vn] [] (top, (a, 17, ob) :: H) (Ans none (top, (a, 17, res) :: H)) := by
  induction n generalizing ob i1 with
  | zero => cases (show (none : Option (Rec)) = some res from hf)
  | succ n ih => exact X_eliminate_w7_p (X_eliminate_l7 NF n) (fun ob i1 h => ih _ _ h) ob i1 hf
def X_eliminate (NF : Nat) (ob : Rec) : Option (Rec) :=
  X_eliminate_l7 NF NF (sI ob 12 (0 : Int32)) (0 : Int32)
set_option maxRecDepth 65536 in
set_option maxHeartbeats 4000000 in
theorem X_eliminate_p {C : Ctx} {top : Nat} {a : Nat} {H : List (Nat × Nat × Rec)} {res : Rec} {NF : Nat} (ob : Rec) (hf : X_eliminate NF ob = some res) : Runs C B8 0 0 0 [vr a, vn, vn] [] (top, (a, 17, ob) :: H) (Ans none (top, (a, 17, res) :: H)) := by
  delta X_eliminate at hf
  exact Runs.aloadN d8_0 rfl <| Runs.iconst d8_1 ci_0 <| Runs.putI d8_2 w99 fS_12 (Or.inl w100) <| Runs.iconst d8_5 ci_0 <| Runs.istoreN (P' := [vr a, vi (0 : Int32), vn]) d8_6 (by decide) rfl <| X_eliminate_l7_p NF (sI ob 12 (0 : Int32)) (0 : Int32) hf
theorem X_eliminate_pay {C : Ctx} {top : Nat} {a : Nat} {H : List (Nat × Nat × Rec)} {res : Rec} {NF : Nat} {ob : Rec} (hf : X_eliminate NF ob = some res) : Pays C B8 [.ref a] (top, (a, 17, ob) :: H) (Ans none (top, (a, 17, res) :: H)) :=
  Pays.of pnK (Nat.le_of_ble_eq_true rfl) (P := [vr a, vn, vn]) 2 rfl (X_eliminate_p ob hf)
def X_scratchConsistent_w2 (NF : Nat) (ob : Rec) (k2 : Int32 → Option (Int32)) (i1 : Int32) : Option (Int32) :=
  if i1 < (gI ob 11) then
    if i1 < (16 : Int32) then
      chk (16 : Int32) i1 <|
      if (gA ob 10 i1) = (0 : Int32) then
        chk (16 : Int32) i1 <|
        if (gA ob 11 i1) = (0 : Int32) then
          k2 (i1 + (1 : Int32))
        else
          some (0 : Int32)
      else
        k2 (i1 + (1 : Int32))
    else
      some (1 : Int32)
  else
    some (1 : Int32)
def X_scratchConsistent_l2 (NF : Nat) (ob : Rec) : Nat → Int32 → Option (Int32)
  | 0, _ => none
  | n + 1, i1 => X_scratchConsistent_w2 NF ob (X_scratchConsistent_l2 NF ob n) i1
set_option maxRecDepth 65536 in
set_option maxHeartbeats 4000000 in
theorem X_scratchConsistent_w2_p {C : Ctx} {top : Nat} {a : Nat} {H : List (Nat × Nat × Rec)} {ob : Rec} {res : Int32} {NF : Nat} (k2 : Int32 → Option (Int32)) (hk2 : ∀ (i1 : Int32), k2 i1 = some res → Runs C B10 0 0 2 [vr a, vi i1] [] (top, (a, 17, ob) :: H) (Ans (some (.int res)) (top, (a, 17, ob) :: H))) (i1 : Int32) (hf : X_scratchConsistent_w2 NF ob k2 i1 = some res) : Runs C B10 0 0 2 [vr a, vi i1] [] (top, (a, 17, ob) :: H) (Ans (some (.int res)) (top, (a, 17, ob) :: H)) := by
  delta X_scratchConsistent_w2 at hf
  refine Runs.iloadN d10_2 rfl <| Runs.aloadN d10_3 rfl <| Runs.getI d10_4 w93 fS_11 <| ?_
  refine ite_el hf (fun hc1 hf => ?_) (fun hc1 hf => ?_)
  · refine Runs.icN d10_7 (tlt hc1).2.1 <| ?_
    refine Runs.iloadN d10_10 rfl <| Runs.bipush d10_11 cb_16 <| ?_
    refine ite_el hf (fun hc2 hf => ?_) (fun hc2 hf => ?_)
    · refine Runs.icN d10_13 (tlt hc2).2.1 <| ?_
      refine Runs.aloadN d10_16 rfl <| Runs.getA d10_17 fA_10 w35 (by decide) <| Runs.iloadN d10_20 rfl <| ?_
      refine chk_el hf fun hi3 hf => ?_
      refine Runs.ialoadA d10_21 fA_10 (by decide) hi3 <| ?_
      refine ite_el hf (fun hc4 hf => ?_) (fun hc4 hf => ?_)
      · refine Runs.ifN d10_22 (teq hc4).2 <| ?_
        refine Runs.aloadN d10_25 rfl <| Runs.getA d10_26 fA_11 w37 (by decide) <| Runs.iloadN d10_29 rfl <| ?_
        refine chk_el hf fun hi5 hf => ?_
        refine Runs.ialoadA d10_30 fA_11 (by decide) hi5 <| ?_
        refine ite_el hf (fun hc6 hf => ?_) (fun hc6 hf => ?_)
        · refine Runs.ifY (pc' := 36) d10_31 (teq hc6).1 (by decide) <| ?_
          exact Runs.iinc (P' := [vr a, vi (i1 + (1 : Int32))]) d10_36 ci_1 rfl (by decide) rfl <| Runs.goto (pc' := 2) d10_39 (by decide) <| hk2 (i1 + (1 : Int32)) hf
        · refine Runs.ifN d10_31 (feq hc6).1 <| ?_
          obtain rfl := Option.some.inj hf
          exact Runs.iconst d10_34 ci_0 <| Runs.retZ (y := (0 : Int32)) d10_35 rfl ⟨by decide, by decide⟩ rfl ⟨rfl, rfl⟩
      · refine Runs.ifY (pc' := 36) d10_22 (feq hc4).2 (by decide) <| ?_
        exact Runs.iinc (P' := [vr a, vi (i1 + (1 : Int32))]) d10_36 ci_1 rfl (by decide) rfl <| Runs.goto (pc' := 2) d10_39 (by decide) <| hk2 (i1 + (1 : Int32)) hf
    · refine Runs.icY (pc' := 42) d10_13 (flt hc2).2.1 (by decide) <| ?_
      obtain rfl := Option.some.inj hf
      exact Runs.iconst d10_42 ci_1 <| Runs.retZ (y := (1 : Int32)) d10_43 rfl ⟨by decide, by decide⟩ rfl ⟨rfl, rfl⟩
  · refine Runs.icY (pc' := 42) d10_7 (flt hc1).2.1 (by decide) <| ?_
    obtain rfl := Option.some.inj hf
    exact Runs.iconst d10_42 ci_1 <| Runs.retZ (y := (1 : Int32)) d10_43 rfl ⟨by decide, by decide⟩ rfl ⟨rfl, rfl⟩
theorem X_scratchConsistent_l2_p {C : Ctx} {top : Nat} {a : Nat} {H : List (Nat × Nat × Rec)} {ob : Rec} {res : Int32} {NF : Nat} (n : Nat) (i1 : Int32) (hf : X_scratchConsistent_l2 NF ob n i1 = some res) : Runs C B10 0 0 2 [vr a, vi i1] [] (top, (a, 17, ob) :: H) (Ans (some (.int res)) (top, (a, 17, ob) :: H)) := by
  induction n generalizing i1 with
  | zero => cases (show (none : Option (Int32)) = some res from hf)
  | succ n ih => exact X_scratchConsistent_w2_p (X_scratchConsistent_l2 NF ob n) (fun i1 h => ih _ h) i1 hf
def X_scratchConsistent (NF : Nat) (ob : Rec) : Option (Int32) :=
  X_scratchConsistent_l2 NF ob NF (0 : Int32)
set_option maxRecDepth 65536 in
set_option maxHeartbeats 4000000 in
theorem X_scratchConsistent_p {C : Ctx} {top : Nat} {a : Nat} {H : List (Nat × Nat × Rec)} {ob : Rec} {res : Int32} {NF : Nat} (hf : X_scratchConsistent NF ob = some res) : Runs C B10 0 0 0 [vr a, vn] [] (top, (a, 17, ob) :: H) (Ans (some (.int res)) (top, (a, 17, ob) :: H)) := by
  delta X_scratchConsistent at hf
  exact Runs.iconst d10_0 ci_0 <| Runs.istoreN (P' := [vr a, vi (0 : Int32)]) d10_1 (by decide) rfl <| X_scratchConsistent_l2_p NF (0 : Int32) hf
theorem X_scratchConsistent_pay {C : Ctx} {top : Nat} {a : Nat} {H : List (Nat × Nat × Rec)} {ob : Rec} {res : Int32} {NF : Nat} (hf : X_scratchConsistent NF ob = some res) : Pays C B10 [.ref a] (top, (a, 17, ob) :: H) (Ans (some (.int res)) (top, (a, 17, ob) :: H)) :=
  Pays.of pnK (Nat.le_of_ble_eq_true rfl) (P := [vr a, vn]) 1 rfl (X_scratchConsistent_p hf)
def X_ensureEchelon_w88 (NF : Nat) (k88 : Rec → Int32 → Option (Rec)) (ob : Rec) (i1 : Int32) : Option (Rec) :=
  if i1 < (gI ob 12) then
    if i1 < (16 : Int32) then
      chk (16 : Int32) i1 <|
      chk (16 : Int32) i1 <|
      chk (16 : Int32) i1 <|
      chk (16 : Int32) i1 <|
      chk (16 : Int32) i1 <|
      chk (16 : Int32) i1 <|
      k88 (sI (sA (sA (sA ob 7 i1 (gA ob 10 i1)) 8 i1 (gA ob 11 i1)) 9 i1 (gA ob 12 i1)) 8 ((gI ob 8) + (1 : Int32))) (i1 + (1 : Int32))
    else
      some (sI ob 10 (1 : Int32))
  else
    some (sI ob 10 (1 : Int32))
def X_ensureEchelon_l88 (NF : Nat) : Nat → Rec → Int32 → Option (Rec)
  | 0, _, _ => none
  | n + 1, ob, i1 => X_ensureEchelon_w88 NF (X_ensureEchelon_l88 NF n) ob i1
set_option maxRecDepth 65536 in
set_option maxHeartbeats 4000000 in
theorem X_ensureEchelon_w88_p {C : Ctx} {top : Nat} {a : Nat} {H : List (Nat × Nat × Rec)} {res : Rec} {NF : Nat} (k88 : Rec → Int32 → Option (Rec)) (hk88 : ∀ (ob : Rec) (i1 : Int32), k88 ob i1 = some res → Runs C B7 0 0 88 [vr a, vi i1] [] (top, (a, 17, ob) :: H) (Ans none (top, (a, 17, res) :: H))) (ob : Rec) (i1 : Int32) (hf : X_ensureEchelon_w88 NF k88 ob i1 = some res) : Runs C B7 0 0 88 [vr a, vi i1] [] (top, (a, 17, ob) :: H) (Ans none (top, (a, 17, res) :: H)) := by
  delta X_ensureEchelon_w88 at hf
  refine Runs.iloadN d7_88 rfl <| Runs.aloadN d7_89 rfl <| Runs.getI d7_90 w99 fS_12 <| ?_
  refine ite_el hf (fun hc11 hf => ?_) (fun hc11 hf => ?_)
  · refine Runs.icN d7_93 (tlt hc11).2.1 <| ?_
    refine Runs.iloadN d7_96 rfl <| Runs.bipush d7_97 cb_16 <| ?_
    refine ite_el hf (fun hc12 hf => ?_) (fun hc12 hf => ?_)
    · refine Runs.icN d7_99 (tlt hc12).2.1 <| ?_
      refine Runs.aloadN d7_102 rfl <| Runs.getA d7_103 fA_7 w29 (by decide) <| Runs.iloadN d7_106 rfl <| Runs.aloadN d7_107 rfl <| Runs.getA d7_108 fA_10 w35 (by decide) <| Runs.iloadN d7_111 rfl <| ?_
      refine chk_el hf fun hi13 hf => ?_
      refine Runs.ialoadA d7_112 fA_10 (by decide) hi13 <| ?_
      refine chk_el hf fun hi14 hf => ?_
      refine Runs.iastoreA d7_113 fA_7 (by decide) hi14 <| Runs.aloadN d7_114 rfl <| Runs.getA d7_115 fA_8 w31 (by decide) <| Runs.iloadN d7_118 rfl <| Runs.aloadN d7_119 rfl <| Runs.getA d7_120 fA_11 w37 (by decide) <| Runs.iloadN d7_123 rfl <| ?_
      refine chk_el hf fun hi15 hf => ?_
      refine Runs.ialoadA d7_124 fA_11 (by decide) hi15 <| ?_
      refine chk_el hf fun hi16 hf => ?_
      refine Runs.iastoreA d7_125 fA_8 (by decide) hi16 <| Runs.aloadN d7_126 rfl <| Runs.getA d7_127 fA_9 w33 (by decide) <| Runs.iloadN d7_130 rfl <| Runs.aloadN d7_131 rfl <| Runs.getA d7_132 fA_12 w39 (by decide) <| Runs.iloadN d7_135 rfl <| ?_
      refine chk_el hf fun hi17 hf => ?_
      refine Runs.ialoadA d7_136 fA_12 (by decide) hi17 <| ?_
      refine chk_el hf fun hi18 hf => ?_
      exact Runs.iastoreA d7_137 fA_9 (by decide) hi18 <| Runs.aloadN d7_138 rfl <| Runs.dup d7_139 rfl <| Runs.getI d7_140 w69 fS_8 <| Runs.iconst d7_143 ci_1 <| Runs.iadd d7_144 <| Runs.putI d7_145 w69 fS_8 (Or.inl w70) <| Runs.iinc (P' := [vr a, vi (i1 + (1 : Int32))]) d7_148 ci_1 rfl (by decide) rfl <| Runs.goto (pc' := 88) d7_151 (by decide) <| hk88 (sI (sA (sA (sA ob 7 i1 (gA ob 10 i1)) 8 i1 (gA ob 11 i1)) 9 i1 (gA ob 12 i1)) 8 ((gI ob 8) + (1 : Int32))) (i1 + (1 : Int32)) hf
    · refine Runs.icY (pc' := 154) d7_99 (flt hc12).2.1 (by decide) <| ?_
      obtain rfl := Option.some.inj hf
      exact Runs.aloadN d7_154 rfl <| Runs.iconst d7_155 ci_1 <| Runs.putZ (y := (1 : Int32)) d7_156 w65 fS_10 (Or.inl w66) rfl <| Runs.retV d7_159 rfl ⟨by decide, by decide⟩ ⟨rfl, rfl⟩
  · refine Runs.icY (pc' := 154) d7_93 (flt hc11).2.1 (by decide) <| ?_
    obtain rfl := Option.some.inj hf
    exact Runs.aloadN d7_154 rfl <| Runs.iconst d7_155 ci_1 <| Runs.putZ (y := (1 : Int32)) d7_156 w65 fS_10 (Or.inl w66) rfl <| Runs.retV d7_159 rfl ⟨by decide, by decide⟩ ⟨rfl, rfl⟩
theorem X_ensureEchelon_l88_p {C : Ctx} {top : Nat} {a : Nat} {H : List (Nat × Nat × Rec)} {res : Rec} {NF : Nat} (n : Nat) (ob : Rec) (i1 : Int32) (hf : X_ensureEchelon_l88 NF n ob i1 = some res) : Runs C B7 0 0 88 [vr a, vi i1] [] (top, (a, 17, ob) :: H) (Ans none (top, (a, 17, res) :: H)) := by
  induction n generalizing ob i1 with
  | zero => cases (show (none : Option (Rec)) = some res from hf)
  | succ n ih => exact X_ensureEchelon_w88_p (X_ensureEchelon_l88 NF n) (fun ob i1 h => ih _ _ h) ob i1 hf
def X_ensureEchelon_b69 (NF : Nat) (ob : Rec) : Option (Rec) :=
  (X_eliminate NF ob).bind fun q7 =>
  (X_scratchConsistent NF q7).bind fun r9 =>
  X_ensureEchelon_l88 NF NF (sI (sI q7 9 (r9 &&& 1)) 8 (0 : Int32)) (0 : Int32)
set_option maxRecDepth 65536 in
set_option maxHeartbeats 4000000 in
theorem X_ensureEchelon_b69_p {C : Ctx} {top : Nat} {a : Nat} {H : List (Nat × Nat × Rec)} {res : Rec} {NF : Nat} (ob : Rec) (hf : X_ensureEchelon_b69 NF ob = some res) : Runs C B7 0 0 69 [vr a, vn] [] (top, (a, 17, ob) :: H) (Ans none (top, (a, 17, res) :: H)) := by
  delta X_ensureEchelon_b69 at hf
  refine Runs.aloadN d7_69 rfl <| ?_
  refine bind_el hf fun q7 hg8 hf => ?_
  refine Runs.callP (N := B8) (W := 0) (as := []) (S' := []) d7_70 w95 w96 w97 rfl cw8 ar8 rk7_8_0 (by decide) rfl rfl (X_eliminate_pay hg8) <| ans0 <| Runs.aloadN d7_73 rfl <| Runs.aloadN d7_74 rfl <| ?_
  refine bind_el hf fun r9 hg10 hf => ?_
  exact Runs.callP (N := B10) (W := 1) (as := []) (S' := [.ref a]) d7_75 w105 w106 w107 rfl cw10 ar10 rk7_10_1 (by decide) rfl rfl (X_scratchConsistent_pay hg10) <| ans1 <| Runs.putZ (y := (r9 &&& 1)) d7_78 w67 fS_9 (Or.inl w68) rfl <| Runs.aloadN d7_81 rfl <| Runs.iconst d7_82 ci_0 <| Runs.putI d7_83 w69 fS_8 (Or.inl w70) <| Runs.iconst d7_86 ci_0 <| Runs.istoreN (P' := [vr a, vi (0 : Int32)]) d7_87 (by decide) rfl <| X_ensureEchelon_l88_p NF (sI (sI q7 9 (r9 &&& 1)) 8 (0 : Int32)) (0 : Int32) hf
def X_ensureEchelon_w15 (NF : Nat) (k15 : Rec → Int32 → Option (Rec)) (ob : Rec) (i1 : Int32) : Option (Rec) :=
  if i1 < (gI ob 6) then
    if i1 < (16 : Int32) then
      chk (16 : Int32) i1 <|
      chk (16 : Int32) i1 <|
      chk (16 : Int32) i1 <|
      chk (16 : Int32) i1 <|
      k15 (sI (sA (sA ob 10 i1 (gA ob 4 i1)) 11 i1 (gA ob 5 i1)) 11 ((gI ob 11) + (1 : Int32))) (i1 + (1 : Int32))
    else
      X_ensureEchelon_b69 NF ob
  else
    X_ensureEchelon_b69 NF ob
def X_ensureEchelon_l15 (NF : Nat) : Nat → Rec → Int32 → Option (Rec)
  | 0, _, _ => none
  | n + 1, ob, i1 => X_ensureEchelon_w15 NF (X_ensureEchelon_l15 NF n) ob i1
set_option maxRecDepth 65536 in
set_option maxHeartbeats 4000000 in
theorem X_ensureEchelon_w15_p {C : Ctx} {top : Nat} {a : Nat} {H : List (Nat × Nat × Rec)} {res : Rec} {NF : Nat} (k15 : Rec → Int32 → Option (Rec)) (hk15 : ∀ (ob : Rec) (i1 : Int32), k15 ob i1 = some res → Runs C B7 0 0 15 [vr a, vi i1] [] (top, (a, 17, ob) :: H) (Ans none (top, (a, 17, res) :: H))) (ob : Rec) (i1 : Int32) (hf : X_ensureEchelon_w15 NF k15 ob i1 = some res) : Runs C B7 0 0 15 [vr a, vi i1] [] (top, (a, 17, ob) :: H) (Ans none (top, (a, 17, res) :: H)) := by
  delta X_ensureEchelon_w15 at hf
  refine Runs.iloadN d7_15 rfl <| Runs.aloadN d7_16 rfl <| Runs.getI d7_17 w61 fS_6 <| ?_
  refine ite_el hf (fun hc1 hf => ?_) (fun hc1 hf => ?_)
  · refine Runs.icN d7_20 (tlt hc1).2.1 <| ?_
    refine Runs.iloadN d7_23 rfl <| Runs.bipush d7_24 cb_16 <| ?_
    refine ite_el hf (fun hc2 hf => ?_) (fun hc2 hf => ?_)
    · refine Runs.icN d7_26 (tlt hc2).2.1 <| ?_
      refine Runs.aloadN d7_29 rfl <| Runs.getA d7_30 fA_10 w35 (by decide) <| Runs.iloadN d7_33 rfl <| Runs.aloadN d7_34 rfl <| Runs.getA d7_35 fA_4 w23 (by decide) <| Runs.iloadN d7_38 rfl <| ?_
      refine chk_el hf fun hi3 hf => ?_
      refine Runs.ialoadA d7_39 fA_4 (by decide) hi3 <| ?_
      refine chk_el hf fun hi4 hf => ?_
      refine Runs.iastoreA d7_40 fA_10 (by decide) hi4 <| Runs.aloadN d7_41 rfl <| Runs.getA d7_42 fA_11 w37 (by decide) <| Runs.iloadN d7_45 rfl <| Runs.aloadN d7_46 rfl <| Runs.getA d7_47 fA_5 w25 (by decide) <| Runs.iloadN d7_50 rfl <| ?_
      refine chk_el hf fun hi5 hf => ?_
      refine Runs.ialoadA d7_51 fA_5 (by decide) hi5 <| ?_
      refine chk_el hf fun hi6 hf => ?_
      exact Runs.iastoreA d7_52 fA_11 (by decide) hi6 <| Runs.aloadN d7_53 rfl <| Runs.dup d7_54 rfl <| Runs.getI d7_55 w93 fS_11 <| Runs.iconst d7_58 ci_1 <| Runs.iadd d7_59 <| Runs.putI d7_60 w93 fS_11 (Or.inl w94) <| Runs.iinc (P' := [vr a, vi (i1 + (1 : Int32))]) d7_63 ci_1 rfl (by decide) rfl <| Runs.goto (pc' := 15) d7_66 (by decide) <| hk15 (sI (sA (sA ob 10 i1 (gA ob 4 i1)) 11 i1 (gA ob 5 i1)) 11 ((gI ob 11) + (1 : Int32))) (i1 + (1 : Int32)) hf
    · exact Runs.icY (pc' := 69) d7_26 (flt hc2).2.1 (by decide) <| Runs.forget [true, false] rfl <| X_ensureEchelon_b69_p ob hf
  · exact Runs.icY (pc' := 69) d7_20 (flt hc1).2.1 (by decide) <| Runs.forget [true, false] rfl <| X_ensureEchelon_b69_p ob hf
theorem X_ensureEchelon_l15_p {C : Ctx} {top : Nat} {a : Nat} {H : List (Nat × Nat × Rec)} {res : Rec} {NF : Nat} (n : Nat) (ob : Rec) (i1 : Int32) (hf : X_ensureEchelon_l15 NF n ob i1 = some res) : Runs C B7 0 0 15 [vr a, vi i1] [] (top, (a, 17, ob) :: H) (Ans none (top, (a, 17, res) :: H)) := by
  induction n generalizing ob i1 with
  | zero => cases (show (none : Option (Rec)) = some res from hf)
  | succ n ih => exact X_ensureEchelon_w15_p (X_ensureEchelon_l15 NF n) (fun ob i1 h => ih _ _ h) ob i1 hf
def X_ensureEchelon (NF : Nat) (ob : Rec) : Option (Rec) :=
  if (gI ob 10) = (0 : Int32) then
    X_ensureEchelon_l15 NF NF (sI ob 11 (0 : Int32)) (0 : Int32)
  else
    some ob
set_option maxRecDepth 65536 in
set_option maxHeartbeats 4000000 in
theorem X_ensureEchelon_p {C : Ctx} {top : Nat} {a : Nat} {H : List (Nat × Nat × Rec)} {res : Rec} {NF : Nat} (ob : Rec) (hf : X_ensureEchelon NF ob = some res) : Runs C B7 0 0 0 [vr a, vn] [] (top, (a, 17, ob) :: H) (Ans none (top, (a, 17, res) :: H)) := by
  delta X_ensureEchelon at hf
  refine Runs.aloadN d7_0 rfl <| Runs.getI d7_1 w65 fS_10 <| ?_
  refine ite_el hf (fun hc19 hf => ?_) (fun hc19 hf => ?_)
  · refine Runs.ifY (pc' := 8) d7_4 (teq hc19).1 (by decide) <| ?_
    exact Runs.aloadN d7_8 rfl <| Runs.iconst d7_9 ci_0 <| Runs.putI d7_10 w93 fS_11 (Or.inl w94) <| Runs.iconst d7_13 ci_0 <| Runs.istoreN (P' := [vr a, vi (0 : Int32)]) d7_14 (by decide) rfl <| X_ensureEchelon_l15_p NF (sI ob 11 (0 : Int32)) (0 : Int32) hf
  · refine Runs.ifN d7_4 (feq hc19).1 <| ?_
    obtain rfl := Option.some.inj hf
    exact Runs.retV d7_7 rfl ⟨by decide, by decide⟩ ⟨rfl, rfl⟩
theorem X_ensureEchelon_pay {C : Ctx} {top : Nat} {a : Nat} {H : List (Nat × Nat × Rec)} {res : Rec} {NF : Nat} {ob : Rec} (hf : X_ensureEchelon NF ob = some res) : Pays C B7 [.ref a] (top, (a, 17, ob) :: H) (Ans none (top, (a, 17, res) :: H)) :=
  Pays.of pnK (Nat.le_of_ble_eq_true rfl) (P := [vr a, vn]) 1 rfl (X_ensureEchelon_p ob hf)
def X_echPivotMask_w4 (NF : Nat) (ob : Rec) (k4 : Int32 → Int32 → Option (Int32)) (i1 : Int32) (i2 : Int32) : Option (Int32) :=
  if i2 < (gI ob 8) then
    if i2 < (16 : Int32) then
      chk (16 : Int32) i2 <|
      k4 (i1 ||| ((1 : Int32) <<< ((gA ob 9 i2) &&& 31))) (i2 + (1 : Int32))
    else
      some (i1 &&& (gI ob 1))
  else
    some (i1 &&& (gI ob 1))
def X_echPivotMask_l4 (NF : Nat) (ob : Rec) : Nat → Int32 → Int32 → Option (Int32)
  | 0, _, _ => none
  | n + 1, i1, i2 => X_echPivotMask_w4 NF ob (X_echPivotMask_l4 NF ob n) i1 i2
set_option maxRecDepth 65536 in
set_option maxHeartbeats 4000000 in
theorem X_echPivotMask_w4_p {C : Ctx} {top : Nat} {a : Nat} {H : List (Nat × Nat × Rec)} {ob : Rec} {res : Int32} {NF : Nat} (k4 : Int32 → Int32 → Option (Int32)) (hk4 : ∀ (i1 : Int32) (i2 : Int32), k4 i1 i2 = some res → Runs C B11 0 0 4 [vr a, vi i1, vi i2] [] (top, (a, 17, ob) :: H) (Ans (some (.int res)) (top, (a, 17, ob) :: H))) (i1 : Int32) (i2 : Int32) (hf : X_echPivotMask_w4 NF ob k4 i1 i2 = some res) : Runs C B11 0 0 4 [vr a, vi i1, vi i2] [] (top, (a, 17, ob) :: H) (Ans (some (.int res)) (top, (a, 17, ob) :: H)) := by
  delta X_echPivotMask_w4 at hf
  refine Runs.iloadN d11_4 rfl <| Runs.aloadN d11_5 rfl <| Runs.getI d11_6 w69 fS_8 <| ?_
  refine ite_el hf (fun hc1 hf => ?_) (fun hc1 hf => ?_)
  · refine Runs.icN d11_9 (tlt hc1).2.1 <| ?_
    refine Runs.iloadN d11_12 rfl <| Runs.bipush d11_13 cb_16 <| ?_
    refine ite_el hf (fun hc2 hf => ?_) (fun hc2 hf => ?_)
    · refine Runs.icN d11_15 (tlt hc2).2.1 <| ?_
      refine Runs.iloadN d11_18 rfl <| Runs.iconst d11_19 ci_1 <| Runs.aloadN d11_20 rfl <| Runs.getA d11_21 fA_9 w33 (by decide) <| Runs.iloadN d11_24 rfl <| ?_
      refine chk_el hf fun hi3 hf => ?_
      exact Runs.ialoadA d11_25 fA_9 (by decide) hi3 <| Runs.ishl d11_26 <| Runs.ior d11_27 <| Runs.istoreN (P' := [vr a, vi (i1 ||| ((1 : Int32) <<< ((gA ob 9 i2) &&& 31))), vi i2]) d11_28 (by decide) rfl <| Runs.iinc (P' := [vr a, vi (i1 ||| ((1 : Int32) <<< ((gA ob 9 i2) &&& 31))), vi (i2 + (1 : Int32))]) d11_29 ci_1 rfl (by decide) rfl <| Runs.goto (pc' := 4) d11_32 (by decide) <| hk4 (i1 ||| ((1 : Int32) <<< ((gA ob 9 i2) &&& 31))) (i2 + (1 : Int32)) hf
    · refine Runs.icY (pc' := 35) d11_15 (flt hc2).2.1 (by decide) <| ?_
      obtain rfl := Option.some.inj hf
      exact Runs.iloadN d11_35 rfl <| Runs.aloadN d11_36 rfl <| Runs.getI d11_37 w51 fS_1 <| Runs.iand d11_40 <| Runs.retI d11_41 rfl ⟨by decide, by decide⟩ ⟨rfl, rfl⟩
  · refine Runs.icY (pc' := 35) d11_9 (flt hc1).2.1 (by decide) <| ?_
    obtain rfl := Option.some.inj hf
    exact Runs.iloadN d11_35 rfl <| Runs.aloadN d11_36 rfl <| Runs.getI d11_37 w51 fS_1 <| Runs.iand d11_40 <| Runs.retI d11_41 rfl ⟨by decide, by decide⟩ ⟨rfl, rfl⟩
theorem X_echPivotMask_l4_p {C : Ctx} {top : Nat} {a : Nat} {H : List (Nat × Nat × Rec)} {ob : Rec} {res : Int32} {NF : Nat} (n : Nat) (i1 : Int32) (i2 : Int32) (hf : X_echPivotMask_l4 NF ob n i1 i2 = some res) : Runs C B11 0 0 4 [vr a, vi i1, vi i2] [] (top, (a, 17, ob) :: H) (Ans (some (.int res)) (top, (a, 17, ob) :: H)) := by
  induction n generalizing i1 i2 with
  | zero => cases (show (none : Option (Int32)) = some res from hf)
  | succ n ih => exact X_echPivotMask_w4_p (X_echPivotMask_l4 NF ob n) (fun i1 i2 h => ih _ _ h) i1 i2 hf
def X_echPivotMask (NF : Nat) (ob : Rec) : Option (Int32) :=
  X_echPivotMask_l4 NF ob NF (0 : Int32) (0 : Int32)
set_option maxRecDepth 65536 in
set_option maxHeartbeats 4000000 in
theorem X_echPivotMask_p {C : Ctx} {top : Nat} {a : Nat} {H : List (Nat × Nat × Rec)} {ob : Rec} {res : Int32} {NF : Nat} (hf : X_echPivotMask NF ob = some res) : Runs C B11 0 0 0 [vr a, vn, vn] [] (top, (a, 17, ob) :: H) (Ans (some (.int res)) (top, (a, 17, ob) :: H)) := by
  delta X_echPivotMask at hf
  exact Runs.iconst d11_0 ci_0 <| Runs.istoreN (P' := [vr a, vi (0 : Int32), vn]) d11_1 (by decide) rfl <| Runs.iconst d11_2 ci_0 <| Runs.istoreN (P' := [vr a, vi (0 : Int32), vi (0 : Int32)]) d11_3 (by decide) rfl <| X_echPivotMask_l4_p NF (0 : Int32) (0 : Int32) hf
theorem X_echPivotMask_pay {C : Ctx} {top : Nat} {a : Nat} {H : List (Nat × Nat × Rec)} {ob : Rec} {res : Int32} {NF : Nat} (hf : X_echPivotMask NF ob = some res) : Pays C B11 [.ref a] (top, (a, 17, ob) :: H) (Ans (some (.int res)) (top, (a, 17, ob) :: H)) :=
  Pays.of pnK (Nat.le_of_ble_eq_true rfl) (P := [vr a, vn, vn]) 2 rfl (X_echPivotMask_p hf)
def X_bitCount_w7 (NF : Nat) (ob : Rec) (k7 : Int32 → Int32 → Int32 → Option (Int32)) (i2 : Int32) (i3 : Int32) (i4 : Int32) : Option (Int32) :=
  if i4 < (32 : Int32) then
    if i2 = (0 : Int32) then
      some i3
    else
      k7 (i2 &&& (i2 - (1 : Int32))) (i3 + (1 : Int32)) (i4 + (1 : Int32))
  else
    some i3
def X_bitCount_l7 (NF : Nat) (ob : Rec) : Nat → Int32 → Int32 → Int32 → Option (Int32)
  | 0, _, _, _ => none
  | n + 1, i2, i3, i4 => X_bitCount_w7 NF ob (X_bitCount_l7 NF ob n) i2 i3 i4
set_option maxRecDepth 65536 in
set_option maxHeartbeats 4000000 in
theorem X_bitCount_w7_p {C : Ctx} {top : Nat} {a : Nat} {H : List (Nat × Nat × Rec)} {ob : Rec} {res : Int32} {NF : Nat} (k7 : Int32 → Int32 → Int32 → Option (Int32)) (hk7 : ∀ (i2 : Int32) (i3 : Int32) (i4 : Int32), k7 i2 i3 i4 = some res → Runs C B12 0 0 7 [vn, vn, vi i2, vi i3, vi i4] [] (top, (a, 17, ob) :: H) (Ans (some (.int res)) (top, (a, 17, ob) :: H))) (i2 : Int32) (i3 : Int32) (i4 : Int32) (hf : X_bitCount_w7 NF ob k7 i2 i3 i4 = some res) : Runs C B12 0 0 7 [vn, vn, vi i2, vi i3, vi i4] [] (top, (a, 17, ob) :: H) (Ans (some (.int res)) (top, (a, 17, ob) :: H)) := by
  delta X_bitCount_w7 at hf
  refine Runs.iload d12_7 rfl <| Runs.bipush d12_9 cb_32 <| ?_
  refine ite_el hf (fun hc1 hf => ?_) (fun hc1 hf => ?_)
  · refine Runs.icN d12_11 (tlt hc1).2.1 <| ?_
    refine Runs.iloadN d12_14 rfl <| ?_
    refine ite_el hf (fun hc2 hf => ?_) (fun hc2 hf => ?_)
    · refine Runs.ifY (pc' := 33) d12_15 (teq hc2).1 (by decide) <| ?_
      obtain rfl := Option.some.inj hf
      exact Runs.iloadN d12_33 rfl <| Runs.retI d12_34 rfl ⟨by decide, by decide⟩ ⟨rfl, rfl⟩
    · refine Runs.ifN d12_15 (feq hc2).1 <| ?_
      exact Runs.iloadN d12_18 rfl <| Runs.iloadN d12_19 rfl <| Runs.iconst d12_20 ci_1 <| Runs.isub d12_21 <| Runs.iand d12_22 <| Runs.istoreN (P' := [vn, vn, vi (i2 &&& (i2 - (1 : Int32))), vi i3, vi i4]) d12_23 (by decide) rfl <| Runs.iinc (P' := [vn, vn, vi (i2 &&& (i2 - (1 : Int32))), vi (i3 + (1 : Int32)), vi i4]) d12_24 ci_1 rfl (by decide) rfl <| Runs.iinc (P' := [vn, vn, vi (i2 &&& (i2 - (1 : Int32))), vi (i3 + (1 : Int32)), vi (i4 + (1 : Int32))]) d12_27 ci_1 rfl (by decide) rfl <| Runs.goto (pc' := 7) d12_30 (by decide) <| hk7 (i2 &&& (i2 - (1 : Int32))) (i3 + (1 : Int32)) (i4 + (1 : Int32)) hf
  · refine Runs.icY (pc' := 33) d12_11 (flt hc1).2.1 (by decide) <| ?_
    obtain rfl := Option.some.inj hf
    exact Runs.iloadN d12_33 rfl <| Runs.retI d12_34 rfl ⟨by decide, by decide⟩ ⟨rfl, rfl⟩
theorem X_bitCount_l7_p {C : Ctx} {top : Nat} {a : Nat} {H : List (Nat × Nat × Rec)} {ob : Rec} {res : Int32} {NF : Nat} (n : Nat) (i2 : Int32) (i3 : Int32) (i4 : Int32) (hf : X_bitCount_l7 NF ob n i2 i3 i4 = some res) : Runs C B12 0 0 7 [vn, vn, vi i2, vi i3, vi i4] [] (top, (a, 17, ob) :: H) (Ans (some (.int res)) (top, (a, 17, ob) :: H)) := by
  induction n generalizing i2 i3 i4 with
  | zero => cases (show (none : Option (Int32)) = some res from hf)
  | succ n ih => exact X_bitCount_w7_p (X_bitCount_l7 NF ob n) (fun i2 i3 i4 h => ih _ _ _ h) i2 i3 i4 hf
def X_bitCount (NF : Nat) (ob : Rec) (i1 : Int32) : Option (Int32) :=
  X_bitCount_l7 NF ob NF i1 (0 : Int32) (0 : Int32)
set_option maxRecDepth 65536 in
set_option maxHeartbeats 4000000 in
theorem X_bitCount_p {C : Ctx} {top : Nat} {a : Nat} {H : List (Nat × Nat × Rec)} {ob : Rec} {res : Int32} {NF : Nat} (i1 : Int32) (hf : X_bitCount NF ob i1 = some res) : Runs C B12 0 0 0 [vr a, vi i1, vn, vn, vn] [] (top, (a, 17, ob) :: H) (Ans (some (.int res)) (top, (a, 17, ob) :: H)) := by
  delta X_bitCount at hf
  exact Runs.iloadN d12_0 rfl <| Runs.istoreN (P' := [vr a, vi i1, vi i1, vn, vn]) d12_1 (by decide) rfl <| Runs.iconst d12_2 ci_0 <| Runs.istoreN (P' := [vr a, vi i1, vi i1, vi (0 : Int32), vn]) d12_3 (by decide) rfl <| Runs.iconst d12_4 ci_0 <| Runs.istore (P' := [vr a, vi i1, vi i1, vi (0 : Int32), vi (0 : Int32)]) d12_5 (by decide) rfl <| Runs.forget [false, false, true, true, true] rfl <| X_bitCount_l7_p NF i1 (0 : Int32) (0 : Int32) hf
theorem X_bitCount_pay {C : Ctx} {top : Nat} {a : Nat} {H : List (Nat × Nat × Rec)} {ob : Rec} {res : Int32} {NF : Nat} {i1 : Int32} (hf : X_bitCount NF ob i1 = some res) : Pays C B12 [.ref a, .int i1] (top, (a, 17, ob) :: H) (Ans (some (.int res)) (top, (a, 17, ob) :: H)) :=
  Pays.of pnK (Nat.le_of_ble_eq_true rfl) (P := [vr a, vi i1, vn, vn, vn]) 3 rfl (X_bitCount_p i1 hf)
def X_completeFromFree_w4 (NF : Nat) (ob : Rec) (k4 : Int32 → Int32 → Int32 → Option (Int32)) (i1 : Int32) (i2 : Int32) (i3 : Int32) : Option (Int32) :=
  if i3 < (gI ob 8) then
    if i3 < (16 : Int32) then
      chk (16 : Int32) i3 <|
      chk (16 : Int32) i3 <|
      chk (16 : Int32) i3 <|
      (X_parity ob (((gA ob 7 i3) &&& (((1 : Int32) <<< ((gA ob 9 i3) &&& 31)) ^^^ (-1 : Int32))) &&& i1)).bind fun r6 =>
      if ((gA ob 8 i3) ^^^ r6) = (0 : Int32) then
        k4 i1 i2 (i3 + (1 : Int32))
      else
        k4 i1 (i2 ||| ((1 : Int32) <<< ((gA ob 9 i3) &&& 31))) (i3 + (1 : Int32))
    else
      some (i2 &&& (gI ob 1))
  else
    some (i2 &&& (gI ob 1))
def X_completeFromFree_l4 (NF : Nat) (ob : Rec) : Nat → Int32 → Int32 → Int32 → Option (Int32)
  | 0, _, _, _ => none
  | n + 1, i1, i2, i3 => X_completeFromFree_w4 NF ob (X_completeFromFree_l4 NF ob n) i1 i2 i3
set_option maxRecDepth 65536 in
set_option maxHeartbeats 4000000 in
theorem X_completeFromFree_w4_p {C : Ctx} {top : Nat} {a : Nat} {H : List (Nat × Nat × Rec)} {ob : Rec} {res : Int32} {NF : Nat} (k4 : Int32 → Int32 → Int32 → Option (Int32)) (hk4 : ∀ (i1 : Int32) (i2 : Int32) (i3 : Int32), k4 i1 i2 i3 = some res → Runs C B31 0 0 4 [vr a, vi i1, vi i2, vi i3, vn, vn, vn] [] (top, (a, 17, ob) :: H) (Ans (some (.int res)) (top, (a, 17, ob) :: H))) (i1 : Int32) (i2 : Int32) (i3 : Int32) (hf : X_completeFromFree_w4 NF ob k4 i1 i2 i3 = some res) : Runs C B31 0 0 4 [vr a, vi i1, vi i2, vi i3, vn, vn, vn] [] (top, (a, 17, ob) :: H) (Ans (some (.int res)) (top, (a, 17, ob) :: H)) := by
  delta X_completeFromFree_w4 at hf
  refine Runs.iloadN d31_4 rfl <| Runs.aloadN d31_5 rfl <| Runs.getI d31_6 w69 fS_8 <| ?_
  refine ite_el hf (fun hc1 hf => ?_) (fun hc1 hf => ?_)
  · refine Runs.icN d31_9 (tlt hc1).2.1 <| ?_
    refine Runs.iloadN d31_12 rfl <| Runs.bipush d31_13 cb_16 <| ?_
    refine ite_el hf (fun hc2 hf => ?_) (fun hc2 hf => ?_)
    · refine Runs.icN d31_15 (tlt hc2).2.1 <| ?_
      refine Runs.aloadN d31_18 rfl <| Runs.getA d31_19 fA_9 w33 (by decide) <| Runs.iloadN d31_22 rfl <| ?_
      refine chk_el hf fun hi3 hf => ?_
      refine Runs.ialoadA d31_23 fA_9 (by decide) hi3 <| Runs.istore (P' := [vr a, vi i1, vi i2, vi i3, vi (gA ob 9 i3), vn, vn]) d31_24 (by decide) rfl <| Runs.aloadN d31_26 rfl <| Runs.getA d31_27 fA_7 w29 (by decide) <| Runs.iloadN d31_30 rfl <| ?_
      refine chk_el hf fun hi4 hf => ?_
      refine Runs.ialoadA d31_31 fA_7 (by decide) hi4 <| Runs.iconst d31_32 ci_1 <| Runs.iload d31_33 rfl <| Runs.ishl d31_35 <| Runs.iconst d31_36 ci_m1 <| Runs.ixor d31_37 <| Runs.iand d31_38 <| Runs.istore (P' := [vr a, vi i1, vi i2, vi i3, vi (gA ob 9 i3), vi ((gA ob 7 i3) &&& (((1 : Int32) <<< ((gA ob 9 i3) &&& 31)) ^^^ (-1 : Int32))), vn]) d31_39 (by decide) rfl <| Runs.aloadN d31_41 rfl <| Runs.getA d31_42 fA_8 w31 (by decide) <| Runs.iloadN d31_45 rfl <| ?_
      refine chk_el hf fun hi5 hf => ?_
      refine Runs.ialoadA d31_46 fA_8 (by decide) hi5 <| Runs.aloadN d31_47 rfl <| Runs.iload d31_48 rfl <| Runs.iloadN d31_50 rfl <| Runs.iand d31_51 <| ?_
      refine bind_el hf fun r6 hg7 hf => ?_
      refine Runs.callP (N := B39) (W := 1) (as := [.int (((gA ob 7 i3) &&& (((1 : Int32) <<< ((gA ob 9 i3) &&& 31)) ^^^ (-1 : Int32))) &&& i1)]) (S' := [.int (gA ob 8 i3)]) d31_52 w239 w240 w241 rfl cw39 ar39 rk31_39_1 (by decide) rfl rfl (X_parity_pay hg7) <| ans1 <| Runs.ixor d31_55 <| Runs.istore (P' := [vr a, vi i1, vi i2, vi i3, vi (gA ob 9 i3), vi ((gA ob 7 i3) &&& (((1 : Int32) <<< ((gA ob 9 i3) &&& 31)) ^^^ (-1 : Int32))), vi ((gA ob 8 i3) ^^^ r6)]) d31_56 (by decide) rfl <| Runs.iload d31_58 rfl <| ?_
      refine ite_el hf (fun hc8 hf => ?_) (fun hc8 hf => ?_)
      · refine Runs.ifY (pc' := 70) d31_60 (teq hc8).1 (by decide) <| ?_
        exact Runs.iinc (P' := [vr a, vi i1, vi i2, vi (i3 + (1 : Int32)), vi (gA ob 9 i3), vi ((gA ob 7 i3) &&& (((1 : Int32) <<< ((gA ob 9 i3) &&& 31)) ^^^ (-1 : Int32))), vi ((gA ob 8 i3) ^^^ r6)]) d31_70 ci_1 rfl (by decide) rfl <| Runs.goto (pc' := 4) d31_73 (by decide) <| Runs.forget [true, true, true, true, false, false, false] rfl <| hk4 i1 i2 (i3 + (1 : Int32)) hf
      · refine Runs.ifN d31_60 (feq hc8).1 <| ?_
        exact Runs.iloadN d31_63 rfl <| Runs.iconst d31_64 ci_1 <| Runs.iload d31_65 rfl <| Runs.ishl d31_67 <| Runs.ior d31_68 <| Runs.istoreN (P' := [vr a, vi i1, vi (i2 ||| ((1 : Int32) <<< ((gA ob 9 i3) &&& 31))), vi i3, vi (gA ob 9 i3), vi ((gA ob 7 i3) &&& (((1 : Int32) <<< ((gA ob 9 i3) &&& 31)) ^^^ (-1 : Int32))), vi ((gA ob 8 i3) ^^^ r6)]) d31_69 (by decide) rfl <| Runs.iinc (P' := [vr a, vi i1, vi (i2 ||| ((1 : Int32) <<< ((gA ob 9 i3) &&& 31))), vi (i3 + (1 : Int32)), vi (gA ob 9 i3), vi ((gA ob 7 i3) &&& (((1 : Int32) <<< ((gA ob 9 i3) &&& 31)) ^^^ (-1 : Int32))), vi ((gA ob 8 i3) ^^^ r6)]) d31_70 ci_1 rfl (by decide) rfl <| Runs.goto (pc' := 4) d31_73 (by decide) <| Runs.forget [true, true, true, true, false, false, false] rfl <| hk4 i1 (i2 ||| ((1 : Int32) <<< ((gA ob 9 i3) &&& 31))) (i3 + (1 : Int32)) hf
    · refine Runs.icY (pc' := 76) d31_15 (flt hc2).2.1 (by decide) <| ?_
      obtain rfl := Option.some.inj hf
      exact Runs.iloadN d31_76 rfl <| Runs.aloadN d31_77 rfl <| Runs.getI d31_78 w51 fS_1 <| Runs.iand d31_81 <| Runs.retI d31_82 rfl ⟨by decide, by decide⟩ ⟨rfl, rfl⟩
  · refine Runs.icY (pc' := 76) d31_9 (flt hc1).2.1 (by decide) <| ?_
    obtain rfl := Option.some.inj hf
    exact Runs.iloadN d31_76 rfl <| Runs.aloadN d31_77 rfl <| Runs.getI d31_78 w51 fS_1 <| Runs.iand d31_81 <| Runs.retI d31_82 rfl ⟨by decide, by decide⟩ ⟨rfl, rfl⟩
theorem X_completeFromFree_l4_p {C : Ctx} {top : Nat} {a : Nat} {H : List (Nat × Nat × Rec)} {ob : Rec} {res : Int32} {NF : Nat} (n : Nat) (i1 : Int32) (i2 : Int32) (i3 : Int32) (hf : X_completeFromFree_l4 NF ob n i1 i2 i3 = some res) : Runs C B31 0 0 4 [vr a, vi i1, vi i2, vi i3, vn, vn, vn] [] (top, (a, 17, ob) :: H) (Ans (some (.int res)) (top, (a, 17, ob) :: H)) := by
  induction n generalizing i1 i2 i3 with
  | zero => cases (show (none : Option (Int32)) = some res from hf)
  | succ n ih => exact X_completeFromFree_w4_p (X_completeFromFree_l4 NF ob n) (fun i1 i2 i3 h => ih _ _ _ h) i1 i2 i3 hf
def X_completeFromFree (NF : Nat) (ob : Rec) (i1 : Int32) : Option (Int32) :=
  X_completeFromFree_l4 NF ob NF i1 i1 (0 : Int32)
set_option maxRecDepth 65536 in
set_option maxHeartbeats 4000000 in
theorem X_completeFromFree_p {C : Ctx} {top : Nat} {a : Nat} {H : List (Nat × Nat × Rec)} {ob : Rec} {res : Int32} {NF : Nat} (i1 : Int32) (hf : X_completeFromFree NF ob i1 = some res) : Runs C B31 0 0 0 [vr a, vi i1, vn, vn, vn, vn, vn] [] (top, (a, 17, ob) :: H) (Ans (some (.int res)) (top, (a, 17, ob) :: H)) := by
  delta X_completeFromFree at hf
  exact Runs.iloadN d31_0 rfl <| Runs.istoreN (P' := [vr a, vi i1, vi i1, vn, vn, vn, vn]) d31_1 (by decide) rfl <| Runs.iconst d31_2 ci_0 <| Runs.istoreN (P' := [vr a, vi i1, vi i1, vi (0 : Int32), vn, vn, vn]) d31_3 (by decide) rfl <| X_completeFromFree_l4_p NF i1 i1 (0 : Int32) hf
theorem X_completeFromFree_pay {C : Ctx} {top : Nat} {a : Nat} {H : List (Nat × Nat × Rec)} {ob : Rec} {res : Int32} {NF : Nat} {i1 : Int32} (hf : X_completeFromFree NF ob i1 = some res) : Pays C B31 [.ref a, .int i1] (top, (a, 17, ob) :: H) (Ans (some (.int res)) (top, (a, 17, ob) :: H)) :=
  Pays.of pnK (Nat.le_of_ble_eq_true rfl) (P := [vr a, vi i1, vn, vn, vn, vn, vn]) 5 rfl (X_completeFromFree_p i1 hf)
def X_allClausesHold_w2 (NF : Nat) (ob : Rec) (k2 : Int32 → Int32 → Option (Int32)) (i1 : Int32) (i2 : Int32) : Option (Int32) :=
  if i2 < (gI ob 5) then
    if i2 < (24 : Int32) then
      (X_clauseHolds ob i2 i1).bind fun r3 =>
      if r3 = (0 : Int32) then
        some (0 : Int32)
      else
        k2 i1 (i2 + (1 : Int32))
    else
      some (1 : Int32)
  else
    some (1 : Int32)
def X_allClausesHold_l2 (NF : Nat) (ob : Rec) : Nat → Int32 → Int32 → Option (Int32)
  | 0, _, _ => none
  | n + 1, i1, i2 => X_allClausesHold_w2 NF ob (X_allClausesHold_l2 NF ob n) i1 i2
set_option maxRecDepth 65536 in
set_option maxHeartbeats 4000000 in
theorem X_allClausesHold_w2_p {C : Ctx} {top : Nat} {a : Nat} {H : List (Nat × Nat × Rec)} {ob : Rec} {res : Int32} {NF : Nat} (k2 : Int32 → Int32 → Option (Int32)) (hk2 : ∀ (i1 : Int32) (i2 : Int32), k2 i1 i2 = some res → Runs C B32 0 0 2 [vr a, vi i1, vi i2] [] (top, (a, 17, ob) :: H) (Ans (some (.int res)) (top, (a, 17, ob) :: H))) (i1 : Int32) (i2 : Int32) (hf : X_allClausesHold_w2 NF ob k2 i1 i2 = some res) : Runs C B32 0 0 2 [vr a, vi i1, vi i2] [] (top, (a, 17, ob) :: H) (Ans (some (.int res)) (top, (a, 17, ob) :: H)) := by
  delta X_allClausesHold_w2 at hf
  refine Runs.iloadN d32_2 rfl <| Runs.aloadN d32_3 rfl <| Runs.getI d32_4 w59 fS_5 <| ?_
  refine ite_el hf (fun hc1 hf => ?_) (fun hc1 hf => ?_)
  · refine Runs.icN d32_7 (tlt hc1).2.1 <| ?_
    refine Runs.iloadN d32_10 rfl <| Runs.bipush d32_11 cb_24 <| ?_
    refine ite_el hf (fun hc2 hf => ?_) (fun hc2 hf => ?_)
    · refine Runs.icN d32_13 (tlt hc2).2.1 <| ?_
      refine Runs.aloadN d32_16 rfl <| Runs.iloadN d32_17 rfl <| Runs.iloadN d32_18 rfl <| ?_
      refine bind_el hf fun r3 hg4 hf => ?_
      refine Runs.callP (N := B29) (W := 0) (as := [.int i2, .int i1]) (S' := []) d32_19 w198 w199 w200 rfl cw29 ar29 rk32_29_0 (by decide) rfl rfl (X_clauseHolds_pay hg4) <| ans1 <| ?_
      refine ite_el hf (fun hc5 hf => ?_) (fun hc5 hf => ?_)
      · refine Runs.ifN d32_22 (teq hc5).2 <| ?_
        obtain rfl := Option.some.inj hf
        exact Runs.iconst d32_25 ci_0 <| Runs.retZ (y := (0 : Int32)) d32_26 rfl ⟨by decide, by decide⟩ rfl ⟨rfl, rfl⟩
      · refine Runs.ifY (pc' := 27) d32_22 (feq hc5).2 (by decide) <| ?_
        exact Runs.iinc (P' := [vr a, vi i1, vi (i2 + (1 : Int32))]) d32_27 ci_1 rfl (by decide) rfl <| Runs.goto (pc' := 2) d32_30 (by decide) <| hk2 i1 (i2 + (1 : Int32)) hf
    · refine Runs.icY (pc' := 33) d32_13 (flt hc2).2.1 (by decide) <| ?_
      obtain rfl := Option.some.inj hf
      exact Runs.iconst d32_33 ci_1 <| Runs.retZ (y := (1 : Int32)) d32_34 rfl ⟨by decide, by decide⟩ rfl ⟨rfl, rfl⟩
  · refine Runs.icY (pc' := 33) d32_7 (flt hc1).2.1 (by decide) <| ?_
    obtain rfl := Option.some.inj hf
    exact Runs.iconst d32_33 ci_1 <| Runs.retZ (y := (1 : Int32)) d32_34 rfl ⟨by decide, by decide⟩ rfl ⟨rfl, rfl⟩
theorem X_allClausesHold_l2_p {C : Ctx} {top : Nat} {a : Nat} {H : List (Nat × Nat × Rec)} {ob : Rec} {res : Int32} {NF : Nat} (n : Nat) (i1 : Int32) (i2 : Int32) (hf : X_allClausesHold_l2 NF ob n i1 i2 = some res) : Runs C B32 0 0 2 [vr a, vi i1, vi i2] [] (top, (a, 17, ob) :: H) (Ans (some (.int res)) (top, (a, 17, ob) :: H)) := by
  induction n generalizing i1 i2 with
  | zero => cases (show (none : Option (Int32)) = some res from hf)
  | succ n ih => exact X_allClausesHold_w2_p (X_allClausesHold_l2 NF ob n) (fun i1 i2 h => ih _ _ h) i1 i2 hf
def X_allClausesHold (NF : Nat) (ob : Rec) (i1 : Int32) : Option (Int32) :=
  X_allClausesHold_l2 NF ob NF i1 (0 : Int32)
set_option maxRecDepth 65536 in
set_option maxHeartbeats 4000000 in
theorem X_allClausesHold_p {C : Ctx} {top : Nat} {a : Nat} {H : List (Nat × Nat × Rec)} {ob : Rec} {res : Int32} {NF : Nat} (i1 : Int32) (hf : X_allClausesHold NF ob i1 = some res) : Runs C B32 0 0 0 [vr a, vi i1, vn] [] (top, (a, 17, ob) :: H) (Ans (some (.int res)) (top, (a, 17, ob) :: H)) := by
  delta X_allClausesHold at hf
  exact Runs.iconst d32_0 ci_0 <| Runs.istoreN (P' := [vr a, vi i1, vi (0 : Int32)]) d32_1 (by decide) rfl <| X_allClausesHold_l2_p NF i1 (0 : Int32) hf
theorem X_allClausesHold_pay {C : Ctx} {top : Nat} {a : Nat} {H : List (Nat × Nat × Rec)} {ob : Rec} {res : Int32} {NF : Nat} {i1 : Int32} (hf : X_allClausesHold NF ob i1 = some res) : Pays C B32 [.ref a, .int i1] (top, (a, 17, ob) :: H) (Ans (some (.int res)) (top, (a, 17, ob) :: H)) :=
  Pays.of pnK (Nat.le_of_ble_eq_true rfl) (P := [vr a, vi i1, vn]) 1 rfl (X_allClausesHold_p i1 hf)
def X_countAffinePoints_b34 (NF : Nat) (ob : Rec) (k7 : Int32 → Int32 → Int32 → Int32 → Option (Int32)) (i1 : Int32) (i2 : Int32) (i3 : Int32) (i4 : Int32) : Option (Int32) :=
  if ((i3 - i1) &&& i1) = (0 : Int32) then
    some i2
  else
    k7 i1 i2 ((i3 - i1) &&& i1) (i4 + (1 : Int32))
set_option maxRecDepth 65536 in
set_option maxHeartbeats 4000000 in
theorem X_countAffinePoints_b34_p {C : Ctx} {top : Nat} {a : Nat} {H : List (Nat × Nat × Rec)} {ob : Rec} {res : Int32} {NF : Nat} (k7 : Int32 → Int32 → Int32 → Int32 → Option (Int32)) (hk7 : ∀ (i1 : Int32) (i2 : Int32) (i3 : Int32) (i4 : Int32), k7 i1 i2 i3 i4 = some res → Runs C B30 0 0 7 [vr a, vi i1, vi i2, vi i3, vi i4, vn] [] (top, (a, 17, ob) :: H) (Ans (some (.int res)) (top, (a, 17, ob) :: H))) (i1 : Int32) (i2 : Int32) (i3 : Int32) (i4 : Int32) (hf : X_countAffinePoints_b34 NF ob k7 i1 i2 i3 i4 = some res) : Runs C B30 0 0 34 [vr a, vi i1, vi i2, vi i3, vi i4, vn] [] (top, (a, 17, ob) :: H) (Ans (some (.int res)) (top, (a, 17, ob) :: H)) := by
  delta X_countAffinePoints_b34 at hf
  refine Runs.iloadN d30_34 rfl <| Runs.iloadN d30_35 rfl <| Runs.isub d30_36 <| Runs.iloadN d30_37 rfl <| Runs.iand d30_38 <| Runs.istoreN (P' := [vr a, vi i1, vi i2, vi ((i3 - i1) &&& i1), vi i4, vn]) d30_39 (by decide) rfl <| Runs.iloadN d30_40 rfl <| ?_
  refine ite_el hf (fun hc7 hf => ?_) (fun hc7 hf => ?_)
  · refine Runs.ifN d30_41 (teq hc7).2 <| ?_
    obtain rfl := Option.some.inj hf
    exact Runs.goto (pc' := 53) d30_44 (by decide) <| Runs.iloadN d30_53 rfl <| Runs.retI d30_54 rfl ⟨by decide, by decide⟩ ⟨rfl, rfl⟩
  · refine Runs.ifY (pc' := 47) d30_41 (feq hc7).2 (by decide) <| ?_
    exact Runs.iinc (P' := [vr a, vi i1, vi i2, vi ((i3 - i1) &&& i1), vi (i4 + (1 : Int32)), vn]) d30_47 ci_1 rfl (by decide) rfl <| Runs.goto (pc' := 7) d30_50 (by decide) <| hk7 i1 i2 ((i3 - i1) &&& i1) (i4 + (1 : Int32)) hf
def X_countAffinePoints_w7 (NF : Nat) (ob : Rec) (k7 : Int32 → Int32 → Int32 → Int32 → Option (Int32)) (i1 : Int32) (i2 : Int32) (i3 : Int32) (i4 : Int32) : Option (Int32) :=
  if i4 < (4097 : Int32) then
    (X_completeFromFree NF ob i3).bind fun r2 =>
    (X_allClausesHold NF ob r2).bind fun r4 =>
    if r4 = (0 : Int32) then
      X_countAffinePoints_b34 NF ob k7 i1 i2 i3 i4
    else
      X_countAffinePoints_b34 NF ob k7 i1 (i2 + (1 : Int32)) i3 i4
  else
    some i2
def X_countAffinePoints_l7 (NF : Nat) (ob : Rec) : Nat → Int32 → Int32 → Int32 → Int32 → Option (Int32)
  | 0, _, _, _, _ => none
  | n + 1, i1, i2, i3, i4 => X_countAffinePoints_w7 NF ob (X_countAffinePoints_l7 NF ob n) i1 i2 i3 i4
set_option maxRecDepth 65536 in
set_option maxHeartbeats 4000000 in
theorem X_countAffinePoints_w7_p {C : Ctx} {top : Nat} {a : Nat} {H : List (Nat × Nat × Rec)} {ob : Rec} {res : Int32} {NF : Nat} (k7 : Int32 → Int32 → Int32 → Int32 → Option (Int32)) (hk7 : ∀ (i1 : Int32) (i2 : Int32) (i3 : Int32) (i4 : Int32), k7 i1 i2 i3 i4 = some res → Runs C B30 0 0 7 [vr a, vi i1, vi i2, vi i3, vi i4, vn] [] (top, (a, 17, ob) :: H) (Ans (some (.int res)) (top, (a, 17, ob) :: H))) (i1 : Int32) (i2 : Int32) (i3 : Int32) (i4 : Int32) (hf : X_countAffinePoints_w7 NF ob k7 i1 i2 i3 i4 = some res) : Runs C B30 0 0 7 [vr a, vi i1, vi i2, vi i3, vi i4, vn] [] (top, (a, 17, ob) :: H) (Ans (some (.int res)) (top, (a, 17, ob) :: H)) := by
  delta X_countAffinePoints_w7 at hf
  refine Runs.iload d30_7 rfl <| Runs.sipush d30_9 cs_4097 <| ?_
  refine ite_el hf (fun hc1 hf => ?_) (fun hc1 hf => ?_)
  · refine Runs.icN d30_12 (tlt hc1).2.1 <| ?_
    refine Runs.aloadN d30_15 rfl <| Runs.iloadN d30_16 rfl <| ?_
    refine bind_el hf fun r2 hg3 hf => ?_
    refine Runs.callP (N := B31) (W := 0) (as := [.int i3]) (S' := []) d30_17 w206 w207 w208 rfl cw31 ar31 rk30_31_0 (by decide) rfl rfl (X_completeFromFree_pay hg3) <| ans1 <| Runs.istore (P' := [vr a, vi i1, vi i2, vi i3, vi i4, vi r2]) d30_20 (by decide) rfl <| Runs.aloadN d30_22 rfl <| Runs.iload d30_23 rfl <| ?_
    refine bind_el hf fun r4 hg5 hf => ?_
    refine Runs.callP (N := B32) (W := 0) (as := [.int r2]) (S' := []) d30_25 w210 w211 w212 rfl cw32 ar32 rk30_32_0 (by decide) rfl rfl (X_allClausesHold_pay hg5) <| ans1 <| ?_
    refine ite_el hf (fun hc6 hf => ?_) (fun hc6 hf => ?_)
    · exact Runs.ifY (pc' := 34) d30_28 (teq hc6).1 (by decide) <| Runs.forget [true, true, true, true, true, false] rfl <| X_countAffinePoints_b34_p k7 hk7 i1 i2 i3 i4 hf
    · refine Runs.ifN d30_28 (feq hc6).1 <| ?_
      exact Runs.iinc (P' := [vr a, vi i1, vi (i2 + (1 : Int32)), vi i3, vi i4, vi r2]) d30_31 ci_1 rfl (by decide) rfl <| Runs.forget [true, true, true, true, true, false] rfl <| X_countAffinePoints_b34_p k7 hk7 i1 (i2 + (1 : Int32)) i3 i4 hf
  · refine Runs.icY (pc' := 53) d30_12 (flt hc1).2.1 (by decide) <| ?_
    obtain rfl := Option.some.inj hf
    exact Runs.iloadN d30_53 rfl <| Runs.retI d30_54 rfl ⟨by decide, by decide⟩ ⟨rfl, rfl⟩
theorem X_countAffinePoints_l7_p {C : Ctx} {top : Nat} {a : Nat} {H : List (Nat × Nat × Rec)} {ob : Rec} {res : Int32} {NF : Nat} (n : Nat) (i1 : Int32) (i2 : Int32) (i3 : Int32) (i4 : Int32) (hf : X_countAffinePoints_l7 NF ob n i1 i2 i3 i4 = some res) : Runs C B30 0 0 7 [vr a, vi i1, vi i2, vi i3, vi i4, vn] [] (top, (a, 17, ob) :: H) (Ans (some (.int res)) (top, (a, 17, ob) :: H)) := by
  induction n generalizing i1 i2 i3 i4 with
  | zero => cases (show (none : Option (Int32)) = some res from hf)
  | succ n ih => exact X_countAffinePoints_w7_p (X_countAffinePoints_l7 NF ob n) (fun i1 i2 i3 i4 h => ih _ _ _ _ h) i1 i2 i3 i4 hf
def X_countAffinePoints (NF : Nat) (ob : Rec) (i1 : Int32) : Option (Int32) :=
  X_countAffinePoints_l7 NF ob NF i1 (0 : Int32) (0 : Int32) (0 : Int32)
set_option maxRecDepth 65536 in
set_option maxHeartbeats 4000000 in
theorem X_countAffinePoints_p {C : Ctx} {top : Nat} {a : Nat} {H : List (Nat × Nat × Rec)} {ob : Rec} {res : Int32} {NF : Nat} (i1 : Int32) (hf : X_countAffinePoints NF ob i1 = some res) : Runs C B30 0 0 0 [vr a, vi i1, vn, vn, vn, vn] [] (top, (a, 17, ob) :: H) (Ans (some (.int res)) (top, (a, 17, ob) :: H)) := by
  delta X_countAffinePoints at hf
  exact Runs.iconst d30_0 ci_0 <| Runs.istoreN (P' := [vr a, vi i1, vi (0 : Int32), vn, vn, vn]) d30_1 (by decide) rfl <| Runs.iconst d30_2 ci_0 <| Runs.istoreN (P' := [vr a, vi i1, vi (0 : Int32), vi (0 : Int32), vn, vn]) d30_3 (by decide) rfl <| Runs.iconst d30_4 ci_0 <| Runs.istore (P' := [vr a, vi i1, vi (0 : Int32), vi (0 : Int32), vi (0 : Int32), vn]) d30_5 (by decide) rfl <| X_countAffinePoints_l7_p NF i1 (0 : Int32) (0 : Int32) (0 : Int32) hf
theorem X_countAffinePoints_pay {C : Ctx} {top : Nat} {a : Nat} {H : List (Nat × Nat × Rec)} {ob : Rec} {res : Int32} {NF : Nat} {i1 : Int32} (hf : X_countAffinePoints NF ob i1 = some res) : Pays C B30 [.ref a, .int i1] (top, (a, 17, ob) :: H) (Ans (some (.int res)) (top, (a, 17, ob) :: H)) :=
  Pays.of pnK (Nat.le_of_ble_eq_true rfl) (P := [vr a, vi i1, vn, vn, vn, vn]) 4 rfl (X_countAffinePoints_p i1 hf)
def X_countModels (NF : Nat) (ob : Rec) : Option (Int32 × Rec) :=
  (X_ensureEchelon NF ob).bind fun q1 =>
  if (gI q1 9) = (0 : Int32) then
    some ((0 : Int32), q1)
  else
    (X_echPivotMask NF q1).bind fun r4 =>
    if (gI q1 5) = (0 : Int32) then
      (X_bitCount NF q1 ((gI q1 1) &&& (r4 ^^^ (-1 : Int32)))).bind fun r7 =>
      some (((1 : Int32) <<< (r7 &&& 31)), q1)
    else
      (X_countAffinePoints NF q1 ((gI q1 1) &&& (r4 ^^^ (-1 : Int32)))).bind fun r9 =>
      some (r9, q1)
set_option maxRecDepth 65536 in
set_option maxHeartbeats 4000000 in
theorem X_countModels_p {C : Ctx} {top : Nat} {a : Nat} {H : List (Nat × Nat × Rec)} {res : Int32 × Rec} {NF : Nat} (ob : Rec) (hf : X_countModels NF ob = some res) : Runs C B6 0 0 0 [vr a, vn, vn] [] (top, (a, 17, ob) :: H) (Ans (some (.int res.1)) (top, (a, 17, res.2) :: H)) := by
  delta X_countModels at hf
  refine Runs.aloadN d6_0 rfl <| ?_
  refine bind_el hf fun q1 hg2 hf => ?_
  refine Runs.callP (N := B7) (W := 0) (as := []) (S' := []) d6_1 w89 w90 w91 rfl cw7 ar7 rk6_7_0 (by decide) rfl rfl (X_ensureEchelon_pay hg2) <| ans0 <| Runs.aloadN d6_4 rfl <| Runs.getI d6_5 w67 fS_9 <| ?_
  refine ite_el hf (fun hc3 hf => ?_) (fun hc3 hf => ?_)
  · refine Runs.ifN d6_8 (teq hc3).2 <| ?_
    obtain rfl := Option.some.inj hf
    exact Runs.iconst d6_11 ci_0 <| Runs.retI d6_12 rfl ⟨by decide, by decide⟩ ⟨rfl, rfl⟩
  · refine Runs.ifY (pc' := 13) d6_8 (feq hc3).2 (by decide) <| ?_
    refine Runs.aloadN d6_13 rfl <| Runs.getI d6_14 w51 fS_1 <| Runs.aloadN d6_17 rfl <| ?_
    refine bind_el hf fun r4 hg5 hf => ?_
    refine Runs.callP (N := B11) (W := 1) (as := []) (S' := [.int (gI q1 1)]) d6_18 w109 w110 w111 rfl cw11 ar11 rk6_11_1 (by decide) rfl rfl (X_echPivotMask_pay hg5) <| ans1 <| Runs.iconst d6_21 ci_m1 <| Runs.ixor d6_22 <| Runs.iand d6_23 <| Runs.istoreN (P' := [vr a, vi ((gI q1 1) &&& (r4 ^^^ (-1 : Int32))), vn]) d6_24 (by decide) rfl <| Runs.aloadN d6_25 rfl <| Runs.getI d6_26 w59 fS_5 <| ?_
    refine ite_el hf (fun hc6 hf => ?_) (fun hc6 hf => ?_)
    · refine Runs.ifN d6_29 (teq hc6).2 <| ?_
      refine Runs.aloadN d6_32 rfl <| Runs.iloadN d6_33 rfl <| ?_
      refine bind_el hf fun r7 hg8 hf => ?_
      obtain rfl := Option.some.inj hf
      exact Runs.callP (N := B12) (W := 0) (as := [.int ((gI q1 1) &&& (r4 ^^^ (-1 : Int32)))]) (S' := []) d6_34 w113 w114 w115 rfl cw12 ar12 rk6_12_0 (by decide) rfl rfl (X_bitCount_pay hg8) <| ans1 <| Runs.istoreN (P' := [vr a, vi ((gI q1 1) &&& (r4 ^^^ (-1 : Int32))), vi r7]) d6_37 (by decide) rfl <| Runs.iconst d6_38 ci_1 <| Runs.iloadN d6_39 rfl <| Runs.ishl d6_40 <| Runs.retI d6_41 rfl ⟨by decide, by decide⟩ ⟨rfl, rfl⟩
    · refine Runs.ifY (pc' := 42) d6_29 (feq hc6).2 (by decide) <| ?_
      refine Runs.aloadN d6_42 rfl <| Runs.iloadN d6_43 rfl <| ?_
      refine bind_el hf fun r9 hg10 hf => ?_
      obtain rfl := Option.some.inj hf
      exact Runs.callP (N := B30) (W := 0) (as := [.int ((gI q1 1) &&& (r4 ^^^ (-1 : Int32)))]) (S' := []) d6_44 w202 w203 w204 rfl cw30 ar30 rk6_30_0 (by decide) rfl rfl (X_countAffinePoints_pay hg10) <| ans1 <| Runs.retI d6_47 rfl ⟨by decide, by decide⟩ ⟨rfl, rfl⟩
theorem X_countModels_pay {C : Ctx} {top : Nat} {a : Nat} {H : List (Nat × Nat × Rec)} {res : Int32 × Rec} {NF : Nat} {ob : Rec} (hf : X_countModels NF ob = some res) : Pays C B6 [.ref a] (top, (a, 17, ob) :: H) (Ans (some (.int res.1)) (top, (a, 17, res.2) :: H)) :=
  Pays.of pnK (Nat.le_of_ble_eq_true rfl) (P := [vr a, vn, vn]) 2 rfl (X_countModels_p ob hf)
def X_resetSearch (ob : Rec) : Option (Rec) :=
  some (sI (sI (sI (sI (sI ob 13 (0 : Int32)) 14 (0 : Int32)) 15 (0 : Int32)) 16 (0 : Int32)) 17 (0 : Int32))
set_option maxRecDepth 65536 in
set_option maxHeartbeats 4000000 in
theorem X_resetSearch_p {C : Ctx} {top : Nat} {a : Nat} {H : List (Nat × Nat × Rec)} {res : Rec} (ob : Rec) (hf : X_resetSearch ob = some res) : Runs C B15 0 0 0 [vr a] [] (top, (a, 17, ob) :: H) (Ans none (top, (a, 17, res) :: H)) := by
  delta X_resetSearch at hf
  refine Runs.aloadN d15_0 rfl <| Runs.iconst d15_1 ci_0 <| Runs.putI d15_2 w130 fS_13 (Or.inl w131) <| Runs.aloadN d15_5 rfl <| Runs.iconst d15_6 ci_0 <| Runs.putI d15_7 w132 fS_14 (Or.inl w133) <| Runs.aloadN d15_10 rfl <| Runs.iconst d15_11 ci_0 <| Runs.putI d15_12 w134 fS_15 (Or.inl w135) <| Runs.aloadN d15_15 rfl <| Runs.iconst d15_16 ci_0 <| Runs.putI d15_17 w136 fS_16 (Or.inl w137) <| ?_
  obtain rfl := Option.some.inj hf
  exact Runs.aloadN d15_20 rfl <| Runs.iconst d15_21 ci_0 <| Runs.putI d15_22 w138 fS_17 (Or.inl w139) <| Runs.retV d15_25 rfl ⟨by decide, by decide⟩ ⟨rfl, rfl⟩
theorem X_resetSearch_pay {C : Ctx} {top : Nat} {a : Nat} {H : List (Nat × Nat × Rec)} {res : Rec} {ob : Rec} (hf : X_resetSearch ob = some res) : Pays C B15 [.ref a] (top, (a, 17, ob) :: H) (Ans none (top, (a, 17, res) :: H)) :=
  Pays.of pnK (Nat.le_of_ble_eq_true rfl) (P := [vr a]) 0 rfl (X_resetSearch_p ob hf)
def X_assign (ob : Rec) (i1 : Int32) (i2 : Int32) : Option (Rec) :=
  if i1 < (0 : Int32) then
    some ob
  else
    if i1 < (gI ob 0) then
      if ((gI ob 13) &&& ((1 : Int32) <<< (i1 &&& 31))) = (0 : Int32) then
        if (gI ob 15) < (0 : Int32) then
          some ob
        else
          if (gI ob 15) < (12 : Int32) then
            if i2 = (0 : Int32) then
              chk (12 : Int32) (gI ob 15) <|
              some (sI (sA (sI (sI ob 13 ((gI ob 13) ||| ((1 : Int32) <<< (i1 &&& 31)))) 14 ((gI ob 14) &&& (((1 : Int32) <<< (i1 &&& 31)) ^^^ (-1 : Int32)))) 13 (gI ob 15) i1) 15 ((gI ob 15) + (1 : Int32)))
            else
              chk (12 : Int32) (gI ob 15) <|
              some (sI (sA (sI (sI ob 13 ((gI ob 13) ||| ((1 : Int32) <<< (i1 &&& 31)))) 14 ((gI ob 14) ||| ((1 : Int32) <<< (i1 &&& 31)))) 13 (gI ob 15) i1) 15 ((gI ob 15) + (1 : Int32)))
          else
            some ob
      else
        some ob
    else
      some ob
set_option maxRecDepth 65536 in
set_option maxHeartbeats 4000000 in
theorem X_assign_p {C : Ctx} {top : Nat} {a : Nat} {H : List (Nat × Nat × Rec)} {res : Rec} (ob : Rec) (i1 : Int32) (i2 : Int32) (hf : X_assign ob i1 i2 = some res) : Runs C B22 0 0 0 [vr a, vi i1, vi i2, vn] [] (top, (a, 17, ob) :: H) (Ans none (top, (a, 17, res) :: H)) := by
  delta X_assign at hf
  refine Runs.iloadN d22_0 rfl <| ?_
  refine ite_el hf (fun hc1 hf => ?_) (fun hc1 hf => ?_)
  · refine Runs.ifY (pc' := 12) d22_1 (tlt hc1).1 (by decide) <| ?_
    obtain rfl := Option.some.inj hf
    exact Runs.retV d22_12 rfl ⟨by decide, by decide⟩ ⟨rfl, rfl⟩
  · refine Runs.ifN d22_1 (flt hc1).1 <| ?_
    refine Runs.iloadN d22_4 rfl <| Runs.aloadN d22_5 rfl <| Runs.getI d22_6 w49 fS_0 <| ?_
    refine ite_el hf (fun hc2 hf => ?_) (fun hc2 hf => ?_)
    · refine Runs.icY (pc' := 13) d22_9 (tlt hc2).1 (by decide) <| ?_
      refine Runs.iconst d22_13 ci_1 <| Runs.iloadN d22_14 rfl <| Runs.ishl d22_15 <| Runs.istoreN (P' := [vr a, vi i1, vi i2, vi ((1 : Int32) <<< (i1 &&& 31))]) d22_16 (by decide) rfl <| Runs.aloadN d22_17 rfl <| Runs.getI d22_18 w130 fS_13 <| Runs.iloadN d22_21 rfl <| Runs.iand d22_22 <| ?_
      refine ite_el hf (fun hc3 hf => ?_) (fun hc3 hf => ?_)
      · refine Runs.ifY (pc' := 27) d22_23 (teq hc3).1 (by decide) <| ?_
        refine Runs.aloadN d22_27 rfl <| Runs.getI d22_28 w134 fS_15 <| ?_
        refine ite_el hf (fun hc4 hf => ?_) (fun hc4 hf => ?_)
        · refine Runs.ifY (pc' := 43) d22_31 (tlt hc4).1 (by decide) <| ?_
          obtain rfl := Option.some.inj hf
          exact Runs.retV d22_43 rfl ⟨by decide, by decide⟩ ⟨rfl, rfl⟩
        · refine Runs.ifN d22_31 (flt hc4).1 <| ?_
          refine Runs.aloadN d22_34 rfl <| Runs.getI d22_35 w134 fS_15 <| Runs.bipush d22_38 cb_12 <| ?_
          refine ite_el hf (fun hc5 hf => ?_) (fun hc5 hf => ?_)
          · refine Runs.icY (pc' := 44) d22_40 (tlt hc5).1 (by decide) <| ?_
            refine Runs.aloadN d22_44 rfl <| Runs.dup d22_45 rfl <| Runs.getI d22_46 w130 fS_13 <| Runs.iloadN d22_49 rfl <| Runs.ior d22_50 <| Runs.putI d22_51 w130 fS_13 (Or.inl w131) <| Runs.iloadN d22_54 rfl <| ?_
            refine ite_el hf (fun hc6 hf => ?_) (fun hc6 hf => ?_)
            · refine Runs.ifY (pc' := 71) d22_55 (teq hc6).1 (by decide) <| ?_
              refine Runs.aloadN d22_71 rfl <| Runs.dup d22_72 rfl <| Runs.getI d22_73 w132 fS_14 <| Runs.iloadN d22_76 rfl <| Runs.iconst d22_77 ci_m1 <| Runs.ixor d22_78 <| Runs.iand d22_79 <| Runs.putI d22_80 w132 fS_14 (Or.inl w133) <| Runs.aloadN d22_83 rfl <| Runs.getA d22_84 fA_13 w41 (by decide) <| Runs.aloadN d22_87 rfl <| Runs.getI d22_88 w134 fS_15 <| ?_
              refine Runs.iloadN d22_91 rfl <| ?_
              refine chk_el hf fun hi7 hf => ?_
              obtain rfl := Option.some.inj hf
              exact Runs.iastoreA d22_92 fA_13 (by decide) hi7 <| Runs.aloadN d22_93 rfl <| Runs.dup d22_94 rfl <| Runs.getI d22_95 w134 fS_15 <| Runs.iconst d22_98 ci_1 <| Runs.iadd d22_99 <| Runs.putI d22_100 w134 fS_15 (Or.inl w135) <| Runs.retV d22_103 rfl ⟨by decide, by decide⟩ ⟨rfl, rfl⟩
            · refine Runs.ifN d22_55 (feq hc6).1 <| ?_
              refine Runs.aloadN d22_58 rfl <| Runs.dup d22_59 rfl <| Runs.getI d22_60 w132 fS_14 <| Runs.iloadN d22_63 rfl <| Runs.ior d22_64 <| Runs.putI d22_65 w132 fS_14 (Or.inl w133) <| Runs.goto (pc' := 83) d22_68 (by decide) <| Runs.aloadN d22_83 rfl <| Runs.getA d22_84 fA_13 w41 (by decide) <| Runs.aloadN d22_87 rfl <| Runs.getI d22_88 w134 fS_15 <| Runs.iloadN d22_91 rfl <| ?_
              refine chk_el hf fun hi8 hf => ?_
              obtain rfl := Option.some.inj hf
              exact Runs.iastoreA d22_92 fA_13 (by decide) hi8 <| Runs.aloadN d22_93 rfl <| Runs.dup d22_94 rfl <| Runs.getI d22_95 w134 fS_15 <| Runs.iconst d22_98 ci_1 <| Runs.iadd d22_99 <| Runs.putI d22_100 w134 fS_15 (Or.inl w135) <| Runs.retV d22_103 rfl ⟨by decide, by decide⟩ ⟨rfl, rfl⟩
          · refine Runs.icN d22_40 (flt hc5).1 <| ?_
            obtain rfl := Option.some.inj hf
            exact Runs.retV d22_43 rfl ⟨by decide, by decide⟩ ⟨rfl, rfl⟩
      · refine Runs.ifN d22_23 (feq hc3).1 <| ?_
        obtain rfl := Option.some.inj hf
        exact Runs.retV d22_26 rfl ⟨by decide, by decide⟩ ⟨rfl, rfl⟩
    · refine Runs.icN d22_9 (flt hc2).1 <| ?_
      obtain rfl := Option.some.inj hf
      exact Runs.retV d22_12 rfl ⟨by decide, by decide⟩ ⟨rfl, rfl⟩
theorem X_assign_pay {C : Ctx} {top : Nat} {a : Nat} {H : List (Nat × Nat × Rec)} {res : Rec} {ob : Rec} {i1 : Int32} {i2 : Int32} (hf : X_assign ob i1 i2 = some res) : Pays C B22 [.ref a, .int i1, .int i2] (top, (a, 17, ob) :: H) (Ans none (top, (a, 17, res) :: H)) :=
  Pays.of pnK (Nat.le_of_ble_eq_true rfl) (P := [vr a, vi i1, vi i2, vn]) 1 rfl (X_assign_p ob i1 i2 hf)
def X_isSingleBit (ob : Rec) (i1 : Int32) : Option (Int32) :=
  if i1 = (0 : Int32) then
    some (0 : Int32)
  else
    if (i1 &&& (i1 - (1 : Int32))) = (0 : Int32) then
      some (1 : Int32)
    else
      some (0 : Int32)
set_option maxRecDepth 65536 in
set_option maxHeartbeats 4000000 in
theorem X_isSingleBit_p {C : Ctx} {top : Nat} {a : Nat} {H : List (Nat × Nat × Rec)} {ob : Rec} {res : Int32} (i1 : Int32) (hf : X_isSingleBit ob i1 = some res) : Runs C B43 0 0 0 [vr a, vi i1] [] (top, (a, 17, ob) :: H) (Ans (some (.int res)) (top, (a, 17, ob) :: H)) := by
  delta X_isSingleBit at hf
  refine Runs.iloadN d43_0 rfl <| ?_
  refine ite_el hf (fun hc1 hf => ?_) (fun hc1 hf => ?_)
  · refine Runs.ifY (pc' := 16) d43_1 (teq hc1).1 (by decide) <| ?_
    obtain rfl := Option.some.inj hf
    exact Runs.iconst d43_16 ci_0 <| Runs.retZ (y := (0 : Int32)) d43_17 rfl ⟨by decide, by decide⟩ rfl ⟨rfl, rfl⟩
  · refine Runs.ifN d43_1 (feq hc1).1 <| ?_
    refine Runs.iloadN d43_4 rfl <| Runs.iloadN d43_5 rfl <| Runs.iconst d43_6 ci_1 <| Runs.isub d43_7 <| Runs.iand d43_8 <| ?_
    refine ite_el hf (fun hc2 hf => ?_) (fun hc2 hf => ?_)
    · refine Runs.ifN d43_9 (teq hc2).2 <| ?_
      obtain rfl := Option.some.inj hf
      exact Runs.iconst d43_12 ci_1 <| Runs.goto (pc' := 17) d43_13 (by decide) <| Runs.retZ (y := (1 : Int32)) d43_17 rfl ⟨by decide, by decide⟩ rfl ⟨rfl, rfl⟩
    · refine Runs.ifY (pc' := 16) d43_9 (feq hc2).2 (by decide) <| ?_
      obtain rfl := Option.some.inj hf
      exact Runs.iconst d43_16 ci_0 <| Runs.retZ (y := (0 : Int32)) d43_17 rfl ⟨by decide, by decide⟩ rfl ⟨rfl, rfl⟩
theorem X_isSingleBit_pay {C : Ctx} {top : Nat} {a : Nat} {H : List (Nat × Nat × Rec)} {ob : Rec} {res : Int32} {i1 : Int32} (hf : X_isSingleBit ob i1 = some res) : Pays C B43 [.ref a, .int i1] (top, (a, 17, ob) :: H) (Ans (some (.int res)) (top, (a, 17, ob) :: H)) :=
  Pays.of pnK (Nat.le_of_ble_eq_true rfl) (P := [vr a, vi i1]) 0 rfl (X_isSingleBit_p i1 hf)
def X_lowestBit_w2 (NF : Nat) (ob : Rec) (k2 : Int32 → Int32 → Option (Int32)) (i1 : Int32) (i2 : Int32) : Option (Int32) :=
  if i2 < (32 : Int32) then
    if (((i1.toUInt32 >>> (i2 &&& 31).toUInt32).toInt32) &&& (1 : Int32)) = (0 : Int32) then
      k2 i1 (i2 + (1 : Int32))
    else
      some i2
  else
    some (-1 : Int32)
def X_lowestBit_l2 (NF : Nat) (ob : Rec) : Nat → Int32 → Int32 → Option (Int32)
  | 0, _, _ => none
  | n + 1, i1, i2 => X_lowestBit_w2 NF ob (X_lowestBit_l2 NF ob n) i1 i2
set_option maxRecDepth 65536 in
set_option maxHeartbeats 4000000 in
theorem X_lowestBit_w2_p {C : Ctx} {top : Nat} {a : Nat} {H : List (Nat × Nat × Rec)} {ob : Rec} {res : Int32} {NF : Nat} (k2 : Int32 → Int32 → Option (Int32)) (hk2 : ∀ (i1 : Int32) (i2 : Int32), k2 i1 i2 = some res → Runs C B44 0 0 2 [vn, vi i1, vi i2] [] (top, (a, 17, ob) :: H) (Ans (some (.int res)) (top, (a, 17, ob) :: H))) (i1 : Int32) (i2 : Int32) (hf : X_lowestBit_w2 NF ob k2 i1 i2 = some res) : Runs C B44 0 0 2 [vn, vi i1, vi i2] [] (top, (a, 17, ob) :: H) (Ans (some (.int res)) (top, (a, 17, ob) :: H)) := by
  delta X_lowestBit_w2 at hf
  refine Runs.iloadN d44_2 rfl <| Runs.bipush d44_3 cb_32 <| ?_
  refine ite_el hf (fun hc1 hf => ?_) (fun hc1 hf => ?_)
  · refine Runs.icN d44_5 (tlt hc1).2.1 <| ?_
    refine Runs.iloadN d44_8 rfl <| Runs.iloadN d44_9 rfl <| Runs.iushr d44_10 <| Runs.iconst d44_11 ci_1 <| Runs.iand d44_12 <| ?_
    refine ite_el hf (fun hc2 hf => ?_) (fun hc2 hf => ?_)
    · refine Runs.ifY (pc' := 18) d44_13 (teq hc2).1 (by decide) <| ?_
      exact Runs.iinc (P' := [vn, vi i1, vi (i2 + (1 : Int32))]) d44_18 ci_1 rfl (by decide) rfl <| Runs.goto (pc' := 2) d44_21 (by decide) <| hk2 i1 (i2 + (1 : Int32)) hf
    · refine Runs.ifN d44_13 (feq hc2).1 <| ?_
      obtain rfl := Option.some.inj hf
      exact Runs.iloadN d44_16 rfl <| Runs.retI d44_17 rfl ⟨by decide, by decide⟩ ⟨rfl, rfl⟩
  · refine Runs.icY (pc' := 24) d44_5 (flt hc1).2.1 (by decide) <| ?_
    obtain rfl := Option.some.inj hf
    exact Runs.iconst d44_24 ci_m1 <| Runs.retI d44_25 rfl ⟨by decide, by decide⟩ ⟨rfl, rfl⟩
theorem X_lowestBit_l2_p {C : Ctx} {top : Nat} {a : Nat} {H : List (Nat × Nat × Rec)} {ob : Rec} {res : Int32} {NF : Nat} (n : Nat) (i1 : Int32) (i2 : Int32) (hf : X_lowestBit_l2 NF ob n i1 i2 = some res) : Runs C B44 0 0 2 [vn, vi i1, vi i2] [] (top, (a, 17, ob) :: H) (Ans (some (.int res)) (top, (a, 17, ob) :: H)) := by
  induction n generalizing i1 i2 with
  | zero => cases (show (none : Option (Int32)) = some res from hf)
  | succ n ih => exact X_lowestBit_w2_p (X_lowestBit_l2 NF ob n) (fun i1 i2 h => ih _ _ h) i1 i2 hf
def X_lowestBit (NF : Nat) (ob : Rec) (i1 : Int32) : Option (Int32) :=
  X_lowestBit_l2 NF ob NF i1 (0 : Int32)
set_option maxRecDepth 65536 in
set_option maxHeartbeats 4000000 in
theorem X_lowestBit_p {C : Ctx} {top : Nat} {a : Nat} {H : List (Nat × Nat × Rec)} {ob : Rec} {res : Int32} {NF : Nat} (i1 : Int32) (hf : X_lowestBit NF ob i1 = some res) : Runs C B44 0 0 0 [vr a, vi i1, vn] [] (top, (a, 17, ob) :: H) (Ans (some (.int res)) (top, (a, 17, ob) :: H)) := by
  delta X_lowestBit at hf
  exact Runs.iconst d44_0 ci_0 <| Runs.istoreN (P' := [vr a, vi i1, vi (0 : Int32)]) d44_1 (by decide) rfl <| Runs.forget [false, true, true] rfl <| X_lowestBit_l2_p NF i1 (0 : Int32) hf
theorem X_lowestBit_pay {C : Ctx} {top : Nat} {a : Nat} {H : List (Nat × Nat × Rec)} {ob : Rec} {res : Int32} {NF : Nat} {i1 : Int32} (hf : X_lowestBit NF ob i1 = some res) : Pays C B44 [.ref a, .int i1] (top, (a, 17, ob) :: H) (Ans (some (.int res)) (top, (a, 17, ob) :: H)) :=
  Pays.of pnK (Nat.le_of_ble_eq_true rfl) (P := [vr a, vi i1, vn]) 1 rfl (X_lowestBit_p i1 hf)
def X_propagateClause_b120 (NF : Nat) (ob : Rec) (i6 : Int32) (i7 : Int32) : Option (Int32 × Rec) :=
  if i6 = (0 : Int32) then
    (X_isSingleBit ob i7).bind fun r2 =>
    if r2 = (0 : Int32) then
      some ((1 : Int32), ob)
    else
      (X_lowestBit NF ob i7).bind fun r5 =>
      (X_assign ob r5 (0 : Int32)).bind fun q7 =>
      some ((1 : Int32), q7)
  else
    some ((1 : Int32), ob)
set_option maxRecDepth 65536 in
set_option maxHeartbeats 4000000 in
theorem X_propagateClause_b120_p {C : Ctx} {top : Nat} {a : Nat} {H : List (Nat × Nat × Rec)} {res : Int32 × Rec} {NF : Nat} (ob : Rec) (i6 : Int32) (i7 : Int32) (hf : X_propagateClause_b120 NF ob i6 i7 = some res) : Runs C B33 0 0 120 [vr a, vn, vn, vn, vn, vn, vi i6, vi i7, vn] [] (top, (a, 17, ob) :: H) (Ans (some (.int res.1)) (top, (a, 17, res.2) :: H)) := by
  delta X_propagateClause_b120 at hf
  refine Runs.iload d33_120 rfl <| ?_
  refine ite_el hf (fun hc1 hf => ?_) (fun hc1 hf => ?_)
  · refine Runs.ifN d33_122 (teq hc1).2 <| ?_
    refine Runs.aloadN d33_125 rfl <| Runs.iload d33_126 rfl <| ?_
    refine bind_el hf fun r2 hg3 hf => ?_
    refine Runs.callP (N := B43) (W := 0) (as := [.int i7]) (S' := []) d33_128 w256 w257 w258 rfl cw43 ar43 rk33_43_0 (by decide) rfl rfl (X_isSingleBit_pay hg3) <| ans1 <| ?_
    refine ite_el hf (fun hc4 hf => ?_) (fun hc4 hf => ?_)
    · refine Runs.ifY (pc' := 149) d33_131 (teq hc4).1 (by decide) <| ?_
      obtain rfl := Option.some.inj hf
      exact Runs.iconst d33_149 ci_1 <| Runs.retZ (y := (1 : Int32)) d33_150 rfl ⟨by decide, by decide⟩ rfl ⟨rfl, rfl⟩
    · refine Runs.ifN d33_131 (feq hc4).1 <| ?_
      refine Runs.aloadN d33_134 rfl <| Runs.iload d33_135 rfl <| ?_
      refine bind_el hf fun r5 hg6 hf => ?_
      refine Runs.callP (N := B44) (W := 0) (as := [.int i7]) (S' := []) d33_137 w260 w261 w262 rfl cw44 ar44 rk33_44_0 (by decide) rfl rfl (X_lowestBit_pay hg6) <| ans1 <| Runs.istore (P' := [vr a, vn, vn, vn, vn, vn, vi i6, vi i7, vi r5]) d33_140 (by decide) rfl <| Runs.aloadN d33_142 rfl <| Runs.iload d33_143 rfl <| Runs.iconst d33_145 ci_0 <| ?_
      refine bind_el hf fun q7 hg8 hf => ?_
      obtain rfl := Option.some.inj hf
      exact Runs.callP (N := B22) (W := 0) (as := [.int r5, .int (0 : Int32)]) (S' := []) d33_146 w164 w165 w166 rfl cw22 ar22 rk33_22_0 (by decide) rfl rfl (X_assign_pay hg8) <| ans0 <| Runs.iconst d33_149 ci_1 <| Runs.retZ (y := (1 : Int32)) d33_150 rfl ⟨by decide, by decide⟩ rfl ⟨rfl, rfl⟩
  · refine Runs.ifY (pc' := 149) d33_122 (feq hc1).2 (by decide) <| ?_
    obtain rfl := Option.some.inj hf
    exact Runs.iconst d33_149 ci_1 <| Runs.retZ (y := (1 : Int32)) d33_150 rfl ⟨by decide, by decide⟩ rfl ⟨rfl, rfl⟩
def X_propagateClause (NF : Nat) (ob : Rec) (i1 : Int32) : Option (Int32 × Rec) :=
  if i1 < (0 : Int32) then
    some ((1 : Int32), ob)
  else
    if i1 < (24 : Int32) then
      chk (24 : Int32) i1 <|
      chk (24 : Int32) i1 <|
      if ((((gA ob 2 i1) &&& (gI ob 13)) &&& (gI ob 14)) ||| (((gA ob 3 i1) &&& (gI ob 13)) &&& ((gI ob 14) ^^^ (-1 : Int32)))) = (0 : Int32) then
        if (((gA ob 2 i1) &&& ((gI ob 13) ^^^ (-1 : Int32))) ||| ((gA ob 3 i1) &&& ((gI ob 13) ^^^ (-1 : Int32)))) = (0 : Int32) then
          some ((0 : Int32), ob)
        else
          if ((gA ob 3 i1) &&& ((gI ob 13) ^^^ (-1 : Int32))) = (0 : Int32) then
            (X_isSingleBit ob ((gA ob 2 i1) &&& ((gI ob 13) ^^^ (-1 : Int32)))).bind fun r16 =>
            if r16 = (0 : Int32) then
              X_propagateClause_b120 NF ob ((gA ob 2 i1) &&& ((gI ob 13) ^^^ (-1 : Int32))) ((gA ob 3 i1) &&& ((gI ob 13) ^^^ (-1 : Int32)))
            else
              (X_lowestBit NF ob ((gA ob 2 i1) &&& ((gI ob 13) ^^^ (-1 : Int32)))).bind fun r19 =>
              (X_assign ob r19 (1 : Int32)).bind fun q21 =>
              some ((1 : Int32), q21)
          else
            X_propagateClause_b120 NF ob ((gA ob 2 i1) &&& ((gI ob 13) ^^^ (-1 : Int32))) ((gA ob 3 i1) &&& ((gI ob 13) ^^^ (-1 : Int32)))
      else
        some ((1 : Int32), ob)
    else
      some ((1 : Int32), ob)
set_option maxRecDepth 65536 in
set_option maxHeartbeats 4000000 in
theorem X_propagateClause_p {C : Ctx} {top : Nat} {a : Nat} {H : List (Nat × Nat × Rec)} {res : Int32 × Rec} {NF : Nat} (ob : Rec) (i1 : Int32) (hf : X_propagateClause NF ob i1 = some res) : Runs C B33 0 0 0 [vr a, vi i1, vn, vn, vn, vn, vn, vn, vn] [] (top, (a, 17, ob) :: H) (Ans (some (.int res.1)) (top, (a, 17, res.2) :: H)) := by
  delta X_propagateClause at hf
  refine Runs.iloadN d33_0 rfl <| ?_
  refine ite_el hf (fun hc9 hf => ?_) (fun hc9 hf => ?_)
  · refine Runs.ifY (pc' := 10) d33_1 (tlt hc9).1 (by decide) <| ?_
    obtain rfl := Option.some.inj hf
    exact Runs.iconst d33_10 ci_1 <| Runs.retZ (y := (1 : Int32)) d33_11 rfl ⟨by decide, by decide⟩ rfl ⟨rfl, rfl⟩
  · refine Runs.ifN d33_1 (flt hc9).1 <| ?_
    refine Runs.iloadN d33_4 rfl <| Runs.bipush d33_5 cb_24 <| ?_
    refine ite_el hf (fun hc10 hf => ?_) (fun hc10 hf => ?_)
    · refine Runs.icY (pc' := 12) d33_7 (tlt hc10).1 (by decide) <| ?_
      refine Runs.aloadN d33_12 rfl <| Runs.getA d33_13 fA_2 w19 (by decide) <| Runs.iloadN d33_16 rfl <| ?_
      refine chk_el hf fun hi11 hf => ?_
      refine Runs.ialoadA d33_17 fA_2 (by decide) hi11 <| Runs.istoreN (P' := [vr a, vi i1, vi (gA ob 2 i1), vn, vn, vn, vn, vn, vn]) d33_18 (by decide) rfl <| Runs.aloadN d33_19 rfl <| Runs.getA d33_20 fA_3 w21 (by decide) <| Runs.iloadN d33_23 rfl <| ?_
      refine chk_el hf fun hi12 hf => ?_
      refine Runs.ialoadA d33_24 fA_3 (by decide) hi12 <| Runs.istoreN (P' := [vr a, vi i1, vi (gA ob 2 i1), vi (gA ob 3 i1), vn, vn, vn, vn, vn]) d33_25 (by decide) rfl <| Runs.aloadN d33_26 rfl <| Runs.getI d33_27 w130 fS_13 <| Runs.istore (P' := [vr a, vi i1, vi (gA ob 2 i1), vi (gA ob 3 i1), vi (gI ob 13), vn, vn, vn, vn]) d33_30 (by decide) rfl <| Runs.iloadN d33_32 rfl <| Runs.iload d33_33 rfl <| Runs.iand d33_35 <| Runs.aloadN d33_36 rfl <| Runs.getI d33_37 w132 fS_14 <| Runs.iand d33_40 <| Runs.iloadN d33_41 rfl <| ?_
      refine Runs.iload d33_42 rfl <| Runs.iand d33_44 <| Runs.aloadN d33_45 rfl <| Runs.getI d33_46 w132 fS_14 <| Runs.iconst d33_49 ci_m1 <| Runs.ixor d33_50 <| Runs.iand d33_51 <| Runs.ior d33_52 <| Runs.istore (P' := [vr a, vi i1, vi (gA ob 2 i1), vi (gA ob 3 i1), vi (gI ob 13), vi ((((gA ob 2 i1) &&& (gI ob 13)) &&& (gI ob 14)) ||| (((gA ob 3 i1) &&& (gI ob 13)) &&& ((gI ob 14) ^^^ (-1 : Int32)))), vn, vn, vn]) d33_53 (by decide) rfl <| Runs.iload d33_55 rfl <| ?_
      refine ite_el hf (fun hc13 hf => ?_) (fun hc13 hf => ?_)
      · refine Runs.ifY (pc' := 62) d33_57 (teq hc13).1 (by decide) <| ?_
        refine Runs.iloadN d33_62 rfl <| Runs.iload d33_63 rfl <| Runs.iconst d33_65 ci_m1 <| Runs.ixor d33_66 <| Runs.iand d33_67 <| Runs.istore (P' := [vr a, vi i1, vi (gA ob 2 i1), vi (gA ob 3 i1), vi (gI ob 13), vi ((((gA ob 2 i1) &&& (gI ob 13)) &&& (gI ob 14)) ||| (((gA ob 3 i1) &&& (gI ob 13)) &&& ((gI ob 14) ^^^ (-1 : Int32)))), vi ((gA ob 2 i1) &&& ((gI ob 13) ^^^ (-1 : Int32))), vn, vn]) d33_68 (by decide) rfl <| Runs.iloadN d33_70 rfl <| Runs.iload d33_71 rfl <| Runs.iconst d33_73 ci_m1 <| Runs.ixor d33_74 <| Runs.iand d33_75 <| Runs.istore (P' := [vr a, vi i1, vi (gA ob 2 i1), vi (gA ob 3 i1), vi (gI ob 13), vi ((((gA ob 2 i1) &&& (gI ob 13)) &&& (gI ob 14)) ||| (((gA ob 3 i1) &&& (gI ob 13)) &&& ((gI ob 14) ^^^ (-1 : Int32)))), vi ((gA ob 2 i1) &&& ((gI ob 13) ^^^ (-1 : Int32))), vi ((gA ob 3 i1) &&& ((gI ob 13) ^^^ (-1 : Int32))), vn]) d33_76 (by decide) rfl <| ?_
        refine Runs.iload d33_78 rfl <| Runs.iload d33_80 rfl <| Runs.ior d33_82 <| ?_
        refine ite_el hf (fun hc14 hf => ?_) (fun hc14 hf => ?_)
        · refine Runs.ifN d33_83 (teq hc14).2 <| ?_
          obtain rfl := Option.some.inj hf
          exact Runs.iconst d33_86 ci_0 <| Runs.retZ (y := (0 : Int32)) d33_87 rfl ⟨by decide, by decide⟩ rfl ⟨rfl, rfl⟩
        · refine Runs.ifY (pc' := 88) d33_83 (feq hc14).2 (by decide) <| ?_
          refine Runs.iload d33_88 rfl <| ?_
          refine ite_el hf (fun hc15 hf => ?_) (fun hc15 hf => ?_)
          · refine Runs.ifN d33_90 (teq hc15).2 <| ?_
            refine Runs.aloadN d33_93 rfl <| Runs.iload d33_94 rfl <| ?_
            refine bind_el hf fun r16 hg17 hf => ?_
            refine Runs.callP (N := B43) (W := 0) (as := [.int ((gA ob 2 i1) &&& ((gI ob 13) ^^^ (-1 : Int32)))]) (S' := []) d33_96 w256 w257 w258 rfl cw43 ar43 rk33_43_0 (by decide) rfl rfl (X_isSingleBit_pay hg17) <| ans1 <| ?_
            refine ite_el hf (fun hc18 hf => ?_) (fun hc18 hf => ?_)
            · exact Runs.ifY (pc' := 120) d33_99 (teq hc18).1 (by decide) <| Runs.forget [true, false, false, false, false, false, true, true, false] rfl <| X_propagateClause_b120_p ob ((gA ob 2 i1) &&& ((gI ob 13) ^^^ (-1 : Int32))) ((gA ob 3 i1) &&& ((gI ob 13) ^^^ (-1 : Int32))) hf
            · refine Runs.ifN d33_99 (feq hc18).1 <| ?_
              refine Runs.aloadN d33_102 rfl <| Runs.iload d33_103 rfl <| ?_
              refine bind_el hf fun r19 hg20 hf => ?_
              refine Runs.callP (N := B44) (W := 0) (as := [.int ((gA ob 2 i1) &&& ((gI ob 13) ^^^ (-1 : Int32)))]) (S' := []) d33_105 w260 w261 w262 rfl cw44 ar44 rk33_44_0 (by decide) rfl rfl (X_lowestBit_pay hg20) <| ans1 <| Runs.istore (P' := [vr a, vi i1, vi (gA ob 2 i1), vi (gA ob 3 i1), vi (gI ob 13), vi ((((gA ob 2 i1) &&& (gI ob 13)) &&& (gI ob 14)) ||| (((gA ob 3 i1) &&& (gI ob 13)) &&& ((gI ob 14) ^^^ (-1 : Int32)))), vi ((gA ob 2 i1) &&& ((gI ob 13) ^^^ (-1 : Int32))), vi ((gA ob 3 i1) &&& ((gI ob 13) ^^^ (-1 : Int32))), vi r19]) d33_108 (by decide) rfl <| Runs.aloadN d33_110 rfl <| Runs.iload d33_111 rfl <| Runs.iconst d33_113 ci_1 <| ?_
              refine bind_el hf fun q21 hg22 hf => ?_
              obtain rfl := Option.some.inj hf
              exact Runs.callP (N := B22) (W := 0) (as := [.int r19, .int (1 : Int32)]) (S' := []) d33_114 w164 w165 w166 rfl cw22 ar22 rk33_22_0 (by decide) rfl rfl (X_assign_pay hg22) <| ans0 <| Runs.goto (pc' := 149) d33_117 (by decide) <| Runs.iconst d33_149 ci_1 <| Runs.retZ (y := (1 : Int32)) d33_150 rfl ⟨by decide, by decide⟩ rfl ⟨rfl, rfl⟩
          · exact Runs.ifY (pc' := 120) d33_90 (feq hc15).2 (by decide) <| Runs.forget [true, false, false, false, false, false, true, true, false] rfl <| X_propagateClause_b120_p ob ((gA ob 2 i1) &&& ((gI ob 13) ^^^ (-1 : Int32))) ((gA ob 3 i1) &&& ((gI ob 13) ^^^ (-1 : Int32))) hf
      · refine Runs.ifN d33_57 (feq hc13).1 <| ?_
        obtain rfl := Option.some.inj hf
        exact Runs.iconst d33_60 ci_1 <| Runs.retZ (y := (1 : Int32)) d33_61 rfl ⟨by decide, by decide⟩ rfl ⟨rfl, rfl⟩
    · refine Runs.icN d33_7 (flt hc10).1 <| ?_
      obtain rfl := Option.some.inj hf
      exact Runs.iconst d33_10 ci_1 <| Runs.retZ (y := (1 : Int32)) d33_11 rfl ⟨by decide, by decide⟩ rfl ⟨rfl, rfl⟩
theorem X_propagateClause_pay {C : Ctx} {top : Nat} {a : Nat} {H : List (Nat × Nat × Rec)} {res : Int32 × Rec} {NF : Nat} {ob : Rec} {i1 : Int32} (hf : X_propagateClause NF ob i1 = some res) : Pays C B33 [.ref a, .int i1] (top, (a, 17, ob) :: H) (Ans (some (.int res.1)) (top, (a, 17, res.2) :: H)) :=
  Pays.of pnK (Nat.le_of_ble_eq_true rfl) (P := [vr a, vi i1, vn, vn, vn, vn, vn, vn, vn]) 7 rfl (X_propagateClause_p ob i1 hf)
def X_propagateClauses_w2 (NF : Nat) (k2 : Rec → Int32 → Option (Int32 × Rec)) (ob : Rec) (i1 : Int32) : Option (Int32 × Rec) :=
  if i1 < (gI ob 5) then
    if i1 < (24 : Int32) then
      bind2 (X_propagateClause NF ob i1) fun r3 q4 =>
      if r3 = (0 : Int32) then
        some ((0 : Int32), q4)
      else
        k2 q4 (i1 + (1 : Int32))
    else
      some ((1 : Int32), ob)
  else
    some ((1 : Int32), ob)
def X_propagateClauses_l2 (NF : Nat) : Nat → Rec → Int32 → Option (Int32 × Rec)
  | 0, _, _ => none
  | n + 1, ob, i1 => X_propagateClauses_w2 NF (X_propagateClauses_l2 NF n) ob i1
set_option maxRecDepth 65536 in
set_option maxHeartbeats 4000000 in
theorem X_propagateClauses_w2_p {C : Ctx} {top : Nat} {a : Nat} {H : List (Nat × Nat × Rec)} {res : Int32 × Rec} {NF : Nat} (k2 : Rec → Int32 → Option (Int32 × Rec)) (hk2 : ∀ (ob : Rec) (i1 : Int32), k2 ob i1 = some res → Runs C B17 0 0 2 [vr a, vi i1] [] (top, (a, 17, ob) :: H) (Ans (some (.int res.1)) (top, (a, 17, res.2) :: H))) (ob : Rec) (i1 : Int32) (hf : X_propagateClauses_w2 NF k2 ob i1 = some res) : Runs C B17 0 0 2 [vr a, vi i1] [] (top, (a, 17, ob) :: H) (Ans (some (.int res.1)) (top, (a, 17, res.2) :: H)) := by
  delta X_propagateClauses_w2 at hf
  refine Runs.iloadN d17_2 rfl <| Runs.aloadN d17_3 rfl <| Runs.getI d17_4 w59 fS_5 <| ?_
  refine ite_el hf (fun hc1 hf => ?_) (fun hc1 hf => ?_)
  · refine Runs.icN d17_7 (tlt hc1).2.1 <| ?_
    refine Runs.iloadN d17_10 rfl <| Runs.bipush d17_11 cb_24 <| ?_
    refine ite_el hf (fun hc2 hf => ?_) (fun hc2 hf => ?_)
    · refine Runs.icN d17_13 (tlt hc2).2.1 <| ?_
      refine Runs.aloadN d17_16 rfl <| Runs.iloadN d17_17 rfl <| ?_
      refine bind2_el hf fun r3 q4 hg5 hf => ?_
      refine Runs.callP (N := B33) (W := 0) (as := [.int i1]) (S' := []) d17_18 w214 w215 w216 rfl cw33 ar33 rk17_33_0 (by decide) rfl rfl (X_propagateClause_pay hg5) <| ans1 <| ?_
      refine ite_el hf (fun hc6 hf => ?_) (fun hc6 hf => ?_)
      · refine Runs.ifN d17_21 (teq hc6).2 <| ?_
        obtain rfl := Option.some.inj hf
        exact Runs.iconst d17_24 ci_0 <| Runs.retZ (y := (0 : Int32)) d17_25 rfl ⟨by decide, by decide⟩ rfl ⟨rfl, rfl⟩
      · refine Runs.ifY (pc' := 26) d17_21 (feq hc6).2 (by decide) <| ?_
        exact Runs.iinc (P' := [vr a, vi (i1 + (1 : Int32))]) d17_26 ci_1 rfl (by decide) rfl <| Runs.goto (pc' := 2) d17_29 (by decide) <| hk2 q4 (i1 + (1 : Int32)) hf
    · refine Runs.icY (pc' := 32) d17_13 (flt hc2).2.1 (by decide) <| ?_
      obtain rfl := Option.some.inj hf
      exact Runs.iconst d17_32 ci_1 <| Runs.retZ (y := (1 : Int32)) d17_33 rfl ⟨by decide, by decide⟩ rfl ⟨rfl, rfl⟩
  · refine Runs.icY (pc' := 32) d17_7 (flt hc1).2.1 (by decide) <| ?_
    obtain rfl := Option.some.inj hf
    exact Runs.iconst d17_32 ci_1 <| Runs.retZ (y := (1 : Int32)) d17_33 rfl ⟨by decide, by decide⟩ rfl ⟨rfl, rfl⟩
theorem X_propagateClauses_l2_p {C : Ctx} {top : Nat} {a : Nat} {H : List (Nat × Nat × Rec)} {res : Int32 × Rec} {NF : Nat} (n : Nat) (ob : Rec) (i1 : Int32) (hf : X_propagateClauses_l2 NF n ob i1 = some res) : Runs C B17 0 0 2 [vr a, vi i1] [] (top, (a, 17, ob) :: H) (Ans (some (.int res.1)) (top, (a, 17, res.2) :: H)) := by
  induction n generalizing ob i1 with
  | zero => cases (show (none : Option (Int32 × Rec)) = some res from hf)
  | succ n ih => exact X_propagateClauses_w2_p (X_propagateClauses_l2 NF n) (fun ob i1 h => ih _ _ h) ob i1 hf
def X_propagateClauses (NF : Nat) (ob : Rec) : Option (Int32 × Rec) :=
  X_propagateClauses_l2 NF NF ob (0 : Int32)
set_option maxRecDepth 65536 in
set_option maxHeartbeats 4000000 in
theorem X_propagateClauses_p {C : Ctx} {top : Nat} {a : Nat} {H : List (Nat × Nat × Rec)} {res : Int32 × Rec} {NF : Nat} (ob : Rec) (hf : X_propagateClauses NF ob = some res) : Runs C B17 0 0 0 [vr a, vn] [] (top, (a, 17, ob) :: H) (Ans (some (.int res.1)) (top, (a, 17, res.2) :: H)) := by
  delta X_propagateClauses at hf
  exact Runs.iconst d17_0 ci_0 <| Runs.istoreN (P' := [vr a, vi (0 : Int32)]) d17_1 (by decide) rfl <| X_propagateClauses_l2_p NF ob (0 : Int32) hf
theorem X_propagateClauses_pay {C : Ctx} {top : Nat} {a : Nat} {H : List (Nat × Nat × Rec)} {res : Int32 × Rec} {NF : Nat} {ob : Rec} (hf : X_propagateClauses NF ob = some res) : Pays C B17 [.ref a] (top, (a, 17, ob) :: H) (Ans (some (.int res.1)) (top, (a, 17, res.2) :: H)) :=
  Pays.of pnK (Nat.le_of_ble_eq_true rfl) (P := [vr a, vn]) 1 rfl (X_propagateClauses_p ob hf)
def X_loadResidualRows_w7 (NF : Nat) (k7 : Rec → Int32 → Option (Rec)) (ob : Rec) (i1 : Int32) : Option (Rec) :=
  if i1 < (gI ob 8) then
    if i1 < (16 : Int32) then
      chk (16 : Int32) i1 <|
      chk (16 : Int32) i1 <|
      chk (16 : Int32) i1 <|
      (X_parity (sA ob 10 i1 ((gA ob 7 i1) &&& ((gI ob 13) ^^^ (-1 : Int32)))) (((gA ob 7 i1) &&& (gI ob 13)) &&& (gI ob 14))).bind fun r6 =>
      chk (16 : Int32) i1 <|
      k7 (sI (sA (sA ob 10 i1 ((gA ob 7 i1) &&& ((gI ob 13) ^^^ (-1 : Int32)))) 11 i1 ((gA ob 8 i1) ^^^ r6)) 11 ((gI ob 11) + (1 : Int32))) (i1 + (1 : Int32))
    else
      some ob
  else
    some ob
def X_loadResidualRows_l7 (NF : Nat) : Nat → Rec → Int32 → Option (Rec)
  | 0, _, _ => none
  | n + 1, ob, i1 => X_loadResidualRows_w7 NF (X_loadResidualRows_l7 NF n) ob i1
set_option maxRecDepth 65536 in
set_option maxHeartbeats 4000000 in
theorem X_loadResidualRows_w7_p {C : Ctx} {top : Nat} {a : Nat} {H : List (Nat × Nat × Rec)} {res : Rec} {NF : Nat} (k7 : Rec → Int32 → Option (Rec)) (hk7 : ∀ (ob : Rec) (i1 : Int32), k7 ob i1 = some res → Runs C B19 0 0 7 [vr a, vi i1, vn] [] (top, (a, 17, ob) :: H) (Ans none (top, (a, 17, res) :: H))) (ob : Rec) (i1 : Int32) (hf : X_loadResidualRows_w7 NF k7 ob i1 = some res) : Runs C B19 0 0 7 [vr a, vi i1, vn] [] (top, (a, 17, ob) :: H) (Ans none (top, (a, 17, res) :: H)) := by
  delta X_loadResidualRows_w7 at hf
  refine Runs.iloadN d19_7 rfl <| Runs.aloadN d19_8 rfl <| Runs.getI d19_9 w69 fS_8 <| ?_
  refine ite_el hf (fun hc1 hf => ?_) (fun hc1 hf => ?_)
  · refine Runs.icN d19_12 (tlt hc1).2.1 <| ?_
    refine Runs.iloadN d19_15 rfl <| Runs.bipush d19_16 cb_16 <| ?_
    refine ite_el hf (fun hc2 hf => ?_) (fun hc2 hf => ?_)
    · refine Runs.icN d19_18 (tlt hc2).2.1 <| ?_
      refine Runs.aloadN d19_21 rfl <| Runs.getA d19_22 fA_7 w29 (by decide) <| Runs.iloadN d19_25 rfl <| ?_
      refine chk_el hf fun hi3 hf => ?_
      refine Runs.ialoadA d19_26 fA_7 (by decide) hi3 <| Runs.istoreN (P' := [vr a, vi i1, vi (gA ob 7 i1)]) d19_27 (by decide) rfl <| Runs.aloadN d19_28 rfl <| Runs.getA d19_29 fA_10 w35 (by decide) <| Runs.iloadN d19_32 rfl <| Runs.iloadN d19_33 rfl <| Runs.aloadN d19_34 rfl <| Runs.getI d19_35 w130 fS_13 <| Runs.iconst d19_38 ci_m1 <| Runs.ixor d19_39 <| Runs.iand d19_40 <| ?_
      refine chk_el hf fun hi4 hf => ?_
      refine Runs.iastoreA d19_41 fA_10 (by decide) hi4 <| Runs.aloadN d19_42 rfl <| Runs.getA d19_43 fA_11 w37 (by decide) <| Runs.iloadN d19_46 rfl <| Runs.aloadN d19_47 rfl <| Runs.getA d19_48 fA_8 w31 (by decide) <| Runs.iloadN d19_51 rfl <| ?_
      refine chk_el hf fun hi5 hf => ?_
      refine Runs.ialoadA d19_52 fA_8 (by decide) hi5 <| Runs.aloadN d19_53 rfl <| Runs.iloadN d19_54 rfl <| Runs.aloadN d19_55 rfl <| Runs.getI d19_56 w130 fS_13 <| Runs.iand d19_59 <| Runs.aloadN d19_60 rfl <| Runs.getI d19_61 w132 fS_14 <| Runs.iand d19_64 <| ?_
      refine bind_el hf fun r6 hg7 hf => ?_
      refine Runs.callP (N := B39) (W := 3) (as := [.int (((gA ob 7 i1) &&& (gI ob 13)) &&& (gI ob 14))]) (S' := [.int (gA ob 8 i1), .int i1, .ref (a + 1 + 11)]) d19_65 w239 w240 w241 rfl cw39 ar39 rk19_39_3 (by decide) rfl rfl (X_parity_pay hg7) <| ans1 <| Runs.ixor d19_68 <| ?_
      refine chk_el hf fun hi8 hf => ?_
      exact Runs.iastoreA d19_69 fA_11 (by decide) hi8 <| Runs.aloadN d19_70 rfl <| Runs.dup d19_71 rfl <| Runs.getI d19_72 w93 fS_11 <| Runs.iconst d19_75 ci_1 <| Runs.iadd d19_76 <| Runs.putI d19_77 w93 fS_11 (Or.inl w94) <| Runs.iinc (P' := [vr a, vi (i1 + (1 : Int32)), vi (gA ob 7 i1)]) d19_80 ci_1 rfl (by decide) rfl <| Runs.goto (pc' := 7) d19_83 (by decide) <| Runs.forget [true, true, false] rfl <| hk7 (sI (sA (sA ob 10 i1 ((gA ob 7 i1) &&& ((gI ob 13) ^^^ (-1 : Int32)))) 11 i1 ((gA ob 8 i1) ^^^ r6)) 11 ((gI ob 11) + (1 : Int32))) (i1 + (1 : Int32)) hf
    · refine Runs.icY (pc' := 86) d19_18 (flt hc2).2.1 (by decide) <| ?_
      obtain rfl := Option.some.inj hf
      exact Runs.retV d19_86 rfl ⟨by decide, by decide⟩ ⟨rfl, rfl⟩
  · refine Runs.icY (pc' := 86) d19_12 (flt hc1).2.1 (by decide) <| ?_
    obtain rfl := Option.some.inj hf
    exact Runs.retV d19_86 rfl ⟨by decide, by decide⟩ ⟨rfl, rfl⟩
theorem X_loadResidualRows_l7_p {C : Ctx} {top : Nat} {a : Nat} {H : List (Nat × Nat × Rec)} {res : Rec} {NF : Nat} (n : Nat) (ob : Rec) (i1 : Int32) (hf : X_loadResidualRows_l7 NF n ob i1 = some res) : Runs C B19 0 0 7 [vr a, vi i1, vn] [] (top, (a, 17, ob) :: H) (Ans none (top, (a, 17, res) :: H)) := by
  induction n generalizing ob i1 with
  | zero => cases (show (none : Option (Rec)) = some res from hf)
  | succ n ih => exact X_loadResidualRows_w7_p (X_loadResidualRows_l7 NF n) (fun ob i1 h => ih _ _ h) ob i1 hf
def X_loadResidualRows (NF : Nat) (ob : Rec) : Option (Rec) :=
  X_loadResidualRows_l7 NF NF (sI ob 11 (0 : Int32)) (0 : Int32)
set_option maxRecDepth 65536 in
set_option maxHeartbeats 4000000 in
theorem X_loadResidualRows_p {C : Ctx} {top : Nat} {a : Nat} {H : List (Nat × Nat × Rec)} {res : Rec} {NF : Nat} (ob : Rec) (hf : X_loadResidualRows NF ob = some res) : Runs C B19 0 0 0 [vr a, vn, vn] [] (top, (a, 17, ob) :: H) (Ans none (top, (a, 17, res) :: H)) := by
  delta X_loadResidualRows at hf
  exact Runs.aloadN d19_0 rfl <| Runs.iconst d19_1 ci_0 <| Runs.putI d19_2 w93 fS_11 (Or.inl w94) <| Runs.iconst d19_5 ci_0 <| Runs.istoreN (P' := [vr a, vi (0 : Int32), vn]) d19_6 (by decide) rfl <| X_loadResidualRows_l7_p NF (sI ob 11 (0 : Int32)) (0 : Int32) hf
theorem X_loadResidualRows_pay {C : Ctx} {top : Nat} {a : Nat} {H : List (Nat × Nat × Rec)} {res : Rec} {NF : Nat} {ob : Rec} (hf : X_loadResidualRows NF ob = some res) : Pays C B19 [.ref a] (top, (a, 17, ob) :: H) (Ans none (top, (a, 17, res) :: H)) :=
  Pays.of pnK (Nat.le_of_ble_eq_true rfl) (P := [vr a, vn, vn]) 2 rfl (X_loadResidualRows_p ob hf)
def X_propagateXors_w10 (NF : Nat) (k10 : Rec → Int32 → Option (Int32 × Rec)) (ob : Rec) (i1 : Int32) : Option (Int32 × Rec) :=
  if i1 < (gI ob 11) then
    if i1 < (16 : Int32) then
      chk (16 : Int32) i1 <|
      if (gA ob 10 i1) = (0 : Int32) then
        chk (16 : Int32) i1 <|
        if (gA ob 11 i1) = (0 : Int32) then
          k10 ob (i1 + (1 : Int32))
        else
          some ((0 : Int32), ob)
      else
        (X_isSingleBit ob (gA ob 10 i1)).bind fun r7 =>
        if r7 = (0 : Int32) then
          k10 ob (i1 + (1 : Int32))
        else
          (X_lowestBit NF ob (gA ob 10 i1)).bind fun r10 =>
          chk (16 : Int32) i1 <|
          (X_assign ob r10 (gA ob 11 i1)).bind fun q13 =>
          k10 q13 (i1 + (1 : Int32))
    else
      some ((1 : Int32), ob)
  else
    some ((1 : Int32), ob)
def X_propagateXors_l10 (NF : Nat) : Nat → Rec → Int32 → Option (Int32 × Rec)
  | 0, _, _ => none
  | n + 1, ob, i1 => X_propagateXors_w10 NF (X_propagateXors_l10 NF n) ob i1
set_option maxRecDepth 65536 in
set_option maxHeartbeats 4000000 in
theorem X_propagateXors_w10_p {C : Ctx} {top : Nat} {a : Nat} {H : List (Nat × Nat × Rec)} {res : Int32 × Rec} {NF : Nat} (k10 : Rec → Int32 → Option (Int32 × Rec)) (hk10 : ∀ (ob : Rec) (i1 : Int32), k10 ob i1 = some res → Runs C B18 0 0 10 [vr a, vi i1, vn, vn] [] (top, (a, 17, ob) :: H) (Ans (some (.int res.1)) (top, (a, 17, res.2) :: H))) (ob : Rec) (i1 : Int32) (hf : X_propagateXors_w10 NF k10 ob i1 = some res) : Runs C B18 0 0 10 [vr a, vi i1, vn, vn] [] (top, (a, 17, ob) :: H) (Ans (some (.int res.1)) (top, (a, 17, res.2) :: H)) := by
  delta X_propagateXors_w10 at hf
  refine Runs.iloadN d18_10 rfl <| Runs.aloadN d18_11 rfl <| Runs.getI d18_12 w93 fS_11 <| ?_
  refine ite_el hf (fun hc1 hf => ?_) (fun hc1 hf => ?_)
  · refine Runs.icN d18_15 (tlt hc1).2.1 <| ?_
    refine Runs.iloadN d18_18 rfl <| Runs.bipush d18_19 cb_16 <| ?_
    refine ite_el hf (fun hc2 hf => ?_) (fun hc2 hf => ?_)
    · refine Runs.icN d18_21 (tlt hc2).2.1 <| ?_
      refine Runs.aloadN d18_24 rfl <| Runs.getA d18_25 fA_10 w35 (by decide) <| Runs.iloadN d18_28 rfl <| ?_
      refine chk_el hf fun hi3 hf => ?_
      refine Runs.ialoadA d18_29 fA_10 (by decide) hi3 <| Runs.istoreN (P' := [vr a, vi i1, vi (gA ob 10 i1), vn]) d18_30 (by decide) rfl <| Runs.iloadN d18_31 rfl <| ?_
      refine ite_el hf (fun hc4 hf => ?_) (fun hc4 hf => ?_)
      · refine Runs.ifN d18_32 (teq hc4).2 <| ?_
        refine Runs.aloadN d18_35 rfl <| Runs.getA d18_36 fA_11 w37 (by decide) <| Runs.iloadN d18_39 rfl <| ?_
        refine chk_el hf fun hi5 hf => ?_
        refine Runs.ialoadA d18_40 fA_11 (by decide) hi5 <| ?_
        refine ite_el hf (fun hc6 hf => ?_) (fun hc6 hf => ?_)
        · refine Runs.ifY (pc' := 71) d18_41 (teq hc6).1 (by decide) <| ?_
          exact Runs.iinc (P' := [vr a, vi (i1 + (1 : Int32)), vi (gA ob 10 i1), vn]) d18_71 ci_1 rfl (by decide) rfl <| Runs.goto (pc' := 10) d18_74 (by decide) <| Runs.forget [true, true, false, false] rfl <| hk10 ob (i1 + (1 : Int32)) hf
        · refine Runs.ifN d18_41 (feq hc6).1 <| ?_
          obtain rfl := Option.some.inj hf
          exact Runs.iconst d18_44 ci_0 <| Runs.retZ (y := (0 : Int32)) d18_45 rfl ⟨by decide, by decide⟩ rfl ⟨rfl, rfl⟩
      · refine Runs.ifY (pc' := 46) d18_32 (feq hc4).2 (by decide) <| ?_
        refine Runs.aloadN d18_46 rfl <| Runs.iloadN d18_47 rfl <| ?_
        refine bind_el hf fun r7 hg8 hf => ?_
        refine Runs.callP (N := B43) (W := 0) (as := [.int (gA ob 10 i1)]) (S' := []) d18_48 w256 w257 w258 rfl cw43 ar43 rk18_43_0 (by decide) rfl rfl (X_isSingleBit_pay hg8) <| ans1 <| ?_
        refine ite_el hf (fun hc9 hf => ?_) (fun hc9 hf => ?_)
        · refine Runs.ifY (pc' := 71) d18_51 (teq hc9).1 (by decide) <| ?_
          exact Runs.iinc (P' := [vr a, vi (i1 + (1 : Int32)), vi (gA ob 10 i1), vn]) d18_71 ci_1 rfl (by decide) rfl <| Runs.goto (pc' := 10) d18_74 (by decide) <| Runs.forget [true, true, false, false] rfl <| hk10 ob (i1 + (1 : Int32)) hf
        · refine Runs.ifN d18_51 (feq hc9).1 <| ?_
          refine Runs.aloadN d18_54 rfl <| Runs.iloadN d18_55 rfl <| ?_
          refine bind_el hf fun r10 hg11 hf => ?_
          refine Runs.callP (N := B44) (W := 0) (as := [.int (gA ob 10 i1)]) (S' := []) d18_56 w260 w261 w262 rfl cw44 ar44 rk18_44_0 (by decide) rfl rfl (X_lowestBit_pay hg11) <| ans1 <| Runs.istoreN (P' := [vr a, vi i1, vi (gA ob 10 i1), vi r10]) d18_59 (by decide) rfl <| Runs.aloadN d18_60 rfl <| Runs.iloadN d18_61 rfl <| Runs.aloadN d18_62 rfl <| Runs.getA d18_63 fA_11 w37 (by decide) <| Runs.iloadN d18_66 rfl <| ?_
          refine chk_el hf fun hi12 hf => ?_
          refine Runs.ialoadA d18_67 fA_11 (by decide) hi12 <| ?_
          refine bind_el hf fun q13 hg14 hf => ?_
          exact Runs.callP (N := B22) (W := 0) (as := [.int r10, .int (gA ob 11 i1)]) (S' := []) d18_68 w164 w165 w166 rfl cw22 ar22 rk18_22_0 (by decide) rfl rfl (X_assign_pay hg14) <| ans0 <| Runs.iinc (P' := [vr a, vi (i1 + (1 : Int32)), vi (gA ob 10 i1), vi r10]) d18_71 ci_1 rfl (by decide) rfl <| Runs.goto (pc' := 10) d18_74 (by decide) <| Runs.forget [true, true, false, false] rfl <| hk10 q13 (i1 + (1 : Int32)) hf
    · refine Runs.icY (pc' := 77) d18_21 (flt hc2).2.1 (by decide) <| ?_
      obtain rfl := Option.some.inj hf
      exact Runs.iconst d18_77 ci_1 <| Runs.retZ (y := (1 : Int32)) d18_78 rfl ⟨by decide, by decide⟩ rfl ⟨rfl, rfl⟩
  · refine Runs.icY (pc' := 77) d18_15 (flt hc1).2.1 (by decide) <| ?_
    obtain rfl := Option.some.inj hf
    exact Runs.iconst d18_77 ci_1 <| Runs.retZ (y := (1 : Int32)) d18_78 rfl ⟨by decide, by decide⟩ rfl ⟨rfl, rfl⟩
theorem X_propagateXors_l10_p {C : Ctx} {top : Nat} {a : Nat} {H : List (Nat × Nat × Rec)} {res : Int32 × Rec} {NF : Nat} (n : Nat) (ob : Rec) (i1 : Int32) (hf : X_propagateXors_l10 NF n ob i1 = some res) : Runs C B18 0 0 10 [vr a, vi i1, vn, vn] [] (top, (a, 17, ob) :: H) (Ans (some (.int res.1)) (top, (a, 17, res.2) :: H)) := by
  induction n generalizing ob i1 with
  | zero => cases (show (none : Option (Int32 × Rec)) = some res from hf)
  | succ n ih => exact X_propagateXors_w10_p (X_propagateXors_l10 NF n) (fun ob i1 h => ih _ _ h) ob i1 hf
def X_propagateXors (NF : Nat) (ob : Rec) : Option (Int32 × Rec) :=
  (X_loadResidualRows NF ob).bind fun q15 =>
  (X_eliminate NF q15).bind fun q17 =>
  X_propagateXors_l10 NF NF q17 (0 : Int32)
set_option maxRecDepth 65536 in
set_option maxHeartbeats 4000000 in
theorem X_propagateXors_p {C : Ctx} {top : Nat} {a : Nat} {H : List (Nat × Nat × Rec)} {res : Int32 × Rec} {NF : Nat} (ob : Rec) (hf : X_propagateXors NF ob = some res) : Runs C B18 0 0 0 [vr a, vn, vn, vn] [] (top, (a, 17, ob) :: H) (Ans (some (.int res.1)) (top, (a, 17, res.2) :: H)) := by
  delta X_propagateXors at hf
  refine Runs.aloadN d18_0 rfl <| ?_
  refine bind_el hf fun q15 hg16 hf => ?_
  refine Runs.callP (N := B19) (W := 0) (as := []) (S' := []) d18_1 w152 w153 w154 rfl cw19 ar19 rk18_19_0 (by decide) rfl rfl (X_loadResidualRows_pay hg16) <| ans0 <| Runs.aloadN d18_4 rfl <| ?_
  refine bind_el hf fun q17 hg18 hf => ?_
  exact Runs.callP (N := B8) (W := 0) (as := []) (S' := []) d18_5 w95 w96 w97 rfl cw8 ar8 rk18_8_0 (by decide) rfl rfl (X_eliminate_pay hg18) <| ans0 <| Runs.iconst d18_8 ci_0 <| Runs.istoreN (P' := [vr a, vi (0 : Int32), vn, vn]) d18_9 (by decide) rfl <| X_propagateXors_l10_p NF q17 (0 : Int32) hf
theorem X_propagateXors_pay {C : Ctx} {top : Nat} {a : Nat} {H : List (Nat × Nat × Rec)} {res : Int32 × Rec} {NF : Nat} {ob : Rec} (hf : X_propagateXors NF ob = some res) : Pays C B18 [.ref a] (top, (a, 17, ob) :: H) (Ans (some (.int res.1)) (top, (a, 17, res.2) :: H)) :=
  Pays.of pnK (Nat.le_of_ble_eq_true rfl) (P := [vr a, vn, vn, vn]) 3 rfl (X_propagateXors_p ob hf)
def X_propagate_w2 (NF : Nat) (k2 : Rec → Int32 → Option (Int32 × Rec)) (ob : Rec) (i1 : Int32) : Option (Int32 × Rec) :=
  if i1 < (14 : Int32) then
    bind2 (X_propagateClauses NF ob) fun r2 q3 =>
    if r2 = (0 : Int32) then
      some ((0 : Int32), q3)
    else
      bind2 (X_propagateXors NF q3) fun r6 q7 =>
      if r6 = (0 : Int32) then
        some ((0 : Int32), q7)
      else
        if (gI q7 15) = (gI ob 15) then
          some ((1 : Int32), q7)
        else
          k2 q7 (i1 + (1 : Int32))
  else
    some ((1 : Int32), ob)
def X_propagate_l2 (NF : Nat) : Nat → Rec → Int32 → Option (Int32 × Rec)
  | 0, _, _ => none
  | n + 1, ob, i1 => X_propagate_w2 NF (X_propagate_l2 NF n) ob i1
set_option maxRecDepth 65536 in
set_option maxHeartbeats 4000000 in
theorem X_propagate_w2_p {C : Ctx} {top : Nat} {a : Nat} {H : List (Nat × Nat × Rec)} {res : Int32 × Rec} {NF : Nat} (k2 : Rec → Int32 → Option (Int32 × Rec)) (hk2 : ∀ (ob : Rec) (i1 : Int32), k2 ob i1 = some res → Runs C B16 0 0 2 [vr a, vi i1, vn] [] (top, (a, 17, ob) :: H) (Ans (some (.int res.1)) (top, (a, 17, res.2) :: H))) (ob : Rec) (i1 : Int32) (hf : X_propagate_w2 NF k2 ob i1 = some res) : Runs C B16 0 0 2 [vr a, vi i1, vn] [] (top, (a, 17, ob) :: H) (Ans (some (.int res.1)) (top, (a, 17, res.2) :: H)) := by
  delta X_propagate_w2 at hf
  refine Runs.iloadN d16_2 rfl <| Runs.bipush d16_3 cb_14 <| ?_
  refine ite_el hf (fun hc1 hf => ?_) (fun hc1 hf => ?_)
  · refine Runs.icN d16_5 (tlt hc1).2.1 <| ?_
    refine Runs.aloadN d16_8 rfl <| Runs.getI d16_9 w134 fS_15 <| Runs.istoreN (P' := [vr a, vi i1, vi (gI ob 15)]) d16_12 (by decide) rfl <| Runs.aloadN d16_13 rfl <| ?_
    refine bind2_el hf fun r2 q3 hg4 hf => ?_
    refine Runs.callP (N := B17) (W := 0) (as := []) (S' := []) d16_14 w144 w145 w146 rfl cw17 ar17 rk16_17_0 (by decide) rfl rfl (X_propagateClauses_pay hg4) <| ans1 <| ?_
    refine ite_el hf (fun hc5 hf => ?_) (fun hc5 hf => ?_)
    · refine Runs.ifN d16_17 (teq hc5).2 <| ?_
      obtain rfl := Option.some.inj hf
      exact Runs.iconst d16_20 ci_0 <| Runs.retZ (y := (0 : Int32)) d16_21 rfl ⟨by decide, by decide⟩ rfl ⟨rfl, rfl⟩
    · refine Runs.ifY (pc' := 22) d16_17 (feq hc5).2 (by decide) <| ?_
      refine Runs.aloadN d16_22 rfl <| ?_
      refine bind2_el hf fun r6 q7 hg8 hf => ?_
      refine Runs.callP (N := B18) (W := 0) (as := []) (S' := []) d16_23 w148 w149 w150 rfl cw18 ar18 rk16_18_0 (by decide) rfl rfl (X_propagateXors_pay hg8) <| ans1 <| ?_
      refine ite_el hf (fun hc9 hf => ?_) (fun hc9 hf => ?_)
      · refine Runs.ifN d16_26 (teq hc9).2 <| ?_
        obtain rfl := Option.some.inj hf
        exact Runs.iconst d16_29 ci_0 <| Runs.retZ (y := (0 : Int32)) d16_30 rfl ⟨by decide, by decide⟩ rfl ⟨rfl, rfl⟩
      · refine Runs.ifY (pc' := 31) d16_26 (feq hc9).2 (by decide) <| ?_
        refine Runs.aloadN d16_31 rfl <| Runs.getI d16_32 w134 fS_15 <| Runs.iloadN d16_35 rfl <| ?_
        refine ite_el hf (fun hc10 hf => ?_) (fun hc10 hf => ?_)
        · refine Runs.icN d16_36 (teq hc10).2 <| ?_
          obtain rfl := Option.some.inj hf
          exact Runs.iconst d16_39 ci_1 <| Runs.retZ (y := (1 : Int32)) d16_40 rfl ⟨by decide, by decide⟩ rfl ⟨rfl, rfl⟩
        · refine Runs.icY (pc' := 41) d16_36 (feq hc10).2 (by decide) <| ?_
          exact Runs.iinc (P' := [vr a, vi (i1 + (1 : Int32)), vi (gI ob 15)]) d16_41 ci_1 rfl (by decide) rfl <| Runs.goto (pc' := 2) d16_44 (by decide) <| Runs.forget [true, true, false] rfl <| hk2 q7 (i1 + (1 : Int32)) hf
  · refine Runs.icY (pc' := 47) d16_5 (flt hc1).2.1 (by decide) <| ?_
    obtain rfl := Option.some.inj hf
    exact Runs.iconst d16_47 ci_1 <| Runs.retZ (y := (1 : Int32)) d16_48 rfl ⟨by decide, by decide⟩ rfl ⟨rfl, rfl⟩
theorem X_propagate_l2_p {C : Ctx} {top : Nat} {a : Nat} {H : List (Nat × Nat × Rec)} {res : Int32 × Rec} {NF : Nat} (n : Nat) (ob : Rec) (i1 : Int32) (hf : X_propagate_l2 NF n ob i1 = some res) : Runs C B16 0 0 2 [vr a, vi i1, vn] [] (top, (a, 17, ob) :: H) (Ans (some (.int res.1)) (top, (a, 17, res.2) :: H)) := by
  induction n generalizing ob i1 with
  | zero => cases (show (none : Option (Int32 × Rec)) = some res from hf)
  | succ n ih => exact X_propagate_w2_p (X_propagate_l2 NF n) (fun ob i1 h => ih _ _ h) ob i1 hf
def X_propagate (NF : Nat) (ob : Rec) : Option (Int32 × Rec) :=
  X_propagate_l2 NF NF ob (0 : Int32)
set_option maxRecDepth 65536 in
set_option maxHeartbeats 4000000 in
theorem X_propagate_p {C : Ctx} {top : Nat} {a : Nat} {H : List (Nat × Nat × Rec)} {res : Int32 × Rec} {NF : Nat} (ob : Rec) (hf : X_propagate NF ob = some res) : Runs C B16 0 0 0 [vr a, vn, vn] [] (top, (a, 17, ob) :: H) (Ans (some (.int res.1)) (top, (a, 17, res.2) :: H)) := by
  delta X_propagate at hf
  exact Runs.iconst d16_0 ci_0 <| Runs.istoreN (P' := [vr a, vi (0 : Int32), vn]) d16_1 (by decide) rfl <| X_propagate_l2_p NF ob (0 : Int32) hf
theorem X_propagate_pay {C : Ctx} {top : Nat} {a : Nat} {H : List (Nat × Nat × Rec)} {res : Int32 × Rec} {NF : Nat} {ob : Rec} (hf : X_propagate NF ob = some res) : Pays C B16 [.ref a] (top, (a, 17, ob) :: H) (Ans (some (.int res.1)) (top, (a, 17, res.2) :: H)) :=
  Pays.of pnK (Nat.le_of_ble_eq_true rfl) (P := [vr a, vn, vn]) 2 rfl (X_propagate_p ob hf)
def X_undoTo_w2 (NF : Nat) (k2 : Rec → Int32 → Int32 → Option (Rec)) (ob : Rec) (i1 : Int32) (i2 : Int32) : Option (Rec) :=
  if i2 < (12 : Int32) then
    if i1 < (gI ob 15) then
      if (0 : Int32) < (gI ob 15) then
        chk (12 : Int32) ((gI ob 15) - (1 : Int32)) <|
        k2 (sI (sI (sI ob 15 ((gI ob 15) - (1 : Int32))) 13 ((gI ob 13) &&& (((1 : Int32) <<< ((gA ob 13 ((gI ob 15) - (1 : Int32))) &&& 31)) ^^^ (-1 : Int32)))) 14 ((gI ob 14) &&& (((1 : Int32) <<< ((gA ob 13 ((gI ob 15) - (1 : Int32))) &&& 31)) ^^^ (-1 : Int32)))) i1 (i2 + (1 : Int32))
      else
        some ob
    else
      some ob
  else
    some ob
def X_undoTo_l2 (NF : Nat) : Nat → Rec → Int32 → Int32 → Option (Rec)
  | 0, _, _, _ => none
  | n + 1, ob, i1, i2 => X_undoTo_w2 NF (X_undoTo_l2 NF n) ob i1 i2
set_option maxRecDepth 65536 in
set_option maxHeartbeats 4000000 in
theorem X_undoTo_w2_p {C : Ctx} {top : Nat} {a : Nat} {H : List (Nat × Nat × Rec)} {res : Rec} {NF : Nat} (k2 : Rec → Int32 → Int32 → Option (Rec)) (hk2 : ∀ (ob : Rec) (i1 : Int32) (i2 : Int32), k2 ob i1 i2 = some res → Runs C B45 0 0 2 [vr a, vi i1, vi i2, vn, vn] [] (top, (a, 17, ob) :: H) (Ans none (top, (a, 17, res) :: H))) (ob : Rec) (i1 : Int32) (i2 : Int32) (hf : X_undoTo_w2 NF k2 ob i1 i2 = some res) : Runs C B45 0 0 2 [vr a, vi i1, vi i2, vn, vn] [] (top, (a, 17, ob) :: H) (Ans none (top, (a, 17, res) :: H)) := by
  delta X_undoTo_w2 at hf
  refine Runs.iloadN d45_2 rfl <| Runs.bipush d45_3 cb_12 <| ?_
  refine ite_el hf (fun hc1 hf => ?_) (fun hc1 hf => ?_)
  · refine Runs.icN d45_5 (tlt hc1).2.1 <| ?_
    refine Runs.aloadN d45_8 rfl <| Runs.getI d45_9 w134 fS_15 <| Runs.iloadN d45_12 rfl <| ?_
    refine ite_el hf (fun hc2 hf => ?_) (fun hc2 hf => ?_)
    · refine Runs.icN d45_13 (tlt hc2).2.2.2 <| ?_
      refine Runs.aloadN d45_16 rfl <| Runs.getI d45_17 w134 fS_15 <| ?_
      refine ite_el hf (fun hc3 hf => ?_) (fun hc3 hf => ?_)
      · refine Runs.ifN d45_20 (tlt hc3).2.2.2 <| ?_
        refine Runs.aloadN d45_23 rfl <| Runs.dup d45_24 rfl <| Runs.getI d45_25 w134 fS_15 <| Runs.iconst d45_28 ci_1 <| Runs.isub d45_29 <| Runs.putI d45_30 w134 fS_15 (Or.inl w135) <| Runs.aloadN d45_33 rfl <| Runs.getA d45_34 fA_13 w41 (by decide) <| Runs.aloadN d45_37 rfl <| Runs.getI d45_38 w134 fS_15 <| ?_
        refine chk_el hf fun hi4 hf => ?_
        refine Runs.ialoadA d45_41 fA_13 (by decide) hi4 <| Runs.istoreN (P' := [vr a, vi i1, vi i2, vi (gA ob 13 ((gI ob 15) - (1 : Int32))), vn]) d45_42 (by decide) rfl <| Runs.iconst d45_43 ci_1 <| Runs.iloadN d45_44 rfl <| Runs.ishl d45_45 <| Runs.istore (P' := [vr a, vi i1, vi i2, vi (gA ob 13 ((gI ob 15) - (1 : Int32))), vi ((1 : Int32) <<< ((gA ob 13 ((gI ob 15) - (1 : Int32))) &&& 31))]) d45_46 (by decide) rfl <| Runs.aloadN d45_48 rfl <| Runs.dup d45_49 rfl <| Runs.getI d45_50 w130 fS_13 <| Runs.iload d45_53 rfl <| Runs.iconst d45_55 ci_m1 <| Runs.ixor d45_56 <| ?_
        refine Runs.iand d45_57 <| Runs.putI d45_58 w130 fS_13 (Or.inl w131) <| Runs.aloadN d45_61 rfl <| Runs.dup d45_62 rfl <| Runs.getI d45_63 w132 fS_14 <| Runs.iload d45_66 rfl <| Runs.iconst d45_68 ci_m1 <| Runs.ixor d45_69 <| Runs.iand d45_70 <| Runs.putI d45_71 w132 fS_14 (Or.inl w133) <| Runs.iinc (P' := [vr a, vi i1, vi (i2 + (1 : Int32)), vi (gA ob 13 ((gI ob 15) - (1 : Int32))), vi ((1 : Int32) <<< ((gA ob 13 ((gI ob 15) - (1 : Int32))) &&& 31))]) d45_74 ci_1 rfl (by decide) rfl <| Runs.goto (pc' := 2) d45_77 (by decide) <| ?_
        exact Runs.forget [true, true, true, false, false] rfl <| hk2 (sI (sI (sI ob 15 ((gI ob 15) - (1 : Int32))) 13 ((gI ob 13) &&& (((1 : Int32) <<< ((gA ob 13 ((gI ob 15) - (1 : Int32))) &&& 31)) ^^^ (-1 : Int32)))) 14 ((gI ob 14) &&& (((1 : Int32) <<< ((gA ob 13 ((gI ob 15) - (1 : Int32))) &&& 31)) ^^^ (-1 : Int32)))) i1 (i2 + (1 : Int32)) hf
      · refine Runs.ifY (pc' := 80) d45_20 (flt hc3).2.2.2 (by decide) <| ?_
        obtain rfl := Option.some.inj hf
        exact Runs.retV d45_80 rfl ⟨by decide, by decide⟩ ⟨rfl, rfl⟩
    · refine Runs.icY (pc' := 80) d45_13 (flt hc2).2.2.2 (by decide) <| ?_
      obtain rfl := Option.some.inj hf
      exact Runs.retV d45_80 rfl ⟨by decide, by decide⟩ ⟨rfl, rfl⟩
  · refine Runs.icY (pc' := 80) d45_5 (flt hc1).2.1 (by decide) <| ?_
    obtain rfl := Option.some.inj hf
    exact Runs.retV d45_80 rfl ⟨by decide, by decide⟩ ⟨rfl, rfl⟩
theorem X_undoTo_l2_p {C : Ctx} {top : Nat} {a : Nat} {H : List (Nat × Nat × Rec)} {res : Rec} {NF : Nat} (n : Nat) (ob : Rec) (i1 : Int32) (i2 : Int32) (hf : X_undoTo_l2 NF n ob i1 i2 = some res) : Runs C B45 0 0 2 [vr a, vi i1, vi i2, vn, vn] [] (top, (a, 17, ob) :: H) (Ans none (top, (a, 17, res) :: H)) := by
  induction n generalizing ob i1 i2 with
  | zero => cases (show (none : Option (Rec)) = some res from hf)
  | succ n ih => exact X_undoTo_w2_p (X_undoTo_l2 NF n) (fun ob i1 i2 h => ih _ _ _ h) ob i1 i2 hf
def X_undoTo (NF : Nat) (ob : Rec) (i1 : Int32) : Option (Rec) :=
  X_undoTo_l2 NF NF ob i1 (0 : Int32)
set_option maxRecDepth 65536 in
set_option maxHeartbeats 4000000 in
theorem X_undoTo_p {C : Ctx} {top : Nat} {a : Nat} {H : List (Nat × Nat × Rec)} {res : Rec} {NF : Nat} (ob : Rec) (i1 : Int32) (hf : X_undoTo NF ob i1 = some res) : Runs C B45 0 0 0 [vr a, vi i1, vn, vn, vn] [] (top, (a, 17, ob) :: H) (Ans none (top, (a, 17, res) :: H)) := by
  delta X_undoTo at hf
  exact Runs.iconst d45_0 ci_0 <| Runs.istoreN (P' := [vr a, vi i1, vi (0 : Int32), vn, vn]) d45_1 (by decide) rfl <| X_undoTo_l2_p NF ob i1 (0 : Int32) hf
theorem X_undoTo_pay {C : Ctx} {top : Nat} {a : Nat} {H : List (Nat × Nat × Rec)} {res : Rec} {NF : Nat} {ob : Rec} {i1 : Int32} (hf : X_undoTo NF ob i1 = some res) : Pays C B45 [.ref a, .int i1] (top, (a, 17, ob) :: H) (Ans none (top, (a, 17, res) :: H)) :=
  Pays.of pnK (Nat.le_of_ble_eq_true rfl) (P := [vr a, vi i1, vn, vn, vn]) 3 rfl (X_undoTo_p ob i1 hf)
def X_backtrack_w2 (NF : Nat) (k2 : Rec → Int32 → Option (Int32 × Rec)) (ob : Rec) (i1 : Int32) : Option (Int32 × Rec) :=
  if i1 < (14 : Int32) then
    if (0 : Int32) < (gI ob 16) then
      if (13 : Int32) < (gI ob 16) then
        some ((0 : Int32), ob)
      else
        chk (13 : Int32) ((gI ob 16) - (1 : Int32)) <|
        (X_undoTo NF ob (gA ob 15 ((gI ob 16) - (1 : Int32)))).bind fun q5 =>
        chk (13 : Int32) ((gI ob 16) - (1 : Int32)) <|
        if (gA q5 16 ((gI ob 16) - (1 : Int32))) = (0 : Int32) then
          chk (13 : Int32) ((gI ob 16) - (1 : Int32)) <|
          chk (13 : Int32) ((gI ob 16) - (1 : Int32)) <|
          (X_assign (sA q5 16 ((gI ob 16) - (1 : Int32)) (1 : Int32)) (gA q5 14 ((gI ob 16) - (1 : Int32))) (1 : Int32)).bind fun q11 =>
          some ((1 : Int32), q11)
        else
          k2 (sI q5 16 ((gI q5 16) - (1 : Int32))) (i1 + (1 : Int32))
    else
      some ((0 : Int32), ob)
  else
    some ((0 : Int32), ob)
def X_backtrack_l2 (NF : Nat) : Nat → Rec → Int32 → Option (Int32 × Rec)
  | 0, _, _ => none
  | n + 1, ob, i1 => X_backtrack_w2 NF (X_backtrack_l2 NF n) ob i1
set_option maxRecDepth 65536 in
set_option maxHeartbeats 4000000 in
theorem X_backtrack_w2_p {C : Ctx} {top : Nat} {a : Nat} {H : List (Nat × Nat × Rec)} {res : Int32 × Rec} {NF : Nat} (k2 : Rec → Int32 → Option (Int32 × Rec)) (hk2 : ∀ (ob : Rec) (i1 : Int32), k2 ob i1 = some res → Runs C B34 0 0 2 [vr a, vi i1, vn] [] (top, (a, 17, ob) :: H) (Ans (some (.int res.1)) (top, (a, 17, res.2) :: H))) (ob : Rec) (i1 : Int32) (hf : X_backtrack_w2 NF k2 ob i1 = some res) : Runs C B34 0 0 2 [vr a, vi i1, vn] [] (top, (a, 17, ob) :: H) (Ans (some (.int res.1)) (top, (a, 17, res.2) :: H)) := by
  delta X_backtrack_w2 at hf
  refine Runs.iloadN d34_2 rfl <| Runs.bipush d34_3 cb_14 <| ?_
  refine ite_el hf (fun hc1 hf => ?_) (fun hc1 hf => ?_)
  · refine Runs.icN d34_5 (tlt hc1).2.1 <| ?_
    refine Runs.aloadN d34_8 rfl <| Runs.getI d34_9 w136 fS_16 <| ?_
    refine ite_el hf (fun hc2 hf => ?_) (fun hc2 hf => ?_)
    · refine Runs.ifN d34_12 (tlt hc2).2.2.2 <| ?_
      refine Runs.aloadN d34_15 rfl <| Runs.getI d34_16 w136 fS_16 <| Runs.bipush d34_19 cb_13 <| ?_
      refine ite_el hf (fun hc3 hf => ?_) (fun hc3 hf => ?_)
      · refine Runs.icN d34_21 (tlt hc3).2.2.2 <| ?_
        obtain rfl := Option.some.inj hf
        exact Runs.iconst d34_24 ci_0 <| Runs.retZ (y := (0 : Int32)) d34_25 rfl ⟨by decide, by decide⟩ rfl ⟨rfl, rfl⟩
      · refine Runs.icY (pc' := 26) d34_21 (flt hc3).2.2.2 (by decide) <| ?_
        refine Runs.aloadN d34_26 rfl <| Runs.getI d34_27 w136 fS_16 <| Runs.iconst d34_30 ci_1 <| Runs.isub d34_31 <| Runs.istoreN (P' := [vr a, vi i1, vi ((gI ob 16) - (1 : Int32))]) d34_32 (by decide) rfl <| Runs.aloadN d34_33 rfl <| Runs.aloadN d34_34 rfl <| Runs.getA d34_35 fA_15 w45 (by decide) <| Runs.iloadN d34_38 rfl <| ?_
        refine chk_el hf fun hi4 hf => ?_
        refine Runs.ialoadA d34_39 fA_15 (by decide) hi4 <| ?_
        refine bind_el hf fun q5 hg6 hf => ?_
        refine Runs.callP (N := B45) (W := 0) (as := [.int (gA ob 15 ((gI ob 16) - (1 : Int32)))]) (S' := []) d34_40 w264 w265 w266 rfl cw45 ar45 rk34_45_0 (by decide) rfl rfl (X_undoTo_pay hg6) <| ans0 <| Runs.aloadN d34_43 rfl <| Runs.getA d34_44 fA_16 w47 (by decide) <| Runs.iloadN d34_47 rfl <| ?_
        refine chk_el hf fun hi7 hf => ?_
        refine Runs.baloadA d34_48 fA_16 (by decide) hi7 <| ?_
        refine ite_el hf (fun hc8 hf => ?_) (fun hc8 hf => ?_)
        · refine Runs.ifN d34_49 (teq hc8).2 <| ?_
          refine Runs.aloadN d34_52 rfl <| Runs.getA d34_53 fA_16 w47 (by decide) <| Runs.iloadN d34_56 rfl <| Runs.iconst d34_57 ci_1 <| ?_
          refine chk_el hf fun hi9 hf => ?_
          refine Runs.bastoreA (y := (1 : Int32)) d34_58 fA_16 (by decide) hi9 rfl <| Runs.aloadN d34_59 rfl <| Runs.aloadN d34_60 rfl <| Runs.getA d34_61 fA_14 w43 (by decide) <| Runs.iloadN d34_64 rfl <| ?_
          refine chk_el hf fun hi10 hf => ?_
          refine Runs.ialoadA d34_65 fA_14 (by decide) hi10 <| Runs.iconst d34_66 ci_1 <| ?_
          refine bind_el hf fun q11 hg12 hf => ?_
          obtain rfl := Option.some.inj hf
          exact Runs.callP (N := B22) (W := 0) (as := [.int (gA q5 14 ((gI ob 16) - (1 : Int32))), .int (1 : Int32)]) (S' := []) d34_67 w164 w165 w166 rfl cw22 ar22 rk34_22_0 (by decide) rfl rfl (X_assign_pay hg12) <| ans0 <| Runs.iconst d34_70 ci_1 <| Runs.retZ (y := (1 : Int32)) d34_71 rfl ⟨by decide, by decide⟩ rfl ⟨rfl, rfl⟩
        · refine Runs.ifY (pc' := 72) d34_49 (feq hc8).2 (by decide) <| ?_
          exact Runs.aloadN d34_72 rfl <| Runs.dup d34_73 rfl <| Runs.getI d34_74 w136 fS_16 <| Runs.iconst d34_77 ci_1 <| Runs.isub d34_78 <| Runs.putI d34_79 w136 fS_16 (Or.inl w137) <| Runs.iinc (P' := [vr a, vi (i1 + (1 : Int32)), vi ((gI ob 16) - (1 : Int32))]) d34_82 ci_1 rfl (by decide) rfl <| Runs.goto (pc' := 2) d34_85 (by decide) <| Runs.forget [true, true, false] rfl <| hk2 (sI q5 16 ((gI q5 16) - (1 : Int32))) (i1 + (1 : Int32)) hf
    · refine Runs.ifY (pc' := 24) d34_12 (flt hc2).2.2.2 (by decide) <| ?_
      obtain rfl := Option.some.inj hf
      exact Runs.iconst d34_24 ci_0 <| Runs.retZ (y := (0 : Int32)) d34_25 rfl ⟨by decide, by decide⟩ rfl ⟨rfl, rfl⟩
  · refine Runs.icY (pc' := 88) d34_5 (flt hc1).2.1 (by decide) <| ?_
    obtain rfl := Option.some.inj hf
    exact Runs.iconst d34_88 ci_0 <| Runs.retZ (y := (0 : Int32)) d34_89 rfl ⟨by decide, by decide⟩ rfl ⟨rfl, rfl⟩
theorem X_backtrack_l2_p {C : Ctx} {top : Nat} {a : Nat} {H : List (Nat × Nat × Rec)} {res : Int32 × Rec} {NF : Nat} (n : Nat) (ob : Rec) (i1 : Int32) (hf : X_backtrack_l2 NF n ob i1 = some res) : Runs C B34 0 0 2 [vr a, vi i1, vn] [] (top, (a, 17, ob) :: H) (Ans (some (.int res.1)) (top, (a, 17, res.2) :: H)) := by
  induction n generalizing ob i1 with
  | zero => cases (show (none : Option (Int32 × Rec)) = some res from hf)
  | succ n ih => exact X_backtrack_w2_p (X_backtrack_l2 NF n) (fun ob i1 h => ih _ _ h) ob i1 hf
def X_backtrack (NF : Nat) (ob : Rec) : Option (Int32 × Rec) :=
  X_backtrack_l2 NF NF ob (0 : Int32)
set_option maxRecDepth 65536 in
set_option maxHeartbeats 4000000 in
theorem X_backtrack_p {C : Ctx} {top : Nat} {a : Nat} {H : List (Nat × Nat × Rec)} {res : Int32 × Rec} {NF : Nat} (ob : Rec) (hf : X_backtrack NF ob = some res) : Runs C B34 0 0 0 [vr a, vn, vn] [] (top, (a, 17, ob) :: H) (Ans (some (.int res.1)) (top, (a, 17, res.2) :: H)) := by
  delta X_backtrack at hf
  exact Runs.iconst d34_0 ci_0 <| Runs.istoreN (P' := [vr a, vi (0 : Int32), vn]) d34_1 (by decide) rfl <| X_backtrack_l2_p NF ob (0 : Int32) hf
theorem X_backtrack_pay {C : Ctx} {top : Nat} {a : Nat} {H : List (Nat × Nat × Rec)} {res : Int32 × Rec} {NF : Nat} {ob : Rec} (hf : X_backtrack NF ob = some res) : Pays C B34 [.ref a] (top, (a, 17, ob) :: H) (Ans (some (.int res.1)) (top, (a, 17, res.2) :: H)) :=
  Pays.of pnK (Nat.le_of_ble_eq_true rfl) (P := [vr a, vn, vn]) 2 rfl (X_backtrack_p ob hf)
def X_lowestUnassigned_w2 (NF : Nat) (ob : Rec) (k2 : Int32 → Option (Int32)) (i1 : Int32) : Option (Int32) :=
  if i1 < (gI ob 0) then
    if i1 < (12 : Int32) then
      if ((((gI ob 13).toUInt32 >>> (i1 &&& 31).toUInt32).toInt32) &&& (1 : Int32)) = (0 : Int32) then
        some i1
      else
        k2 (i1 + (1 : Int32))
    else
      some (-1 : Int32)
  else
    some (-1 : Int32)
def X_lowestUnassigned_l2 (NF : Nat) (ob : Rec) : Nat → Int32 → Option (Int32)
  | 0, _ => none
  | n + 1, i1 => X_lowestUnassigned_w2 NF ob (X_lowestUnassigned_l2 NF ob n) i1
set_option maxRecDepth 65536 in
set_option maxHeartbeats 4000000 in
theorem X_lowestUnassigned_w2_p {C : Ctx} {top : Nat} {a : Nat} {H : List (Nat × Nat × Rec)} {ob : Rec} {res : Int32} {NF : Nat} (k2 : Int32 → Option (Int32)) (hk2 : ∀ (i1 : Int32), k2 i1 = some res → Runs C B21 0 0 2 [vr a, vi i1] [] (top, (a, 17, ob) :: H) (Ans (some (.int res)) (top, (a, 17, ob) :: H))) (i1 : Int32) (hf : X_lowestUnassigned_w2 NF ob k2 i1 = some res) : Runs C B21 0 0 2 [vr a, vi i1] [] (top, (a, 17, ob) :: H) (Ans (some (.int res)) (top, (a, 17, ob) :: H)) := by
  delta X_lowestUnassigned_w2 at hf
  refine Runs.iloadN d21_2 rfl <| Runs.aloadN d21_3 rfl <| Runs.getI d21_4 w49 fS_0 <| ?_
  refine ite_el hf (fun hc1 hf => ?_) (fun hc1 hf => ?_)
  · refine Runs.icN d21_7 (tlt hc1).2.1 <| ?_
    refine Runs.iloadN d21_10 rfl <| Runs.bipush d21_11 cb_12 <| ?_
    refine ite_el hf (fun hc2 hf => ?_) (fun hc2 hf => ?_)
    · refine Runs.icN d21_13 (tlt hc2).2.1 <| ?_
      refine Runs.aloadN d21_16 rfl <| Runs.getI d21_17 w130 fS_13 <| Runs.iloadN d21_20 rfl <| Runs.iushr d21_21 <| Runs.iconst d21_22 ci_1 <| Runs.iand d21_23 <| ?_
      refine ite_el hf (fun hc3 hf => ?_) (fun hc3 hf => ?_)
      · refine Runs.ifN d21_24 (teq hc3).2 <| ?_
        obtain rfl := Option.some.inj hf
        exact Runs.iloadN d21_27 rfl <| Runs.retI d21_28 rfl ⟨by decide, by decide⟩ ⟨rfl, rfl⟩
      · refine Runs.ifY (pc' := 29) d21_24 (feq hc3).2 (by decide) <| ?_
        exact Runs.iinc (P' := [vr a, vi (i1 + (1 : Int32))]) d21_29 ci_1 rfl (by decide) rfl <| Runs.goto (pc' := 2) d21_32 (by decide) <| hk2 (i1 + (1 : Int32)) hf
    · refine Runs.icY (pc' := 35) d21_13 (flt hc2).2.1 (by decide) <| ?_
      obtain rfl := Option.some.inj hf
      exact Runs.iconst d21_35 ci_m1 <| Runs.retI d21_36 rfl ⟨by decide, by decide⟩ ⟨rfl, rfl⟩
  · refine Runs.icY (pc' := 35) d21_7 (flt hc1).2.1 (by decide) <| ?_
    obtain rfl := Option.some.inj hf
    exact Runs.iconst d21_35 ci_m1 <| Runs.retI d21_36 rfl ⟨by decide, by decide⟩ ⟨rfl, rfl⟩
theorem X_lowestUnassigned_l2_p {C : Ctx} {top : Nat} {a : Nat} {H : List (Nat × Nat × Rec)} {ob : Rec} {res : Int32} {NF : Nat} (n : Nat) (i1 : Int32) (hf : X_lowestUnassigned_l2 NF ob n i1 = some res) : Runs C B21 0 0 2 [vr a, vi i1] [] (top, (a, 17, ob) :: H) (Ans (some (.int res)) (top, (a, 17, ob) :: H)) := by
  induction n generalizing i1 with
  | zero => cases (show (none : Option (Int32)) = some res from hf)
  | succ n ih => exact X_lowestUnassigned_w2_p (X_lowestUnassigned_l2 NF ob n) (fun i1 h => ih _ h) i1 hf
def X_lowestUnassigned (NF : Nat) (ob : Rec) : Option (Int32) :=
  X_lowestUnassigned_l2 NF ob NF (0 : Int32)
set_option maxRecDepth 65536 in
set_option maxHeartbeats 4000000 in
theorem X_lowestUnassigned_p {C : Ctx} {top : Nat} {a : Nat} {H : List (Nat × Nat × Rec)} {ob : Rec} {res : Int32} {NF : Nat} (hf : X_lowestUnassigned NF ob = some res) : Runs C B21 0 0 0 [vr a, vn] [] (top, (a, 17, ob) :: H) (Ans (some (.int res)) (top, (a, 17, ob) :: H)) := by
  delta X_lowestUnassigned at hf
  exact Runs.iconst d21_0 ci_0 <| Runs.istoreN (P' := [vr a, vi (0 : Int32)]) d21_1 (by decide) rfl <| X_lowestUnassigned_l2_p NF (0 : Int32) hf
theorem X_lowestUnassigned_pay {C : Ctx} {top : Nat} {a : Nat} {H : List (Nat × Nat × Rec)} {ob : Rec} {res : Int32} {NF : Nat} (hf : X_lowestUnassigned NF ob = some res) : Pays C B21 [.ref a] (top, (a, 17, ob) :: H) (Ans (some (.int res)) (top, (a, 17, ob) :: H)) :=
  Pays.of pnK (Nat.le_of_ble_eq_true rfl) (P := [vr a, vn]) 1 rfl (X_lowestUnassigned_p hf)
def X_decide (NF : Nat) (ob : Rec) : Option (Rec) :=
  (X_lowestUnassigned NF ob).bind fun r1 =>
  if r1 < (0 : Int32) then
    some ob
  else
    if (gI ob 16) < (0 : Int32) then
      some ob
    else
      if (gI ob 16) < (13 : Int32) then
        chk (13 : Int32) (gI ob 16) <|
        chk (13 : Int32) (gI ob 16) <|
        chk (13 : Int32) (gI ob 16) <|
        (X_assign (sI (sA (sA (sA ob 15 (gI ob 16) (gI ob 15)) 14 (gI ob 16) r1) 16 (gI ob 16) (0 : Int32)) 16 ((gI ob 16) + (1 : Int32))) r1 (0 : Int32)).bind fun q9 =>
        some q9
      else
        some ob
set_option maxRecDepth 65536 in
set_option maxHeartbeats 4000000 in
theorem X_decide_p {C : Ctx} {top : Nat} {a : Nat} {H : List (Nat × Nat × Rec)} {res : Rec} {NF : Nat} (ob : Rec) (hf : X_decide NF ob = some res) : Runs C B20 0 0 0 [vr a, vn] [] (top, (a, 17, ob) :: H) (Ans none (top, (a, 17, res) :: H)) := by
  delta X_decide at hf
  refine Runs.aloadN d20_0 rfl <| ?_
  refine bind_el hf fun r1 hg2 hf => ?_
  refine Runs.callP (N := B21) (W := 0) (as := []) (S' := []) d20_1 w160 w161 w162 rfl cw21 ar21 rk20_21_0 (by decide) rfl rfl (X_lowestUnassigned_pay hg2) <| ans1 <| Runs.istoreN (P' := [vr a, vi r1]) d20_4 (by decide) rfl <| Runs.iloadN d20_5 rfl <| ?_
  refine ite_el hf (fun hc3 hf => ?_) (fun hc3 hf => ?_)
  · refine Runs.ifY (pc' := 25) d20_6 (tlt hc3).1 (by decide) <| ?_
    obtain rfl := Option.some.inj hf
    exact Runs.retV d20_25 rfl ⟨by decide, by decide⟩ ⟨rfl, rfl⟩
  · refine Runs.ifN d20_6 (flt hc3).1 <| ?_
    refine Runs.aloadN d20_9 rfl <| Runs.getI d20_10 w136 fS_16 <| ?_
    refine ite_el hf (fun hc4 hf => ?_) (fun hc4 hf => ?_)
    · refine Runs.ifY (pc' := 25) d20_13 (tlt hc4).1 (by decide) <| ?_
      obtain rfl := Option.some.inj hf
      exact Runs.retV d20_25 rfl ⟨by decide, by decide⟩ ⟨rfl, rfl⟩
    · refine Runs.ifN d20_13 (flt hc4).1 <| ?_
      refine Runs.aloadN d20_16 rfl <| Runs.getI d20_17 w136 fS_16 <| Runs.bipush d20_20 cb_13 <| ?_
      refine ite_el hf (fun hc5 hf => ?_) (fun hc5 hf => ?_)
      · refine Runs.icY (pc' := 26) d20_22 (tlt hc5).1 (by decide) <| ?_
        refine Runs.aloadN d20_26 rfl <| Runs.getA d20_27 fA_15 w45 (by decide) <| Runs.aloadN d20_30 rfl <| Runs.getI d20_31 w136 fS_16 <| Runs.aloadN d20_34 rfl <| Runs.getI d20_35 w134 fS_15 <| ?_
        refine chk_el hf fun hi6 hf => ?_
        refine Runs.iastoreA d20_38 fA_15 (by decide) hi6 <| Runs.aloadN d20_39 rfl <| Runs.getA d20_40 fA_14 w43 (by decide) <| Runs.aloadN d20_43 rfl <| Runs.getI d20_44 w136 fS_16 <| Runs.iloadN d20_47 rfl <| ?_
        refine chk_el hf fun hi7 hf => ?_
        refine Runs.iastoreA d20_48 fA_14 (by decide) hi7 <| Runs.aloadN d20_49 rfl <| Runs.getA d20_50 fA_16 w47 (by decide) <| Runs.aloadN d20_53 rfl <| Runs.getI d20_54 w136 fS_16 <| Runs.iconst d20_57 ci_0 <| ?_
        refine chk_el hf fun hi8 hf => ?_
        refine Runs.bastoreA (y := (0 : Int32)) d20_58 fA_16 (by decide) hi8 rfl <| Runs.aloadN d20_59 rfl <| Runs.dup d20_60 rfl <| Runs.getI d20_61 w136 fS_16 <| Runs.iconst d20_64 ci_1 <| Runs.iadd d20_65 <| Runs.putI d20_66 w136 fS_16 (Or.inl w137) <| Runs.aloadN d20_69 rfl <| Runs.iloadN d20_70 rfl <| Runs.iconst d20_71 ci_0 <| ?_
        refine bind_el hf fun q9 hg10 hf => ?_
        obtain rfl := Option.some.inj hf
        exact Runs.callP (N := B22) (W := 0) (as := [.int r1, .int (0 : Int32)]) (S' := []) d20_72 w164 w165 w166 rfl cw22 ar22 rk20_22_0 (by decide) rfl rfl (X_assign_pay hg10) <| ans0 <| Runs.retV d20_75 rfl ⟨by decide, by decide⟩ ⟨rfl, rfl⟩
      · refine Runs.icN d20_22 (flt hc5).1 <| ?_
        obtain rfl := Option.some.inj hf
        exact Runs.retV d20_25 rfl ⟨by decide, by decide⟩ ⟨rfl, rfl⟩
theorem X_decide_pay {C : Ctx} {top : Nat} {a : Nat} {H : List (Nat × Nat × Rec)} {res : Rec} {NF : Nat} {ob : Rec} (hf : X_decide NF ob = some res) : Pays C B20 [.ref a] (top, (a, 17, ob) :: H) (Ans none (top, (a, 17, res) :: H)) :=
  Pays.of pnK (Nat.le_of_ble_eq_true rfl) (P := [vr a, vn]) 1 rfl (X_decide_p ob hf)
def X_search_w29 (NF : Nat) (k29 : Rec → Int32 → Option (Int32 × Rec)) (ob : Rec) (i3 : Int32) : Option (Int32 × Rec) :=
  if i3 < (16384 : Int32) then
    bind2 (X_propagate NF ob) fun r2 q3 =>
    if r2 = (0 : Int32) then
      bind2 (X_backtrack NF q3) fun r6 q7 =>
      if r6 = (0 : Int32) then
        some ((0 : Int32), q7)
      else
        k29 q7 (i3 + (1 : Int32))
    else
      if (gI q3 13) = (gI q3 1) then
        (X_violations NF q3 (gI q3 14)).bind fun r11 =>
        if r11 = (0 : Int32) then
          some ((1 : Int32), (sI q3 17 ((gI q3 14) &&& (gI q3 1))))
        else
          bind2 (X_backtrack NF q3) fun r14 q15 =>
          if r14 = (0 : Int32) then
            some ((0 : Int32), q15)
          else
            k29 q15 (i3 + (1 : Int32))
      else
        (X_decide NF q3).bind fun q18 =>
        k29 q18 (i3 + (1 : Int32))
  else
    some ((0 : Int32), ob)
def X_search_l29 (NF : Nat) : Nat → Rec → Int32 → Option (Int32 × Rec)
  | 0, _, _ => none
  | n + 1, ob, i3 => X_search_w29 NF (X_search_l29 NF n) ob i3
set_option maxRecDepth 65536 in
set_option maxHeartbeats 4000000 in
theorem X_search_w29_p {C : Ctx} {top : Nat} {a : Nat} {H : List (Nat × Nat × Rec)} {res : Int32 × Rec} {NF : Nat} (k29 : Rec → Int32 → Option (Int32 × Rec)) (hk29 : ∀ (ob : Rec) (i3 : Int32), k29 ob i3 = some res → Runs C B14 0 0 29 [vr a, vn, vn, vi i3] [] (top, (a, 17, ob) :: H) (Ans (some (.int res.1)) (top, (a, 17, res.2) :: H))) (ob : Rec) (i3 : Int32) (hf : X_search_w29 NF k29 ob i3 = some res) : Runs C B14 0 0 29 [vr a, vn, vn, vi i3] [] (top, (a, 17, ob) :: H) (Ans (some (.int res.1)) (top, (a, 17, res.2) :: H)) := by
  delta X_search_w29 at hf
  refine Runs.iloadN d14_29 rfl <| Runs.sipush d14_30 cs_16384 <| ?_
  refine ite_el hf (fun hc1 hf => ?_) (fun hc1 hf => ?_)
  · refine Runs.icN d14_33 (tlt hc1).2.1 <| ?_
    refine Runs.aloadN d14_36 rfl <| ?_
    refine bind2_el hf fun r2 q3 hg4 hf => ?_
    refine Runs.callP (N := B16) (W := 0) (as := []) (S' := []) d14_37 w140 w141 w142 rfl cw16 ar16 rk14_16_0 (by decide) rfl rfl (X_propagate_pay hg4) <| ans1 <| ?_
    refine ite_el hf (fun hc5 hf => ?_) (fun hc5 hf => ?_)
    · refine Runs.ifN d14_40 (teq hc5).2 <| ?_
      refine Runs.aloadN d14_43 rfl <| ?_
      refine bind2_el hf fun r6 q7 hg8 hf => ?_
      refine Runs.callP (N := B34) (W := 0) (as := []) (S' := []) d14_44 w218 w219 w220 rfl cw34 ar34 rk14_34_0 (by decide) rfl rfl (X_backtrack_pay hg8) <| ans1 <| ?_
      refine ite_el hf (fun hc9 hf => ?_) (fun hc9 hf => ?_)
      · refine Runs.ifN d14_47 (teq hc9).2 <| ?_
        obtain rfl := Option.some.inj hf
        exact Runs.iconst d14_50 ci_0 <| Runs.retZ (y := (0 : Int32)) d14_51 rfl ⟨by decide, by decide⟩ rfl ⟨rfl, rfl⟩
      · refine Runs.ifY (pc' := 102) d14_47 (feq hc9).2 (by decide) <| ?_
        exact Runs.iinc (P' := [vr a, vn, vn, vi (i3 + (1 : Int32))]) d14_102 ci_1 rfl (by decide) rfl <| Runs.goto (pc' := 29) d14_105 (by decide) <| hk29 q7 (i3 + (1 : Int32)) hf
    · refine Runs.ifY (pc' := 52) d14_40 (feq hc5).2 (by decide) <| ?_
      refine Runs.aloadN d14_52 rfl <| Runs.getI d14_53 w130 fS_13 <| Runs.aloadN d14_56 rfl <| Runs.getI d14_57 w51 fS_1 <| ?_
      refine ite_el hf (fun hc10 hf => ?_) (fun hc10 hf => ?_)
      · refine Runs.icN d14_60 (teq hc10).2 <| ?_
        refine Runs.aloadN d14_63 rfl <| Runs.aloadN d14_64 rfl <| Runs.getI d14_65 w132 fS_14 <| ?_
        refine bind_el hf fun r11 hg12 hf => ?_
        refine Runs.callV (N := B4) (W := 0) (as := [.int (gI q3 14)]) (S' := []) d14_68 w168 w77 w78 w79 cw4 ar4 rk14_4_0 (by decide) rfl rfl (X_violations_pay hg12) <| ans1 <| ?_
        refine ite_el hf (fun hc13 hf => ?_) (fun hc13 hf => ?_)
        · refine Runs.ifN d14_71 (teq hc13).2 <| ?_
          obtain rfl := Option.some.inj hf
          exact Runs.aloadN d14_74 rfl <| Runs.aloadN d14_75 rfl <| Runs.getI d14_76 w132 fS_14 <| Runs.aloadN d14_79 rfl <| Runs.getI d14_80 w51 fS_1 <| Runs.iand d14_83 <| Runs.putI d14_84 w138 fS_17 (Or.inl w139) <| Runs.iconst d14_87 ci_1 <| Runs.retZ (y := (1 : Int32)) d14_88 rfl ⟨by decide, by decide⟩ rfl ⟨rfl, rfl⟩
        · refine Runs.ifY (pc' := 89) d14_71 (feq hc13).2 (by decide) <| ?_
          refine Runs.aloadN d14_89 rfl <| ?_
          refine bind2_el hf fun r14 q15 hg16 hf => ?_
          refine Runs.callP (N := B34) (W := 0) (as := []) (S' := []) d14_90 w218 w219 w220 rfl cw34 ar34 rk14_34_0 (by decide) rfl rfl (X_backtrack_pay hg16) <| ans1 <| ?_
          refine ite_el hf (fun hc17 hf => ?_) (fun hc17 hf => ?_)
          · refine Runs.ifN d14_93 (teq hc17).2 <| ?_
            obtain rfl := Option.some.inj hf
            exact Runs.iconst d14_96 ci_0 <| Runs.retZ (y := (0 : Int32)) d14_97 rfl ⟨by decide, by decide⟩ rfl ⟨rfl, rfl⟩
          · refine Runs.ifY (pc' := 102) d14_93 (feq hc17).2 (by decide) <| ?_
            exact Runs.iinc (P' := [vr a, vn, vn, vi (i3 + (1 : Int32))]) d14_102 ci_1 rfl (by decide) rfl <| Runs.goto (pc' := 29) d14_105 (by decide) <| hk29 q15 (i3 + (1 : Int32)) hf
      · refine Runs.icY (pc' := 98) d14_60 (feq hc10).2 (by decide) <| ?_
        refine Runs.aloadN d14_98 rfl <| ?_
        refine bind_el hf fun q18 hg19 hf => ?_
        exact Runs.callP (N := B20) (W := 0) (as := []) (S' := []) d14_99 w156 w157 w158 rfl cw20 ar20 rk14_20_0 (by decide) rfl rfl (X_decide_pay hg19) <| ans0 <| Runs.iinc (P' := [vr a, vn, vn, vi (i3 + (1 : Int32))]) d14_102 ci_1 rfl (by decide) rfl <| Runs.goto (pc' := 29) d14_105 (by decide) <| hk29 q18 (i3 + (1 : Int32)) hf
  · refine Runs.icY (pc' := 108) d14_33 (flt hc1).2.1 (by decide) <| ?_
    obtain rfl := Option.some.inj hf
    exact Runs.iconst d14_108 ci_0 <| Runs.retZ (y := (0 : Int32)) d14_109 rfl ⟨by decide, by decide⟩ rfl ⟨rfl, rfl⟩
theorem X_search_l29_p {C : Ctx} {top : Nat} {a : Nat} {H : List (Nat × Nat × Rec)} {res : Int32 × Rec} {NF : Nat} (n : Nat) (ob : Rec) (i3 : Int32) (hf : X_search_l29 NF n ob i3 = some res) : Runs C B14 0 0 29 [vr a, vn, vn, vi i3] [] (top, (a, 17, ob) :: H) (Ans (some (.int res.1)) (top, (a, 17, res.2) :: H)) := by
  induction n generalizing ob i3 with
  | zero => cases (show (none : Option (Int32 × Rec)) = some res from hf)
  | succ n ih => exact X_search_w29_p (X_search_l29 NF n) (fun ob i3 h => ih _ _ h) ob i3 hf
def X_search (NF : Nat) (ob : Rec) (i1 : Int32) (i2 : Int32) : Option (Int32 × Rec) :=
  (X_ensureEchelon NF ob).bind fun q20 =>
  if (gI q20 9) = (0 : Int32) then
    some ((0 : Int32), q20)
  else
    (X_resetSearch q20).bind fun q23 =>
    if i1 < (0 : Int32) then
      X_search_l29 NF NF q23 (0 : Int32)
    else
      (X_assign q23 i1 i2).bind fun q26 =>
      X_search_l29 NF NF q26 (0 : Int32)
set_option maxRecDepth 65536 in
set_option maxHeartbeats 4000000 in
theorem X_search_p {C : Ctx} {top : Nat} {a : Nat} {H : List (Nat × Nat × Rec)} {res : Int32 × Rec} {NF : Nat} (ob : Rec) (i1 : Int32) (i2 : Int32) (hf : X_search NF ob i1 i2 = some res) : Runs C B14 0 0 0 [vr a, vi i1, vi i2, vn] [] (top, (a, 17, ob) :: H) (Ans (some (.int res.1)) (top, (a, 17, res.2) :: H)) := by
  delta X_search at hf
  refine Runs.aloadN d14_0 rfl <| ?_
  refine bind_el hf fun q20 hg21 hf => ?_
  refine Runs.callP (N := B7) (W := 0) (as := []) (S' := []) d14_1 w89 w90 w91 rfl cw7 ar7 rk14_7_0 (by decide) rfl rfl (X_ensureEchelon_pay hg21) <| ans0 <| Runs.aloadN d14_4 rfl <| Runs.getI d14_5 w67 fS_9 <| ?_
  refine ite_el hf (fun hc22 hf => ?_) (fun hc22 hf => ?_)
  · refine Runs.ifN d14_8 (teq hc22).2 <| ?_
    obtain rfl := Option.some.inj hf
    exact Runs.iconst d14_11 ci_0 <| Runs.retZ (y := (0 : Int32)) d14_12 rfl ⟨by decide, by decide⟩ rfl ⟨rfl, rfl⟩
  · refine Runs.ifY (pc' := 13) d14_8 (feq hc22).2 (by decide) <| ?_
    refine Runs.aloadN d14_13 rfl <| ?_
    refine bind_el hf fun q23 hg24 hf => ?_
    refine Runs.callP (N := B15) (W := 0) (as := []) (S' := []) d14_14 w126 w127 w128 rfl cw15 ar15 rk14_15_0 (by decide) rfl rfl (X_resetSearch_pay hg24) <| ans0 <| Runs.iloadN d14_17 rfl <| ?_
    refine ite_el hf (fun hc25 hf => ?_) (fun hc25 hf => ?_)
    · refine Runs.ifY (pc' := 27) d14_18 (tlt hc25).1 (by decide) <| ?_
      exact Runs.iconst d14_27 ci_0 <| Runs.istoreN (P' := [vr a, vi i1, vi i2, vi (0 : Int32)]) d14_28 (by decide) rfl <| Runs.forget [true, false, false, true] rfl <| X_search_l29_p NF q23 (0 : Int32) hf
    · refine Runs.ifN d14_18 (flt hc25).1 <| ?_
      refine Runs.aloadN d14_21 rfl <| Runs.iloadN d14_22 rfl <| Runs.iloadN d14_23 rfl <| ?_
      refine bind_el hf fun q26 hg27 hf => ?_
      exact Runs.callP (N := B22) (W := 0) (as := [.int i1, .int i2]) (S' := []) d14_24 w164 w165 w166 rfl cw22 ar22 rk14_22_0 (by decide) rfl rfl (X_assign_pay hg27) <| ans0 <| Runs.iconst d14_27 ci_0 <| Runs.istoreN (P' := [vr a, vi i1, vi i2, vi (0 : Int32)]) d14_28 (by decide) rfl <| Runs.forget [true, false, false, true] rfl <| X_search_l29_p NF q26 (0 : Int32) hf
theorem X_search_pay {C : Ctx} {top : Nat} {a : Nat} {H : List (Nat × Nat × Rec)} {res : Int32 × Rec} {NF : Nat} {ob : Rec} {i1 : Int32} {i2 : Int32} (hf : X_search NF ob i1 i2 = some res) : Pays C B14 [.ref a, .int i1, .int i2] (top, (a, 17, ob) :: H) (Ans (some (.int res.1)) (top, (a, 17, res.2) :: H)) :=
  Pays.of pnK (Nat.le_of_ble_eq_true rfl) (P := [vr a, vi i1, vi i2, vn]) 1 rfl (X_search_p ob i1 i2 hf)
def X_solve (NF : Nat) (ob : Rec) : Option (Int32 × Rec) :=
  if (gI ob 2) = (1 : Int32) then
    some ((gI ob 2), ob)
  else
    if (gI ob 2) = (0 : Int32) then
      some ((gI ob 2), ob)
    else
      bind2 (X_search NF ob (-1 : Int32) (0 : Int32)) fun r3 q4 =>
      if r3 = (0 : Int32) then
        some ((0 : Int32), (sI q4 2 (0 : Int32)))
      else
        some ((1 : Int32), (sI (sI q4 3 ((gI q4 17) &&& (gI q4 1))) 2 (1 : Int32)))
set_option maxRecDepth 65536 in
set_option maxHeartbeats 4000000 in
theorem X_solve_p {C : Ctx} {top : Nat} {a : Nat} {H : List (Nat × Nat × Rec)} {res : Int32 × Rec} {NF : Nat} (ob : Rec) (hf : X_solve NF ob = some res) : Runs C B13 0 0 0 [vr a] [] (top, (a, 17, ob) :: H) (Ans (some (.int res.1)) (top, (a, 17, res.2) :: H)) := by
  delta X_solve at hf
  refine Runs.aloadN d13_0 rfl <| Runs.getI d13_1 w53 fS_2 <| Runs.iconst d13_4 ci_1 <| ?_
  refine ite_el hf (fun hc1 hf => ?_) (fun hc1 hf => ?_)
  · refine Runs.icY (pc' := 15) d13_5 (teq hc1).1 (by decide) <| ?_
    obtain rfl := Option.some.inj hf
    exact Runs.aloadN d13_15 rfl <| Runs.getI d13_16 w53 fS_2 <| Runs.retI d13_19 rfl ⟨by decide, by decide⟩ ⟨rfl, rfl⟩
  · refine Runs.icN d13_5 (feq hc1).1 <| ?_
    refine Runs.aloadN d13_8 rfl <| Runs.getI d13_9 w53 fS_2 <| ?_
    refine ite_el hf (fun hc2 hf => ?_) (fun hc2 hf => ?_)
    · refine Runs.ifN d13_12 (teq hc2).2 <| ?_
      obtain rfl := Option.some.inj hf
      exact Runs.aloadN d13_15 rfl <| Runs.getI d13_16 w53 fS_2 <| Runs.retI d13_19 rfl ⟨by decide, by decide⟩ ⟨rfl, rfl⟩
    · refine Runs.ifY (pc' := 20) d13_12 (feq hc2).2 (by decide) <| ?_
      refine Runs.aloadN d13_20 rfl <| Runs.iconst d13_21 ci_m1 <| Runs.iconst d13_22 ci_0 <| ?_
      refine bind2_el hf fun r3 q4 hg5 hf => ?_
      refine Runs.callP (N := B14) (W := 0) (as := [.int (-1 : Int32), .int (0 : Int32)]) (S' := []) d13_23 w122 w123 w124 rfl cw14 ar14 rk13_14_0 (by decide) rfl rfl (X_search_pay hg5) <| ans1 <| ?_
      refine ite_el hf (fun hc6 hf => ?_) (fun hc6 hf => ?_)
      · refine Runs.ifY (pc' := 50) d13_26 (teq hc6).1 (by decide) <| ?_
        obtain rfl := Option.some.inj hf
        exact Runs.aloadN d13_50 rfl <| Runs.iconst d13_51 ci_0 <| Runs.putI d13_52 w53 fS_2 (Or.inl w54) <| Runs.aloadN d13_55 rfl <| Runs.getI d13_56 w53 fS_2 <| Runs.retI d13_59 rfl ⟨by decide, by decide⟩ ⟨rfl, rfl⟩
      · refine Runs.ifN d13_26 (feq hc6).1 <| ?_
        refine Runs.aloadN d13_29 rfl <| Runs.aloadN d13_30 rfl <| Runs.getI d13_31 w138 fS_17 <| Runs.aloadN d13_34 rfl <| Runs.getI d13_35 w51 fS_1 <| Runs.iand d13_38 <| Runs.putI d13_39 w55 fS_3 (Or.inl w56) <| Runs.aloadN d13_42 rfl <| Runs.iconst d13_43 ci_1 <| Runs.putI d13_44 w53 fS_2 (Or.inl w54) <| Runs.goto (pc' := 55) d13_47 (by decide) <| Runs.aloadN d13_55 rfl <| ?_
        obtain rfl := Option.some.inj hf
        exact Runs.getI d13_56 w53 fS_2 <| Runs.retI d13_59 rfl ⟨by decide, by decide⟩ ⟨rfl, rfl⟩
theorem X_solve_pay {C : Ctx} {top : Nat} {a : Nat} {H : List (Nat × Nat × Rec)} {res : Int32 × Rec} {NF : Nat} {ob : Rec} (hf : X_solve NF ob = some res) : Pays C B13 [.ref a] (top, (a, 17, ob) :: H) (Ans (some (.int res.1)) (top, (a, 17, res.2) :: H)) :=
  Pays.of pnK (Nat.le_of_ble_eq_true rfl) (P := [vr a]) 0 rfl (X_solve_p ob hf)
def X_modelBits (ob : Rec) : Option (Int32) :=
  if (gI ob 2) = (1 : Int32) then
    some ((gI ob 3) &&& (gI ob 1))
  else
    some (-1 : Int32)
set_option maxRecDepth 65536 in
set_option maxHeartbeats 4000000 in
theorem X_modelBits_p {C : Ctx} {top : Nat} {a : Nat} {H : List (Nat × Nat × Rec)} {ob : Rec} {res : Int32} (hf : X_modelBits ob = some res) : Runs C B23 0 0 0 [vr a] [] (top, (a, 17, ob) :: H) (Ans (some (.int res)) (top, (a, 17, ob) :: H)) := by
  delta X_modelBits at hf
  refine Runs.aloadN d23_0 rfl <| Runs.getI d23_1 w53 fS_2 <| Runs.iconst d23_4 ci_1 <| ?_
  refine ite_el hf (fun hc1 hf => ?_) (fun hc1 hf => ?_)
  · refine Runs.icY (pc' := 10) d23_5 (teq hc1).1 (by decide) <| ?_
    obtain rfl := Option.some.inj hf
    exact Runs.aloadN d23_10 rfl <| Runs.getI d23_11 w55 fS_3 <| Runs.aloadN d23_14 rfl <| Runs.getI d23_15 w51 fS_1 <| Runs.iand d23_18 <| Runs.retI d23_19 rfl ⟨by decide, by decide⟩ ⟨rfl, rfl⟩
  · refine Runs.icN d23_5 (feq hc1).1 <| ?_
    obtain rfl := Option.some.inj hf
    exact Runs.iconst d23_8 ci_m1 <| Runs.retI d23_9 rfl ⟨by decide, by decide⟩ ⟨rfl, rfl⟩
theorem X_modelBits_pay {C : Ctx} {top : Nat} {a : Nat} {H : List (Nat × Nat × Rec)} {ob : Rec} {res : Int32} (hf : X_modelBits ob = some res) : Pays C B23 [.ref a] (top, (a, 17, ob) :: H) (Ans (some (.int res)) (top, (a, 17, ob) :: H)) :=
  Pays.of pnK (Nat.le_of_ble_eq_true rfl) (P := [vr a]) 0 rfl (X_modelBits_p hf)
def L_law_w228 (NF : Nat) (z : Int32) (f : Int32 → Int32) (k70 : Rec → Int32 → Int32 → Int32 → Int32 → Option (Int32)) (k228 : Rec → Int32 → Int32 → Int32 → Int32 → Int32 → Int32 → Int32 → Option (Int32)) (ob : Rec) (i2 : Int32) (i3 : Int32) (i4 : Int32) (i5 : Int32) (i6 : Int32) (i7 : Int32) (i8 : Int32) : Option (Int32) :=
  if i8 < i3 then
    (X_violations NF ob i8).bind fun r29 =>
    if r29 = (0 : Int32) then
      if i7 < (0 : Int32) then
        k228 ob i2 i3 i4 i5 (i6 + (1 : Int32)) i8 (i8 + (1 : Int32))
      else
        (L_before i8 i7).bind fun r33 =>
        if r33 = (0 : Int32) then
          k228 ob i2 i3 i4 i5 (i6 + (1 : Int32)) i7 (i8 + (1 : Int32))
        else
          k228 ob i2 i3 i4 i5 (i6 + (1 : Int32)) i8 (i8 + (1 : Int32))
    else
      k228 ob i2 i3 i4 i5 i6 i7 (i8 + (1 : Int32))
  else
    bind2 (X_countModels NF ob) fun r36 q37 =>
    if r36 = i6 then
      bind2 (X_solve NF q37) fun r40 q41 =>
      if i6 = (0 : Int32) then
        if r40 = (0 : Int32) then
          k70 q41 i2 i3 i4 (i5 + (1 : Int32))
        else
          some (0 : Int32)
      else
        if r40 = (1 : Int32) then
          (X_modelBits q41).bind fun r46 =>
          if r46 = i7 then
            k70 q41 i2 i3 i4 (i5 + (1 : Int32))
          else
            some (0 : Int32)
        else
          some (0 : Int32)
    else
      some (0 : Int32)
def L_law_l228 (NF : Nat) (z : Int32) (f : Int32 → Int32) (k70 : Rec → Int32 → Int32 → Int32 → Int32 → Option (Int32)) : Nat → Rec → Int32 → Int32 → Int32 → Int32 → Int32 → Int32 → Int32 → Option (Int32)
  | 0, _, _, _, _, _, _, _, _ => none
  | n + 1, ob, i2, i3, i4, i5, i6, i7, i8 => L_law_w228 NF z f k70 (L_law_l228 NF z f k70 n) ob i2 i3 i4 i5 i6 i7 i8
set_option maxRecDepth 65536 in
set_option maxHeartbeats 4000000 in
theorem L_law_w228_p {C : Ctx} {sa : Nat} {z : Int32} {f : Int32 → Int32} (hs : ScrF C sa z f) {res : Int32} {NF : Nat} (k70 : Rec → Int32 → Int32 → Int32 → Int32 → Option (Int32)) (hk70 : ∀ (ob : Rec) (i2 : Int32) (i3 : Int32) (i4 : Int32) (i5 : Int32), k70 ob i2 i3 i4 i5 = some res → Runs C B0 18 318 70 [vr sa, vr C.2.2.1, vi i2, vi i3, vi i4, vi i5, vn, vn, vn, vn] [] (C.2.2.1 + 1 + 17, (C.2.2.1, 17, ob) :: []) (fun v _ => v = (some (.int res)))) (k228 : Rec → Int32 → Int32 → Int32 → Int32 → Int32 → Int32 → Int32 → Option (Int32)) (hk228 : ∀ (ob : Rec) (i2 : Int32) (i3 : Int32) (i4 : Int32) (i5 : Int32) (i6 : Int32) (i7 : Int32) (i8 : Int32), k228 ob i2 i3 i4 i5 i6 i7 i8 = some res → Runs C B0 18 318 228 [vr sa, vr C.2.2.1, vi i2, vi i3, vi i4, vi i5, vi i6, vi i7, vi i8, vn] [] (C.2.2.1 + 1 + 17, (C.2.2.1, 17, ob) :: []) (fun v _ => v = (some (.int res)))) (ob : Rec) (i2 : Int32) (i3 : Int32) (i4 : Int32) (i5 : Int32) (i6 : Int32) (i7 : Int32) (i8 : Int32) (hf : L_law_w228 NF z f k70 k228 ob i2 i3 i4 i5 i6 i7 i8 = some res) : Runs C B0 18 318 228 [vr sa, vr C.2.2.1, vi i2, vi i3, vi i4, vi i5, vi i6, vi i7, vi i8, vn] [] (C.2.2.1 + 1 + 17, (C.2.2.1, 17, ob) :: []) (fun v _ => v = (some (.int res))) := by
  delta L_law_w228 at hf
  refine Runs.iload d0_228 rfl <| Runs.iloadN d0_230 rfl <| ?_
  refine ite_el hf (fun hc28 hf => ?_) (fun hc28 hf => ?_)
  · refine Runs.icN d0_231 (tlt hc28).2.1 <| ?_
    refine Runs.aloadN d0_234 rfl <| Runs.iload d0_235 rfl <| ?_
    refine bind_el hf fun r29 hg30 hf => ?_
    refine Runs.callV (N := B4) (W := 0) (as := [.int i8]) (S' := []) d0_237 w76 w77 w78 w79 cw4 ar4 rk0_4_0 (by decide) rfl rfl (X_violations_pay hg30) <| ans1 <| ?_
    refine ite_el hf (fun hc31 hf => ?_) (fun hc31 hf => ?_)
    · refine Runs.ifN d0_240 (teq hc31).2 <| ?_
      refine Runs.iinc (P' := [vr sa, vr C.2.2.1, vi i2, vi i3, vi i4, vi i5, vi (i6 + (1 : Int32)), vi i7, vi i8, vn]) d0_243 ci_1 rfl (by decide) rfl <| Runs.iload d0_246 rfl <| ?_
      refine ite_el hf (fun hc32 hf => ?_) (fun hc32 hf => ?_)
      · refine Runs.ifY (pc' := 261) d0_248 (tlt hc32).1 (by decide) <| ?_
        exact Runs.iload d0_261 rfl <| Runs.istore (P' := [vr sa, vr C.2.2.1, vi i2, vi i3, vi i4, vi i5, vi (i6 + (1 : Int32)), vi i8, vi i8, vn]) d0_263 (by decide) rfl <| Runs.iinc (P' := [vr sa, vr C.2.2.1, vi i2, vi i3, vi i4, vi i5, vi (i6 + (1 : Int32)), vi i8, vi (i8 + (1 : Int32)), vn]) d0_265 ci_1 rfl (by decide) rfl <| Runs.goto (pc' := 228) d0_268 (by decide) <| hk228 ob i2 i3 i4 i5 (i6 + (1 : Int32)) i8 (i8 + (1 : Int32)) hf
      · refine Runs.ifN d0_248 (flt hc32).1 <| ?_
        refine Runs.iload d0_251 rfl <| Runs.iload d0_253 rfl <| ?_
        refine bind_el hf fun r33 hg34 hf => ?_
        refine Runs.callS (N := B5) (W := 0) (as := [.int i8, .int i7]) (S' := []) d0_255 w81 w82 cw5 ar5 rk0_5_0 (by decide) rfl rfl (L_before_pay hg34) <| ans1 <| ?_
        refine ite_el hf (fun hc35 hf => ?_) (fun hc35 hf => ?_)
        · refine Runs.ifY (pc' := 265) d0_258 (teq hc35).1 (by decide) <| ?_
          exact Runs.iinc (P' := [vr sa, vr C.2.2.1, vi i2, vi i3, vi i4, vi i5, vi (i6 + (1 : Int32)), vi i7, vi (i8 + (1 : Int32)), vn]) d0_265 ci_1 rfl (by decide) rfl <| Runs.goto (pc' := 228) d0_268 (by decide) <| hk228 ob i2 i3 i4 i5 (i6 + (1 : Int32)) i7 (i8 + (1 : Int32)) hf
        · refine Runs.ifN d0_258 (feq hc35).1 <| ?_
          exact Runs.iload d0_261 rfl <| Runs.istore (P' := [vr sa, vr C.2.2.1, vi i2, vi i3, vi i4, vi i5, vi (i6 + (1 : Int32)), vi i8, vi i8, vn]) d0_263 (by decide) rfl <| Runs.iinc (P' := [vr sa, vr C.2.2.1, vi i2, vi i3, vi i4, vi i5, vi (i6 + (1 : Int32)), vi i8, vi (i8 + (1 : Int32)), vn]) d0_265 ci_1 rfl (by decide) rfl <| Runs.goto (pc' := 228) d0_268 (by decide) <| hk228 ob i2 i3 i4 i5 (i6 + (1 : Int32)) i8 (i8 + (1 : Int32)) hf
    · refine Runs.ifY (pc' := 265) d0_240 (feq hc31).2 (by decide) <| ?_
      exact Runs.iinc (P' := [vr sa, vr C.2.2.1, vi i2, vi i3, vi i4, vi i5, vi i6, vi i7, vi (i8 + (1 : Int32)), vn]) d0_265 ci_1 rfl (by decide) rfl <| Runs.goto (pc' := 228) d0_268 (by decide) <| hk228 ob i2 i3 i4 i5 i6 i7 (i8 + (1 : Int32)) hf
  · refine Runs.icY (pc' := 271) d0_231 (flt hc28).2.1 (by decide) <| ?_
    refine Runs.aloadN d0_271 rfl <| ?_
    refine bind2_el hf fun r36 q37 hg38 hf => ?_
    refine Runs.callV (N := B6) (W := 0) (as := []) (S' := []) d0_272 w84 w85 w86 w87 cw6 ar6 rk0_6_0 (by decide) rfl rfl (X_countModels_pay hg38) <| ans1 <| Runs.iload d0_275 rfl <| ?_
    refine ite_el hf (fun hc39 hf => ?_) (fun hc39 hf => ?_)
    · refine Runs.icY (pc' := 282) d0_277 (teq hc39).1 (by decide) <| ?_
      refine Runs.aloadN d0_282 rfl <| ?_
      refine bind2_el hf fun r40 q41 hg42 hf => ?_
      refine Runs.callV (N := B13) (W := 0) (as := []) (S' := []) d0_283 w117 w118 w119 w120 cw13 ar13 rk0_13_0 (by decide) rfl rfl (X_solve_pay hg42) <| ans1 <| Runs.istore (P' := [vr sa, vr C.2.2.1, vi i2, vi i3, vi i4, vi i5, vi i6, vi i7, vi r40, vn]) d0_286 (by decide) rfl <| Runs.iload d0_288 rfl <| ?_
      refine ite_el hf (fun hc43 hf => ?_) (fun hc43 hf => ?_)
      · refine Runs.ifN d0_290 (teq hc43).2 <| ?_
        refine Runs.iload d0_293 rfl <| ?_
        refine ite_el hf (fun hc44 hf => ?_) (fun hc44 hf => ?_)
        · refine Runs.ifY (pc' := 323) d0_295 (teq hc44).1 (by decide) <| ?_
          exact Runs.iinc (P' := [vr sa, vr C.2.2.1, vi i2, vi i3, vi i4, vi (i5 + (1 : Int32)), vi i6, vi i7, vi r40, vn]) d0_323 ci_1 rfl (by decide) rfl <| Runs.goto (pc' := 70) d0_326 (by decide) <| Runs.forget [true, true, true, true, true, true, false, false, false, false] rfl <| hk70 q41 i2 i3 i4 (i5 + (1 : Int32)) hf
        · refine Runs.ifN d0_295 (feq hc44).1 <| ?_
          obtain rfl := Option.some.inj hf
          exact Runs.iconst d0_298 ci_0 <| Runs.retZ (y := (0 : Int32)) d0_299 rfl ⟨by decide, by decide⟩ rfl rfl
      · refine Runs.ifY (pc' := 300) d0_290 (feq hc43).2 (by decide) <| ?_
        refine Runs.iload d0_300 rfl <| Runs.iconst d0_302 ci_1 <| ?_
        refine ite_el hf (fun hc45 hf => ?_) (fun hc45 hf => ?_)
        · refine Runs.icY (pc' := 308) d0_303 (teq hc45).1 (by decide) <| ?_
          refine Runs.aloadN d0_308 rfl <| ?_
          refine bind_el hf fun r46 hg47 hf => ?_
          refine Runs.callV (N := B23) (W := 0) (as := []) (S' := []) d0_309 w169 w170 w171 w172 cw23 ar23 rk0_23_0 (by decide) rfl rfl (X_modelBits_pay hg47) <| ans1 <| Runs.istore (P' := [vr sa, vr C.2.2.1, vi i2, vi i3, vi i4, vi i5, vi i6, vi i7, vi r40, vi r46]) d0_312 (by decide) rfl <| Runs.iload d0_314 rfl <| Runs.iload d0_316 rfl <| ?_
          refine ite_el hf (fun hc48 hf => ?_) (fun hc48 hf => ?_)
          · refine Runs.icY (pc' := 323) d0_318 (teq hc48).1 (by decide) <| ?_
            exact Runs.iinc (P' := [vr sa, vr C.2.2.1, vi i2, vi i3, vi i4, vi (i5 + (1 : Int32)), vi i6, vi i7, vi r40, vi r46]) d0_323 ci_1 rfl (by decide) rfl <| Runs.goto (pc' := 70) d0_326 (by decide) <| Runs.forget [true, true, true, true, true, true, false, false, false, false] rfl <| hk70 q41 i2 i3 i4 (i5 + (1 : Int32)) hf
          · refine Runs.icN d0_318 (feq hc48).1 <| ?_
            obtain rfl := Option.some.inj hf
            exact Runs.iconst d0_321 ci_0 <| Runs.retZ (y := (0 : Int32)) d0_322 rfl ⟨by decide, by decide⟩ rfl rfl
        · refine Runs.icN d0_303 (feq hc45).1 <| ?_
          obtain rfl := Option.some.inj hf
          exact Runs.iconst d0_306 ci_0 <| Runs.retZ (y := (0 : Int32)) d0_307 rfl ⟨by decide, by decide⟩ rfl rfl
    · refine Runs.icN d0_277 (feq hc39).1 <| ?_
      obtain rfl := Option.some.inj hf
      exact Runs.iconst d0_280 ci_0 <| Runs.retZ (y := (0 : Int32)) d0_281 rfl ⟨by decide, by decide⟩ rfl rfl
theorem L_law_l228_p {C : Ctx} {sa : Nat} {z : Int32} {f : Int32 → Int32} (hs : ScrF C sa z f) {res : Int32} {NF : Nat} (k70 : Rec → Int32 → Int32 → Int32 → Int32 → Option (Int32)) (hk70 : ∀ (ob : Rec) (i2 : Int32) (i3 : Int32) (i4 : Int32) (i5 : Int32), k70 ob i2 i3 i4 i5 = some res → Runs C B0 18 318 70 [vr sa, vr C.2.2.1, vi i2, vi i3, vi i4, vi i5, vn, vn, vn, vn] [] (C.2.2.1 + 1 + 17, (C.2.2.1, 17, ob) :: []) (fun v _ => v = (some (.int res)))) (n : Nat) (ob : Rec) (i2 : Int32) (i3 : Int32) (i4 : Int32) (i5 : Int32) (i6 : Int32) (i7 : Int32) (i8 : Int32) (hf : L_law_l228 NF z f k70 n ob i2 i3 i4 i5 i6 i7 i8 = some res) : Runs C B0 18 318 228 [vr sa, vr C.2.2.1, vi i2, vi i3, vi i4, vi i5, vi i6, vi i7, vi i8, vn] [] (C.2.2.1 + 1 + 17, (C.2.2.1, 17, ob) :: []) (fun v _ => v = (some (.int res))) := by
  induction n generalizing ob i2 i3 i4 i5 i6 i7 i8 with
  | zero => cases (show (none : Option (Int32)) = some res from hf)
  | succ n ih => exact L_law_w228_p hs k70 hk70 (L_law_l228 NF z f k70 n) (fun ob i2 i3 i4 i5 i6 i7 i8 h => ih _ _ _ _ _ _ _ _ h) ob i2 i3 i4 i5 i6 i7 i8 hf
def L_law_b186 (NF : Nat) (z : Int32) (f : Int32 → Int32) (k70 : Rec → Int32 → Int32 → Int32 → Int32 → Option (Int32)) (ob : Rec) (i2 : Int32) (i3 : Int32) (i4 : Int32) (i5 : Int32) (t1 : Int32) : Option (Int32) :=
  bind2 (X_commitXor NF ob t1) fun r25 q26 =>
  L_law_l228 NF z f k70 NF q26 i2 i3 i4 i5 (0 : Int32) (-1 : Int32) (0 : Int32)
set_option maxRecDepth 65536 in
set_option maxHeartbeats 4000000 in
theorem L_law_b186_p {C : Ctx} {sa : Nat} {z : Int32} {f : Int32 → Int32} (hs : ScrF C sa z f) {res : Int32} {NF : Nat} (k70 : Rec → Int32 → Int32 → Int32 → Int32 → Option (Int32)) (hk70 : ∀ (ob : Rec) (i2 : Int32) (i3 : Int32) (i4 : Int32) (i5 : Int32), k70 ob i2 i3 i4 i5 = some res → Runs C B0 18 318 70 [vr sa, vr C.2.2.1, vi i2, vi i3, vi i4, vi i5, vn, vn, vn, vn] [] (C.2.2.1 + 1 + 17, (C.2.2.1, 17, ob) :: []) (fun v _ => v = (some (.int res)))) (ob : Rec) (i2 : Int32) (i3 : Int32) (i4 : Int32) (i5 : Int32) (t1 : Int32) (hf : L_law_b186 NF z f k70 ob i2 i3 i4 i5 t1 = some res) : Runs C B0 18 318 186 [vr sa, vr C.2.2.1, vi i2, vi i3, vi i4, vi i5, vn, vn, vn, vn] [.int t1, .ref C.2.2.1] (C.2.2.1 + 1 + 17, (C.2.2.1, 17, ob) :: []) (fun v _ => v = (some (.int res))) := by
  delta L_law_b186 at hf
  refine bind2_el hf fun r25 q26 hg27 hf => ?_
  exact Runs.callV (N := B35) (W := 0) (as := [.int t1]) (S' := []) d0_186 w222 w223 w224 w225 cw35 ar35 rk0_35_0 (by decide) rfl rfl (X_commitXor_pay hg27) <| ans1 <| Runs.pop d0_189 rfl <| Runs.goto (pc' := 219) d0_190 (by decide) <| Runs.iconst d0_219 ci_0 <| Runs.istore (P' := [vr sa, vr C.2.2.1, vi i2, vi i3, vi i4, vi i5, vi (0 : Int32), vn, vn, vn]) d0_220 (by decide) rfl <| Runs.iconst d0_222 ci_m1 <| Runs.istore (P' := [vr sa, vr C.2.2.1, vi i2, vi i3, vi i4, vi i5, vi (0 : Int32), vi (-1 : Int32), vn, vn]) d0_223 (by decide) rfl <| Runs.iconst d0_225 ci_0 <| Runs.istore (P' := [vr sa, vr C.2.2.1, vi i2, vi i3, vi i4, vi i5, vi (0 : Int32), vi (-1 : Int32), vi (0 : Int32), vn]) d0_226 (by decide) rfl <| L_law_l228_p hs k70 hk70 NF q26 i2 i3 i4 i5 (0 : Int32) (-1 : Int32) (0 : Int32) hf
def L_law_b127 (NF : Nat) (z : Int32) (f : Int32 → Int32) (k70 : Rec → Int32 → Int32 → Int32 → Int32 → Option (Int32)) (ob : Rec) (i2 : Int32) (i3 : Int32) (i4 : Int32) (i5 : Int32) (i6 : Int32) (i7 : Int32) (i8 : Int32) (t0 : Int32) : Option (Int32) :=
  if (5 : Int32) < i7 then
    if (8 : Int32) < i7 then
      if (10 : Int32) < i7 then
        if (12 : Int32) < i7 then
          if i7 = (13 : Int32) then
            (X_clearPending ob).bind fun q13 =>
            L_law_l228 NF z f k70 NF q13 i2 i3 i4 i5 (0 : Int32) (-1 : Int32) (0 : Int32)
          else
            L_law_l228 NF z f k70 NF ob i2 i3 i4 i5 (0 : Int32) (-1 : Int32) (0 : Int32)
        else
          bind2 (X_popConstraint ob) fun r15 q16 =>
          L_law_l228 NF z f k70 NF q16 i2 i3 i4 i5 (0 : Int32) (-1 : Int32) (0 : Int32)
      else
        if ((i6 / (16 : Int32)) &&& (1 : Int32)) = (1 : Int32) then
          L_law_b186 NF z f k70 ob i2 i3 i4 i5 (1 : Int32)
        else
          L_law_b186 NF z f k70 ob i2 i3 i4 i5 (0 : Int32)
    else
      bind2 (X_commitClause NF ob) fun r19 q20 =>
      L_law_l228 NF z f k70 NF q20 i2 i3 i4 i5 (0 : Int32) (-1 : Int32) (0 : Int32)
  else
    bind2 (X_addLiteral ob i8 t0) fun r22 q23 =>
    L_law_l228 NF z f k70 NF q23 i2 i3 i4 i5 (0 : Int32) (-1 : Int32) (0 : Int32)
set_option maxRecDepth 65536 in
set_option maxHeartbeats 4000000 in
theorem L_law_b127_p {C : Ctx} {sa : Nat} {z : Int32} {f : Int32 → Int32} (hs : ScrF C sa z f) {res : Int32} {NF : Nat} (k70 : Rec → Int32 → Int32 → Int32 → Int32 → Option (Int32)) (hk70 : ∀ (ob : Rec) (i2 : Int32) (i3 : Int32) (i4 : Int32) (i5 : Int32), k70 ob i2 i3 i4 i5 = some res → Runs C B0 18 318 70 [vr sa, vr C.2.2.1, vi i2, vi i3, vi i4, vi i5, vn, vn, vn, vn] [] (C.2.2.1 + 1 + 17, (C.2.2.1, 17, ob) :: []) (fun v _ => v = (some (.int res)))) (ob : Rec) (i2 : Int32) (i3 : Int32) (i4 : Int32) (i5 : Int32) (i6 : Int32) (i7 : Int32) (i8 : Int32) (t0 : Int32) (hf : L_law_b127 NF z f k70 ob i2 i3 i4 i5 i6 i7 i8 t0 = some res) : Runs C B0 18 318 127 [vr sa, vr C.2.2.1, vi i2, vi i3, vi i4, vi i5, vi i6, vi i7, vi i8, vn] [.int t0] (C.2.2.1 + 1 + 17, (C.2.2.1, 17, ob) :: []) (fun v _ => v = (some (.int res))) := by
  delta L_law_b127 at hf
  refine Runs.istore (P' := [vr sa, vr C.2.2.1, vi i2, vi i3, vi i4, vi i5, vi i6, vi i7, vi i8, vi t0]) d0_127 (by decide) rfl <| Runs.iload d0_129 rfl <| Runs.iconst d0_131 ci_5 <| ?_
  refine ite_el hf (fun hc8 hf => ?_) (fun hc8 hf => ?_)
  · refine Runs.icY (pc' := 147) d0_132 (tlt hc8).2.2.1 (by decide) <| ?_
    refine Runs.iload d0_147 rfl <| Runs.bipush d0_149 cb_8 <| ?_
    refine ite_el hf (fun hc9 hf => ?_) (fun hc9 hf => ?_)
    · refine Runs.icY (pc' := 162) d0_151 (tlt hc9).2.2.1 (by decide) <| ?_
      refine Runs.iload d0_162 rfl <| Runs.bipush d0_164 cb_10 <| ?_
      refine ite_el hf (fun hc10 hf => ?_) (fun hc10 hf => ?_)
      · refine Runs.icY (pc' := 193) d0_166 (tlt hc10).2.2.1 (by decide) <| ?_
        refine Runs.iload d0_193 rfl <| Runs.bipush d0_195 cb_12 <| ?_
        refine ite_el hf (fun hc11 hf => ?_) (fun hc11 hf => ?_)
        · refine Runs.icY (pc' := 208) d0_197 (tlt hc11).2.2.1 (by decide) <| ?_
          refine Runs.iload d0_208 rfl <| Runs.bipush d0_210 cb_13 <| ?_
          refine ite_el hf (fun hc12 hf => ?_) (fun hc12 hf => ?_)
          · refine Runs.icN d0_212 (teq hc12).2 <| ?_
            refine Runs.aloadN d0_215 rfl <| ?_
            refine bind_el hf fun q13 hg14 hf => ?_
            exact Runs.callV (N := B40) (W := 0) (as := []) (S' := []) d0_216 w243 w244 w245 w246 cw40 ar40 rk0_40_0 (by decide) rfl rfl (X_clearPending_pay hg14) <| ans0 <| Runs.iconst d0_219 ci_0 <| Runs.istore (P' := [vr sa, vr C.2.2.1, vi i2, vi i3, vi i4, vi i5, vi (0 : Int32), vi i7, vi i8, vi t0]) d0_220 (by decide) rfl <| Runs.iconst d0_222 ci_m1 <| Runs.istore (P' := [vr sa, vr C.2.2.1, vi i2, vi i3, vi i4, vi i5, vi (0 : Int32), vi (-1 : Int32), vi i8, vi t0]) d0_223 (by decide) rfl <| Runs.iconst d0_225 ci_0 <| Runs.istore (P' := [vr sa, vr C.2.2.1, vi i2, vi i3, vi i4, vi i5, vi (0 : Int32), vi (-1 : Int32), vi (0 : Int32), vi t0]) d0_226 (by decide) rfl <| Runs.forget [true, true, true, true, true, true, true, true, true, false] rfl <| L_law_l228_p hs k70 hk70 NF q13 i2 i3 i4 i5 (0 : Int32) (-1 : Int32) (0 : Int32) hf
          · refine Runs.icY (pc' := 219) d0_212 (feq hc12).2 (by decide) <| ?_
            exact Runs.iconst d0_219 ci_0 <| Runs.istore (P' := [vr sa, vr C.2.2.1, vi i2, vi i3, vi i4, vi i5, vi (0 : Int32), vi i7, vi i8, vi t0]) d0_220 (by decide) rfl <| Runs.iconst d0_222 ci_m1 <| Runs.istore (P' := [vr sa, vr C.2.2.1, vi i2, vi i3, vi i4, vi i5, vi (0 : Int32), vi (-1 : Int32), vi i8, vi t0]) d0_223 (by decide) rfl <| Runs.iconst d0_225 ci_0 <| Runs.istore (P' := [vr sa, vr C.2.2.1, vi i2, vi i3, vi i4, vi i5, vi (0 : Int32), vi (-1 : Int32), vi (0 : Int32), vi t0]) d0_226 (by decide) rfl <| Runs.forget [true, true, true, true, true, true, true, true, true, false] rfl <| L_law_l228_p hs k70 hk70 NF ob i2 i3 i4 i5 (0 : Int32) (-1 : Int32) (0 : Int32) hf
        · refine Runs.icN d0_197 (flt hc11).2.2.1 <| ?_
          refine Runs.aloadN d0_200 rfl <| ?_
          refine bind2_el hf fun r15 q16 hg17 hf => ?_
          exact Runs.callV (N := B25) (W := 0) (as := []) (S' := []) d0_201 w180 w181 w182 w183 cw25 ar25 rk0_25_0 (by decide) rfl rfl (X_popConstraint_pay hg17) <| ans1 <| Runs.pop d0_204 rfl <| Runs.goto (pc' := 219) d0_205 (by decide) <| Runs.iconst d0_219 ci_0 <| Runs.istore (P' := [vr sa, vr C.2.2.1, vi i2, vi i3, vi i4, vi i5, vi (0 : Int32), vi i7, vi i8, vi t0]) d0_220 (by decide) rfl <| Runs.iconst d0_222 ci_m1 <| Runs.istore (P' := [vr sa, vr C.2.2.1, vi i2, vi i3, vi i4, vi i5, vi (0 : Int32), vi (-1 : Int32), vi i8, vi t0]) d0_223 (by decide) rfl <| Runs.iconst d0_225 ci_0 <| Runs.istore (P' := [vr sa, vr C.2.2.1, vi i2, vi i3, vi i4, vi i5, vi (0 : Int32), vi (-1 : Int32), vi (0 : Int32), vi t0]) d0_226 (by decide) rfl <| Runs.forget [true, true, true, true, true, true, true, true, true, false] rfl <| L_law_l228_p hs k70 hk70 NF q16 i2 i3 i4 i5 (0 : Int32) (-1 : Int32) (0 : Int32) hf
      · refine Runs.icN d0_166 (flt hc10).2.2.1 <| ?_
        refine Runs.aloadN d0_169 rfl <| Runs.iload d0_170 rfl <| Runs.bipush d0_172 cb_16 <| Runs.idiv d0_174 (by decide) <| Runs.iconst d0_175 ci_1 <| Runs.iand d0_176 <| Runs.iconst d0_177 ci_1 <| ?_
        refine ite_el hf (fun hc18 hf => ?_) (fun hc18 hf => ?_)
        · refine Runs.icN d0_178 (teq hc18).2 <| ?_
          exact Runs.iconst d0_181 ci_1 <| Runs.goto (pc' := 186) d0_182 (by decide) <| Runs.forget [true, true, true, true, true, true, false, false, false, false] rfl <| L_law_b186_p hs k70 hk70 ob i2 i3 i4 i5 (1 : Int32) hf
        · refine Runs.icY (pc' := 185) d0_178 (feq hc18).2 (by decide) <| ?_
          exact Runs.iconst d0_185 ci_0 <| Runs.forget [true, true, true, true, true, true, false, false, false, false] rfl <| L_law_b186_p hs k70 hk70 ob i2 i3 i4 i5 (0 : Int32) hf
    · refine Runs.icN d0_151 (flt hc9).2.2.1 <| ?_
      refine Runs.aloadN d0_154 rfl <| ?_
      refine bind2_el hf fun r19 q20 hg21 hf => ?_
      exact Runs.callV (N := B26) (W := 0) (as := []) (S' := []) d0_155 w185 w186 w187 w188 cw26 ar26 rk0_26_0 (by decide) rfl rfl (X_commitClause_pay hg21) <| ans1 <| Runs.pop d0_158 rfl <| Runs.goto (pc' := 219) d0_159 (by decide) <| Runs.iconst d0_219 ci_0 <| Runs.istore (P' := [vr sa, vr C.2.2.1, vi i2, vi i3, vi i4, vi i5, vi (0 : Int32), vi i7, vi i8, vi t0]) d0_220 (by decide) rfl <| Runs.iconst d0_222 ci_m1 <| Runs.istore (P' := [vr sa, vr C.2.2.1, vi i2, vi i3, vi i4, vi i5, vi (0 : Int32), vi (-1 : Int32), vi i8, vi t0]) d0_223 (by decide) rfl <| Runs.iconst d0_225 ci_0 <| Runs.istore (P' := [vr sa, vr C.2.2.1, vi i2, vi i3, vi i4, vi i5, vi (0 : Int32), vi (-1 : Int32), vi (0 : Int32), vi t0]) d0_226 (by decide) rfl <| Runs.forget [true, true, true, true, true, true, true, true, true, false] rfl <| L_law_l228_p hs k70 hk70 NF q20 i2 i3 i4 i5 (0 : Int32) (-1 : Int32) (0 : Int32) hf
  · refine Runs.icN d0_132 (flt hc8).2.2.1 <| ?_
    refine Runs.aloadN d0_135 rfl <| Runs.iload d0_136 rfl <| Runs.iload d0_138 rfl <| ?_
    refine bind2_el hf fun r22 q23 hg24 hf => ?_
    exact Runs.callV (N := B24) (W := 0) (as := [.int i8, .int t0]) (S' := []) d0_140 w175 w176 w177 w178 cw24 ar24 rk0_24_0 (by decide) rfl rfl (X_addLiteral_pay hg24) <| ans1 <| Runs.pop d0_143 rfl <| Runs.goto (pc' := 219) d0_144 (by decide) <| Runs.iconst d0_219 ci_0 <| Runs.istore (P' := [vr sa, vr C.2.2.1, vi i2, vi i3, vi i4, vi i5, vi (0 : Int32), vi i7, vi i8, vi t0]) d0_220 (by decide) rfl <| Runs.iconst d0_222 ci_m1 <| Runs.istore (P' := [vr sa, vr C.2.2.1, vi i2, vi i3, vi i4, vi i5, vi (0 : Int32), vi (-1 : Int32), vi i8, vi t0]) d0_223 (by decide) rfl <| Runs.iconst d0_225 ci_0 <| Runs.istore (P' := [vr sa, vr C.2.2.1, vi i2, vi i3, vi i4, vi i5, vi (0 : Int32), vi (-1 : Int32), vi (0 : Int32), vi t0]) d0_226 (by decide) rfl <| Runs.forget [true, true, true, true, true, true, true, true, true, false] rfl <| L_law_l228_p hs k70 hk70 NF q23 i2 i3 i4 i5 (0 : Int32) (-1 : Int32) (0 : Int32) hf
def L_law_w70 (NF : Nat) (z : Int32) (f : Int32 → Int32) (k70 : Rec → Int32 → Int32 → Int32 → Int32 → Option (Int32)) (ob : Rec) (i2 : Int32) (i3 : Int32) (i4 : Int32) (i5 : Int32) : Option (Int32) :=
  if i4 < i5 then
    some (1 : Int32)
  else
    if i5 < (1 : Int32) then
      L_law_l228 NF z f k70 NF ob i2 i3 i4 i5 (0 : Int32) (-1 : Int32) (0 : Int32)
    else
      (L_cell z f i5).bind fun r4 =>
      dvz i2 <|
      if (((r4 &&& (2147483647 : Int32)) / (256 : Int32)) &&& (1 : Int32)) = (1 : Int32) then
        L_law_b127 NF z f k70 ob i2 i3 i4 i5 (r4 &&& (2147483647 : Int32)) ((r4 &&& (2147483647 : Int32)) % (16 : Int32)) (((r4 &&& (2147483647 : Int32)) / (16 : Int32)) % i2) (1 : Int32)
      else
        L_law_b127 NF z f k70 ob i2 i3 i4 i5 (r4 &&& (2147483647 : Int32)) ((r4 &&& (2147483647 : Int32)) % (16 : Int32)) (((r4 &&& (2147483647 : Int32)) / (16 : Int32)) % i2) (0 : Int32)
def L_law_l70 (NF : Nat) (z : Int32) (f : Int32 → Int32) : Nat → Rec → Int32 → Int32 → Int32 → Int32 → Option (Int32)
  | 0, _, _, _, _, _ => none
  | n + 1, ob, i2, i3, i4, i5 => L_law_w70 NF z f (L_law_l70 NF z f n) ob i2 i3 i4 i5
set_option maxRecDepth 65536 in
set_option maxHeartbeats 4000000 in
theorem L_law_w70_p {C : Ctx} {sa : Nat} {z : Int32} {f : Int32 → Int32} (hs : ScrF C sa z f) {res : Int32} {NF : Nat} (k70 : Rec → Int32 → Int32 → Int32 → Int32 → Option (Int32)) (hk70 : ∀ (ob : Rec) (i2 : Int32) (i3 : Int32) (i4 : Int32) (i5 : Int32), k70 ob i2 i3 i4 i5 = some res → Runs C B0 18 318 70 [vr sa, vr C.2.2.1, vi i2, vi i3, vi i4, vi i5, vn, vn, vn, vn] [] (C.2.2.1 + 1 + 17, (C.2.2.1, 17, ob) :: []) (fun v _ => v = (some (.int res)))) (ob : Rec) (i2 : Int32) (i3 : Int32) (i4 : Int32) (i5 : Int32) (hf : L_law_w70 NF z f k70 ob i2 i3 i4 i5 = some res) : Runs C B0 18 318 70 [vr sa, vr C.2.2.1, vi i2, vi i3, vi i4, vi i5, vn, vn, vn, vn] [] (C.2.2.1 + 1 + 17, (C.2.2.1, 17, ob) :: []) (fun v _ => v = (some (.int res))) := by
  delta L_law_w70 at hf
  refine Runs.iload d0_70 rfl <| Runs.iload d0_72 rfl <| ?_
  refine ite_el hf (fun hc2 hf => ?_) (fun hc2 hf => ?_)
  · refine Runs.icY (pc' := 329) d0_74 (tlt hc2).2.2.1 (by decide) <| ?_
    obtain rfl := Option.some.inj hf
    exact Runs.iconst d0_329 ci_1 <| Runs.retZ (y := (1 : Int32)) d0_330 rfl ⟨by decide, by decide⟩ rfl rfl
  · refine Runs.icN d0_74 (flt hc2).2.2.1 <| ?_
    refine Runs.iload d0_77 rfl <| Runs.iconst d0_79 ci_1 <| ?_
    refine ite_el hf (fun hc3 hf => ?_) (fun hc3 hf => ?_)
    · refine Runs.icY (pc' := 219) d0_80 (tlt hc3).1 (by decide) <| ?_
      exact Runs.iconst d0_219 ci_0 <| Runs.istore (P' := [vr sa, vr C.2.2.1, vi i2, vi i3, vi i4, vi i5, vi (0 : Int32), vn, vn, vn]) d0_220 (by decide) rfl <| Runs.iconst d0_222 ci_m1 <| Runs.istore (P' := [vr sa, vr C.2.2.1, vi i2, vi i3, vi i4, vi i5, vi (0 : Int32), vi (-1 : Int32), vn, vn]) d0_223 (by decide) rfl <| Runs.iconst d0_225 ci_0 <| Runs.istore (P' := [vr sa, vr C.2.2.1, vi i2, vi i3, vi i4, vi i5, vi (0 : Int32), vi (-1 : Int32), vi (0 : Int32), vn]) d0_226 (by decide) rfl <| L_law_l228_p hs k70 hk70 NF ob i2 i3 i4 i5 (0 : Int32) (-1 : Int32) (0 : Int32) hf
    · refine Runs.icN d0_80 (flt hc3).1 <| ?_
      refine Runs.aloadN d0_83 rfl <| Runs.iload d0_84 rfl <| ?_
      refine bind_el hf fun r4 hg5 hf => ?_
      refine Runs.callS (N := B1) (W := 0) (as := [.ref sa, .int i5]) (S' := []) d0_86 w3 w4 cw1 ar1 rk0_1_0 (by decide) rfl rfl (L_cell_pay hs hg5) <| ans1 <| Runs.ldc d0_89 w174 <| Runs.iand d0_91 <| Runs.istore (P' := [vr sa, vr C.2.2.1, vi i2, vi i3, vi i4, vi i5, vi (r4 &&& (2147483647 : Int32)), vn, vn, vn]) d0_92 (by decide) rfl <| Runs.iload d0_94 rfl <| Runs.bipush d0_96 cb_16 <| Runs.irem d0_98 (by decide) <| Runs.istore (P' := [vr sa, vr C.2.2.1, vi i2, vi i3, vi i4, vi i5, vi (r4 &&& (2147483647 : Int32)), vi ((r4 &&& (2147483647 : Int32)) % (16 : Int32)), vn, vn]) d0_99 (by decide) rfl <| Runs.iload d0_101 rfl <| Runs.bipush d0_103 cb_16 <| Runs.idiv d0_105 (by decide) <| Runs.iloadN d0_106 rfl <| ?_
      refine dvz_el hf fun hz6 hf => ?_
      refine Runs.irem d0_107 hz6 <| Runs.istore (P' := [vr sa, vr C.2.2.1, vi i2, vi i3, vi i4, vi i5, vi (r4 &&& (2147483647 : Int32)), vi ((r4 &&& (2147483647 : Int32)) % (16 : Int32)), vi (((r4 &&& (2147483647 : Int32)) / (16 : Int32)) % i2), vn]) d0_108 (by decide) rfl <| Runs.iload d0_110 rfl <| Runs.sipush d0_112 cs_256 <| Runs.idiv d0_115 (by decide) <| Runs.iconst d0_116 ci_1 <| Runs.iand d0_117 <| Runs.iconst d0_118 ci_1 <| ?_
      refine ite_el hf (fun hc7 hf => ?_) (fun hc7 hf => ?_)
      · refine Runs.icN d0_119 (teq hc7).2 <| ?_
        exact Runs.iconst d0_122 ci_1 <| Runs.goto (pc' := 127) d0_123 (by decide) <| L_law_b127_p hs k70 hk70 ob i2 i3 i4 i5 (r4 &&& (2147483647 : Int32)) ((r4 &&& (2147483647 : Int32)) % (16 : Int32)) (((r4 &&& (2147483647 : Int32)) / (16 : Int32)) % i2) (1 : Int32) hf
      · refine Runs.icY (pc' := 126) d0_119 (feq hc7).2 (by decide) <| ?_
        exact Runs.iconst d0_126 ci_0 <| L_law_b127_p hs k70 hk70 ob i2 i3 i4 i5 (r4 &&& (2147483647 : Int32)) ((r4 &&& (2147483647 : Int32)) % (16 : Int32)) (((r4 &&& (2147483647 : Int32)) / (16 : Int32)) % i2) (0 : Int32) hf
theorem L_law_l70_p {C : Ctx} {sa : Nat} {z : Int32} {f : Int32 → Int32} (hs : ScrF C sa z f) {res : Int32} {NF : Nat} (n : Nat) (ob : Rec) (i2 : Int32) (i3 : Int32) (i4 : Int32) (i5 : Int32) (hf : L_law_l70 NF z f n ob i2 i3 i4 i5 = some res) : Runs C B0 18 318 70 [vr sa, vr C.2.2.1, vi i2, vi i3, vi i4, vi i5, vn, vn, vn, vn] [] (C.2.2.1 + 1 + 17, (C.2.2.1, 17, ob) :: []) (fun v _ => v = (some (.int res))) := by
  induction n generalizing ob i2 i3 i4 i5 with
  | zero => cases (show (none : Option (Int32)) = some res from hf)
  | succ n ih => exact L_law_w70_p hs (L_law_l70 NF z f n) (fun ob i2 i3 i4 i5 h => ih _ _ _ _ _ h) ob i2 i3 i4 i5 hf
def L_law_b59 (NF : Nat) (z : Int32) (f : Int32 → Int32) (ob : Rec) (i2 : Int32) (i3 : Int32) (i4 : Int32) : Option (Int32) :=
  if i4 < (0 : Int32) then
    L_law_l70 NF z f NF ob i2 i3 (0 : Int32) (0 : Int32)
  else
    L_law_l70 NF z f NF ob i2 i3 i4 (0 : Int32)
set_option maxRecDepth 65536 in
set_option maxHeartbeats 4000000 in
theorem L_law_b59_p {C : Ctx} {sa : Nat} {z : Int32} {f : Int32 → Int32} (hs : ScrF C sa z f) {res : Int32} {NF : Nat} (ob : Rec) (i2 : Int32) (i3 : Int32) (i4 : Int32) (hf : L_law_b59 NF z f ob i2 i3 i4 = some res) : Runs C B0 18 318 59 [vr sa, vr C.2.2.1, vi i2, vi i3, vi i4, vn, vn, vn, vn, vn] [] (C.2.2.1 + 1 + 17, (C.2.2.1, 17, ob) :: []) (fun v _ => v = (some (.int res))) := by
  delta L_law_b59 at hf
  refine Runs.iload d0_59 rfl <| ?_
  refine ite_el hf (fun hc1 hf => ?_) (fun hc1 hf => ?_)
  · refine Runs.ifN d0_61 (tlt hc1).2.1 <| ?_
    exact Runs.iconst d0_64 ci_0 <| Runs.istore (P' := [vr sa, vr C.2.2.1, vi i2, vi i3, vi (0 : Int32), vn, vn, vn, vn, vn]) d0_65 (by decide) rfl <| Runs.iconst d0_67 ci_0 <| Runs.istore (P' := [vr sa, vr C.2.2.1, vi i2, vi i3, vi (0 : Int32), vi (0 : Int32), vn, vn, vn, vn]) d0_68 (by decide) rfl <| L_law_l70_p hs NF ob i2 i3 (0 : Int32) (0 : Int32) hf
  · refine Runs.ifY (pc' := 67) d0_61 (flt hc1).2.1 (by decide) <| ?_
    exact Runs.iconst d0_67 ci_0 <| Runs.istore (P' := [vr sa, vr C.2.2.1, vi i2, vi i3, vi i4, vi (0 : Int32), vn, vn, vn, vn]) d0_68 (by decide) rfl <| L_law_l70_p hs NF ob i2 i3 i4 (0 : Int32) hf
def L_law (NF : Nat) (z : Int32) (f : Int32 → Int32) : Option (Int32) :=
  (L_cell z f (0 : Int32)).bind fun r49 =>
  (X_init ((1 : Int32) + (r49 &&& (7 : Int32)))).bind fun q51 =>
  (X_variables q51).bind fun r53 =>
  if r53 < (1 : Int32) then
    some (0 : Int32)
  else
    if (12 : Int32) < r53 then
      some (0 : Int32)
    else
      if (300 : Int32) < (z - (1 : Int32)) then
        L_law_b59 NF z f q51 r53 ((1 : Int32) <<< (r53 &&& 31)) (300 : Int32)
      else
        L_law_b59 NF z f q51 r53 ((1 : Int32) <<< (r53 &&& 31)) (z - (1 : Int32))
set_option maxRecDepth 65536 in
set_option maxHeartbeats 4000000 in
theorem L_law_p {C : Ctx} {sa : Nat} {z : Int32} {f : Int32 → Int32} (hs : ScrF C sa z f) {res : Int32} {NF : Nat} (hf : L_law NF z f = some res) : Runs C B0 0 0 0 [vr sa, vn, vn, vn, vn, vn, vn, vn, vn, vn] [] (C.2.2.1, []) (fun v _ => v = (some (.int res))) := by
  delta L_law at hf
  refine Runs.newK (k' := 1) (n' := 35) d0_0 w0 ⟨by decide, by decide⟩ rfl rfl (by intro x hx; cases hx) <| Runs.dup d0_3 rfl <| Runs.iconst d0_4 ci_1 <| Runs.aloadN d0_5 rfl <| Runs.iconst d0_6 ci_0 <| ?_
  refine bind_el hf fun r49 hg50 hf => ?_
  refine Runs.callS (N := B1) (W := 3) (as := [.ref sa, .int (0 : Int32)]) (S' := [.int (1 : Int32), .ref C.2.2.1, .ref C.2.2.1]) d0_7 w3 w4 cw1 ar1 rk0_1_3 (by decide) rfl rfl (L_cell_pay hs hg50) <| ans1 <| Runs.bipush d0_10 cb_7 <| Runs.iand d0_12 <| Runs.iadd d0_13 <| ?_
  refine bind_el hf fun q51 hg52 hf => ?_
  refine Runs.callI (N := B2) (k' := 18) (n' := 318) (W := 1) (as := [.int ((1 : Int32) + (r49 &&& (7 : Int32)))]) (S' := [.ref C.2.2.1]) d0_14 rfl rfl w7 w8 cw2 ar2 (by decide) rfl rfl rfl rfl (X_init_pay hg52) <| ans0 <| Runs.astoreN (P' := [vr sa, vr C.2.2.1, vn, vn, vn, vn, vn, vn, vn, vn]) d0_17 (by decide) rfl <| Runs.aloadN d0_18 rfl <| ?_
  refine bind_el hf fun r53 hg54 hf => ?_
  refine Runs.callV (N := B3) (W := 0) (as := []) (S' := []) d0_19 w71 w72 w73 w74 cw3 ar3 rk0_3_0 (by decide) rfl rfl (X_variables_pay hg54) <| ans1 <| Runs.istoreN (P' := [vr sa, vr C.2.2.1, vi r53, vn, vn, vn, vn, vn, vn, vn]) d0_22 (by decide) rfl <| Runs.iloadN d0_23 rfl <| Runs.iconst d0_24 ci_1 <| ?_
  refine ite_el hf (fun hc55 hf => ?_) (fun hc55 hf => ?_)
  · refine Runs.icY (pc' := 34) d0_25 (tlt hc55).1 (by decide) <| ?_
    obtain rfl := Option.some.inj hf
    exact Runs.iconst d0_34 ci_0 <| Runs.retZ (y := (0 : Int32)) d0_35 rfl ⟨by decide, by decide⟩ rfl rfl
  · refine Runs.icN d0_25 (flt hc55).1 <| ?_
    refine Runs.iloadN d0_28 rfl <| Runs.bipush d0_29 cb_12 <| ?_
    refine ite_el hf (fun hc56 hf => ?_) (fun hc56 hf => ?_)
    · refine Runs.icN d0_31 (tlt hc56).2.2.2 <| ?_
      obtain rfl := Option.some.inj hf
      exact Runs.iconst d0_34 ci_0 <| Runs.retZ (y := (0 : Int32)) d0_35 rfl ⟨by decide, by decide⟩ rfl rfl
    · refine Runs.icY (pc' := 36) d0_31 (flt hc56).2.2.2 (by decide) <| ?_
      refine Runs.iconst d0_36 ci_1 <| Runs.iloadN d0_37 rfl <| Runs.ishl d0_38 <| Runs.istoreN (P' := [vr sa, vr C.2.2.1, vi r53, vi ((1 : Int32) <<< (r53 &&& 31)), vn, vn, vn, vn, vn, vn]) d0_39 (by decide) rfl <| Runs.aloadN d0_40 rfl <| Runs.lenS hs d0_41 <| Runs.iconst d0_42 ci_1 <| Runs.isub d0_43 <| Runs.istore (P' := [vr sa, vr C.2.2.1, vi r53, vi ((1 : Int32) <<< (r53 &&& 31)), vi (z - (1 : Int32)), vn, vn, vn, vn, vn]) d0_44 (by decide) rfl <| Runs.iload d0_46 rfl <| Runs.sipush d0_48 cs_300 <| ?_
      refine ite_el hf (fun hc57 hf => ?_) (fun hc57 hf => ?_)
      · refine Runs.icN d0_51 (tlt hc57).2.2.2 <| ?_
        exact Runs.sipush d0_54 cs_300 <| Runs.istore (P' := [vr sa, vr C.2.2.1, vi r53, vi ((1 : Int32) <<< (r53 &&& 31)), vi (300 : Int32), vn, vn, vn, vn, vn]) d0_57 (by decide) rfl <| L_law_b59_p hs q51 r53 ((1 : Int32) <<< (r53 &&& 31)) (300 : Int32) hf
      · exact Runs.icY (pc' := 59) d0_51 (flt hc57).2.2.2 (by decide) <| L_law_b59_p hs q51 r53 ((1 : Int32) <<< (r53 &&& 31)) (z - (1 : Int32)) hf
theorem L_law_pay {C : Ctx} {sa : Nat} {z : Int32} {f : Int32 → Int32} (hs : ScrF C sa z f) {res : Int32} {NF : Nat} (hf : L_law NF z f = some res) : Pays C B0 [.ref sa] (C.2.2.1, []) (fun v _ => v = (some (.int res))) :=
  Pays.of pnL (Nat.le_of_ble_eq_true rfl) (P := [vr sa, vn, vn, vn, vn, vn, vn, vn, vn, vn]) 9 rfl (L_law_p hs hf)
--OWED--
theorem gI_sI (ob : Rec) (k j : Nat) (v : Int32) : gI (sI ob k v) j = if j = k then v else gI ob j := rfl
theorem gI_sA (ob : Rec) (k j : Nat) (i v : Int32) : gI (sA ob k i v) j = gI ob j := rfl
theorem gI_sJ (ob : Rec) (k j : Nat) (i : Int32) (v : Int64) : gI (sJ ob k i v) j = gI ob j := rfl
theorem gA_sI (ob : Rec) (k j : Nat) (v x : Int32) : gA (sI ob k v) j x = gA ob j x := rfl
theorem gA_sA (ob : Rec) (k j : Nat) (i v x : Int32) : gA (sA ob k i v) j x = if j = k ∧ x = i then v else gA ob j x := rfl
theorem gA_sJ (ob : Rec) (k j : Nat) (i x : Int32) (v : Int64) : gA (sJ ob k i v) j x = gA ob j x := rfl
theorem gJ_sI (ob : Rec) (k j : Nat) (v x : Int32) : gJ (sI ob k v) j x = gJ ob j x := rfl
theorem gJ_sA (ob : Rec) (k j : Nat) (i v x : Int32) : gJ (sA ob k i v) j x = gJ ob j x := rfl
theorem gJ_sJ (ob : Rec) (k j : Nat) (i x : Int32) (v : Int64) : gJ (sJ ob k i v) j x = if j = k ∧ x = i then v else gJ ob j x := rfl
theorem gI_z (k : Nat) : gI zrec k = 0 := rfl
theorem gA_z (k : Nat) (i : Int32) : gA zrec k i = 0 := rfl
theorem gJ_z (k : Nat) (i : Int32) : gJ zrec k i = 0 := rfl
theorem chk_ok {γ : Type} {n i : Int32} {A : Option γ} (h : 0 ≤ i.toInt ∧ i.toInt < n.toInt) : chk n i A = A := by
  have h0 : ¬ i < 0 := by rw [Int32.lt_iff_toInt_lt]; show ¬ i.toInt < 0; omega
  have h1 : i < n := by rw [Int32.lt_iff_toInt_lt]; exact h.2
  unfold chk; rw [if_neg h0, if_pos h1]
theorem lt_i {x y : Int32} : x < y ↔ x.toInt < y.toInt := Int32.lt_iff_toInt_lt
theorem le_i {x y : Int32} : x ≤ y ↔ x.toInt ≤ y.toInt := Int32.le_iff_toInt_le
theorem eq_i32 {x y : Int32} : x = y ↔ x.toInt = y.toInt := Int32.toInt_inj.symm
theorem bm_id {n : Int} (h : -2147483648 ≤ n ∧ n < 2147483648) : n.bmod (2 ^ 32) = n := Int.bmod_eq_of_le (by omega) (by omega)
theorem ad {x y : Int32} (h : -2147483648 ≤ x.toInt + y.toInt ∧ x.toInt + y.toInt < 2147483648) : (x + y).toInt = x.toInt + y.toInt := by rw [Int32.toInt_add, bm_id h]
theorem sb {x y : Int32} (h : -2147483648 ≤ x.toInt - y.toInt ∧ x.toInt - y.toInt < 2147483648) : (x - y).toInt = x.toInt - y.toInt := by rw [Int32.toInt_sub, bm_id h]
theorem ml {x y : Int32} (h : -2147483648 ≤ x.toInt * y.toInt ∧ x.toInt * y.toInt < 2147483648) : (x * y).toInt = x.toInt * y.toInt := by rw [Int32.toInt_mul, bm_id h]
theorem bind2_some {α β γ : Type} (a : α) (b : β) (f : α → β → Option γ) : bind2 (some (a, b)) f = f a b := rfl
theorem and_b (x m : Int32) (k : Nat) (hm : m.toBitVec.toNat = k) (hk : k < 2147483648) : 0 ≤ (x &&& m).toInt ∧ (x &&& m).toInt ≤ (k : Int) := by
  have h1 : (x &&& m).toBitVec.toNat = x.toBitVec.toNat &&& m.toBitVec.toNat := by rw [Int32.toBitVec_and, BitVec.toNat_and]
  have h2 : (x &&& m).toBitVec.toNat ≤ k := by rw [h1, hm]; exact Nat.and_le_right
  have h3 : (x &&& m).toInt = ((x &&& m).toBitVec.toNat : Int) := by
    show (x &&& m).toBitVec.toInt = _
    exact BitVec.toInt_eq_toNat_of_lt (by omega)
  rw [h3]; omega
theorem mem8 (x : Int32) : (x &&& 7) ∈ ([0, 1, 2, 3, 4, 5, 6, 7] : List Int32) := by
  have h := and_b x 7 7 rfl (by omega)
  simp only [List.mem_cons, eq_i32, Int32.reduceToInt, List.not_mem_nil, or_false]
  omega
theorem mem2 (x : Int32) : (x &&& 1) ∈ ([0, 1] : List Int32) := by
  have h := and_b x 1 1 rfl (by omega)
  simp only [List.mem_cons, eq_i32, Int32.reduceToInt, List.not_mem_nil, or_false]
  omega
theorem dv {x y : Int32} (hx : 0 ≤ x.toInt) (hy : 0 < y.toInt) : (x / y).toInt = x.toInt / y.toInt := by
  rw [Int32.toInt_div, Int.tdiv_eq_ediv_of_nonneg hx]
  have h1 : x.toInt / y.toInt ≤ x.toInt := Int.ediv_le_self _ hx
  have h2 : 0 ≤ x.toInt / y.toInt := Int.ediv_nonneg hx (by omega)
  have h3 := x.toInt_lt
  exact Int.bmod_eq_of_le (by omega) (by omega)
theorem md {x y : Int32} (hx : 0 ≤ x.toInt) (_ : 0 < y.toInt) : (x % y).toInt = x.toInt % y.toInt := by
  rw [Int32.toInt_mod, Int.tmod_eq_emod_of_nonneg hx]
def n32 (n : Nat) : Int32 := Int32.ofInt (n : Int)
theorem nt (n : Nat) (h : n < 100000) : (n32 n).toInt = n := by
  unfold n32; rw [Int32.toInt_ofInt]; exact bm_id (by omega)
theorem n32_t (x : Int32) (h : 0 ≤ x.toInt) : n32 x.toInt.toNat = x := by
  unfold n32; rw [Int.toNat_of_nonneg h, Int32.ofInt_toInt]
def cN (f : Nat → Bool) : Nat → Nat
  | 0 => 0
  | n + 1 => cN f n + (if f n then 1 else 0)
theorem cN_le {f g : Nat → Bool} : ∀ n, (∀ i, i < n → f i = true → g i = true) → cN f n ≤ cN g n
  | 0, _ => Nat.le_refl 0
  | n + 1, h => by
    have h1 := cN_le n (fun i hi => h i (by omega))
    have h2 := h n (by omega)
    show cN f n + _ ≤ cN g n + _
    cases hf : f n
    · simp; omega
    · rw [h2 hf]; simp; omega
theorem cN_eq {f g : Nat → Bool} (n : Nat) (h : ∀ i, i < n → f i = g i) : cN f n = cN g n :=
  Nat.le_antisymm (cN_le n (fun i hi e => (h i hi) ▸ e)) (cN_le n (fun i hi e => (h i hi).symm ▸ e))
theorem cN_set {f g : Nat → Bool} {j : Nat} (fj : f j = false) (gj : g j = true) : ∀ n, j < n → (∀ i, i < n → i ≠ j → g i = f i) → cN g n = cN f n + 1
  | 0, h, _ => absurd h (by omega)
  | n + 1, h, e => by
    show cN g n + _ = cN f n + _ + 1
    by_cases c : j = n
    · subst c
      rw [cN_eq j (fun i hi => e i (by omega) (by omega)), fj, gj]; simp
    · rw [cN_set fj gj n (by omega) (fun i hi => e i (by omega)), e n (by omega) (fun h => c h.symm)]; omega
theorem cN_lt {f g : Nat → Bool} {j : Nat} (n : Nat) (hj : j < n) (fj : f j = false) (gj : g j = true) (h : ∀ i, i < n → f i = true → g i = true) : cN f n + 1 ≤ cN g n := by
  have := cN_set (f := f) (g := fun i => if i = j then true else f i) fj (by simp) n hj (fun i _ c => by simp [c])
  rw [← this]
  apply cN_le
  intro i hi e
  by_cases c : i = j
  · rw [c]; exact gj
  · simp only [c, if_false] at e; exact h i hi e
theorem cN_full {f : Nat → Bool} : ∀ n m, m ≤ n → (∀ i, i < m → f i = true) → m ≤ cN f n
  | 0, m, h, _ => by omega
  | n + 1, m, h, e => by
    show m ≤ cN f n + _
    by_cases c : m ≤ n
    · have := cN_full n m c e; omega
    · have := cN_full n n (Nat.le_refl n) (fun i hi => e i (by omega))
      rw [e n (by omega)]; simp; omega
abbrev In (n : Int) (x : Int32) : Prop := 0 ≤ x.toInt ∧ x.toInt < n
theorem neg_i {x : Int32} : x < 0 ↔ x.toInt < 0 := by rw [lt_i]; exact Iff.rfl
theorem nneg {x : Int32} (h : 0 ≤ x.toInt) : ¬ x < 0 := by rw [neg_i]; omega
theorem nneg' {x : Int32} (h : ¬ x < 0) : 0 ≤ x.toInt := by rw [neg_i] at h; omega
theorem s1 {i : Int32} (h : 0 ≤ i.toInt ∧ i.toInt < 100000) : (i + 1).toInt = i.toInt + 1 := by
  rw [ad (by show -2147483648 ≤ i.toInt + 1 ∧ i.toInt + 1 < 2147483648; omega)]; rfl
theorem ckn {γ : Type} {n : Int32} {m : Int} {i : Int32} {A : Option γ} (hm : n.toInt = m) (h : In m i) : chk n i A = A := chk_ok (by rw [hm]; exact h)
theorem ltn {x y : Int32} {m : Int} (hm : y.toInt = m) (h : x.toInt < m) : x < y := by rw [lt_i, hm]; exact h
theorem nltn {x y : Int32} {m : Int} (hm : y.toInt = m) (h : ¬ x.toInt < m) : ¬ x < y := by rw [lt_i, hm]; exact h
theorem cN_b (f : Nat → Bool) : ∀ n, cN f n ≤ n
  | 0 => Nat.le_refl 0
  | n + 1 => by
    have := cN_b f n
    show cN f n + _ ≤ n + 1
    split <;> omega
theorem cN_pos {f : Nat → Bool} {j : Nat} (n : Nat) (hj : j < n) (fj : f j = true) : 1 ≤ cN f n := by
  have z : ∀ n, cN (fun _ => false) n = 0 := fun n => by induction n with
    | zero => rfl
    | succ n ih => show cN (fun _ => false) n + _ = 0; rw [ih]; rfl
  have := cN_lt (f := fun _ => false) (g := f) n hj rfl fj (fun _ _ e => by simp at e)
  rw [z] at this; exact this
theorem ni {i n : Nat} (h : i < n) (hn : n ≤ 1000) : In (n : Int) (n32 i) := by
  rw [In, nt i (by omega)]; omega
theorem n32_inj {i j : Nat} (hi : i < 1000) (hj : j < 1000) (e : n32 i = n32 j) : i = j := by
  have := congrArg Int32.toInt e
  rw [nt i (by omega), nt j (by omega)] at this; omega
theorem n32_ne {i j : Nat} (hi : i < 1000) (hj : j < 1000) (h : ¬ i = j) : ¬ n32 i = n32 j := fun e => h (n32_inj hi hj e)
theorem n32_s {i : Nat} (hi : i < 1000) : n32 i + 1 = n32 (i + 1) := eq_i32.mpr (by rw [s1 (by rw [nt i (by omega)]; omega), nt i (by omega), nt (i + 1) (by omega)]; omega)
theorem n32_lt {i j : Nat} (hi : i < 1000) (hj : j < 1000) : n32 i < n32 j ↔ i < j := by rw [lt_i, nt i (by omega), nt j (by omega)]; omega
theorem n32_b {i : Nat} (hi : i < 1000) : 0 ≤ (n32 i).toInt ∧ (n32 i).toInt = i := by rw [nt i (by omega)]; omega
theorem ck32 {γ : Type} {n : Int32} {m i : Nat} {A : Option γ} (hm : n.toInt = m) (h : i < m) (hi : i < 1000) : chk n (n32 i) A = A := chk_ok (by rw [hm, nt i (by omega)]; omega)
theorem n32_add {i j : Nat} (hi : i < 1000) (hj : j < 1000) : n32 i + n32 j = n32 (i + j) := eq_i32.mpr (by rw [ad (by rw [nt i (by omega), nt j (by omega)]; omega), nt i (by omega), nt j (by omega), nt (i + j) (by omega)]; omega)
theorem n32_p {i : Nat} (hi : i < 1000) : n32 (i + 1) - 1 = n32 i := eq_i32.mpr (by rw [sb (by rw [nt (i + 1) (by omega)]; show -2147483648 ≤ ((i + 1 : Nat) : Int) - 1 ∧ ((i + 1 : Nat) : Int) - 1 < 2147483648; omega), nt (i + 1) (by omega), nt i (by omega)]; show ((i + 1 : Nat) : Int) - 1 = _; omega)
theorem n32_mul {i j : Nat} (hi : i < 1000) (hj : j < 100) : n32 i * n32 j = n32 (i * j) := by
  have b : (i * j : Nat) < 100000 := by
    have : i * j ≤ 999 * 99 := Nat.mul_le_mul (by omega) (by omega)
    omega
  refine eq_i32.mpr ?_
  have e : (n32 i).toInt * (n32 j).toInt = ((i * j : Nat) : Int) := by rw [nt i (by omega), nt j (by omega)]; exact (Int.natCast_mul i j).symm
  rw [ml (by rw [e]; omega), e, nt _ b]
theorem n32_d {n : Nat} (h : n < 1000) : n32 (n + 1) + (-1) = n32 n := by
  rw [eq_i32, ad (by rw [nt (n + 1) (by omega)]; show -2147483648 ≤ ((n + 1 : Nat) : Int) + (-1) ∧ ((n + 1 : Nat) : Int) + (-1) < 2147483648; omega), nt (n + 1) (by omega), nt n (by omega)]
  show ((n + 1 : Nat) : Int) + (-1) = n
  omega
theorem n32_e (x : Int32) (h : 0 ≤ x.toInt) : ∃ n : Nat, x = n32 n ∧ (n : Int) = x.toInt := ⟨x.toInt.toNat, (n32_t x h).symm, by omega⟩
def bb (x : Int32) (v : Nat) : Bool := x.toBitVec.getLsbD v
theorem bb_and (x y : Int32) (v : Nat) : bb (x &&& y) v = (bb x v && bb y v) := by unfold bb; rw [Int32.toBitVec_and, BitVec.getLsbD_and]
theorem bb_or (x y : Int32) (v : Nat) : bb (x ||| y) v = (bb x v || bb y v) := by unfold bb; rw [Int32.toBitVec_or, BitVec.getLsbD_or]
theorem bb_xor (x y : Int32) (v : Nat) : bb (x ^^^ y) v = (bb x v ^^ bb y v) := by unfold bb; rw [Int32.toBitVec_xor, BitVec.getLsbD_xor]
theorem bb_0 (v : Nat) : bb 0 v = false := by unfold bb; show (0#32).getLsbD v = false; simp
theorem bb_m1 {v : Nat} (h : v < 32) : bb (-1) v = true := by
  unfold bb
  have : (-1 : Int32).toBitVec = BitVec.allOnes 32 := by decide
  rw [this, BitVec.getLsbD_allOnes]; simp [h]
theorem bb_h (x : Int32) {v : Nat} (h : 32 ≤ v) : bb x v = false := BitVec.getLsbD_of_ge _ _ h
theorem bb_not (x : Int32) {v : Nat} (h : v < 32) : bb (x ^^^ -1) v = !bb x v := by rw [bb_xor, bb_m1 h]; simp
theorem bb_ext {x y : Int32} (h : ∀ v, v < 32 → bb x v = bb y v) : x = y := Int32.toBitVec_inj.mp (BitVec.eq_of_getLsbD_eq (fun i hi => h i hi))
theorem sh_n : ∀ v ∈ List.range 12, ((n32 v &&& 31).toBitVec.smod 32).toNat = v := by decide +kernel
theorem bb_sh {v : Nat} (hv : v < 12) (w : Nat) : bb ((1 : Int32) <<< (n32 v &&& 31)) w = decide (w = v) := by
  unfold bb
  have o : (1 : Int32).toBitVec = 1#32 := rfl
  rw [Int32.toBitVec_shiftLeft, BitVec.shiftLeft_eq', sh_n v (List.mem_range.mpr hv), BitVec.getLsbD_shiftLeft, o, BitVec.getLsbD_one]
  by_cases c : w = v
  · subst c; simp; omega
  · by_cases d : w < v
    · simp [d, c]
    · have : ¬ w - v = 0 := by omega
      simp [this, c]
theorem and_0 {x : Int32} {v : Nat} (hv : v < 12) : x &&& ((1 : Int32) <<< (n32 v &&& 31)) = 0 ↔ bb x v = false := by
  refine ⟨fun e => ?_, fun e => bb_ext (fun w hw => ?_)⟩
  · have := congrArg (fun z => bb z v) e
    simp only [bb_and, bb_sh hv, bb_0] at this
    simpa using this
  · rw [bb_and, bb_sh hv, bb_0]
    by_cases c : w = v
    · rw [c, e]; rfl
    · rw [decide_eq_false c]; simp
theorem ne_0 {x : Int32} (h : ¬ x = 0) : ∃ v, v < 32 ∧ bb x v = true := by
  apply Classical.byContradiction
  intro c
  apply h
  apply bb_ext
  intro v hv
  rw [bb_0]
  cases e : bb x v
  · rfl
  · exact absurd ⟨v, hv, e⟩ c
/-- the parity of the bits -/
def shr (x : Int32) (k : Int32) : Int32 := (x.toUInt32 >>> (k &&& 31).toUInt32).toInt32
theorem shr_x (x y k : Int32) : shr (x ^^^ y) k = shr x k ^^^ shr y k := by
  apply Int32.toBitVec_inj.mp
  show ((x ^^^ y).toUInt32 >>> (k &&& 31).toUInt32).toBitVec = (shr x k ^^^ shr y k).toBitVec
  rw [Int32.toBitVec_xor]
  show _ = (x.toUInt32 >>> (k &&& 31).toUInt32).toBitVec ^^^ (y.toUInt32 >>> (k &&& 31).toUInt32).toBitVec
  rw [UInt32.toBitVec_shiftRight, UInt32.toBitVec_shiftRight, UInt32.toBitVec_shiftRight]
  have e : (x ^^^ y).toUInt32.toBitVec = x.toUInt32.toBitVec ^^^ y.toUInt32.toBitVec := Int32.toBitVec_xor x y
  rw [e]
  apply BitVec.eq_of_getLsbD_eq
  intro i hi
  simp [BitVec.getLsbD_ushiftRight]
def fo (x k : Int32) : Int32 := x ^^^ shr x k
def par (x : Int32) : Int32 := fo (fo (fo (fo (fo x 16) 8) 4) 2) 1 &&& 1
theorem xor_sw (a b c d : Int32) : (a ^^^ b) ^^^ (c ^^^ d) = (a ^^^ c) ^^^ (b ^^^ d) := bb_ext (fun v _ => by
  simp only [bb_xor]; cases bb a v <;> cases bb b v <;> cases bb c v <;> cases bb d v <;> rfl)
theorem fo_x (x y k : Int32) : fo (x ^^^ y) k = fo x k ^^^ fo y k := by unfold fo; rw [shr_x, xor_sw]
theorem par_x (x y : Int32) : par (x ^^^ y) = par x ^^^ par y := by
  unfold par
  rw [fo_x, fo_x, fo_x, fo_x, fo_x]
  apply bb_ext
  intro v _
  simp only [bb_and, bb_xor]
  cases bb (1 : Int32) v <;> simp
theorem par_0 : par 0 = 0 := by decide
theorem par_b (x : Int32) : par x = 0 ∨ par x = 1 := by
  have := mem2 (fo (fo (fo (fo (fo x 16) 8) 4) 2) 1)
  simp only [List.mem_cons, List.not_mem_nil, or_false] at this
  exact this
theorem par_s : ∀ v ∈ List.range 12, par ((1 : Int32) <<< (n32 v &&& 31)) = 1 := by decide +kernel
theorem par_e (ob : Rec) (x : Int32) : X_parity ob x = some (par x) := rfl
theorem xo_0 : ∀ a ∈ ([0, 1] : List Int32), ∀ b ∈ ([0, 1] : List Int32), (a ^^^ b = 0 ↔ a = b) ∧ (a ^^^ b = 0 ∨ a ^^^ b = 1) := by decide
theorem z1 {a : Int32} (h : a = 0 ∨ a = 1) : a ∈ ([0, 1] : List Int32) := by simpa using h
theorem x01 {a b : Int32} (ha : a = 0 ∨ a = 1) (hb : b = 0 ∨ b = 1) : (a ^^^ b = 0 ↔ a = b) ∧ (a ^^^ b = 0 ∨ a ^^^ b = 1) := xo_0 a (z1 ha) b (z1 hb)
/-- b solves the row -/
abbrev Eq1 (m r b : Int32) : Prop := par (b &&& m) = r
theorem and_xd (b m m' : Int32) : b &&& (m ^^^ m') = (b &&& m) ^^^ (b &&& m') := bb_ext (fun v _ => by
  simp only [bb_and, bb_xor]; cases bb b v <;> simp)
theorem xor_c (a b : Int32) : (a ^^^ b) ^^^ b = a := bb_ext (fun v _ => by
  simp only [bb_xor]; cases bb a v <;> cases bb b v <;> rfl)
theorem Eq1_x {m r m' r' b : Int32} (h' : Eq1 m' r' b) : Eq1 (m ^^^ m') (r ^^^ r') b ↔ Eq1 m r b := by
  show par (b &&& (m ^^^ m')) = r ^^^ r' ↔ par (b &&& m) = r
  rw [and_xd, par_x, h']
  refine ⟨fun e => ?_, fun e => by rw [e]⟩
  have := congrArg (fun z => z ^^^ r') e
  simp only [xor_c] at this
  exact this
/-- masks within the full mask -/
abbrev Wi (n : Nat) (x : Int32) : Prop := ∀ v, n ≤ v → bb x v = false
theorem Wi_n {n : Nat} (hn : n ≤ 8) : ∀ x, Wi n x → ∃ k : Nat, k < 2 ^ n ∧ x = n32 k := by
  intro x h
  have hx : x.toBitVec.toNat < 2 ^ n := by
    apply Nat.lt_pow_two_of_testBit
    intro i hi
    exact h i hi
  refine ⟨x.toBitVec.toNat, hx, ?_⟩
  apply Int32.toBitVec_inj.mp
  unfold n32
  apply BitVec.eq_of_toNat_eq
  have : (2 : Nat) ^ n ≤ 2 ^ 8 := Nat.pow_le_pow_right (by omega) hn
  rw [Int32.toBitVec_ofInt, BitVec.toNat_ofInt]
  omega
theorem n_Wi {n : Nat} (hn : n ≤ 8) {k : Nat} (hk : k < 2 ^ n) : Wi n (n32 k) ∧ (n32 k).toBitVec.toNat = k := by
  have e : (n32 k).toBitVec.toNat = k := by
    unfold n32
    have : (2 : Nat) ^ n ≤ 2 ^ 8 := Nat.pow_le_pow_right (by omega) hn
    rw [Int32.toBitVec_ofInt, BitVec.toNat_ofInt]
    omega
  refine ⟨fun v hv => ?_, e⟩
  unfold bb
  rw [BitVec.getLsbD, e]
  exact Nat.testBit_lt_two_pow (Nat.lt_of_lt_of_le hk (Nat.pow_le_pow_right (by omega) hv))
theorem full_e : ∀ n ∈ List.range 9, ∀ v ∈ List.range 32, bb (((1 : Int32) <<< (n32 n &&& 31)) - 1) v = decide (v < n) := by decide +kernel
theorem pow8 {n : Nat} (hn : n ≤ 8) : 2 ^ n ≤ 256 := Nat.pow_le_pow_right (by omega) hn
theorem single : ∀ m ∈ List.range 256, ¬ n32 m = 0 → (n32 m &&& (n32 m - 1)) = 0 → ∃ v ∈ List.range 8, n32 m = (1 : Int32) <<< (n32 v &&& 31) := by decide +kernel
theorem cN_inj {f g : Nat → Bool} : ∀ (N : Nat) (M : Nat) (φ : Nat → Nat), (∀ i, i < N → f i = true → φ i < M ∧ g (φ i) = true) → (∀ i j, i < N → j < N → f i = true → f j = true → φ i = φ j → i = j) → cN f N ≤ cN g M
  | 0, M, φ, _, _ => Nat.zero_le _
  | N + 1, M, φ, h1, h2 => by
    show cN f N + (if f N = true then 1 else 0) ≤ cN g M
    by_cases c : f N = true
    · rw [if_pos c]
      obtain ⟨a, b⟩ := h1 N (by omega) c
      have s := cN_set (f := fun j => g j && !decide (j = φ N)) (g := g) (j := φ N) (by simp) b M a (fun i _ ne => by simp [ne])
      rw [s]
      have := cN_inj (f := f) (g := fun j => g j && !decide (j = φ N)) N M φ (fun i hi e => ⟨(h1 i (by omega) e).1, by
        have ne : ¬ φ i = φ N := fun z => by have := h2 i N (by omega) (by omega) e c z; omega
        simp [(h1 i (by omega) e).2, ne]⟩) (fun i j hi hj => h2 i j (by omega) (by omega))
      omega
    · rw [if_neg c]
      exact cN_inj N M φ (fun i hi => h1 i (by omega)) (fun i j hi hj => h2 i j (by omega) (by omega))
theorem cN_t : ∀ n, cN (fun _ => true) n = n
  | 0 => rfl
  | n + 1 => by show cN (fun _ => true) n + 1 = n + 1; rw [cN_t n]
theorem lpN {α : Type} (L : Nat → Nat → Option α) (n : Nat) (R : Option α) (hstop : ∀ f, L (f + 1) n = R) (hstep : ∀ f i, i < n → L (f + 1) i = L f (i + 1)) : ∀ d fuel i, i + d = n → d < fuel → L fuel i = R := by
  intro d
  induction d with
  | zero =>
    intro fuel i hi hf
    obtain ⟨g, rfl⟩ : ∃ g, fuel = g + 1 := ⟨fuel - 1, by omega⟩
    rw [show i = n by omega]; exact hstop g
  | succ d ih =>
    intro fuel i hi hf
    obtain ⟨g, rfl⟩ : ∃ g, fuel = g + 1 := ⟨fuel - 1, by omega⟩
    rw [hstep g i (by omega)]
    exact ih g (i + 1) (by omega) (by omega)
theorem lpE {α : Type} (L : Nat → Rec → Nat → Option α) (Q : Rec → Nat → Prop) (n : Nat) (R : Rec → Option α) (hstop : ∀ f ob, Q ob n → L (f + 1) ob n = R ob) (hstep : ∀ f ob i, i < n → Q ob i → ∃ ob', L (f + 1) ob i = L f ob' (i + 1) ∧ Q ob' (i + 1)) : ∀ d fuel ob i, i + d = n → d < fuel → Q ob i → ∃ r, L fuel ob i = R r ∧ Q r n := by
  intro d
  induction d with
  | zero =>
    intro fuel ob i hi hf hq
    obtain ⟨g, rfl⟩ : ∃ g, fuel = g + 1 := ⟨fuel - 1, by omega⟩
    rw [show i = n by omega] at hq ⊢
    exact ⟨ob, hstop g ob hq, hq⟩
  | succ d ih =>
    intro fuel ob i hi hf hq
    obtain ⟨g, rfl⟩ : ∃ g, fuel = g + 1 := ⟨fuel - 1, by omega⟩
    obtain ⟨ob', e, hq'⟩ := hstep g ob i (by omega) hq
    rw [e]
    exact ih g ob' (i + 1) (by omega) (by omega) hq'
theorem nlt {i n : Nat} (hi : i < 1000) (hn : n < 1000) (h : ¬ i < n) : ¬ n32 i < n32 n := fun z => h ((n32_lt hi hn).mp z)
theorem ylt {i n : Nat} (hi : i < 1000) (hn : n < 1000) (h : i < n) : n32 i < n32 n := (n32_lt hi hn).mpr h
abbrev Fg (ob r : Rec) : Prop := (∀ j, ¬ j = 12 → gI r j = gI ob j) ∧ ∀ j x, ¬ j = 10 → ¬ j = 11 → ¬ j = 12 → gA r j x = gA ob j x
theorem Fg.tr {a b c : Rec} (h : Fg a b) (g : Fg b c) : Fg a c := ⟨fun j hj => (g.1 j hj).trans (h.1 j hj), fun j x h1 h2 h3 => (g.2 j x h1 h2 h3).trans (h.2 j x h1 h2 h3)⟩
def gM (ob : Rec) (r : Nat) : Int32 := gA ob 10 (n32 r)
def gR (ob : Rec) (r : Nat) : Int32 := gA ob 11 (n32 r)
theorem fp_e (NF : Nat) (hNF : 300 < NF) {ob : Rec} {N k c : Nat} (h11 : gI ob 11 = n32 N) (h12 : gI ob 12 = n32 k) (hN : N ≤ 16) (hk : k ≤ N) (hc : c < 12) :
    (X_findPivot NF ob (n32 c) = some (-1) ∧ ∀ r, k ≤ r → r < N → bb (gM ob r) c = false) ∨ ∃ p, k ≤ p ∧ p < N ∧ bb (gM ob p) c = true ∧ X_findPivot NF ob (n32 c) = some (n32 p) := by
  unfold X_findPivot
  rw [h12]
  have main : ∀ (m fuel i : Nat), m < fuel → k ≤ i → i ≤ N → N - i ≤ m → (∀ r, k ≤ r → r < i → bb (gM ob r) c = false) →
      (X_findPivot_l9 NF ob fuel ((1 : Int32) <<< (n32 c &&& 31)) (n32 i) = some (-1) ∧ ∀ r, k ≤ r → r < N → bb (gM ob r) c = false) ∨ ∃ p, k ≤ p ∧ p < N ∧ bb (gM ob p) c = true ∧ X_findPivot_l9 NF ob fuel ((1 : Int32) <<< (n32 c &&& 31)) (n32 i) = some (n32 p) := by
    intro m
    induction m with
    | zero =>
      intro fuel i hf h1 h2 h3 hz
      obtain ⟨g, rfl⟩ : ∃ g, fuel = g + 1 := ⟨fuel - 1, by omega⟩
      have e : i = N := by omega
      left
      refine ⟨?_, by rw [← e]; exact hz⟩
      show X_findPivot_w9 NF ob _ _ _ = _
      unfold X_findPivot_w9
      rw [h11, if_neg (nlt (by omega) (by omega) (by omega))]
    | succ m ih =>
      intro fuel i hf h1 h2 h3 hz
      obtain ⟨g, rfl⟩ : ∃ g, fuel = g + 1 := ⟨fuel - 1, by omega⟩
      show (X_findPivot_w9 NF ob (X_findPivot_l9 NF ob g) _ _ = _ ∧ _) ∨ ∃ p, _ ∧ _ ∧ _ ∧ X_findPivot_w9 NF ob (X_findPivot_l9 NF ob g) _ _ = _
      unfold X_findPivot_w9
      rw [h11]
      by_cases e : i = N
      · left
        rw [if_neg (nlt (by omega) (by omega) (by omega))]
        exact ⟨rfl, by rw [← e]; exact hz⟩
      · rw [if_pos (ylt (by omega) (by omega) (by omega)), if_pos (show n32 i < (16 : Int32) from ylt (n := 16) (by omega) (by omega) (by omega)), if_neg (nneg (n32_b (by omega)).1), ck32 (m := 16) rfl (by omega) (by omega), n32_s (by omega)]
        by_cases d : bb (gM ob i) c = true
        · right
          have : ¬ gA ob 10 (n32 i) &&& ((1 : Int32) <<< (n32 c &&& 31)) = 0 := fun z => by
            have := (and_0 hc).mp z
            unfold gM at d; rw [this] at d; exact absurd d (by decide)
          rw [if_neg this]
          exact ⟨i, h1, by omega, d, rfl⟩
        · have d' : bb (gM ob i) c = false := eq_false_of_ne_true d
          rw [if_pos (show gA ob 10 (n32 i) &&& ((1 : Int32) <<< (n32 c &&& 31)) = 0 from (and_0 hc).mpr d')]
          exact ih g (i + 1) (by omega) (by omega) (by omega) (by omega) (fun r r1 r2 => by
            by_cases z : r = i
            · rw [z]; exact d'
            · exact hz r r1 (by omega))
  exact main 20 NF k (by omega) (Nat.le_refl _) hk (by omega) (fun r a b => by omega)
def swp (p k x : Nat) : Nat := if x = p then k else if x = k then p else x
theorem sw_e {ob : Rec} {p k : Nat} (hp : p < 16) (hk : k < 16) : ∃ r, X_swapRows ob (n32 p) (n32 k) = some r ∧ (∀ j, gI r j = gI ob j) ∧ (∀ j x, ¬ j = 10 → ¬ j = 11 → gA r j x = gA ob j x) ∧ ∀ x, x < 16 → gM r x = gM ob (swp p k x) ∧ gR r x = gR ob (swp p k x) := by
  unfold X_swapRows
  by_cases c : p = k
  · rw [if_pos (by rw [c])]
    refine ⟨ob, rfl, fun _ => rfl, fun _ _ _ _ => rfl, fun x hx => ?_⟩
    have : swp p k x = x := by unfold swp; rw [c]; by_cases d : x = k
                               · rw [if_pos d, d]
                               · rw [if_neg d, if_neg d]
    rw [this]; exact ⟨rfl, rfl⟩
  · have q1 : ∀ A : Option Rec, chk 16 (n32 p) A = A := fun A => ck32 (m := 16) rfl hp (by omega)
    have q2 : ∀ A : Option Rec, chk 16 (n32 k) A = A := fun A => ck32 (m := 16) rfl hk (by omega)
    rw [if_neg (n32_ne (by omega) (by omega) c), if_neg (nneg (n32_b (by omega)).1), if_neg (nneg (n32_b (by omega)).1), if_pos (show n32 p < (16 : Int32) from ylt (n := 16) (by omega) (by omega) hp), if_pos (show n32 k < (16 : Int32) from ylt (n := 16) (by omega) (by omega) hk), q1, q2, q1, q2, q1, q2, q1, q2]
    refine ⟨_, rfl, fun _ => rfl, fun j x a b => by simp [gA_sA, a, b], fun x hx => ?_⟩
    have npk : ¬ n32 p = n32 k := n32_ne (by omega) (by omega) c
    unfold gM gR swp
    by_cases d : x = p
    · rw [if_pos d, d]; simp [gA_sA, npk]
    · have d' : ¬ n32 x = n32 p := n32_ne (by omega) (by omega) d
      rw [if_neg d]
      by_cases e : x = k
      · rw [if_pos e, e]; simp [gA_sA]
      · have e' : ¬ n32 x = n32 k := n32_ne (by omega) (by omega) e
        rw [if_neg e]; simp [gA_sA, d', e']
theorem cc_e (NF : Nat) (hNF : 300 < NF) {ob : Rec} {N k c : Nat} (h11 : gI ob 11 = n32 N) (hN : N ≤ 16) (hk : k < N) (hc : c < 12) : ∃ r, X_clearColumn NF ob (n32 c) (n32 k) = some r ∧ (∀ j, gI r j = gI ob j) ∧ (∀ j x, ¬ j = 10 → ¬ j = 11 → gA r j x = gA ob j x) ∧ (∀ x, x < N → gM r x = (if ¬ x = k ∧ bb (gM ob x) c = true then gM ob x ^^^ gM ob k else gM ob x) ∧ gR r x = (if ¬ x = k ∧ bb (gM ob x) c = true then gR ob x ^^^ gR ob k else gR ob x)) := by
  unfold X_clearColumn
  rw [if_neg (nneg (n32_b (by omega)).1), if_pos (show n32 k < (16 : Int32) from ylt (n := 16) (by omega) (by omega) (by omega))]
  obtain ⟨r, r1, r2, r3, r4, r5⟩ := lpE (fun fuel ob' i => X_clearColumn_l18 NF fuel ob' (n32 k) ((1 : Int32) <<< (n32 c &&& 31)) (n32 i)) (fun r i => (∀ j, gI r j = gI ob j) ∧ (∀ j x, ¬ j = 10 → ¬ j = 11 → gA r j x = gA ob j x) ∧ (∀ x, x < i → gM r x = (if ¬ x = k ∧ bb (gM ob x) c = true then gM ob x ^^^ gM ob k else gM ob x) ∧ gR r x = (if ¬ x = k ∧ bb (gM ob x) c = true then gR ob x ^^^ gR ob k else gR ob x)) ∧ (∀ x, i ≤ x → x < N → gM r x = gM ob x ∧ gR r x = gR ob x)) N (fun r => some r) (fun f r hq => by
    show X_clearColumn_w18 NF _ r _ _ _ = _
    unfold X_clearColumn_w18
    rw [hq.1 11, h11, if_neg (nlt (by omega) (by omega) (by omega))]) (fun f r i hi hq => by
    obtain ⟨q1, q2, q3, q4⟩ := hq
    have k16 : ∀ A : Option Rec, chk 16 (n32 i) A = A := fun A => ck32 (m := 16) rfl (by omega) (by omega)
    have k16' : ∀ A : Option Rec, chk 16 (n32 k) A = A := fun A => ck32 (m := 16) rfl (by omega) (by omega)
    have ki : gM r k = gM ob k ∧ gR r k = gR ob k := by
      by_cases z : k < i
      · have := q3 k z
        rw [if_neg (fun y => y.1 rfl), if_neg (fun y => y.1 rfl)] at this; exact this
      · exact q4 k (by omega) hk
    have ii := q4 i (Nat.le_refl _) hi
    have same : (¬ (¬ i = k ∧ bb (gM ob i) c = true)) → (∀ x, x < i + 1 → gM r x = (if ¬ x = k ∧ bb (gM ob x) c = true then gM ob x ^^^ gM ob k else gM ob x) ∧ gR r x = (if ¬ x = k ∧ bb (gM ob x) c = true then gR ob x ^^^ gR ob k else gR ob x)) ∧ (∀ x, i + 1 ≤ x → x < N → gM r x = gM ob x ∧ gR r x = gR ob x) := fun ne => ⟨fun x hx => by
      by_cases z : x = i
      · rw [z, if_neg ne, if_neg ne]; exact ii
      · exact q3 x (by omega), fun x x1 x2 => q4 x (by omega) x2⟩
    show ∃ ob', X_clearColumn_w18 NF (X_clearColumn_l18 NF f) r _ _ _ = X_clearColumn_l18 NF f ob' _ _ (n32 (i + 1)) ∧ _
    unfold X_clearColumn_w18
    rw [q1 11, h11, if_pos (ylt (by omega) (by omega) hi), if_pos (show n32 i < (16 : Int32) from ylt (n := 16) (by omega) (by omega) (by omega)), n32_s (by omega)]
    by_cases c1 : i = k
    · rw [if_pos (by rw [c1])]
      exact ⟨r, rfl, q1, q2, same (fun y => y.1 c1)⟩
    · rw [if_neg (n32_ne (by omega) (by omega) c1), k16]
      by_cases c2 : bb (gM ob i) c = true
      · have ne : ¬ gA r 10 (n32 i) &&& ((1 : Int32) <<< (n32 c &&& 31)) = 0 := fun z => by
          have := (and_0 hc).mp z
          have e : gA r 10 (n32 i) = gM ob i := ii.1
          rw [e] at this; rw [this] at c2; exact absurd c2 (by decide)
        rw [if_neg ne, k16, k16', k16, k16, k16', k16]
        generalize hw : sA (sA r 10 (n32 i) (gA r 10 (n32 i) ^^^ gA r 10 (n32 k))) 11 (n32 i) (gA r 11 (n32 i) ^^^ gA r 11 (n32 k)) = w
        have wo : ∀ x, ¬ n32 x = n32 i → gM w x = gM r x ∧ gR w x = gR r x := fun x ne' => by
          rw [← hw]
          exact ⟨by show gA _ 10 _ = _; rw [gA_sA, if_neg (fun e => ne' e.2), gA_sA, if_neg (fun e => ne' e.2)]; rfl, by show gA _ 11 _ = _; rw [gA_sA, if_neg (fun e => ne' e.2), gA_sA, if_neg (fun e => ne' e.2)]; rfl⟩
        have wi : gM w i = gM ob i ^^^ gM ob k ∧ gR w i = gR ob i ^^^ gR ob k := by
          rw [← ii.1, ← ii.2, ← ki.1, ← ki.2, ← hw]
          exact ⟨by show gA _ 10 _ = _; rw [gA_sA, if_neg (fun e => absurd e.1 (by decide)), gA_sA, if_pos ⟨rfl, rfl⟩]; rfl, by show gA _ 11 _ = _; rw [gA_sA, if_pos ⟨rfl, rfl⟩]; rfl⟩
        refine ⟨w, rfl, fun j => by rw [← hw]; exact q1 j, fun j x a b => by rw [← hw, gA_sA, if_neg (fun e => b e.1), gA_sA, if_neg (fun e => a e.1)]; exact q2 j x a b, fun x hx => ?_, fun x x1 x2 => ?_⟩
        · by_cases z : x = i
          · rw [z, if_pos ⟨c1, c2⟩, if_pos ⟨c1, c2⟩]; exact wi
          · have u := wo x (n32_ne (by omega) (by omega) z)
            rw [u.1, u.2]; exact q3 x (by omega)
        · have u := wo x (n32_ne (by omega) (by omega) (by omega))
          rw [u.1, u.2]; exact q4 x (by omega) x2
      · have c2' : bb (gM ob i) c = false := eq_false_of_ne_true c2
        have z : gA r 10 (n32 i) &&& ((1 : Int32) <<< (n32 c &&& 31)) = 0 := (and_0 hc).mpr (by have e : gA r 10 (n32 i) = gM ob i := ii.1; rw [e]; exact c2')
        rw [if_pos z]
        exact ⟨r, rfl, q1, q2, same (fun y => c2 y.2)⟩) N NF ob 0 (by omega) (by omega) ⟨fun _ => rfl, fun _ _ _ _ => rfl, fun x hx => by omega, fun x _ _ => ⟨rfl, rfl⟩⟩
  exact ⟨r, r1, r2, r3, r4⟩
/-- rows within n columns -/
abbrev RO (n N : Nat) (ob : Rec) : Prop := ∀ r, r < N → Wi n (gM ob r) ∧ (gR ob r = 0 ∨ gR ob r = 1)
abbrev Sol (N : Nat) (ob : Rec) (b : Int32) : Prop := ∀ r, r < N → Eq1 (gM ob r) (gR ob r) b
abbrev EI (ob o : Rec) (n N c k : Nat) (pv : Nat → Nat) : Prop := (Fg ob o) ∧ (gI o 12 = n32 k) ∧ (RO n N o) ∧ (∀ b, Sol N o b ↔ Sol N ob b) ∧ (k ≤ N ∧ k ≤ c) ∧ (∀ r, r < k → gA o 12 (n32 r) = n32 (pv r) ∧ pv r < c ∧ bb (gM o r) (pv r) = true) ∧ (∀ r r', r < k → r' < N → ¬ r' = r → bb (gM o r') (pv r) = false) ∧ (∀ r, k ≤ r → r < N → ∀ v, v < c → bb (gM o r) v = false)
theorem EI.fg {ob o : Rec} {n N c k : Nat} {pv : Nat → Nat} (h : EI ob o n N c k pv) : Fg ob o := h.1
theorem EI.e12 {ob o : Rec} {n N c k : Nat} {pv : Nat → Nat} (h : EI ob o n N c k pv) : gI o 12 = n32 k := h.2.1
theorem EI.ro {ob o : Rec} {n N c k : Nat} {pv : Nat → Nat} (h : EI ob o n N c k pv) : RO n N o := h.2.2.1
theorem EI.so {ob o : Rec} {n N c k : Nat} {pv : Nat → Nat} (h : EI ob o n N c k pv) : ∀ b, Sol N o b ↔ Sol N ob b := h.2.2.2.1
theorem EI.kb {ob o : Rec} {n N c k : Nat} {pv : Nat → Nat} (h : EI ob o n N c k pv) : k ≤ N ∧ k ≤ c := h.2.2.2.2.1
theorem EI.pa {ob o : Rec} {n N c k : Nat} {pv : Nat → Nat} (h : EI ob o n N c k pv) : ∀ r, r < k → gA o 12 (n32 r) = n32 (pv r) ∧ pv r < c ∧ bb (gM o r) (pv r) = true := h.2.2.2.2.2.1
theorem EI.pz {ob o : Rec} {n N c k : Nat} {pv : Nat → Nat} (h : EI ob o n N c k pv) : ∀ r r', r < k → r' < N → ¬ r' = r → bb (gM o r') (pv r) = false := h.2.2.2.2.2.2.1
theorem EI.lo {ob o : Rec} {n N c k : Nat} {pv : Nat → Nat} (h : EI ob o n N c k pv) : ∀ r, k ≤ r → r < N → ∀ v, v < c → bb (gM o r) v = false := h.2.2.2.2.2.2.2
theorem el_s (NF : Nat) (hNF : 300 < NF) {ob o : Rec} {n N c k : Nat} {pv : Nat → Nat} (hn : n ≤ 8) (hN : N ≤ 16) (h11 : gI ob 11 = n32 N) (hc : c < n) (h : EI ob o n N c k pv) (k7 : Rec → Int32 → Option Rec) (h0 : gI ob 0 = n32 n) : ∃ o' k' pv', X_eliminate_w7 NF k7 o (n32 c) = k7 o' (n32 (c + 1)) ∧ EI ob o' n N (c + 1) k' pv' := by
  obtain ⟨fg, e12, ro, so, ⟨kb, kc⟩, pa, pz, lo⟩ := h
  have o11 : gI o 11 = n32 N := (fg.1 11 (by decide)).trans h11
  unfold X_eliminate_w7
  rw [fg.1 0 (by decide), h0, if_pos (ylt (by omega) (by omega) hc), if_pos (show n32 c < (12 : Int32) from ylt (n := 12) (by omega) (by omega) (by omega)), n32_s (by omega)]
  rcases fp_e NF hNF o11 e12 hN kb (by omega) (c := c) with ⟨f1, f2⟩ | ⟨p, p1, p2, p3, p4⟩
  · rw [f1, Option.bind_some, if_pos (by decide)]
    exact ⟨o, k, pv, rfl, fg, e12, ro, so, ⟨kb, by omega⟩, fun r hr => ⟨(pa r hr).1, by have := (pa r hr).2.1; omega, (pa r hr).2.2⟩, pz, fun r r1 r2 v hv => by
      by_cases z : v = c
      · rw [z]; exact f2 r r1 r2
      · exact lo r r1 r2 v (by omega)⟩
  · have k16 : k < 16 := by omega
    rw [p4, Option.bind_some, if_neg (nneg (n32_b (by omega)).1), e12, if_pos (show n32 k < (16 : Int32) from ylt (n := 16) (by omega) (by omega) k16)]
    obtain ⟨s, s1', s2, s3, s4⟩ := sw_e (ob := o) (p := p) (k := k) (by omega) k16
    have s12 : gI s 12 = n32 k := (s2 12).trans e12
    have s11 : gI s 11 = n32 N := (s2 11).trans o11
    rw [s1', Option.bind_some, s12]
    obtain ⟨t, t1, t2, t3, t4⟩ := cc_e NF hNF (ob := s) (N := N) (k := k) (c := c) s11 hN (by omega) (by omega)
    have t12 : gI t 12 = n32 k := (t2 12).trans s12
    rw [t1, Option.bind_some, t12, ck32 (m := 16) rfl k16 (by omega), n32_s (by omega)]
    have sl : ∀ x, x < N → swp p k x < N := fun x hx => by unfold swp; split <;> (try split) <;> omega
    have sg : ∀ x, k ≤ x → k ≤ swp p k x := fun x hx => by unfold swp; split <;> (try split) <;> omega
    have si : ∀ x, x < k → swp p k x = x := fun x hx => by unfold swp; rw [if_neg (by omega), if_neg (by omega)]
    have ss : ∀ x, swp p k (swp p k x) = x := fun x => by
      unfold swp
      by_cases a : x = p
      · rw [if_pos a]
        by_cases b : k = p
        · rw [if_pos b, a, b]
        · rw [if_neg b, if_pos rfl, a]
      · rw [if_neg a]
        by_cases b : x = k
        · rw [if_pos b, if_pos rfl, b]
        · rw [if_neg b, if_neg a, if_neg b]
    have sk : gM s k = gM o p := by
      rw [(s4 k k16).1]; unfold swp
      by_cases a : k = p
      · rw [if_pos a, a]
      · rw [if_neg a, if_pos rfl]
    have sM : ∀ x, x < N → gM s x = gM o (swp p k x) := fun x hx => (s4 x (by omega)).1
    have sR : ∀ x, x < N → gR s x = gR o (swp p k x) := fun x hx => (s4 x (by omega)).2
    -- the new rows
    have tk : gM t k = gM s k := by rw [(t4 k (by omega)).1, if_neg (fun y => y.1 rfl)]
    have tkR : gR t k = gR s k := by rw [(t4 k (by omega)).2, if_neg (fun y => y.1 rfl)]
    generalize hz : sI (sA t 12 (n32 k) (n32 c)) 12 (n32 (k + 1)) = z
    have zM : ∀ x, gM z x = gM t x := fun x => by rw [← hz]; unfold gM; rw [gA_sI, gA_sA, if_neg (fun e => absurd e.1 (by decide))]
    have zR : ∀ x, gR z x = gR t x := fun x => by rw [← hz]; unfold gR; rw [gA_sI, gA_sA, if_neg (fun e => absurd e.1 (by decide))]
    have srow : ∀ b, Sol N s b ↔ Sol N o b := fun b => ⟨fun hs r hr => by
      have := hs (swp p k r) (sl r hr)
      rw [sM _ (sl r hr), sR _ (sl r hr), ss] at this; exact this, fun hs r hr => by rw [sM r hr, sR r hr]; exact hs _ (sl r hr)⟩
    have trow : ∀ b, Sol N t b ↔ Sol N s b := fun b => by
      refine ⟨fun ht r hr => ?_, fun ht r hr => ?_⟩
      · have hkk := ht k (by omega)
        rw [tk, tkR] at hkk
        have := ht r hr
        rw [(t4 r hr).1, (t4 r hr).2] at this
        by_cases y : ¬ r = k ∧ bb (gM s r) c = true
        · rw [if_pos y, if_pos y] at this; exact (Eq1_x hkk).mp this
        · rw [if_neg y, if_neg y] at this; exact this
      · have hkk := ht k (by omega)
        have := ht r hr
        rw [(t4 r hr).1, (t4 r hr).2]
        by_cases y : ¬ r = k ∧ bb (gM s r) c = true
        · rw [if_pos y, if_pos y]; exact (Eq1_x hkk).mpr this
        · rw [if_neg y, if_neg y]; exact this
    -- bits of the new rows
    have tb : ∀ r, r < N → ∀ v, bb (gM t r) v = (if ¬ r = k ∧ bb (gM s r) c = true then (bb (gM s r) v ^^ bb (gM s k) v) else bb (gM s r) v) := fun r hr v => by
      rw [(t4 r hr).1]
      by_cases y : ¬ r = k ∧ bb (gM s r) c = true
      · rw [if_pos y, if_pos y, bb_xor]
      · rw [if_neg y, if_neg y]
    have skc : bb (gM s k) c = true := by rw [sk]; exact p3
    have slo : ∀ r, k ≤ r → r < N → ∀ v, v < c → bb (gM s r) v = false := fun r r1 r2 v hv => by rw [sM r r2]; exact lo _ (sg r r1) (sl r r2) v hv
    have spz : ∀ r r', r < k → r' < N → ¬ r' = r → bb (gM s r') (pv r) = false := fun r r' h1 h2 h3 => by
      rw [sM r' h2]
      exact pz r _ h1 (sl r' h2) (fun y => h3 (by have := congrArg (swp p k) y; rw [ss, si r h1] at this; exact this))
    obtain ⟨pv', pk, po⟩ : ∃ pv' : Nat → Nat, pv' k = c ∧ ∀ r, ¬ r = k → pv' r = pv r := ⟨fun r => if r = k then c else pv r, if_pos rfl, fun r h => if_neg h⟩
    refine ⟨z, k + 1, pv', rfl, ?_, by rw [← hz]; rfl, fun r hr => ?_, fun b => ?_, ⟨by omega, by omega⟩, fun r hr => ?_, fun r r' h1 h2 h3 => ?_, fun r r1 r2 v hv => ?_⟩
    · refine fg.tr ⟨fun j hj => ?_, fun j x a b c' => ?_⟩
      · rw [← hz, gI_sI, if_neg hj]; exact (t2 j).trans (s2 j)
      · rw [← hz, gA_sI, gA_sA, if_neg (fun e => c' e.1), t3 j x a b, s3 j x a b]
    · rw [zM, zR]
      have a1 := ro _ (sl r hr)
      have a2 := ro _ (sl k (by omega))
      rw [← sM r hr, ← sR r hr] at a1
      rw [← sM k (by omega), ← sR k (by omega)] at a2
      refine ⟨fun v hv => ?_, ?_⟩
      · rw [tb r hr v, a1.1 v hv, a2.1 v hv]; split <;> rfl
      · rw [(t4 r hr).2]
        by_cases y : ¬ r = k ∧ bb (gM s r) c = true
        · rw [if_pos y]; exact (x01 a1.2 a2.2).2
        · rw [if_neg y]; exact a1.2
    · have : Sol N z b ↔ Sol N t b := ⟨fun hh r hr => by have := hh r hr; rw [zM, zR] at this; exact this, fun hh r hr => by rw [zM, zR]; exact hh r hr⟩
      exact this.trans ((trow b).trans ((srow b).trans (so b)))
    · rw [zM]
      by_cases y : r = k
      · rw [y, pk]
        refine ⟨by rw [← hz, gA_sI, gA_sA, if_pos ⟨rfl, rfl⟩], by omega, by rw [tk]; exact skc⟩
      · rw [po r y]
        have hr' : r < k := by omega
        obtain ⟨a1, a2, a3⟩ := pa r hr'
        have rN : r < N := by omega
        refine ⟨by rw [← hz, gA_sI, gA_sA, if_neg (fun e => n32_ne (by omega) (by omega) y e.2), t3 12 _ (by decide) (by decide), s3 12 _ (by decide) (by decide)]; exact a1, by omega, ?_⟩
        rw [tb r rN]
        have e1 : bb (gM s r) (pv r) = true := by rw [sM r rN, si r hr']; exact a3
        have e2 : bb (gM s k) (pv r) = false := spz r k hr' (by omega) (by omega)
        rw [e1, e2]; split <;> rfl
    · rw [zM, tb r' h2]
      by_cases y : r = k
      · rw [y, pk]
        by_cases w : bb (gM s r') c = true
        · rw [if_pos ⟨by rw [← y]; exact h3, w⟩, w, skc]; rfl
        · rw [if_neg (fun q => w q.2)]; exact eq_false_of_ne_true w
      · rw [po r y]
        have hr' : r < k := by omega
        have e1 := spz r r' hr' h2 h3
        have e2 : bb (gM s k) (pv r) = false := spz r k hr' (by omega) (by omega)
        rw [e1, e2]; split <;> rfl
    · rw [zM, tb r r2]
      by_cases y : v = c
      · rw [y]
        by_cases w : bb (gM s r) c = true
        · rw [if_pos ⟨by omega, w⟩, w, skc]; rfl
        · rw [if_neg (fun q => w q.2)]; exact eq_false_of_ne_true w
      · have e1 := slo r (by omega) r2 v (by omega)
        have e2 := slo k (Nat.le_refl _) (by omega) v (by omega)
        rw [e1, e2]; split <;> rfl
theorem el_e (NF : Nat) (hNF : 300 < NF) {ob : Rec} {n N : Nat} (hn : n ≤ 8) (hN : N ≤ 16) (h11 : gI ob 11 = n32 N) (h0 : gI ob 0 = n32 n) (ro : RO n N ob) : ∃ r k pv, X_eliminate NF ob = some r ∧ EI ob r n N n k pv := by
  unfold X_eliminate
  have main : ∀ (m fuel : Nat) (o : Rec) (c k : Nat) (pv : Nat → Nat), m < fuel → c ≤ n → n - c ≤ m → EI ob o n N c k pv → ∃ r k pv, X_eliminate_l7 NF fuel o (n32 c) = some r ∧ EI ob r n N n k pv := by
    intro m
    induction m with
    | zero =>
      intro fuel o c k pv hf h1 h2 h
      obtain ⟨g, rfl⟩ : ∃ g, fuel = g + 1 := ⟨fuel - 1, by clear h; omega⟩
      have e : c = n := by clear h; omega
      rw [e] at h ⊢
      refine ⟨o, k, pv, ?_, h⟩
      show X_eliminate_w7 NF _ o _ = _
      unfold X_eliminate_w7
      rw [h.fg.1 0 (by decide), h0, if_neg (by rw [lt_i]; clear h; omega)]
    | succ m ih =>
      intro fuel o c k pv hf h1 h2 h
      obtain ⟨g, rfl⟩ : ∃ g, fuel = g + 1 := ⟨fuel - 1, by clear h; omega⟩
      by_cases e : c = n
      · rw [e] at h ⊢
        refine ⟨o, k, pv, ?_, h⟩
        show X_eliminate_w7 NF _ o _ = _
        unfold X_eliminate_w7
        rw [h.fg.1 0 (by decide), h0, if_neg (by rw [lt_i]; clear h; omega)]
      · obtain ⟨o', k', pv', e1, e2⟩ := el_s NF hNF hn hN h11 (by clear h; omega) h (X_eliminate_l7 NF g) h0
        show ∃ r k pv, X_eliminate_w7 NF (X_eliminate_l7 NF g) o (n32 c) = some r ∧ _
        rw [e1]
        exact ih g o' (c + 1) k' pv' (by clear h e2; omega) (by clear h e2; omega) (by clear h e2; omega) e2
  have st : EI ob (sI ob 12 0) n N 0 0 (fun _ => 0) := ⟨⟨fun j hj => by rw [gI_sI, if_neg hj], fun _ _ _ _ _ => rfl⟩, rfl, ro, fun _ => Iff.rfl, ⟨by omega, by omega⟩, fun r hr => by omega, fun r r' hr => by omega, fun r _ _ v hv => by omega⟩
  exact main 20 NF (sI ob 12 0) 0 0 _ (by omega) (by omega) (by omega) st
theorem EI_0 {ob o : Rec} {n N k : Nat} {pv : Nat → Nat} (h : EI ob o n N n k pv) {r : Nat} (h1 : k ≤ r) (h2 : r < N) : gM o r = 0 := bb_ext (fun v _ => by
  rw [bb_0]
  by_cases c : v < n
  · exact h.lo r h1 h2 v c
  · exact (h.ro r h2).1 v (by clear h; omega))
abbrev clF (ob : Rec) (c : Nat) (b : Int32) : Prop := ((b &&& gA ob 2 (n32 c)) ||| ((b ^^^ -1) &&& gA ob 3 (n32 c))) = 0
abbrev Xs (ob : Rec) (xc : Nat) (b : Int32) : Prop := ∀ x, x < xc → Eq1 (gA ob 4 (n32 x)) (gA ob 5 (n32 x)) b
abbrev Sat (ob : Rec) (cc xc : Nat) (b : Int32) : Prop := (∀ c, c < cc → ¬ clF ob c b) ∧ Xs ob xc b
def full (n : Nat) : Int32 := ((1 : Int32) <<< (n32 n &&& 31)) - 1
theorem full_b {n : Nat} (hn : n ≤ 8) {v : Nat} : bb (full n) v = decide (v < n) := by
  by_cases c : v < 32
  · exact full_e n (List.mem_range.mpr (by omega)) v (List.mem_range.mpr c)
  · rw [bb_h _ (by omega), decide_eq_false (by omega)]
theorem Wi_f {n : Nat} (hn : n ≤ 8) {x : Int32} (h : Wi n x) : x &&& full n = x := bb_ext (fun v _ => by
  rw [bb_and, full_b hn]
  by_cases c : v < n
  · rw [decide_eq_true c, Bool.and_true]
  · rw [h v (by omega), Bool.false_and])
theorem f_Wi {n : Nat} (hn : n ≤ 8) (x : Int32) : Wi n (x &&& full n) := fun v hv => by rw [bb_and, full_b hn, decide_eq_false (by omega), Bool.and_false]
/-- what holds of the constraints -/
abbrev CI (ob : Rec) (n cc xc : Nat) : Prop := (gI ob 0 = n32 n) ∧ (gI ob 1 = full n) ∧ (gI ob 5 = n32 cc ∧ cc ≤ 24) ∧ (gI ob 6 = n32 xc ∧ xc ≤ 16) ∧ (∀ c, c < cc → Wi n (gA ob 2 (n32 c)) ∧ Wi n (gA ob 3 (n32 c))) ∧ (∀ x, x < xc → Wi n (gA ob 4 (n32 x)) ∧ (gA ob 5 (n32 x) = 0 ∨ gA ob 5 (n32 x) = 1))
theorem CI.e0 {ob : Rec} {n cc xc : Nat} (h : CI ob n cc xc) : gI ob 0 = n32 n := h.1
theorem CI.e1 {ob : Rec} {n cc xc : Nat} (h : CI ob n cc xc) : gI ob 1 = full n := h.2.1
theorem CI.e5 {ob : Rec} {n cc xc : Nat} (h : CI ob n cc xc) : gI ob 5 = n32 cc ∧ cc ≤ 24 := h.2.2.1
theorem CI.e6 {ob : Rec} {n cc xc : Nat} (h : CI ob n cc xc) : gI ob 6 = n32 xc ∧ xc ≤ 16 := h.2.2.2.1
theorem CI.wc {ob : Rec} {n cc xc : Nat} (h : CI ob n cc xc) : ∀ c, c < cc → Wi n (gA ob 2 (n32 c)) ∧ Wi n (gA ob 3 (n32 c)) := h.2.2.2.2.1
theorem CI.wx {ob : Rec} {n cc xc : Nat} (h : CI ob n cc xc) : ∀ x, x < xc → Wi n (gA ob 4 (n32 x)) ∧ (gA ob 5 (n32 x) = 0 ∨ gA ob 5 (n32 x) = 1) := h.2.2.2.2.2
theorem CI_c {ob r : Rec} {n cc xc : Nat} (h : CI ob n cc xc) (hi : ∀ j, j ≤ 1 ∨ j = 5 ∨ j = 6 → gI r j = gI ob j) (ha : ∀ j x, 2 ≤ j → j ≤ 5 → gA r j x = gA ob j x) : CI r n cc xc := by
  obtain ⟨a, b, c, d, e, f⟩ := h
  exact ⟨by rw [hi 0 (by omega)]; exact a, by rw [hi 1 (by omega)]; exact b, by rw [hi 5 (by omega)]; exact c, by rw [hi 6 (by omega)]; exact d, fun x hx => by rw [ha 2 _ (by omega) (by omega), ha 3 _ (by omega) (by omega)]; exact e x hx, fun x hx => by rw [ha 4 _ (by omega) (by omega), ha 5 _ (by omega) (by omega)]; exact f x hx⟩
theorem Sat_c {ob r : Rec} {cc xc : Nat} (ha : ∀ j x, 2 ≤ j → j ≤ 5 → gA r j x = gA ob j x) (b : Int32) : Sat r cc xc b ↔ Sat ob cc xc b := by
  refine ⟨fun h => ⟨fun c hc => ?_, fun x hx => ?_⟩, fun h => ⟨fun c hc => ?_, fun x hx => ?_⟩⟩
  · have := h.1 c hc
    unfold clF at this ⊢
    rw [ha 2 _ (by omega) (by omega), ha 3 _ (by omega) (by omega)] at this; exact this
  · have := h.2 x hx
    rw [ha 4 _ (by omega) (by omega), ha 5 _ (by omega) (by omega)] at this; exact this
  · have := h.1 c hc
    unfold clF at this ⊢
    rw [ha 2 _ (by omega) (by omega), ha 3 _ (by omega) (by omega)]; exact this
  · have := h.2 x hx
    rw [ha 4 _ (by omega) (by omega), ha 5 _ (by omega) (by omega)]; exact this
theorem clh (ob : Rec) {c : Nat} (hc : c < 24) (b : Int32) : X_clauseHolds ob (n32 c) b = some (if clF ob c b then 0 else 1) := by
  have q : ∀ A : Option Int32, chk 24 (n32 c) A = A := fun A => ck32 (m := 24) rfl hc (by omega)
  unfold X_clauseHolds
  rw [if_neg (nneg (n32_b (by omega)).1), if_pos (show n32 c < (24 : Int32) from ylt (n := 24) (by omega) (by omega) hc), q, q]
  by_cases d : clF ob c b
  · rw [if_pos d, if_pos d]
  · rw [if_neg d, if_neg d]
theorem xoh (ob : Rec) {x : Nat} (hx : x < 16) (b : Int32) : X_xorHolds ob (n32 x) b = some (if Eq1 (gA ob 4 (n32 x)) (gA ob 5 (n32 x)) b then 1 else 0) := by
  have q : ∀ A : Option Int32, chk 16 (n32 x) A = A := fun A => ck32 (m := 16) rfl hx (by omega)
  unfold X_xorHolds
  rw [if_neg (nneg (n32_b (by omega)).1), if_pos (show n32 x < (16 : Int32) from ylt (n := 16) (by omega) (by omega) hx), q, par_e, Option.bind_some, q]
  by_cases d : par (b &&& gA ob 4 (n32 x)) = gA ob 5 (n32 x)
  · rw [if_pos d, if_pos (show Eq1 (gA ob 4 (n32 x)) (gA ob 5 (n32 x)) b from d)]
  · rw [if_neg d, if_neg (show ¬ Eq1 (gA ob 4 (n32 x)) (gA ob 5 (n32 x)) b from d)]
theorem cN_z {f : Nat → Bool} : ∀ n, cN f n = 0 ↔ ∀ i, i < n → f i = false
  | 0 => ⟨fun _ i hi => by omega, fun _ => rfl⟩
  | n + 1 => by
    show cN f n + (if f n = true then 1 else 0) = 0 ↔ _
    have ih := cN_z (f := f) n
    constructor
    · intro e i hi
      by_cases c : f n = true
      · rw [if_pos c] at e; omega
      · rw [if_neg c, Nat.add_zero] at e
        by_cases d : i = n
        · rw [d]; exact eq_false_of_ne_true c
        · exact ih.mp e i (by omega)
    · intro h
      rw [ih.mpr (fun i hi => h i (by omega)), h n (by omega)]; rfl
theorem vio_e (NF : Nat) (hNF : 300 < NF) {ob : Rec} {n cc xc : Nat} (h : CI ob n cc xc) (b : Int32) : ∃ k : Nat, k ≤ 40 ∧ X_violations NF ob b = some (n32 k) ∧ (k = 0 ↔ Sat ob cc xc (b &&& full n)) := by
  unfold X_violations
  rw [h.e1]
  generalize b &&& full n = w
  have e5 := h.e5
  have e6 := h.e6
  clear h
  have vc : ∀ i, cN (fun c => decide (clF ob c w)) i ≤ i := fun i => cN_b _ i
  have vx : ∀ i, cN (fun x => !decide (Eq1 (gA ob 4 (n32 x)) (gA ob 5 (n32 x)) w)) i ≤ i := fun i => cN_b _ i
  refine ⟨cN (fun c => decide (clF ob c w)) cc + cN (fun x => !decide (Eq1 (gA ob 4 (n32 x)) (gA ob 5 (n32 x)) w)) xc, by have := vc cc; have := vx xc; omega, ?_, ?_⟩
  · have t2 : X_violations_l50 NF ob NF w (n32 (cN (fun c => decide (clF ob c w)) cc)) 0 = some (n32 (cN (fun c => decide (clF ob c w)) cc + cN (fun x => !decide (Eq1 (gA ob 4 (n32 x)) (gA ob 5 (n32 x)) w)) xc)) := by
      have := lpN (fun fuel i => X_violations_l50 NF ob fuel w (n32 (cN (fun c => decide (clF ob c w)) cc + cN (fun x => !decide (Eq1 (gA ob 4 (n32 x)) (gA ob 5 (n32 x)) w)) i)) (n32 i)) xc (some (n32 (cN (fun c => decide (clF ob c w)) cc + cN (fun x => !decide (Eq1 (gA ob 4 (n32 x)) (gA ob 5 (n32 x)) w)) xc))) (fun f => by
        show X_violations_w50 NF ob _ _ _ _ = _
        unfold X_violations_w50
        rw [e6.1, if_neg (nlt (by omega) (by omega) (by omega))]) (fun f i hi => by
        show X_violations_w50 NF ob (X_violations_l50 NF ob f) _ _ _ = X_violations_l50 NF ob f w (n32 (cN (fun c => decide (clF ob c w)) cc + (cN (fun x => !decide (Eq1 (gA ob 4 (n32 x)) (gA ob 5 (n32 x)) w)) i + (if (!decide (Eq1 (gA ob 4 (n32 i)) (gA ob 5 (n32 i)) w)) = true then 1 else 0)))) (n32 (i + 1))
        have b1 := vc cc
        have b2 := vx i
        unfold X_violations_w50
        rw [e6.1, if_pos (ylt (by omega) (by omega) hi), if_pos (show n32 i < (16 : Int32) from ylt (n := 16) (by omega) (by omega) (by omega)), xoh ob (by omega), Option.bind_some, n32_s (i := i) (by omega)]
        by_cases c : Eq1 (gA ob 4 (n32 i)) (gA ob 5 (n32 i)) w
        · rw [if_pos c, if_neg (by decide), decide_eq_true c, if_neg (by decide)]; rfl
        · rw [if_neg c, if_pos rfl, decide_eq_false c, if_pos (by decide), n32_s (by omega), Nat.add_assoc]) xc NF 0 (by omega) (by omega)
      exact this
    have := lpN (fun fuel i => X_violations_l12 NF ob fuel w (n32 (cN (fun c => decide (clF ob c w)) i)) (n32 i)) cc (some (n32 (cN (fun c => decide (clF ob c w)) cc + cN (fun x => !decide (Eq1 (gA ob 4 (n32 x)) (gA ob 5 (n32 x)) w)) xc))) (fun f => by
      show X_violations_w12 NF ob _ _ _ _ = _
      unfold X_violations_w12
      rw [e5.1, if_neg (nlt (by omega) (by omega) (by omega))]; exact t2) (fun f i hi => by
      show X_violations_w12 NF ob (X_violations_l12 NF ob f) _ _ _ = X_violations_l12 NF ob f w (n32 (cN (fun c => decide (clF ob c w)) i + (if decide (clF ob i w) = true then 1 else 0))) (n32 (i + 1))
      have b1 := vc i
      unfold X_violations_w12
      rw [e5.1, if_pos (ylt (by omega) (by omega) hi), if_pos (show n32 i < (24 : Int32) from ylt (n := 24) (by omega) (by omega) (by omega)), clh ob (by omega), Option.bind_some, n32_s (i := i) (by omega)]
      by_cases c : clF ob i w
      · rw [if_pos c, if_pos rfl, decide_eq_true c, if_pos rfl, n32_s (by omega)]
      · rw [if_neg c, if_neg (by decide), decide_eq_false c, if_neg (by decide)]; rfl) cc NF 0 (by omega) (by omega)
    exact this
  · constructor
    · intro e
      have a1 := (cN_z cc).mp (show cN (fun c => decide (clF ob c w)) cc = 0 by omega)
      have a2 := (cN_z xc).mp (show cN (fun x => !decide (Eq1 (gA ob 4 (n32 x)) (gA ob 5 (n32 x)) w)) xc = 0 by omega)
      refine ⟨fun c hc => of_decide_eq_false (a1 c hc), fun x hx => ?_⟩
      have := a2 x hx
      by_cases d : Eq1 (gA ob 4 (n32 x)) (gA ob 5 (n32 x)) w
      · exact d
      · rw [decide_eq_false d] at this; exact absurd this (by decide)
    · intro e
      rw [(cN_z cc).mpr (fun c hc => decide_eq_false (e.1 c hc)), (cN_z xc).mpr (fun x hx => by rw [decide_eq_true (e.2 x hx)]; rfl)]
/-- the reduced rows -/
abbrev EC (ob : Rec) (n xc k : Nat) (pv : Nat → Nat) : Prop := (gI ob 8 = n32 k ∧ k ≤ 16) ∧ (∀ r, r < k → Wi n (gA ob 7 (n32 r)) ∧ (gA ob 8 (n32 r) = 0 ∨ gA ob 8 (n32 r) = 1)) ∧ (∀ r, r < k → gA ob 9 (n32 r) = n32 (pv r) ∧ pv r < n ∧ bb (gA ob 7 (n32 r)) (pv r) = true) ∧ (∀ r r', r < k → r' < k → ¬ r' = r → bb (gA ob 7 (n32 r')) (pv r) = false) ∧ ((gI ob 9 = 1 ∧ ∀ b, Xs ob xc b ↔ ∀ r, r < k → Eq1 (gA ob 7 (n32 r)) (gA ob 8 (n32 r)) b) ∨ (gI ob 9 = 0 ∧ ∀ b, ¬ Xs ob xc b))
theorem EC.e8 {ob : Rec} {n xc k : Nat} {pv : Nat → Nat} (h : EC ob n xc k pv) : gI ob 8 = n32 k ∧ k ≤ 16 := h.1
theorem EC.rw' {ob : Rec} {n xc k : Nat} {pv : Nat → Nat} (h : EC ob n xc k pv) : ∀ r, r < k → Wi n (gA ob 7 (n32 r)) ∧ (gA ob 8 (n32 r) = 0 ∨ gA ob 8 (n32 r) = 1) := h.2.1
theorem EC.pa {ob : Rec} {n xc k : Nat} {pv : Nat → Nat} (h : EC ob n xc k pv) : ∀ r, r < k → gA ob 9 (n32 r) = n32 (pv r) ∧ pv r < n ∧ bb (gA ob 7 (n32 r)) (pv r) = true := h.2.2.1
theorem EC.pz {ob : Rec} {n xc k : Nat} {pv : Nat → Nat} (h : EC ob n xc k pv) : ∀ r r', r < k → r' < k → ¬ r' = r → bb (gA ob 7 (n32 r')) (pv r) = false := h.2.2.2.1
theorem EC.co {ob : Rec} {n xc k : Nat} {pv : Nat → Nat} (h : EC ob n xc k pv) : (gI ob 9 = 1 ∧ ∀ b, Xs ob xc b ↔ ∀ r, r < k → Eq1 (gA ob 7 (n32 r)) (gA ob 8 (n32 r)) b) ∨ (gI ob 9 = 0 ∧ ∀ b, ¬ Xs ob xc b) := h.2.2.2.2
theorem scn (NF : Nat) (hNF : 300 < NF) {ob : Rec} {N : Nat} (h11 : gI ob 11 = n32 N) (hN : N ≤ 16) : (X_scratchConsistent NF ob = some 1 ∧ ∀ r, r < N → gM ob r = 0 → gR ob r = 0) ∨ (X_scratchConsistent NF ob = some 0 ∧ ∃ r, r < N ∧ gM ob r = 0 ∧ ¬ gR ob r = 0) := by
  unfold X_scratchConsistent
  have main : ∀ (m fuel i : Nat), m < fuel → i ≤ N → N - i ≤ m → (∀ r, r < i → gM ob r = 0 → gR ob r = 0) → (X_scratchConsistent_l2 NF ob fuel (n32 i) = some 1 ∧ ∀ r, r < N → gM ob r = 0 → gR ob r = 0) ∨ (X_scratchConsistent_l2 NF ob fuel (n32 i) = some 0 ∧ ∃ r, r < N ∧ gM ob r = 0 ∧ ¬ gR ob r = 0) := by
    intro m
    induction m with
    | zero =>
      intro fuel i hf hi hm hz
      obtain ⟨g, rfl⟩ : ∃ g, fuel = g + 1 := ⟨fuel - 1, by omega⟩
      have e : i = N := by omega
      left
      refine ⟨?_, by rw [← e]; exact hz⟩
      show X_scratchConsistent_w2 NF ob _ _ = _
      unfold X_scratchConsistent_w2
      rw [h11, if_neg (nlt (by omega) (by omega) (by omega))]
    | succ m ih =>
      intro fuel i hf hi hm hz
      obtain ⟨g, rfl⟩ : ∃ g, fuel = g + 1 := ⟨fuel - 1, by omega⟩
      have q : ∀ (_ : i < N) (A : Option Int32), chk 16 (n32 i) A = A := fun hi A => ck32 (m := 16) rfl (by omega) (by omega)
      show (X_scratchConsistent_w2 NF ob (X_scratchConsistent_l2 NF ob g) _ = _ ∧ _) ∨ (X_scratchConsistent_w2 NF ob (X_scratchConsistent_l2 NF ob g) _ = _ ∧ _)
      unfold X_scratchConsistent_w2
      rw [h11]
      by_cases e : i = N
      · left
        rw [if_neg (nlt (by omega) (by omega) (by omega))]
        exact ⟨rfl, by rw [← e]; exact hz⟩
      · rw [if_pos (ylt (by omega) (by omega) (by omega)), if_pos (show n32 i < (16 : Int32) from ylt (n := 16) (by omega) (by omega) (by omega)), q (by omega), n32_s (by omega)]
        have nx := fun hz' => ih g (i + 1) (by omega) (by omega) (by omega) hz'
        by_cases c : gA ob 10 (n32 i) = 0
        · rw [if_pos c, q (by omega)]
          by_cases d : gA ob 11 (n32 i) = 0
          · rw [if_pos d]
            exact nx (fun r hr z => by
              by_cases y : r = i
              · rw [y]; exact d
              · exact hz r (by omega) z)
          · right
            rw [if_neg d]
            exact ⟨rfl, i, by omega, c, d⟩
        · rw [if_neg c]
          exact nx (fun r hr z => by
            by_cases y : r = i
            · rw [y] at z; exact absurd z c
            · exact hz r (by omega) z)
  exact main 20 NF 0 (by omega) (by omega) (by omega) (fun r hr => by omega)
abbrev Fe (ob r : Rec) : Prop := (∀ j, ¬ (8 ≤ j ∧ j ≤ 12) → gI r j = gI ob j) ∧ ∀ j x, ¬ (7 ≤ j ∧ j ≤ 12) → gA r j x = gA ob j x
theorem ens (NF : Nat) (hNF : 300 < NF) {ob : Rec} {n cc xc : Nat} (hn : n ≤ 8) (h : CI ob n cc xc) (hv : gI ob 10 = 0 ∨ (gI ob 10 = 1 ∧ ∃ k pv, EC ob n xc k pv)) : ∃ r k pv, X_ensureEchelon NF ob = some r ∧ Fe ob r ∧ gI r 10 = 1 ∧ EC r n xc k pv := by
  unfold X_ensureEchelon
  rcases hv with z | ⟨z, k, pv, ec⟩
  · have e6 := h.e6
    rw [if_pos z]
    obtain ⟨l, l1, ⟨l2, l2'⟩, l3, l4⟩ := lpE (fun fuel ob' i => X_ensureEchelon_l15 NF fuel ob' (n32 i)) (fun r i => ((∀ j, ¬ j = 11 → gI r j = gI ob j) ∧ ∀ j x, ¬ j = 10 → ¬ j = 11 → gA r j x = gA ob j x) ∧ gI r 11 = n32 i ∧ ∀ x, x < i → gM r x = gA ob 4 (n32 x) ∧ gR r x = gA ob 5 (n32 x)) xc (fun r => X_ensureEchelon_b69 NF r) (fun f r hq => by
      show X_ensureEchelon_w15 NF _ r _ = _
      unfold X_ensureEchelon_w15
      rw [hq.1.1 6 (by decide), e6.1, if_neg (nlt (by omega) (by omega) (by omega))]) (fun f r i hi hq => by
      have k16 : ∀ A : Option Rec, chk 16 (n32 i) A = A := fun A => ck32 (m := 16) rfl (by omega) (by omega)
      generalize hw : sI (sA (sA r 10 (n32 i) (gA r 4 (n32 i))) 11 (n32 i) (gA r 5 (n32 i))) 11 (n32 (i + 1)) = w
      have wi : gM w i = gA ob 4 (n32 i) ∧ gR w i = gA ob 5 (n32 i) := by
        rw [← hw, ← hq.1.2 4 _ (by decide) (by decide), ← hq.1.2 5 _ (by decide) (by decide)]
        exact ⟨by show gA _ 10 _ = _; rw [gA_sI, gA_sA, if_neg (fun e => absurd e.1 (by decide)), gA_sA, if_pos ⟨rfl, rfl⟩], by show gA _ 11 _ = _; rw [gA_sI, gA_sA, if_pos ⟨rfl, rfl⟩]⟩
      have wo : ∀ x, ¬ n32 x = n32 i → gM w x = gM r x ∧ gR w x = gR r x := fun x ne' => by
        rw [← hw]
        exact ⟨by show gA _ 10 _ = _; rw [gA_sI, gA_sA, if_neg (fun e => ne' e.2), gA_sA, if_neg (fun e => ne' e.2)]; rfl, by show gA _ 11 _ = _; rw [gA_sI, gA_sA, if_neg (fun e => ne' e.2), gA_sA, if_neg (fun e => ne' e.2)]; rfl⟩
      refine ⟨w, ?_, ⟨fun j hj => by rw [← hw, gI_sI, if_neg hj]; exact hq.1.1 j hj, fun j x a b => by rw [← hw, gA_sI, gA_sA, if_neg (fun e => b e.1), gA_sA, if_neg (fun e => a e.1)]; exact hq.1.2 j x a b⟩, by rw [← hw]; rfl, fun x hx => ?_⟩
      · show X_ensureEchelon_w15 NF (X_ensureEchelon_l15 NF f) r _ = _
        unfold X_ensureEchelon_w15
        rw [hq.1.1 6 (by decide), e6.1, if_pos (ylt (by omega) (by omega) hi), if_pos (show n32 i < (16 : Int32) from ylt (n := 16) (by omega) (by omega) (by omega)), k16, k16, k16, k16, hq.2.1, n32_s (by omega), hw]
      · by_cases y : x = i
        · rw [y]; exact wi
        · have u := wo x (n32_ne (by omega) (by omega) y)
          rw [u.1, u.2]; exact hq.2.2 x (by omega)) xc NF (sI ob 11 0) 0 (by omega) (by omega) ⟨⟨fun j hj => by rw [gI_sI, if_neg hj], fun _ _ _ _ => rfl⟩, rfl, fun x hx => by omega⟩
    have l1' : X_ensureEchelon_l15 NF NF (sI ob 11 0) 0 = X_ensureEchelon_b69 NF l := l1
    have ro : RO n xc l := fun r hr => by rw [(l4 r hr).1, (l4 r hr).2]; exact h.wx r hr
    obtain ⟨e, k, pv, e1, ei⟩ := el_e NF hNF hn e6.2 l3 ((l2 0 (by decide)).trans h.e0) ro
    have e11 : gI e 11 = n32 xc := (ei.fg.1 11 (by decide)).trans l3
    have sx : ∀ b, Sol xc e b ↔ Xs ob xc b := fun b => (ei.so b).trans ⟨fun hh r hr => by have := hh r hr; rw [(l4 r hr).1, (l4 r hr).2] at this; exact this, fun hh r hr => by rw [(l4 r hr).1, (l4 r hr).2]; exact hh r hr⟩
    have kb := ei.kb.1
    have fin : ∀ rr : Int32, (rr = 0 ∨ rr = 1) → ∃ t, X_ensureEchelon_l88 NF NF (sI (sI e 9 rr) 8 0) 0 = some t ∧ Fe ob t ∧ gI t 10 = 1 ∧ gI t 9 = rr ∧ gI t 8 = n32 k ∧ (∀ x, x < k → gA t 7 (n32 x) = gM e x ∧ gA t 8 (n32 x) = gR e x ∧ gA t 9 (n32 x) = gA e 12 (n32 x)) := by
      intro rr _
      obtain ⟨t, t1, ⟨t2, t2'⟩, t3, t4, t5⟩ := lpE (fun fuel ob' i => X_ensureEchelon_l88 NF fuel ob' (n32 i)) (fun r i => ((∀ j, ¬ (8 ≤ j ∧ j ≤ 9) → gI r j = gI e j) ∧ ∀ j x, ¬ (7 ≤ j ∧ j ≤ 9) → gA r j x = gA e j x) ∧ gI r 9 = rr ∧ gI r 8 = n32 i ∧ ∀ x, x < i → gA r 7 (n32 x) = gM e x ∧ gA r 8 (n32 x) = gR e x ∧ gA r 9 (n32 x) = gA e 12 (n32 x)) k (fun r => some (sI r 10 1)) (fun f r hq => by
        show X_ensureEchelon_w88 NF _ r _ = _
        unfold X_ensureEchelon_w88
        rw [hq.1.1 12 (by decide), ei.e12, if_neg (nlt (by clear h ei; omega) (by clear h ei; omega) (by clear h ei; omega))]) (fun f r i hi hq => by
        have k16 : ∀ A : Option Rec, chk 16 (n32 i) A = A := fun A => ck32 (m := 16) rfl (by clear h ei; omega) (by clear h ei; omega)
        obtain ⟨⟨q1, q2⟩, q3, q4, q5⟩ := hq
        generalize hw : sI (sA (sA (sA r 7 (n32 i) (gA r 10 (n32 i))) 8 (n32 i) (gA r 11 (n32 i))) 9 (n32 i) (gA r 12 (n32 i))) 8 (n32 (i + 1)) = w
        refine ⟨w, ?_, ⟨fun j hj => by rw [← hw, gI_sI, if_neg (by clear h ei; omega)]; exact q1 j hj, fun j x a => by rw [← hw, gA_sI, gA_sA, if_neg (fun e => by clear h ei; omega), gA_sA, if_neg (fun e => by clear h ei; omega), gA_sA, if_neg (fun e => by clear h ei; omega)]; exact q2 j x a⟩, by rw [← hw]; exact q3, by rw [← hw]; rfl, fun x hx => ?_⟩
        · show X_ensureEchelon_w88 NF (X_ensureEchelon_l88 NF f) r _ = _
          unfold X_ensureEchelon_w88
          rw [q1 12 (by decide), ei.e12, if_pos (ylt (by clear h ei; omega) (by clear h ei; omega) hi), if_pos (show n32 i < (16 : Int32) from ylt (n := 16) (by clear h ei; omega) (by clear h ei; omega) (by clear h ei; omega)), k16, k16, k16, k16, k16, k16, q4, n32_s (by clear h ei; omega), hw]
        · by_cases y : x = i
          · rw [y, ← hw]
            refine ⟨?_, ?_, ?_⟩
            · rw [gA_sI, gA_sA, if_neg (fun e => absurd e.1 (by decide)), gA_sA, if_neg (fun e => absurd e.1 (by decide)), gA_sA, if_pos ⟨rfl, rfl⟩]; exact q2 10 _ (by decide)
            · rw [gA_sI, gA_sA, if_neg (fun e => absurd e.1 (by decide)), gA_sA, if_pos ⟨rfl, rfl⟩]; exact q2 11 _ (by decide)
            · rw [gA_sI, gA_sA, if_pos ⟨rfl, rfl⟩]; exact q2 12 _ (by decide)
          · have ne : ¬ n32 x = n32 i := n32_ne (by clear h ei; omega) (by clear h ei; omega) y
            have o : ∀ j, gA w j (n32 x) = gA r j (n32 x) := fun j => by rw [← hw, gA_sI, gA_sA, if_neg (fun e => ne e.2), gA_sA, if_neg (fun e => ne e.2), gA_sA, if_neg (fun e => ne e.2)]
            rw [o, o, o]; exact q5 x (by clear h ei; omega)) k NF (sI (sI e 9 rr) 8 0) 0 (by clear h ei; omega) (by clear h ei; omega) ⟨⟨fun j hj => by rw [gI_sI, if_neg (by clear h ei; omega), gI_sI, if_neg (by clear h ei; omega)], fun _ _ _ => rfl⟩, rfl, rfl, fun x hx => by clear h ei; omega⟩
      refine ⟨sI t 10 1, t1, ⟨fun j hj => ?_, fun j x hj => ?_⟩, rfl, t3, t4, t5⟩
      · rw [gI_sI, if_neg (by clear h ei; omega), t2 j (by clear h ei; omega), ei.fg.1 j (by clear h ei; omega), l2 j (by clear h ei; omega)]
      · rw [gA_sI, t2' j x (by clear h ei; omega), ei.fg.2 j x (by clear h ei; omega) (by clear h ei; omega) (by clear h ei; omega), l2' j x (by clear h ei; omega) (by clear h ei; omega)]
    have build : ∀ t, Fe ob t → gI t 8 = n32 k → (∀ x, x < k → gA t 7 (n32 x) = gM e x ∧ gA t 8 (n32 x) = gR e x ∧ gA t 9 (n32 x) = gA e 12 (n32 x)) → ((gI t 9 = 1 ∧ ∀ b, Xs t xc b ↔ ∀ r, r < k → Eq1 (gA t 7 (n32 r)) (gA t 8 (n32 r)) b) ∨ (gI t 9 = 0 ∧ ∀ b, ¬ Xs t xc b)) → EC t n xc k pv := by
      intro t _ h8 hr hco
      refine ⟨⟨h8, by have := ei.kb.1; clear h ei; omega⟩, fun r hr' => ?_, fun r hr' => ?_, fun r r' h1 h2 h3 => ?_, hco⟩
      · rw [(hr r hr').1, (hr r hr').2.1]; exact ei.ro r (by clear h ei; omega)
      · rw [(hr r hr').2.2, (hr r hr').1]; exact ei.pa r hr'
      · rw [(hr r' h2).1]; exact ei.pz r r' h1 (by clear h ei; omega) h3
    have xt : ∀ t, Fe ob t → ∀ b, Xs t xc b ↔ Xs ob xc b := fun t ft b => ⟨fun hh r hr => by have := hh r hr; rw [ft.2 4 _ (by omega), ft.2 5 _ (by omega)] at this; exact this, fun hh r hr => by rw [ft.2 4 _ (by omega), ft.2 5 _ (by omega)]; exact hh r hr⟩
    rw [l1']
    unfold X_ensureEchelon_b69
    rw [e1, Option.bind_some]
    rcases scn NF hNF e11 e6.2 with ⟨s1', s2⟩ | ⟨s1', r0, r1, r2, r3⟩
    · rw [s1', Option.bind_some]
      obtain ⟨t, t1, t2, t3, t4, t5, t6⟩ := fin 1 (Or.inr rfl)
      refine ⟨t, k, pv, t1, t2, t3, build t t2 t5 t6 (Or.inl ⟨t4, fun b => ?_⟩)⟩
      rw [xt t t2 b, ← sx b]
      refine ⟨fun hh r hr => by rw [(t6 r hr).1, (t6 r hr).2.1]; exact hh r (by clear h ei; omega), fun hh r hr => ?_⟩
      by_cases c : r < k
      · have := hh r c
        rw [(t6 r c).1, (t6 r c).2.1] at this; exact this
      · have m0 := EI_0 ei (r := r) (by clear h ei; omega) hr
        rw [m0, s2 r hr m0]
        show par (b &&& 0) = 0
        have : b &&& 0 = 0 := bb_ext (fun v _ => by rw [bb_and, bb_0, Bool.and_false])
        rw [this, par_0]
    · rw [s1', Option.bind_some]
      obtain ⟨t, t1, t2, t3, t4, t5, t6⟩ := fin 0 (Or.inl rfl)
      refine ⟨t, k, pv, t1, t2, t3, build t t2 t5 t6 (Or.inr ⟨t4, fun b hh => ?_⟩)⟩
      rw [xt t t2 b, ← sx b] at hh
      have := hh r0 r1
      rw [r2] at this
      have z0 : b &&& 0 = 0 := bb_ext (fun v _ => by rw [bb_and, bb_0, Bool.and_false])
      have this' : par (b &&& 0) = gR e r0 := this
      rw [z0, par_0] at this'
      exact r3 this'.symm
  · rw [if_neg (by rw [z]; decide)]
    exact ⟨ob, k, pv, rfl, ⟨fun _ _ => rfl, fun _ _ _ => rfl⟩, z, ec⟩
def pmk (pv : Nat → Nat) : Nat → Int32
  | 0 => 0
  | r + 1 => pmk pv r ||| ((1 : Int32) <<< (n32 (pv r) &&& 31))
theorem pmk_b (pv : Nat → Nat) : ∀ k, (∀ r, r < k → pv r < 12) → ∀ v, (bb (pmk pv k) v = true ↔ ∃ r, r < k ∧ pv r = v)
  | 0, _, v => by
    show bb 0 v = true ↔ _
    rw [bb_0]
    exact ⟨fun e => absurd e (by decide), fun ⟨r, h, _⟩ => by omega⟩
  | k + 1, h, v => by
    show bb (pmk pv k ||| _) v = true ↔ _
    rw [bb_or, Bool.or_eq_true, pmk_b pv k (fun r hr => h r (by omega)) v, bb_sh (h k (by omega)), decide_eq_true_eq]
    constructor
    · rintro (⟨r, h1, h2⟩ | e)
      · exact ⟨r, by omega, h2⟩
      · exact ⟨k, by omega, e.symm⟩
    · rintro ⟨r, h1, h2⟩
      by_cases c : r = k
      · right; rw [← h2, c]
      · left; exact ⟨r, by omega, h2⟩
theorem pm_e (NF : Nat) (hNF : 300 < NF) {ob : Rec} {n xc k : Nat} {pv : Nat → Nat} (h : EC ob n xc k pv) (h1 : gI ob 1 = full n) : X_echPivotMask NF ob = some (pmk pv k &&& full n) := by
  unfold X_echPivotMask
  have e8 := h.e8
  have pa := h.pa
  clear h
  have := lpN (fun fuel i => X_echPivotMask_l4 NF ob fuel (pmk pv i) (n32 i)) k (some (pmk pv k &&& full n)) (fun f => by
    show X_echPivotMask_w4 NF ob _ _ _ = _
    unfold X_echPivotMask_w4
    rw [e8.1, if_neg (nlt (by omega) (by omega) (by omega)), h1]) (fun f i hi => by
    show X_echPivotMask_w4 NF ob (X_echPivotMask_l4 NF ob f) _ _ = X_echPivotMask_l4 NF ob f (pmk pv i ||| ((1 : Int32) <<< (n32 (pv i) &&& 31))) (n32 (i + 1))
    unfold X_echPivotMask_w4
    rw [e8.1, if_pos (ylt (by omega) (by omega) hi), if_pos (show n32 i < (16 : Int32) from ylt (n := 16) (by omega) (by omega) (by omega)), ck32 (m := 16) rfl (by omega) (by omega), (pa i hi).1, n32_s (by omega)]) k NF 0 (by omega) (by omega)
  exact this
def vl' (ob : Rec) (pv : Nat → Nat) (s : Int32) (r : Nat) : Int32 := gA ob 8 (n32 r) ^^^ par ((gA ob 7 (n32 r) &&& (((1 : Int32) <<< (n32 (pv r) &&& 31)) ^^^ (-1 : Int32))) &&& s)
def cfk (ob : Rec) (pv : Nat → Nat) (s : Int32) : Nat → Int32
  | 0 => s
  | r + 1 => if vl' ob pv s r = 0 then cfk ob pv s r else cfk ob pv s r ||| ((1 : Int32) <<< (n32 (pv r) &&& 31))
theorem cfk_b (ob : Rec) (pv : Nat → Nat) (s : Int32) : ∀ k, (∀ r, r < k → pv r < 12) → ∀ v, (bb (cfk ob pv s k) v = true ↔ bb s v = true ∨ ∃ r, r < k ∧ pv r = v ∧ ¬ vl' ob pv s r = 0)
  | 0, _, v => ⟨fun e => Or.inl e, fun e => e.elim id (fun ⟨r, h, _⟩ => by omega)⟩
  | k + 1, h, v => by
    have ih := cfk_b ob pv s k (fun r hr => h r (by omega)) v
    show bb (if vl' ob pv s k = 0 then cfk ob pv s k else cfk ob pv s k ||| ((1 : Int32) <<< (n32 (pv k) &&& 31))) v = true ↔ _
    by_cases c : vl' ob pv s k = 0
    · rw [if_pos c, ih]
      constructor
      · rintro (e | ⟨r, h1, h2⟩)
        · exact Or.inl e
        · exact Or.inr ⟨r, by omega, h2⟩
      · rintro (e | ⟨r, h1, h2, h3⟩)
        · exact Or.inl e
        · by_cases d : r = k
          · rw [d] at h3; exact absurd c h3
          · exact Or.inr ⟨r, by omega, h2, h3⟩
    · rw [if_neg c, bb_or, Bool.or_eq_true, ih, bb_sh (h k (by omega)), decide_eq_true_eq]
      constructor
      · rintro ((e | ⟨r, h1, h2⟩) | e)
        · exact Or.inl e
        · exact Or.inr ⟨r, by omega, h2⟩
        · exact Or.inr ⟨k, by omega, e.symm, c⟩
      · rintro (e | ⟨r, h1, h2, h3⟩)
        · exact Or.inl (Or.inl e)
        · by_cases d : r = k
          · right; rw [← h2, d]
          · exact Or.inl (Or.inr ⟨r, by omega, h2, h3⟩)
def cmp (ob : Rec) (pv : Nat → Nat) (n k : Nat) (s : Int32) : Int32 := cfk ob pv s k &&& full n
theorem cf_e (NF : Nat) (hNF : 300 < NF) {ob : Rec} {n xc k : Nat} {pv : Nat → Nat} (h : EC ob n xc k pv) (h1 : gI ob 1 = full n) (s : Int32) : X_completeFromFree NF ob s = some (cmp ob pv n k s) := by
  unfold X_completeFromFree cmp
  have e8 := h.e8
  have pa := h.pa
  clear h
  have := lpN (fun fuel i => X_completeFromFree_l4 NF ob fuel s (cfk ob pv s i) (n32 i)) k (some (cfk ob pv s k &&& full n)) (fun f => by
    show X_completeFromFree_w4 NF ob _ _ _ _ = _
    unfold X_completeFromFree_w4
    rw [e8.1, if_neg (nlt (by omega) (by omega) (by omega)), h1]) (fun f i hi => by
    show X_completeFromFree_w4 NF ob (X_completeFromFree_l4 NF ob f) _ _ _ = X_completeFromFree_l4 NF ob f s (if vl' ob pv s i = 0 then cfk ob pv s i else cfk ob pv s i ||| ((1 : Int32) <<< (n32 (pv i) &&& 31))) (n32 (i + 1))
    have q : ∀ A : Option Int32, chk 16 (n32 i) A = A := fun A => ck32 (m := 16) rfl (by omega) (by omega)
    unfold X_completeFromFree_w4
    rw [e8.1, if_pos (ylt (by omega) (by omega) hi), if_pos (show n32 i < (16 : Int32) from ylt (n := 16) (by omega) (by omega) (by omega)), q, q, q, (pa i hi).1, par_e, Option.bind_some, n32_s (by omega)]
    show (if vl' ob pv s i = 0 then _ else _) = _
    by_cases c : vl' ob pv s i = 0
    · rw [if_pos c, if_pos c]
    · rw [if_neg c, if_neg c]) k NF 0 (by omega) (by omega)
  exact this
/-- the free columns -/
def fre (pv : Nat → Nat) (n k : Nat) : Int32 := full n &&& ((pmk pv k &&& full n) ^^^ (-1 : Int32))
theorem fre_b {ob : Rec} {n xc k : Nat} {pv : Nat → Nat} (hn : n ≤ 8) (h : EC ob n xc k pv) (v : Nat) : bb (fre pv n k) v = true ↔ v < n ∧ ¬ ∃ r, r < k ∧ pv r = v := by
  have pb := pmk_b pv k (fun r hr => by have := (h.pa r hr).2.1; clear h; omega) v
  clear h
  unfold fre
  by_cases c : v < n
  · rw [bb_and, full_b hn, bb_not _ (by omega), bb_and, full_b hn, decide_eq_true c, Bool.true_and, Bool.and_true]
    cases e : bb (pmk pv k) v
    · rw [e] at pb
      exact ⟨fun _ => ⟨c, fun z => absurd (pb.mpr z) (by decide)⟩, fun _ => rfl⟩
    · exact ⟨fun z => absurd z (by decide), fun z => absurd (pb.mp e) z.2⟩
  · rw [bb_and, full_b hn, decide_eq_false c, Bool.false_and]
    exact ⟨fun z => absurd z (by decide), fun z => absurd z.1 c⟩
theorem fre_W {n : Nat} (hn : n ≤ 8) (pv : Nat → Nat) (k : Nat) : Wi n (fre pv n k) := fun v hv => by unfold fre; rw [bb_and, full_b hn, decide_eq_false (by omega), Bool.false_and]
/-- a row, with its pivot apart -/
theorem rowp {ob : Rec} {n xc k : Nat} {pv : Nat → Nat} (hn : n ≤ 8) (h : EC ob n xc k pv) {r : Nat} (hr : r < k) (b : Int32) : par (b &&& gA ob 7 (n32 r)) = (if bb b (pv r) = true then 1 else 0) ^^^ par ((gA ob 7 (n32 r) &&& (((1 : Int32) <<< (n32 (pv r) &&& 31)) ^^^ (-1 : Int32))) &&& (b &&& fre pv n k)) := by
  obtain ⟨p1, p2, p3⟩ := h.pa r hr
  have p12 : pv r < 12 := by clear h; omega
  have e : b &&& gA ob 7 (n32 r) = (if bb b (pv r) = true then (1 : Int32) <<< (n32 (pv r) &&& 31) else 0) ^^^ ((gA ob 7 (n32 r) &&& (((1 : Int32) <<< (n32 (pv r) &&& 31)) ^^^ (-1 : Int32))) &&& (b &&& fre pv n k)) := by
    apply bb_ext
    intro v hv
    rw [bb_xor, bb_and, bb_and, bb_and, bb_and, bb_not _ hv, bb_sh p12]
    by_cases c : v = pv r
    · rw [c, decide_eq_true rfl, p3]
      cases d : bb b (pv r)
      · rw [if_neg (by decide), bb_0]; rfl
      · rw [if_pos rfl, bb_sh p12, decide_eq_true rfl]; rfl
    · have z : bb (if bb b (pv r) = true then (1 : Int32) <<< (n32 (pv r) &&& 31) else 0) v = false := by
        split
        · rw [bb_sh p12, decide_eq_false c]
        · exact bb_0 v
      rw [z, decide_eq_false c, Bool.false_xor]
      cases d : bb (gA ob 7 (n32 r)) v
      · simp
      · have fv : bb (fre pv n k) v = true := (fre_b hn h v).mpr ⟨by
          apply Classical.byContradiction
          intro w
          have := (h.rw' r hr).1 v (by clear h; omega)
          rw [this] at d; exact absurd d (by decide), fun ⟨r', a1, a2⟩ => by
          by_cases y : r = r'
          · rw [← y] at a2; exact c a2.symm
          · have := h.pz r' r a1 hr y
            rw [a2, d] at this; exact absurd this (by decide)⟩
        rw [fv]; simp
  rw [e, par_x]
  congr 1
  split
  · exact par_s (pv r) (List.mem_range.mpr p12)
  · exact par_0
theorem cmp_o {ob : Rec} {n xc k : Nat} {pv : Nat → Nat} (hn : n ≤ 8) (h : EC ob n xc k pv) (s : Int32) {v : Nat} (hv : v < n) (hp : ¬ ∃ r, r < k ∧ pv r = v) : bb (cmp ob pv n k s) v = bb s v := by
  have cb := cfk_b ob pv s k (fun r hr => by have := (h.pa r hr).2.1; clear h; omega) v
  clear h
  unfold cmp
  rw [bb_and, full_b hn, decide_eq_true hv, Bool.and_true]
  cases e : bb s v
  · cases d : bb (cfk ob pv s k) v
    · rfl
    · rcases cb.mp d with a | ⟨r, a1, a2, _⟩
      · rw [e] at a; exact absurd a (by decide)
      · exact absurd ⟨r, a1, a2⟩ hp
  · exact cb.mpr (Or.inl e)
theorem cmp_p {ob : Rec} {n xc k : Nat} {pv : Nat → Nat} (hn : n ≤ 8) (h : EC ob n xc k pv) {s : Int32} {r : Nat} (hr : r < k) (hs : bb s (pv r) = false) : bb (cmp ob pv n k s) (pv r) = !decide (vl' ob pv s r = 0) := by
  have cb := cfk_b ob pv s k (fun r hr => by have := (h.pa r hr).2.1; clear h; omega) (pv r)
  have inj : ∀ r', r' < k → pv r' = pv r → r' = r := fun r' h1 h2 => by
    apply Classical.byContradiction
    intro c
    have := h.pz r r' hr h1 c
    rw [← h2, (h.pa r' h1).2.2] at this; exact absurd this (by decide)
  have hv := (h.pa r hr).2.1
  clear h
  unfold cmp
  rw [bb_and, full_b hn, decide_eq_true hv, Bool.and_true]
  by_cases c : vl' ob pv s r = 0
  · rw [decide_eq_true c]
    cases d : bb (cfk ob pv s k) (pv r)
    · rfl
    · rcases cb.mp d with a | ⟨r', a1, a2, a3⟩
      · rw [hs] at a; exact absurd a (by decide)
      · rw [inj r' a1 a2] at a3; exact absurd c a3
  · rw [decide_eq_false c]
    exact cb.mpr (Or.inr ⟨r, hr, rfl, c⟩)
theorem vl_b {ob : Rec} {n xc k : Nat} {pv : Nat → Nat} (h : EC ob n xc k pv) (s : Int32) {r : Nat} (hr : r < k) : vl' ob pv s r = 0 ∨ vl' ob pv s r = 1 := (x01 (h.rw' r hr).2 (par_b _)).2
theorem cmp_s {ob : Rec} {n xc k : Nat} {pv : Nat → Nat} (hn : n ≤ 8) (h : EC ob n xc k pv) {s : Int32} (hs : s &&& fre pv n k = s) : cmp ob pv n k s &&& fre pv n k = s ∧ (∀ r, r < k → Eq1 (gA ob 7 (n32 r)) (gA ob 8 (n32 r)) (cmp ob pv n k s)) := by
  have sz : ∀ v, bb s v = true → bb (fre pv n k) v = true := fun v e => by
    have := congrArg (fun z => bb z v) hs
    simp only [bb_and, e, Bool.true_and] at this; exact this
  have c1 : cmp ob pv n k s &&& fre pv n k = s := by
    apply bb_ext
    intro v _
    rw [bb_and]
    cases e : bb (fre pv n k) v
    · rw [Bool.and_false]
      cases d : bb s v
      · rfl
      · rw [sz v d] at e; exact absurd e (by decide)
    · obtain ⟨a1, a2⟩ := (fre_b hn h v).mp e
      rw [Bool.and_true, cmp_o hn h s a1 a2]
  refine ⟨c1, fun r hr => ?_⟩
  show par (cmp ob pv n k s &&& gA ob 7 (n32 r)) = gA ob 8 (n32 r)
  have sr : bb s (pv r) = false := by
    cases d : bb s (pv r)
    · rfl
    · exact absurd ⟨r, hr, rfl⟩ ((fre_b hn h (pv r)).mp (sz _ d)).2
  rw [rowp hn h hr, c1, cmp_p hn h hr sr]
  have e : (if (!decide (vl' ob pv s r = 0)) = true then (1 : Int32) else 0) = vl' ob pv s r := by
    rcases vl_b h s hr with z | z
    · rw [z]; rfl
    · rw [z]; rfl
  rw [e]
  unfold vl'
  exact xor_c _ _
theorem cmp_u {ob : Rec} {n xc k : Nat} {pv : Nat → Nat} (hn : n ≤ 8) (h : EC ob n xc k pv) {b : Int32} (hb : Wi n b) (hs : ∀ r, r < k → Eq1 (gA ob 7 (n32 r)) (gA ob 8 (n32 r)) b) : cmp ob pv n k (b &&& fre pv n k) = b := by
  apply bb_ext
  intro v _
  by_cases c : v < n
  · by_cases d : ∃ r, r < k ∧ pv r = v
    · obtain ⟨r, hr, e⟩ := d
      rw [← e]
      have fz : bb (fre pv n k) (pv r) = false := by
        cases w : bb (fre pv n k) (pv r)
        · rfl
        · exact absurd ⟨r, hr, rfl⟩ ((fre_b hn h (pv r)).mp w).2
      rw [cmp_p hn h hr (by rw [bb_and, fz, Bool.and_false])]
      have q := hs r hr
      have q' : par (b &&& gA ob 7 (n32 r)) = gA ob 8 (n32 r) := q
      rw [rowp hn h hr] at q'
      have vv : vl' ob pv (b &&& fre pv n k) r = if bb b (pv r) = true then 1 else 0 := by
        unfold vl'
        rw [← q', xor_c]
      rw [vv]
      cases bb b (pv r) <;> rfl
    · rw [cmp_o hn h _ c d, bb_and, (fre_b hn h v).mpr ⟨c, d⟩, Bool.and_true]
  · unfold cmp
    rw [f_Wi hn _ v (by clear h; omega), hb v (by clear h; omega)]
/- the submasks -/
def nx (fr s : Int32) : Int32 := (s - fr) &&& fr
def sbl (fr : Nat) : List Nat := (List.range 256).filter (fun t => decide (n32 t &&& n32 fr = n32 t))
def chn (fr : Int32) : List Nat → Bool
  | [] => true
  | [s] => decide (nx fr (n32 s) = 0)
  | s :: t :: l => decide (nx fr (n32 s) = n32 t) && (!decide (n32 t = 0) && chn fr (t :: l))
theorem chn_all : ∀ fr ∈ List.range 256, chn (n32 fr) (sbl fr) = true ∧ (sbl fr).head? = some 0 := by decide +kernel
theorem bc_i (NF : Nat) (ob : Rec) : ∀ f a b c, X_bitCount_l7 NF ob f a b c = X_bitCount_l7 0 zrec f a b c
  | 0, _, _, _ => rfl
  | f + 1, a, b, c => by
    show X_bitCount_w7 NF ob (X_bitCount_l7 NF ob f) a b c = X_bitCount_w7 0 zrec (X_bitCount_l7 0 zrec f) a b c
    unfold X_bitCount_w7
    split
    · split
      · rfl
      · exact bc_i NF ob f _ _ _
    · rfl
theorem bc_m : ∀ f a b c v, X_bitCount_l7 0 zrec f a b c = some v → X_bitCount_l7 0 zrec (f + 1) a b c = some v
  | 0, _, _, _, _, h => by cases h
  | f + 1, a, b, c, v, h => by
    have h' : X_bitCount_w7 0 zrec (X_bitCount_l7 0 zrec f) a b c = some v := h
    show X_bitCount_w7 0 zrec (X_bitCount_l7 0 zrec (f + 1)) a b c = some v
    unfold X_bitCount_w7 at h' ⊢
    split
    · rename_i c1
      rw [if_pos c1] at h'
      split
      · rename_i c2
        rw [if_pos c2] at h'; exact h'
      · rename_i c2
        rw [if_neg c2] at h'
        exact bc_m f _ _ _ v h'
    · rename_i c1
      rw [if_neg c1] at h'; exact h'
theorem bc_m' : ∀ d f a b c v, X_bitCount_l7 0 zrec f a b c = some v → X_bitCount_l7 0 zrec (f + d) a b c = some v
  | 0, _, _, _, _, _, h => h
  | d + 1, f, a, b, c, v, h => bc_m (f + d) a b c v (bc_m' d f a b c v h)
theorem bc_all : ∀ fr ∈ List.range 256, (X_bitCount_l7 0 zrec 40 (n32 fr) 0 0).map (fun r => (1 : Int32) <<< (r &&& 31)) = some (n32 (sbl fr).length) := by decide +kernel
theorem bc_e (NF : Nat) (hNF : 300 < NF) (ob : Rec) {fr : Nat} (hf : fr < 256) : ∃ r, X_bitCount NF ob (n32 fr) = some r ∧ (1 : Int32) <<< (r &&& 31) = n32 (sbl fr).length := by
  have := bc_all fr (List.mem_range.mpr hf)
  unfold X_bitCount
  rw [bc_i]
  cases h : X_bitCount_l7 0 zrec 40 (n32 fr) 0 0 with
  | none => rw [h] at this; cases this
  | some r =>
    rw [h] at this
    have t2 := bc_m' (NF - 40) 40 _ _ _ _ h
    rw [show 40 + (NF - 40) = NF by omega] at t2
    exact ⟨r, t2, Option.some.inj this⟩
theorem ach (NF : Nat) (hNF : 300 < NF) {ob : Rec} {cc : Nat} (h5 : gI ob 5 = n32 cc) (hc : cc ≤ 24) (b : Int32) : X_allClausesHold NF ob b = some (if ∀ c, c < cc → ¬ clF ob c b then 1 else 0) := by
  unfold X_allClausesHold
  have main : ∀ (m fuel i : Nat), m < fuel → i ≤ cc → cc - i ≤ m → (∀ c, c < i → ¬ clF ob c b) → X_allClausesHold_l2 NF ob fuel b (n32 i) = some (if ∀ c, c < cc → ¬ clF ob c b then 1 else 0) := by
    intro m
    induction m with
    | zero =>
      intro fuel i hf hi hm hz
      obtain ⟨g, rfl⟩ : ∃ g, fuel = g + 1 := ⟨fuel - 1, by omega⟩
      have e : i = cc := by omega
      rw [e] at hz ⊢
      show X_allClausesHold_w2 NF ob _ _ _ = _
      unfold X_allClausesHold_w2
      rw [h5, if_neg (nlt (by omega) (by omega) (by omega)), if_pos hz]
    | succ m ih =>
      intro fuel i hf hi hm hz
      obtain ⟨g, rfl⟩ : ∃ g, fuel = g + 1 := ⟨fuel - 1, by omega⟩
      show X_allClausesHold_w2 NF ob (X_allClausesHold_l2 NF ob g) _ _ = _
      unfold X_allClausesHold_w2
      by_cases e : i = cc
      · rw [e] at hz ⊢
        rw [h5, if_neg (nlt (by omega) (by omega) (by omega)), if_pos hz]
      · rw [h5, if_pos (ylt (by omega) (by omega) (by omega)), if_pos (show n32 i < (24 : Int32) from ylt (n := 24) (by omega) (by omega) (by omega)), clh ob (by omega), Option.bind_some, n32_s (by omega)]
        by_cases d : clF ob i b
        · rw [if_pos d, if_pos rfl, if_neg (fun z => z i (by omega) d)]
        · rw [if_neg d, if_neg (by decide)]
          exact ih g (i + 1) (by omega) (by omega) (by omega) (fun c hc => by
            by_cases y : c = i
            · rw [y]; exact d
            · exact hz c (by omega))
  exact main 30 NF 0 (by omega) (by omega) (by omega) (fun c hc => by omega)
theorem fl_c (f : Nat → Bool) : ∀ N, ((List.range N).filter f).length = cN f N
  | 0 => rfl
  | N + 1 => by
    rw [List.range_succ, List.filter_append, List.length_append, fl_c f N]
    show cN f N + _ = cN f N + (if f N = true then 1 else 0)
    congr 1
    cases h : f N <;> simp [List.filter, h]
theorem cap_l (NF : Nat) (hNF : 300 < NF) {ob : Rec} {n xc cc k : Nat} {pv : Nat → Nat} (h : EC ob n xc k pv) (h1 : gI ob 1 = full n) (h5 : gI ob 5 = n32 cc) (hc : cc ≤ 24) (fr : Int32) : ∀ (l : List Nat) (s c i fuel : Nat), chn fr (s :: l) = true → l.length + 1 < fuel → i + l.length < 900 → c + l.length < 900 →
    X_countAffinePoints_l7 NF ob fuel fr (n32 c) (n32 s) (n32 i) = some (n32 (c + ((s :: l).filter (fun t => decide (∀ c, c < cc → ¬ clF ob c (cmp ob pv n k (n32 t))))).length)) := by
  intro l
  induction l with
  | nil =>
    intro s c i fuel hch hf hi hcc
    obtain ⟨g, rfl⟩ : ∃ g, fuel = g + 1 := ⟨fuel - 1, by clear h; omega⟩
    have hi' : i + 0 < 900 := hi
    have hcc' : c + 0 < 900 := hcc
    have z : nx fr (n32 s) = 0 := of_decide_eq_true hch
    show X_countAffinePoints_w7 NF ob _ _ _ _ _ = _
    unfold X_countAffinePoints_w7
    rw [if_pos (by rw [lt_i, nt i (by clear h; omega)]; show (i : Int) < 4097; clear h; omega), cf_e NF hNF h h1, Option.bind_some, ach NF hNF h5 hc, Option.bind_some]
    unfold X_countAffinePoints_b34
    by_cases d : ∀ c, c < cc → ¬ clF ob c (cmp ob pv n k (n32 s))
    · rw [if_pos d, if_neg (by decide), if_pos (show (n32 s - fr) &&& fr = 0 from z), n32_s (by clear h; omega)]
      rw [List.filter_cons, if_pos (decide_eq_true d)]; rfl
    · rw [if_neg d, if_pos rfl, if_pos (show (n32 s - fr) &&& fr = 0 from z)]
      rw [List.filter_cons, if_neg (by rw [decide_eq_false d]; decide)]; rfl
  | cons t l ih =>
    intro s c i fuel hch hf hi hcc
    obtain ⟨g, rfl⟩ : ∃ g, fuel = g + 1 := ⟨fuel - 1, by clear h; omega⟩
    have hi' : i + (l.length + 1) < 900 := hi
    have hf' : l.length + 1 + 1 < g + 1 := hf
    have hcc' : c + (l.length + 1) < 900 := hcc
    have hch' : (decide (nx fr (n32 s) = n32 t) && (!decide (n32 t = 0) && chn fr (t :: l))) = true := hch
    rw [Bool.and_eq_true, Bool.and_eq_true] at hch'
    have z : nx fr (n32 s) = n32 t := of_decide_eq_true hch'.1
    have t0 : ¬ n32 t = 0 := by
      intro w
      rw [decide_eq_true w] at hch'; exact absurd hch'.2.1 (by decide)
    show X_countAffinePoints_w7 NF ob (X_countAffinePoints_l7 NF ob g) _ _ _ _ = _
    unfold X_countAffinePoints_w7
    rw [if_pos (by rw [lt_i, nt i (by clear h; omega)]; show (i : Int) < 4097; clear h; omega), cf_e NF hNF h h1, Option.bind_some, ach NF hNF h5 hc, Option.bind_some]
    unfold X_countAffinePoints_b34
    have z' : (n32 s - fr) &&& fr = n32 t := z
    rw [z', if_neg t0, if_neg t0, n32_s (i := i) (by clear h; omega)]
    by_cases d : ∀ c, c < cc → ¬ clF ob c (cmp ob pv n k (n32 s))
    · rw [if_pos d, if_neg (by decide), n32_s (by clear h; omega), ih t (c + 1) (i + 1) g hch'.2.2 (by clear h; omega) (by clear h; omega) (by clear h; omega)]
      rw [List.filter_cons (x := s), if_pos (decide_eq_true d), List.length_cons]
      congr 2; clear h; omega
    · rw [if_neg d, if_pos rfl, ih t c (i + 1) g hch'.2.2 (by clear h; omega) (by clear h; omega) (by clear h; omega)]
      rw [List.filter_cons (x := s), if_neg (by rw [decide_eq_false d]; decide)]
/-- the number of models -/
theorem cm_e (NF : Nat) (hNF : 300 < NF) {ob : Rec} {n cc xc : Nat} (hn : n ≤ 8) (h : CI ob n cc xc) (hv : gI ob 10 = 0 ∨ (gI ob 10 = 1 ∧ ∃ k pv, EC ob n xc k pv)) : ∃ r k pv, X_countModels NF ob = some (n32 (cN (fun b => decide (Sat ob cc xc (n32 b))) (2 ^ n)), r) ∧ Fe ob r ∧ gI r 10 = 1 ∧ EC r n xc k pv := by
  obtain ⟨r, k, pv, r1, r2, r3, r4⟩ := ens NF hNF hn h hv
  have hr : CI r n cc xc := CI_c h (fun j hj => r2.1 j (by omega)) (fun j x a b => r2.2 j x (by omega))
  have satr : ∀ b, Sat r cc xc b ↔ Sat ob cc xc b := fun b => Sat_c (fun j x a b => r2.2 j x (by omega)) b
  refine ⟨r, k, pv, ?_, r2, r3, r4⟩
  unfold X_countModels
  rw [r1, Option.bind_some]
  rcases r4.co with ⟨c1, c2⟩ | ⟨c1, c2⟩
  · rw [if_neg (by rw [c1]; decide), pm_e NF hNF r4 hr.e1, Option.bind_some, hr.e5.1, hr.e1]
    show (if n32 cc = 0 then (X_bitCount NF r (fre pv n k)).bind _ else (X_countAffinePoints NF r (fre pv n k)).bind _) = _
    obtain ⟨fr, f1, f2⟩ := Wi_n hn (fre pv n k) (fre_W hn pv k)
    have p8 := pow8 hn
    have fr8 : fr < 256 := by clear h hr r4; omega
    -- the counting
    have cnt : cN (fun t => decide (∀ c, c < cc → ¬ clF r c (cmp r pv n k (n32 t))) && decide (n32 t &&& n32 fr = n32 t)) 256 = cN (fun b => decide (Sat ob cc xc (n32 b))) (2 ^ n) := by
      apply Nat.le_antisymm
      · refine cN_inj 256 (2 ^ n) (fun t => (cmp r pv n k (n32 t)).toBitVec.toNat) (fun t ht e => ?_) (fun t u ht hu e1 e2 e3 => ?_)
        · rw [Bool.and_eq_true] at e
          have a1 := of_decide_eq_true e.1
          have a2 := of_decide_eq_true e.2
          rw [← f2] at a2
          obtain ⟨b1, b2⟩ := cmp_s hn r4 a2
          have wc : Wi n (cmp r pv n k (n32 t)) := f_Wi hn _
          obtain ⟨q, q1, q2⟩ := Wi_n hn _ wc
          have q3 := (n_Wi hn q1).2
          show (cmp r pv n k (n32 t)).toBitVec.toNat < 2 ^ n ∧ decide (Sat ob cc xc (n32 ((cmp r pv n k (n32 t)).toBitVec.toNat))) = true
          rw [q2, q3]
          refine ⟨q1, decide_eq_true ?_⟩
          rw [← satr, ← q2]
          exact ⟨a1, (c2 _).mpr b2⟩
        · rw [Bool.and_eq_true] at e1 e2
          have a2 := of_decide_eq_true e1.2
          have a3 := of_decide_eq_true e2.2
          rw [← f2] at a2 a3
          have e4 : cmp r pv n k (n32 t) = cmp r pv n k (n32 u) := Int32.toBitVec_inj.mp (BitVec.eq_of_toNat_eq e3)
          have := (cmp_s hn r4 a2).1
          rw [e4, (cmp_s hn r4 a3).1] at this
          exact n32_inj (by clear h hr r4; omega) (by clear h hr r4; omega) this.symm
      · refine cN_inj (2 ^ n) 256 (fun b => (n32 b &&& fre pv n k).toBitVec.toNat) (fun b hb e => ?_) (fun b d hb hd e1 e2 e3 => ?_)
        · have sb := (satr _).mpr (of_decide_eq_true e)
          have wb := (n_Wi hn hb).1
          have wf : Wi n (n32 b &&& fre pv n k) := fun v hv => by rw [bb_and, wb v hv, Bool.false_and]
          obtain ⟨q, q1, q2⟩ := Wi_n hn _ wf
          have q3 := (n_Wi hn q1).2
          show (n32 b &&& fre pv n k).toBitVec.toNat < 256 ∧ (decide (∀ c, c < cc → ¬ clF r c (cmp r pv n k (n32 ((n32 b &&& fre pv n k).toBitVec.toNat)))) && decide (n32 ((n32 b &&& fre pv n k).toBitVec.toNat) &&& n32 fr = n32 ((n32 b &&& fre pv n k).toBitVec.toNat))) = true
          have e5 : n32 ((n32 b &&& fre pv n k).toBitVec.toNat) = n32 b &&& fre pv n k := by rw [q2, q3]
          rw [e5, cmp_u hn r4 wb ((c2 _).mp sb.2), ← f2]
          refine ⟨by rw [q2, q3]; clear h hr r4; omega, ?_⟩
          rw [decide_eq_true sb.1, decide_eq_true]; rfl
          apply bb_ext
          intro v _
          simp only [bb_and]
          cases bb (fre pv n k) v <;> simp
        · have sb := (satr _).mpr (of_decide_eq_true e1)
          have sd := (satr _).mpr (of_decide_eq_true e2)
          have e4 : n32 b &&& fre pv n k = n32 d &&& fre pv n k := Int32.toBitVec_inj.mp (BitVec.eq_of_toNat_eq e3)
          have := cmp_u hn r4 (n_Wi hn hb).1 ((c2 _).mp sb.2)
          rw [e4, cmp_u hn r4 (n_Wi hn hd).1 ((c2 _).mp sd.2)] at this
          exact n32_inj (by clear h hr r4; omega) (by clear h hr r4; omega) this.symm
    have len : ((sbl fr).filter (fun t => decide (∀ c, c < cc → ¬ clF r c (cmp r pv n k (n32 t))))).length = cN (fun b => decide (Sat ob cc xc (n32 b))) (2 ^ n) := by
      rw [← cnt, ← fl_c]
      unfold sbl
      rw [List.filter_filter]
    rw [f2]
    by_cases c0 : cc = 0
    · obtain ⟨x, x1, x2⟩ := bc_e NF hNF r fr8
      rw [if_pos (by rw [c0]; rfl), x1, Option.bind_some, x2, ← len]
      have : (sbl fr).filter (fun t => decide (∀ c, c < cc → ¬ clF r c (cmp r pv n k (n32 t)))) = sbl fr := by
        apply List.filter_eq_self.mpr
        intro t _
        exact decide_eq_true (fun c hc => by rw [c0] at hc; omega)
      rw [this]
    · have e5 := hr.e5
      rw [if_neg (show ¬ n32 cc = 0 from n32_ne (j := 0) (by clear h hr r4; omega) (by omega) c0)]
      obtain ⟨ch1, ch2⟩ := chn_all fr (List.mem_range.mpr fr8)
      unfold X_countAffinePoints
      have ll : (sbl fr).length ≤ 256 := by
        unfold sbl
        rw [fl_c]; exact cN_b _ 256
      cases hl : sbl fr with
      | nil => rw [hl] at ch2; cases ch2
      | cons s l =>
        rw [hl] at ch1 ch2 len ll
        have s0 : s = 0 := Option.some.inj ch2
        have ll' : l.length + 1 ≤ 256 := ll
        have t := cap_l NF hNF r4 hr.e1 e5.1 e5.2 (n32 fr) l s 0 0 NF ch1 (by clear h hr r4; omega) (by clear h hr r4; omega) (by clear h hr r4; omega)
        rw [s0] at t
        have t' : X_countAffinePoints_l7 NF r NF (n32 fr) 0 0 0 = _ := t
        rw [t', Option.bind_some, Nat.zero_add, ← len, s0]
  · have z : cN (fun b => decide (Sat ob cc xc (n32 b))) (2 ^ n) = 0 := (cN_z _).mpr (fun b _ => decide_eq_false (fun e => c2 (n32 b) ((satr _).mpr e).2))
    rw [if_pos c1, z]; rfl
/-- the partial assignment, its trail and the levels -/
abbrev SV (ob : Rec) (n T K : Nat) (tr lv ls : Nat → Nat) : Prop := (gI ob 15 = n32 T) ∧ (gI ob 16 = n32 K) ∧ (∀ t, t < T → gA ob 13 (n32 t) = n32 (tr t) ∧ tr t < n) ∧ (∀ t t', t < T → t' < T → tr t = tr t' → t = t') ∧ (∀ v, bb (gI ob 13) v = true ↔ ∃ t, t < T ∧ tr t = v) ∧ (∀ v, bb (gI ob 14) v = true → bb (gI ob 13) v = true) ∧ (∀ i, i < K → (gA ob 14 (n32 i) = n32 (lv i) ∧ lv i < n) ∧ (gA ob 15 (n32 i) = n32 (ls i) ∧ ls i < T ∧ tr (ls i) = lv i) ∧ (gA ob 16 (n32 i) = 0 ∨ gA ob 16 (n32 i) = 1) ∧ bb (gI ob 14) (lv i) = decide (gA ob 16 (n32 i) = 1) ∧ (∀ v, v < lv i → ∃ t, t < ls i ∧ tr t = v)) ∧ (∀ i j, i < j → j < K → ls i < ls j ∧ lv i < lv j)
theorem SV.e15 {ob : Rec} {n T K : Nat} {tr lv ls : Nat → Nat} (h : SV ob n T K tr lv ls) : gI ob 15 = n32 T := h.1
theorem SV.e16 {ob : Rec} {n T K : Nat} {tr lv ls : Nat → Nat} (h : SV ob n T K tr lv ls) : gI ob 16 = n32 K := h.2.1
theorem SV.tb {ob : Rec} {n T K : Nat} {tr lv ls : Nat → Nat} (h : SV ob n T K tr lv ls) : ∀ t, t < T → gA ob 13 (n32 t) = n32 (tr t) ∧ tr t < n := h.2.2.1
theorem SV.ti {ob : Rec} {n T K : Nat} {tr lv ls : Nat → Nat} (h : SV ob n T K tr lv ls) : ∀ t t', t < T → t' < T → tr t = tr t' → t = t' := h.2.2.2.1
theorem SV.am {ob : Rec} {n T K : Nat} {tr lv ls : Nat → Nat} (h : SV ob n T K tr lv ls) : ∀ v, bb (gI ob 13) v = true ↔ ∃ t, t < T ∧ tr t = v := h.2.2.2.2.1
theorem SV.av {ob : Rec} {n T K : Nat} {tr lv ls : Nat → Nat} (h : SV ob n T K tr lv ls) : ∀ v, bb (gI ob 14) v = true → bb (gI ob 13) v = true := h.2.2.2.2.2.1
theorem SV.lb {ob : Rec} {n T K : Nat} {tr lv ls : Nat → Nat} (h : SV ob n T K tr lv ls) : ∀ i, i < K → (gA ob 14 (n32 i) = n32 (lv i) ∧ lv i < n) ∧ (gA ob 15 (n32 i) = n32 (ls i) ∧ ls i < T ∧ tr (ls i) = lv i) ∧ (gA ob 16 (n32 i) = 0 ∨ gA ob 16 (n32 i) = 1) ∧ bb (gI ob 14) (lv i) = decide (gA ob 16 (n32 i) = 1) ∧ (∀ v, v < lv i → ∃ t, t < ls i ∧ tr t = v) := h.2.2.2.2.2.2.1
theorem SV.li {ob : Rec} {n T K : Nat} {tr lv ls : Nat → Nat} (h : SV ob n T K tr lv ls) : ∀ i j, i < j → j < K → ls i < ls j ∧ lv i < lv j := h.2.2.2.2.2.2.2
abbrev agr (ob : Rec) (b : Int32) : Prop := ∀ w, bb (gI ob 13) w = true → bb b w = bb (gI ob 14) w
abbrev agT (ob : Rec) (tr : Nat → Nat) (m : Nat) (b : Int32) : Prop := ∀ t, t < m → bb b (tr t) = bb (gI ob 14) (tr t)
abbrev CP (ob : Rec) (Md : Int32 → Prop) (K : Nat) (tr lv ls : Nat → Nat) : Prop := ∀ b, Md b → agr ob b ∨ ∃ i, i < K ∧ gA ob 16 (n32 i) = 0 ∧ agT ob tr (ls i) b ∧ bb b (lv i) = true
theorem SV_T {ob : Rec} {n T K : Nat} {tr lv ls : Nat → Nat} (h : SV ob n T K tr lv ls) : T ≤ n := by
  have := cN_inj (f := fun _ => true) (g := fun _ => true) T n tr (fun t ht _ => ⟨(h.tb t ht).2, rfl⟩) (fun t t' h1 h2 _ _ e => h.ti t t' h1 h2 e)
  rw [cN_t, cN_t] at this; exact this
theorem SV_l {ob : Rec} {n T K : Nat} {tr lv ls : Nat → Nat} (h : SV ob n T K tr lv ls) : ∀ i, i < K → i ≤ lv i
  | 0, _ => Nat.zero_le _
  | i + 1, hi => by
    have a := SV_l h i (by clear h; omega)
    have b := (h.li i (i + 1) (by clear h; omega) hi).2
    clear h; omega
theorem SV_K {ob : Rec} {n T K : Nat} {tr lv ls : Nat → Nat} (h : SV ob n T K tr lv ls) : K ≤ n := by
  by_cases c : K = 0
  · clear h; omega
  · have a := SV_l h (K - 1) (by clear h; omega)
    have b := (h.lb (K - 1) (by clear h; omega)).1.2
    clear h; omega
abbrev Fs (ob r : Rec) : Prop := (∀ j, ¬ (11 ≤ j ∧ j ≤ 17) → gI r j = gI ob j) ∧ ∀ j x, j ≤ 9 → gA r j x = gA ob j x
theorem Fs.tr {a b c : Rec} (h : Fs a b) (g : Fs b c) : Fs a c := ⟨fun j hj => (g.1 j hj).trans (h.1 j hj), fun j x hj => (g.2 j x hj).trans (h.2 j x hj)⟩
/-- the levels are as they were -/
abbrev Lv (ob r : Rec) : Prop := gI r 16 = gI ob 16 ∧ ∀ j x, 14 ≤ j → j ≤ 16 → gA r j x = gA ob j x
theorem Lv.tr {a b c : Rec} (h : Lv a b) (g : Lv b c) : Lv a c := ⟨g.1.trans h.1, fun j x h1 h2 => (g.2 j x h1 h2).trans (h.2 j x h1 h2)⟩
theorem asg_o {ob : Rec} {n v : Nat} (h0 : gI ob 0 = n32 n) (hn : n ≤ 8) (hv : v < n) (hb : bb (gI ob 13) v = true) (val : Int32) : X_assign ob (n32 v) val = some ob := by
  unfold X_assign
  rw [if_neg (nneg (n32_b (by omega)).1), h0, if_pos (ylt (by omega) (by omega) hv), if_neg (fun z => by rw [and_0 (by omega)] at z; rw [z] at hb; exact absurd hb (by decide))]
theorem asg_n {ob : Rec} {n v T K : Nat} {tr lv ls : Nat → Nat} (h : SV ob n T K tr lv ls) (h0 : gI ob 0 = n32 n) (hn : n ≤ 8) (hv : v < n) (hb : bb (gI ob 13) v = false) (val : Int32) :
    ∃ r tr', X_assign ob (n32 v) val = some r ∧ SV r n (T + 1) K tr' lv ls ∧ (∀ w, bb (gI r 14) w = if w = v then !decide (val = 0) else bb (gI ob 14) w) ∧ (∀ w, bb (gI r 13) w = if w = v then true else bb (gI ob 13) w) ∧ Fs ob r ∧ Lv ob r ∧ tr' T = v ∧ (∀ t, t < T → tr' t = tr t) := by
  have hT := SV_T h
  have v12 : v < 12 := by clear h; omega
  have nt' : ∀ t, t < T → ¬ tr t = v := fun t ht e => by
    have := (h.am v).mpr ⟨t, ht, e⟩
    rw [hb] at this; exact absurd this (by decide)
  have Tn : T < 12 := by clear h; omega
  -- the new record
  have new : ∃ r, X_assign ob (n32 v) val = some r ∧ (∀ w, bb (gI r 14) w = if w = v then !decide (val = 0) else bb (gI ob 14) w) ∧ (∀ w, bb (gI r 13) w = if w = v then true else bb (gI ob 13) w) ∧ (∀ j, ¬ (13 ≤ j ∧ j ≤ 15) → gI r j = gI ob j) ∧ gI r 15 = n32 (T + 1) ∧ (∀ j x, ¬ j = 13 → gA r j x = gA ob j x) ∧ gA r 13 (n32 T) = n32 v ∧ (∀ t, t < T → gA r 13 (n32 t) = gA ob 13 (n32 t)) := by
    unfold X_assign
    rw [if_neg (nneg (n32_b (by clear h; omega)).1), h0, if_pos (ylt (by clear h; omega) (by clear h; omega) hv), if_pos ((and_0 v12).mpr hb), h.e15, if_neg (nneg (n32_b (by clear h; omega)).1), if_pos (show n32 T < (12 : Int32) from ylt (n := 12) (by clear h; omega) (by clear h; omega) Tn), n32_s (by clear h; omega)]
    have k12 : ∀ A : Option Rec, chk 12 (n32 T) A = A := fun A => ck32 (m := 12) rfl Tn (by clear h; omega)
    by_cases c : val = 0
    · rw [if_pos c, k12]
      refine ⟨_, rfl, fun w => ?_, fun w => ?_, fun j hj => ?_, rfl, fun j x hj => ?_, ?_, fun t ht => ?_⟩
      · show bb (gI ob 14 &&& (((1 : Int32) <<< (n32 v &&& 31)) ^^^ (-1 : Int32))) w = _
        by_cases hw : w < 32
        · rw [bb_and, bb_not _ hw, bb_sh v12]
          by_cases e : w = v
          · rw [if_pos e, decide_eq_true e, decide_eq_true c]; simp
          · rw [if_neg e, decide_eq_false e]; simp
        · rw [bb_h _ (by clear h; omega), if_neg (by clear h; omega), bb_h _ (by clear h; omega)]
      · show bb (gI ob 13 ||| ((1 : Int32) <<< (n32 v &&& 31))) w = _
        rw [bb_or, bb_sh v12]
        by_cases e : w = v
        · rw [if_pos e, decide_eq_true e]; simp
        · rw [if_neg e, decide_eq_false e]; simp
      · rw [gI_sI, if_neg (by clear h; omega), gI_sA, gI_sI, if_neg (by clear h; omega), gI_sI, if_neg (by clear h; omega)]
      · rw [gA_sI, gA_sA, if_neg (fun e => hj e.1)]; rfl
      · rw [gA_sI, gA_sA, if_pos ⟨rfl, rfl⟩]
      · rw [gA_sI, gA_sA, if_neg (fun e => n32_ne (by clear h; omega) (by clear h; omega) (by clear h; omega) e.2)]; rfl
    · rw [if_neg c, k12]
      refine ⟨_, rfl, fun w => ?_, fun w => ?_, fun j hj => ?_, rfl, fun j x hj => ?_, ?_, fun t ht => ?_⟩
      · show bb (gI ob 14 ||| ((1 : Int32) <<< (n32 v &&& 31))) w = _
        rw [bb_or, bb_sh v12]
        by_cases e : w = v
        · rw [if_pos e, decide_eq_true e, decide_eq_false c]; simp
        · rw [if_neg e, decide_eq_false e]; simp
      · show bb (gI ob 13 ||| ((1 : Int32) <<< (n32 v &&& 31))) w = _
        rw [bb_or, bb_sh v12]
        by_cases e : w = v
        · rw [if_pos e, decide_eq_true e]; simp
        · rw [if_neg e, decide_eq_false e]; simp
      · rw [gI_sI, if_neg (by clear h; omega), gI_sA, gI_sI, if_neg (by clear h; omega), gI_sI, if_neg (by clear h; omega)]
      · rw [gA_sI, gA_sA, if_neg (fun e => hj e.1)]; rfl
      · rw [gA_sI, gA_sA, if_pos ⟨rfl, rfl⟩]
      · rw [gA_sI, gA_sA, if_neg (fun e => n32_ne (by clear h; omega) (by clear h; omega) (by clear h; omega) e.2)]; rfl
  obtain ⟨r, r1, r14, r13, ri, r15, ra, rT, rt⟩ := new
  obtain ⟨tr', t1, t2⟩ : ∃ tr' : Nat → Nat, tr' T = v ∧ ∀ t, t < T → tr' t = tr t := ⟨fun t => if t = T then v else tr t, if_pos rfl, fun t ht => if_neg (by clear h; omega)⟩
  refine ⟨r, tr', r1, ?_, r14, r13, ⟨fun j hj => ri j (by clear h; omega), fun j x hj => ra j x (by clear h; omega)⟩, ⟨ri 16 (by decide), fun j x a b => ra j x (by clear h; omega)⟩, t1, t2⟩
  refine ⟨r15, (ri 16 (by decide)).trans h.e16, fun t ht => ?_, fun t t' ht ht' e => ?_, fun w => ?_, fun w e => ?_, fun i hi => ?_, h.li⟩
  · by_cases c : t = T
    · rw [c, t1, rT]; exact ⟨rfl, hv⟩
    · rw [t2 t (by clear h; omega), rt t (by clear h; omega)]; exact h.tb t (by clear h; omega)
  · by_cases c : t = T
    · by_cases d : t' = T
      · clear h; omega
      · rw [c, t1, t2 t' (by clear h; omega)] at e
        exact absurd e.symm (nt' t' (by clear h; omega))
    · by_cases d : t' = T
      · rw [d, t1, t2 t (by clear h; omega)] at e
        exact absurd e (nt' t (by clear h; omega))
      · rw [t2 t (by clear h; omega), t2 t' (by clear h; omega)] at e
        exact h.ti t t' (by clear h; omega) (by clear h; omega) e
  · rw [r13 w]
    by_cases c : w = v
    · rw [if_pos c]
      exact ⟨fun _ => ⟨T, by clear h; omega, by rw [t1, c]⟩, fun _ => rfl⟩
    · rw [if_neg c, h.am w]
      constructor
      · rintro ⟨t, a, b⟩
        exact ⟨t, by clear h; omega, by rw [t2 t a]; exact b⟩
      · rintro ⟨t, a, b⟩
        by_cases d : t = T
        · rw [d, t1] at b; exact absurd b.symm c
        · rw [t2 t (by clear h; omega)] at b
          exact ⟨t, by clear h; omega, b⟩
  · rw [r13 w]
    by_cases c : w = v
    · rw [if_pos c]
    · rw [if_neg c]
      rw [r14 w, if_neg c] at e
      exact h.av w e
  · obtain ⟨⟨a1, a2⟩, ⟨a3, a4, a5⟩, a6, a7, a8⟩ := h.lb i hi
    have ne : ¬ lv i = v := fun e => nt' (ls i) a4 (a5.trans e)
    refine ⟨⟨by rw [ra 14 _ (by decide)]; exact a1, a2⟩, ⟨by rw [ra 15 _ (by decide)]; exact a3, by clear h; omega, by rw [t2 (ls i) a4]; exact a5⟩, by rw [ra 16 _ (by decide)]; exact a6, by rw [r14, if_neg ne, ra 16 _ (by decide)]; exact a7, fun w hw => ?_⟩
    obtain ⟨t, b1, b2⟩ := a8 w hw
    exact ⟨t, b1, by rw [t2 t (by clear h; omega)]; exact b2⟩
/-- the whole search state, with K levels -/
abbrev SS (ob : Rec) (n : Nat) (Md : Int32 → Prop) (K : Nat) (lv : Nat → Nat) : Prop := ∃ T tr ls, SV ob n T K tr lv ls ∧ CP ob Md K tr lv ls
/-- what one step of the propagation leaves -/
abbrev PS (ob r : Rec) : Prop := (Fs ob r) ∧ (Lv ob r) ∧ (∀ b, agr r b → agr ob b)
theorem PS.fs {ob r : Rec} (h : PS ob r) : Fs ob r := h.1
theorem PS.lw {ob r : Rec} (h : PS ob r) : Lv ob r := h.2.1
theorem PS.mo {ob r : Rec} (h : PS ob r) : ∀ b, agr r b → agr ob b := h.2.2
theorem PS.rf (ob : Rec) : PS ob ob := ⟨⟨fun _ _ => rfl, fun _ _ _ => rfl⟩, ⟨rfl, fun _ _ _ _ => rfl⟩, fun _ h => h⟩
theorem PS.tr {a b c : Rec} (h : PS a b) (g : PS b c) : PS a c := ⟨h.fs.tr g.fs, h.lw.tr g.lw, fun x hx => h.mo x (g.mo x hx)⟩
theorem asg_f {ob : Rec} {n v K : Nat} {Md : Int32 → Prop} {lv : Nat → Nat} (h : SS ob n Md K lv) (h0 : gI ob 0 = n32 n) (hn : n ≤ 8) (hv : v < n) (val : Int32) (hf : ∀ b, Md b → agr ob b → bb b v = !decide (val = 0)) : ∃ r, X_assign ob (n32 v) val = some r ∧ SS r n Md K lv ∧ PS ob r := by
  obtain ⟨T, tr, ls, sv, cp⟩ := h
  cases hb : bb (gI ob 13) v
  · obtain ⟨r, tr', r1, r2, r3, r4, r5, r6, r7, r8⟩ := asg_n sv h0 hn hv hb val
    have ps : PS ob r := ⟨r5, r6, fun b hag w hw => by
      have ne : ¬ w = v := fun e => by rw [e, hb] at hw; exact absurd hw (by decide)
      have := hag w (by rw [r4, if_neg ne]; exact hw)
      rw [r3, if_neg ne] at this; exact this⟩
    refine ⟨r, r1, ⟨T + 1, tr', ls, r2, fun b hM => ?_⟩, ps⟩
    rcases cp b hM with a | ⟨i, a1, a2, a3, a4⟩
    · left
      intro w hw
      rw [r3]
      by_cases c : w = v
      · rw [if_pos c, c]; exact hf b hM a
      · rw [if_neg c]
        rw [r4, if_neg c] at hw
        exact a w hw
    · right
      have lsT := (sv.lb i a1).2.1.2.1
      refine ⟨i, a1, by rw [r6.2 16 _ (by omega) (by omega)]; exact a2, fun t ht => ?_, a4⟩
      have tT : t < T := by clear sv cp r2; omega
      have ne : ¬ tr t = v := fun e => by
        have := (sv.am v).mpr ⟨t, tT, e⟩
        rw [hb] at this; exact absurd this (by decide)
      rw [r8 t tT, r3, if_neg ne]
      exact a3 t ht
  · exact ⟨ob, asg_o h0 hn hv hb val, ⟨T, tr, ls, sv, cp⟩, PS.rf ob⟩
theorem sg_e {n : Nat} (hn : n ≤ 8) (ob : Rec) {m : Int32} (hm : Wi n m) : ∃ a, X_isSingleBit ob m = some a ∧ (¬ a = 0 → ∃ v, v < n ∧ m = (1 : Int32) <<< (n32 v &&& 31)) := by
  obtain ⟨k, k1, k2⟩ := Wi_n hn m hm
  have p8 := pow8 hn
  unfold X_isSingleBit
  by_cases c : m = 0
  · rw [if_pos c]; exact ⟨0, rfl, fun z => absurd rfl z⟩
  · rw [if_neg c]
    by_cases d : m &&& (m - 1) = 0
    · rw [if_pos d]
      refine ⟨1, rfl, fun _ => ?_⟩
      rw [k2] at c d
      obtain ⟨v, v1, v2⟩ := single k (List.mem_range.mpr (by omega)) c d
      have v8 := List.mem_range.mp v1
      refine ⟨v, ?_, by rw [k2]; exact v2⟩
      apply Classical.byContradiction
      intro w
      have := hm v (by omega)
      rw [k2, v2, bb_sh (by omega), decide_eq_true rfl] at this; exact absurd this (by decide)
    · rw [if_neg d]; exact ⟨0, rfl, fun z => absurd rfl z⟩
theorem lbx : ∀ v ∈ List.range 8, ∀ i ∈ List.range 8, ((((((1 : Int32) <<< (n32 v &&& 31)).toUInt32 >>> (n32 i &&& 31).toUInt32).toInt32) &&& (1 : Int32)) = 0 ↔ ¬ i = v) := by decide +kernel
theorem lw_e (NF : Nat) (hNF : 300 < NF) (ob : Rec) {v : Nat} (hv : v < 8) : X_lowestBit NF ob ((1 : Int32) <<< (n32 v &&& 31)) = some (n32 v) := by
  unfold X_lowestBit
  have := lpN (fun fuel i => X_lowestBit_l2 NF ob fuel ((1 : Int32) <<< (n32 v &&& 31)) (n32 i)) v (some (n32 v)) (fun f => by
    show X_lowestBit_w2 NF ob _ _ _ = _
    unfold X_lowestBit_w2
    rw [if_pos (show n32 v < (32 : Int32) from ylt (n := 32) (by omega) (by omega) (by omega)), if_neg (fun z => (lbx v (List.mem_range.mpr hv) v (List.mem_range.mpr hv)).mp z rfl)]) (fun f i hi => by
    show X_lowestBit_w2 NF ob (X_lowestBit_l2 NF ob f) _ _ = X_lowestBit_l2 NF ob f _ (n32 (i + 1))
    unfold X_lowestBit_w2
    rw [if_pos (show n32 i < (32 : Int32) from ylt (n := 32) (by omega) (by omega) (by omega)), if_pos ((lbx v (List.mem_range.mpr hv) i (List.mem_range.mpr (by omega))).mpr (by omega)), n32_s (by omega)]) v NF 0 (by omega) (by omega)
  exact this
abbrev Conf (ob : Rec) (Md : Int32 → Prop) : Prop := ∀ b, Md b → ¬ agr ob b
/-- what the models keep -/
abbrev HM (ob : Rec) (n cc k : Nat) (Md : Int32 → Prop) : Prop := ∀ b, Md b → Wi n b ∧ (∀ c, c < cc → ¬ clF ob c b) ∧ (∀ r, r < k → Eq1 (gA ob 7 (n32 r)) (gA ob 8 (n32 r)) b)
theorem HM_c {ob r : Rec} {n cc k : Nat} {Md : Int32 → Prop} (h : HM ob n cc k Md) (f : Fs ob r) : HM r n cc k Md := fun b hb => by
  obtain ⟨a, b', c⟩ := h b hb
  refine ⟨a, fun x hx => ?_, fun x hx => ?_⟩
  · unfold clF; rw [f.2 2 _ (by omega), f.2 3 _ (by omega)]; exact b' x hx
  · rw [f.2 7 _ (by omega), f.2 8 _ (by omega)]; exact c x hx
theorem or_0 {x y : Int32} (h : x ||| y = 0) : x = 0 ∧ y = 0 := by
  refine ⟨bb_ext (fun v _ => ?_), bb_ext (fun v _ => ?_)⟩
  · have := congrArg (fun z => bb z v) h
    simp only [bb_or, bb_0] at this
    rw [bb_0]
    cases e : bb x v
    · rfl
    · rw [e] at this; simp at this
  · have := congrArg (fun z => bb z v) h
    simp only [bb_or, bb_0] at this
    rw [bb_0]
    cases e : bb y v
    · rfl
    · rw [e] at this; simp at this
/-- a clause that has no true literal among the known -/
theorem cl_w {pos neg am av b : Int32} (ht : ((pos &&& am) &&& av) ||| ((neg &&& am) &&& (av ^^^ -1)) = 0) (hag : ∀ w, bb am w = true → bb b w = bb av w) (hc : ¬ ((b &&& pos) ||| ((b ^^^ -1) &&& neg)) = 0) : ∃ w, w < 32 ∧ bb am w = false ∧ ((bb b w = true ∧ bb pos w = true) ∨ (bb b w = false ∧ bb neg w = true)) := by
  obtain ⟨w, w1, w2⟩ := ne_0 hc
  obtain ⟨t1, t2⟩ := or_0 ht
  have u1 := congrArg (fun z => bb z w) t1
  have u2 := congrArg (fun z => bb z w) t2
  simp only [bb_and, bb_0, bb_not _ w1] at u1 u2
  rw [bb_or, bb_and, bb_and, bb_not _ w1] at w2
  have ag := hag w
  refine ⟨w, w1, ?_⟩
  cases e1 : bb am w
  · refine ⟨rfl, ?_⟩
    cases e2 : bb b w
    · right; rw [e2] at w2; simp at w2; exact ⟨rfl, w2⟩
    · left; rw [e2] at w2; simp at w2; exact ⟨rfl, w2⟩
  · rw [e1] at u1 u2
    have := ag e1
    rw [this] at w2
    cases e3 : bb av w <;> rw [e3] at u1 u2 w2 <;> simp at u1 u2 w2
    · rw [w2] at u2; exact absurd u2 (by decide)
    · rw [w2] at u1; exact absurd u1 (by decide)
theorem pcl (NF : Nat) (hNF : 300 < NF) {ob : Rec} {n cc xc k K c : Nat} {Md : Int32 → Prop} {lv : Nat → Nat} (hn : n ≤ 8) (ci : CI ob n cc xc) (hm : HM ob n cc k Md) (h : SS ob n Md K lv) (hc : c < cc) : ∃ a r, X_propagateClause NF ob (n32 c) = some (a, r) ∧ SS r n Md K lv ∧ PS ob r ∧ (a = 0 → Conf r Md) := by
  have c24 : c < 24 := by have := ci.e5.2; clear ci h; omega
  obtain ⟨wp, wn⟩ := ci.wc c hc
  have h0 := ci.e0
  have q : ∀ A : Option (Int32 × Rec), chk 24 (n32 c) A = A := fun A => ck32 (m := 24) rfl c24 (by clear ci h; omega)
  unfold X_propagateClause
  rw [if_neg (nneg (n32_b (by clear ci h; omega)).1), if_pos (show n32 c < (24 : Int32) from ylt (n := 24) (by clear ci h; omega) (by clear ci h; omega) c24), q, q]
  have no : ∃ a r, some ((1 : Int32), ob) = some (a, r) ∧ SS r n Md K lv ∧ PS ob r ∧ (a = 0 → Conf r Md) := ⟨1, ob, rfl, h, PS.rf ob, fun z => absurd z (by decide)⟩
  have wop : Wi n (gA ob 2 (n32 c) &&& (gI ob 13 ^^^ -1)) := fun v hv => by rw [bb_and, wp v hv, Bool.false_and]
  have won : Wi n (gA ob 3 (n32 c) &&& (gI ob 13 ^^^ -1)) := fun v hv => by rw [bb_and, wn v hv, Bool.false_and]
  by_cases c1 : (((gA ob 2 (n32 c) &&& gI ob 13) &&& gI ob 14) ||| ((gA ob 3 (n32 c) &&& gI ob 13) &&& (gI ob 14 ^^^ (-1 : Int32)))) = 0
  · rw [if_pos c1]
    have wit : ∀ b, Md b → agr ob b → ∃ w, w < 32 ∧ bb (gI ob 13) w = false ∧ ((bb b w = true ∧ bb (gA ob 2 (n32 c)) w = true) ∨ (bb b w = false ∧ bb (gA ob 3 (n32 c)) w = true)) := fun b hM hag => cl_w c1 hag ((hm b hM).2.1 c hc)
    have opn : ∀ {x : Int32} {w : Nat}, w < 32 → bb (gI ob 13) w = false → bb x w = true → bb (x &&& (gI ob 13 ^^^ -1)) w = true := fun h1 h2 h3 => by rw [bb_and, bb_not _ h1, h2, h3]; rfl
    have b120 : ∃ a r, X_propagateClause_b120 NF ob (gA ob 2 (n32 c) &&& (gI ob 13 ^^^ (-1 : Int32))) (gA ob 3 (n32 c) &&& (gI ob 13 ^^^ (-1 : Int32))) = some (a, r) ∧ SS r n Md K lv ∧ PS ob r ∧ (a = 0 → Conf r Md) := by
      unfold X_propagateClause_b120
      by_cases d : gA ob 2 (n32 c) &&& (gI ob 13 ^^^ (-1 : Int32)) = 0
      · rw [if_pos d]
        obtain ⟨s, s1', s2⟩ := sg_e hn ob won
        rw [s1', Option.bind_some]
        by_cases e : s = 0
        · rw [if_pos e]; exact no
        · obtain ⟨v, v1, v2⟩ := s2 e
          rw [if_neg e, v2, lw_e NF hNF ob (by clear ci h; omega), Option.bind_some]
          obtain ⟨r, r1, r2, r3⟩ := asg_f h h0 hn v1 0 (fun b hM hag => by
            obtain ⟨w, w1, w2, w3⟩ := wit b hM hag
            rcases w3 with ⟨a1, a2⟩ | ⟨a1, a2⟩
            · have := opn w1 w2 a2
              rw [d, bb_0] at this; exact absurd this (by decide)
            · have := opn w1 w2 a2
              rw [v2, bb_sh (by clear ci h; omega), decide_eq_true_eq] at this
              rw [← this, a1]; rfl)
          rw [r1, Option.bind_some]
          exact ⟨1, r, rfl, r2, r3, fun z => absurd z (by decide)⟩
      · rw [if_neg d]; exact no
    by_cases c2 : ((gA ob 2 (n32 c) &&& (gI ob 13 ^^^ (-1 : Int32))) ||| (gA ob 3 (n32 c) &&& (gI ob 13 ^^^ (-1 : Int32)))) = 0
    · rw [if_pos c2]
      refine ⟨0, ob, rfl, h, PS.rf ob, fun _ b hM hag => ?_⟩
      obtain ⟨w, w1, w2, w3⟩ := wit b hM hag
      obtain ⟨z1', z2⟩ := or_0 c2
      rcases w3 with ⟨a1, a2⟩ | ⟨a1, a2⟩
      · have := opn w1 w2 a2
        rw [z1', bb_0] at this; exact absurd this (by decide)
      · have := opn w1 w2 a2
        rw [z2, bb_0] at this; exact absurd this (by decide)
    · rw [if_neg c2]
      by_cases c3 : gA ob 3 (n32 c) &&& (gI ob 13 ^^^ (-1 : Int32)) = 0
      · rw [if_pos c3]
        obtain ⟨s, s1', s2⟩ := sg_e hn ob wop
        rw [s1', Option.bind_some]
        by_cases e : s = 0
        · rw [if_pos e]; exact b120
        · obtain ⟨v, v1, v2⟩ := s2 e
          rw [if_neg e, v2, lw_e NF hNF ob (by clear ci h; omega), Option.bind_some]
          obtain ⟨r, r1, r2, r3⟩ := asg_f h h0 hn v1 1 (fun b hM hag => by
            obtain ⟨w, w1, w2, w3⟩ := wit b hM hag
            rcases w3 with ⟨a1, a2⟩ | ⟨a1, a2⟩
            · have := opn w1 w2 a2
              rw [v2, bb_sh (by clear ci h; omega), decide_eq_true_eq] at this
              rw [← this, a1]; rfl
            · have := opn w1 w2 a2
              rw [c3, bb_0] at this; exact absurd this (by decide))
          rw [r1, Option.bind_some]
          exact ⟨1, r, rfl, r2, r3, fun z => absurd z (by decide)⟩
      · rw [if_neg c3]; exact b120
  · rw [if_neg c1]; exact no
theorem CI_s {ob r : Rec} {n cc xc : Nat} (h : CI ob n cc xc) (f : Fs ob r) : CI r n cc xc := CI_c h (fun j hj => f.1 j (by omega)) (fun j x a b => f.2 j x (by omega))
theorem EC_s {ob r : Rec} {n xc k : Nat} {pv : Nat → Nat} (h : EC ob n xc k pv) (f : Fs ob r) : EC r n xc k pv := by
  obtain ⟨a, b, c, d, e⟩ := h
  have xs : ∀ b, Xs r xc b ↔ Xs ob xc b := fun b => ⟨fun hh x hx => by have := hh x hx; rw [f.2 4 _ (by omega), f.2 5 _ (by omega)] at this; exact this, fun hh x hx => by rw [f.2 4 _ (by omega), f.2 5 _ (by omega)]; exact hh x hx⟩
  have ro : ∀ (j : Nat) (x : Int32), j ≤ 9 → gA r j x = gA ob j x := f.2
  refine ⟨by rw [f.1 8 (by omega)]; exact a, fun x hx => by rw [ro 7 _ (by omega), ro 8 _ (by omega)]; exact b x hx, fun x hx => by rw [ro 9 _ (by omega), ro 7 _ (by omega)]; exact c x hx, fun x y h1 h2 h3 => by rw [ro 7 _ (by omega)]; exact d x y h1 h2 h3, ?_⟩
  rw [f.1 9 (by omega)]
  rcases e with ⟨e1, e2⟩ | ⟨e1, e2⟩
  · left
    refine ⟨e1, fun b => ?_⟩
    rw [xs b, e2 b]
    exact ⟨fun hh x hx => by rw [ro 7 _ (by omega), ro 8 _ (by omega)]; exact hh x hx, fun hh x hx => by have := hh x hx; rw [ro 7 _ (by omega), ro 8 _ (by omega)] at this; exact this⟩
  · right
    exact ⟨e1, fun b hb => e2 b ((xs b).mp hb)⟩
theorem pcs (NF : Nat) (hNF : 300 < NF) {n cc xc k K : Nat} {Md : Int32 → Prop} {lv : Nat → Nat} (hn : n ≤ 8) : ∀ (m fuel : Nat) (ob : Rec) (i : Nat), m < fuel → i ≤ cc → cc - i ≤ m → CI ob n cc xc → HM ob n cc k Md → SS ob n Md K lv → ∃ a r, X_propagateClauses_l2 NF fuel ob (n32 i) = some (a, r) ∧ SS r n Md K lv ∧ PS ob r ∧ (a = 0 → Conf r Md) := by
  intro m
  induction m with
  | zero =>
    intro fuel ob i hf hi hm' ci hm h
    obtain ⟨g, rfl⟩ : ∃ g, fuel = g + 1 := ⟨fuel - 1, by clear ci h; omega⟩
    have e5 := ci.e5
    refine ⟨1, ob, ?_, h, PS.rf ob, fun z => absurd z (by decide)⟩
    show X_propagateClauses_w2 NF _ ob _ = _
    unfold X_propagateClauses_w2
    rw [e5.1, if_neg (nlt (by clear ci h; omega) (by clear ci h; omega) (by clear ci h; omega))]
  | succ m ih =>
    intro fuel ob i hf hi hm' ci hm h
    obtain ⟨g, rfl⟩ : ∃ g, fuel = g + 1 := ⟨fuel - 1, by clear ci h; omega⟩
    have e5 := ci.e5
    show ∃ a r, X_propagateClauses_w2 NF (X_propagateClauses_l2 NF g) ob (n32 i) = some (a, r) ∧ _
    unfold X_propagateClauses_w2
    by_cases e : i = cc
    · rw [e5.1, if_neg (nlt (by clear ci h; omega) (by clear ci h; omega) (by clear ci h; omega))]
      exact ⟨1, ob, rfl, h, PS.rf ob, fun z => absurd z (by decide)⟩
    · rw [e5.1, if_pos (ylt (by clear ci h; omega) (by clear ci h; omega) (by clear ci h; omega)), if_pos (show n32 i < (24 : Int32) from ylt (n := 24) (by clear ci h; omega) (by clear ci h; omega) (by clear ci h; omega)), n32_s (by clear ci h; omega)]
      obtain ⟨a, r, r1, r2, r3, r4⟩ := pcl NF hNF hn ci hm h (c := i) (by clear ci h; omega)
      rw [r1, bind2_some]
      by_cases c : a = 0
      · rw [if_pos c]; exact ⟨0, r, rfl, r2, r3, fun _ => r4 c⟩
      · rw [if_neg c]
        obtain ⟨a', r', q1, q2, q3, q4⟩ := ih g r (i + 1) (by clear ci h r2; omega) (by clear ci h r2; omega) (by clear ci h r2; omega) (CI_s ci r3.fs) (HM_c hm r3.fs) r2
        exact ⟨a', r', q1, q2, r3.tr q3, q4⟩
theorem SS_c {ob r : Rec} {n K : Nat} {Md : Int32 → Prop} {lv : Nat → Nat} (h : SS ob n Md K lv) (hi : ∀ j, 13 ≤ j → j ≤ 16 → gI r j = gI ob j) (ha : ∀ j x, 13 ≤ j → j ≤ 16 → gA r j x = gA ob j x) : SS r n Md K lv := by
  obtain ⟨T, tr, ls, ⟨a1, a2, a3, a4, a5, a6, a7, a8⟩, cp⟩ := h
  have i13 := hi 13 (by omega) (by omega)
  have i14 := hi 14 (by omega) (by omega)
  refine ⟨T, tr, ls, ⟨by rw [hi 15 (by omega) (by omega)]; exact a1, by rw [hi 16 (by omega) (by omega)]; exact a2, fun t ht => by rw [ha 13 _ (by omega) (by omega)]; exact a3 t ht, a4, fun v => by rw [i13]; exact a5 v, fun v => by rw [i13, i14]; exact a6 v, fun i hi' => by rw [ha 14 _ (by omega) (by omega), ha 15 _ (by omega) (by omega), ha 16 _ (by omega) (by omega), i14]; exact a7 i hi', a8⟩, fun b hb => ?_⟩
  rcases cp b hb with c | ⟨i, c1, c2, c3, c4⟩
  · left; unfold agr; rw [i13, i14]; exact c
  · right; exact ⟨i, c1, by rw [ha 16 _ (by omega) (by omega)]; exact c2, by unfold agT; rw [i14]; exact c3, c4⟩
theorem lrr (NF : Nat) (hNF : 300 < NF) {ob : Rec} {n xc k : Nat} {pv : Nat → Nat} (ec : EC ob n xc k pv) : ∃ l, X_loadResidualRows NF ob = some l ∧ gI l 11 = n32 k ∧ (∀ j, ¬ j = 11 → gI l j = gI ob j) ∧ (∀ j x, ¬ j = 10 → ¬ j = 11 → gA l j x = gA ob j x) ∧ ∀ r, r < k → gM l r = gA ob 7 (n32 r) &&& (gI ob 13 ^^^ -1) ∧ gR l r = gA ob 8 (n32 r) ^^^ par ((gA ob 7 (n32 r) &&& gI ob 13) &&& gI ob 14) := by
  have e8 := ec.e8
  clear ec
  unfold X_loadResidualRows
  obtain ⟨l, l1, l2, l3, l4, l5⟩ := lpE (fun fuel ob' i => X_loadResidualRows_l7 NF fuel ob' (n32 i)) (fun l i => gI l 11 = n32 i ∧ (∀ j, ¬ j = 11 → gI l j = gI ob j) ∧ (∀ j x, ¬ j = 10 → ¬ j = 11 → gA l j x = gA ob j x) ∧ ∀ r, r < i → gM l r = gA ob 7 (n32 r) &&& (gI ob 13 ^^^ -1) ∧ gR l r = gA ob 8 (n32 r) ^^^ par ((gA ob 7 (n32 r) &&& gI ob 13) &&& gI ob 14)) k (fun l => some l) (fun f l hq => by
    show X_loadResidualRows_w7 NF _ l _ = _
    unfold X_loadResidualRows_w7
    rw [hq.2.1 8 (by decide), e8.1, if_neg (nlt (by omega) (by omega) (by omega))]) (fun f l i hi hq => by
    obtain ⟨q1, q2, q3, q4⟩ := hq
    have q : ∀ A : Option Rec, chk 16 (n32 i) A = A := fun A => ck32 (m := 16) rfl (by omega) (by omega)
    generalize hw : sI (sA (sA l 10 (n32 i) (gA ob 7 (n32 i) &&& (gI ob 13 ^^^ -1))) 11 (n32 i) (gA ob 8 (n32 i) ^^^ par ((gA ob 7 (n32 i) &&& gI ob 13) &&& gI ob 14))) 11 (n32 (i + 1)) = w
    refine ⟨w, ?_, by rw [← hw]; rfl, fun j hj => by rw [← hw, gI_sI, if_neg hj]; exact q2 j hj, fun j x a b => by rw [← hw, gA_sI, gA_sA, if_neg (fun e => b e.1), gA_sA, if_neg (fun e => a e.1)]; exact q3 j x a b, fun r hr => ?_⟩
    · show X_loadResidualRows_w7 NF (X_loadResidualRows_l7 NF f) l _ = _
      unfold X_loadResidualRows_w7
      rw [q2 8 (by decide), e8.1, if_pos (ylt (by omega) (by omega) hi), if_pos (show n32 i < (16 : Int32) from ylt (n := 16) (by omega) (by omega) (by omega)), q, q, q, par_e, Option.bind_some, q, q1, n32_s (by omega), q3 7 _ (by decide) (by decide), q3 8 _ (by decide) (by decide), q2 13 (by decide), q2 14 (by decide), hw]
    · by_cases y : r = i
      · rw [y, ← hw]
        exact ⟨by show gA _ 10 _ = _; rw [gA_sI, gA_sA, if_neg (fun e => absurd e.1 (by decide)), gA_sA, if_pos ⟨rfl, rfl⟩], by show gA _ 11 _ = _; rw [gA_sI, gA_sA, if_pos ⟨rfl, rfl⟩]⟩
      · have ne : ¬ n32 r = n32 i := n32_ne (by omega) (by omega) y
        have u : gM w r = gM l r ∧ gR w r = gR l r := by
          rw [← hw]
          exact ⟨by show gA _ 10 _ = _; rw [gA_sI, gA_sA, if_neg (fun e => ne e.2), gA_sA, if_neg (fun e => ne e.2)]; rfl, by show gA _ 11 _ = _; rw [gA_sI, gA_sA, if_neg (fun e => ne e.2), gA_sA, if_neg (fun e => ne e.2)]; rfl⟩
        rw [u.1, u.2]; exact q4 r (by omega)) k NF (sI ob 11 0) 0 (by omega) (by omega) ⟨rfl, fun j hj => by rw [gI_sI, if_neg hj], fun _ _ _ _ => rfl, fun r hr => by omega⟩
  exact ⟨l, l1, l2, l3, l4, l5⟩
theorem and3 {b m am av : Int32} (hag : ∀ w, bb am w = true → bb b w = bb av w) : b &&& m = (b &&& (m &&& (am ^^^ -1))) ^^^ ((m &&& am) &&& av) := bb_ext (fun v hv => by
  rw [bb_xor, bb_and, bb_and, bb_and, bb_and, bb_and, bb_not _ hv]
  cases e : bb am v
  · simp
  · rw [hag v e]; cases bb m v <;> cases bb av v <;> rfl)
theorem pxs (NF : Nat) (hNF : 300 < NF) {ob : Rec} {n cc xc k K : Nat} {Md : Int32 → Prop} {lv pv : Nat → Nat} (hn : n ≤ 8) (ci : CI ob n cc xc) (ec : EC ob n xc k pv) (hm : HM ob n cc k Md) (h : SS ob n Md K lv) : ∃ a r, X_propagateXors NF ob = some (a, r) ∧ SS r n Md K lv ∧ PS ob r ∧ (a = 0 → Conf r Md) := by
  obtain ⟨l, l1, l2, l3, l4, l5⟩ := lrr NF hNF ec
  have k16 := ec.e8.2
  have ro : RO n k l := fun r hr => by
    obtain ⟨a1, a2⟩ := ec.rw' r hr
    rw [(l5 r hr).1, (l5 r hr).2]
    exact ⟨fun v hv => by rw [bb_and, a1 v hv, Bool.false_and], (x01 a2 (par_b _)).2⟩
  obtain ⟨e, ke, pve, e1, ei⟩ := el_e NF hNF hn k16 l2 ((l3 0 (by decide)).trans ci.e0) ro
  have fe : Fs ob e := ⟨fun j hj => (ei.fg.1 j (by omega)).trans (l3 j (by omega)), fun j x hj => (ei.fg.2 j x (by omega) (by omega) (by omega)).trans (l4 j x (by omega) (by omega))⟩
  have i13 : ∀ j, 13 ≤ j → j ≤ 16 → gI e j = gI ob j := fun j h1 h2 => (ei.fg.1 j (by omega)).trans (l3 j (by omega))
  have a13 : ∀ j x, 13 ≤ j → j ≤ 16 → gA e j x = gA ob j x := fun j x h1 h2 => (ei.fg.2 j x (by omega) (by omega) (by omega)).trans (l4 j x (by omega) (by omega))
  have se : SS e n Md K lv := SS_c h i13 a13
  have pe : PS ob e := ⟨fe, ⟨i13 16 (by omega) (by omega), fun j x h1 h2 => a13 j x (by omega) h2⟩, fun b hb => by
    unfold agr at hb ⊢
    rw [i13 13 (by omega) (by omega), i13 14 (by omega) (by omega)] at hb; exact hb⟩
  have e11 : gI e 11 = n32 k := (ei.fg.1 11 (by decide)).trans l2
  have sol : ∀ b, Md b → agr e b → Sol k e b := fun b hM hag => by
    have hag' := pe.mo b hag
    rw [ei.so b]
    intro r hr
    have q := (hm b hM).2.2 r hr
    have q' : par (b &&& gA ob 7 (n32 r)) = gA ob 8 (n32 r) := q
    show par (b &&& gM l r) = gR l r
    have q2 : par (b &&& (gA ob 7 (n32 r) &&& (gI ob 13 ^^^ -1))) ^^^ par ((gA ob 7 (n32 r) &&& gI ob 13) &&& gI ob 14) = gA ob 8 (n32 r) := by
      rw [← par_x, ← and3 (m := gA ob 7 (n32 r)) hag']; exact q'
    rw [(l5 r hr).1, (l5 r hr).2, ← q2, xor_c]
  have e0 : gI e 0 = n32 n := (CI_s ci fe).e0
  have rows := ei.ro
  clear ei l5 l4 l3
  have main : ∀ (m fuel : Nat) (o : Rec) (i : Nat), m < fuel → i ≤ k → k - i ≤ m → SS o n Md K lv → PS e o → gI o 11 = n32 k → (∀ j x, 10 ≤ j → j ≤ 11 → gA o j x = gA e j x) → ∃ a r, X_propagateXors_l10 NF fuel o (n32 i) = some (a, r) ∧ SS r n Md K lv ∧ PS e r ∧ (a = 0 → Conf r Md) := by
    intro m
    induction m with
    | zero =>
      intro fuel o i hf hi hm' hs hp h11 hg
      obtain ⟨g, rfl⟩ : ∃ g, fuel = g + 1 := ⟨fuel - 1, by omega⟩
      refine ⟨1, o, ?_, hs, hp, fun z => absurd z (by decide)⟩
      show X_propagateXors_w10 NF _ o _ = _
      unfold X_propagateXors_w10
      rw [h11, if_neg (nlt (by omega) (by omega) (by omega))]
    | succ m ih =>
      intro fuel o i hf hi hm' hs hp h11 hg
      obtain ⟨g, rfl⟩ : ∃ g, fuel = g + 1 := ⟨fuel - 1, by omega⟩
      show ∃ a r, X_propagateXors_w10 NF (X_propagateXors_l10 NF g) o (n32 i) = some (a, r) ∧ _
      unfold X_propagateXors_w10
      by_cases c : i = k
      · rw [h11, if_neg (nlt (by omega) (by omega) (by omega))]
        exact ⟨1, o, rfl, hs, hp, fun z => absurd z (by decide)⟩
      · have hik : i < k := by omega
        have q : ∀ A : Option (Int32 × Rec), chk 16 (n32 i) A = A := fun A => ck32 (m := 16) rfl (by omega) (by omega)
        have m1 : gA o 10 (n32 i) = gM e i := hg 10 _ (by omega) (by omega)
        have m2 : gA o 11 (n32 i) = gR e i := hg 11 _ (by omega) (by omega)
        obtain ⟨w1, w2⟩ := rows i hik
        rw [h11, if_pos (ylt (by omega) (by omega) hik), if_pos (show n32 i < (16 : Int32) from ylt (n := 16) (by omega) (by omega) (by omega)), q, m1, m2, n32_s (by omega)]
        by_cases z : gM e i = 0
        · rw [if_pos z, q]
          by_cases y : gR e i = 0
          · rw [if_pos y]
            exact ih g o (i + 1) (by omega) (by omega) (by omega) hs hp h11 hg
          · rw [if_neg y]
            refine ⟨0, o, rfl, hs, hp, fun _ b hM hag => ?_⟩
            have := sol b hM (hp.mo b hag) i hik
            have this' : par (b &&& gM e i) = gR e i := this
            have z0 : b &&& 0 = 0 := bb_ext (fun v _ => by rw [bb_and, bb_0, Bool.and_false])
            rw [z, z0, par_0] at this'
            exact y this'.symm
        · rw [if_neg z]
          obtain ⟨s, s1', s2⟩ := sg_e hn o w1
          rw [s1', Option.bind_some]
          by_cases y : s = 0
          · rw [if_pos y]
            exact ih g o (i + 1) (by omega) (by omega) (by omega) hs hp h11 hg
          · obtain ⟨v, v1, v2⟩ := s2 y
            rw [if_neg y, v2, lw_e NF hNF o (by omega), Option.bind_some, q]
            obtain ⟨r, r1, r2, r3⟩ := asg_f hs ((hp.fs.1 0 (by omega)).trans e0) hn v1 (gR e i) (fun b hM hag => by
              have := sol b hM (hp.mo b hag) i hik
              have this' : par (b &&& gM e i) = gR e i := this
              rw [v2] at this'
              have bz : b &&& ((1 : Int32) <<< (n32 v &&& 31)) = if bb b v = true then (1 : Int32) <<< (n32 v &&& 31) else 0 := bb_ext (fun w hw => by
                rw [bb_and, bb_sh (by omega)]
                by_cases d : w = v
                · rw [d, decide_eq_true rfl]
                  cases bb b v
                  · rw [if_neg (by decide), bb_0]; rfl
                  · rw [if_pos rfl, bb_sh (by omega), decide_eq_true rfl]; rfl
                · rw [decide_eq_false d, Bool.and_false]
                  split
                  · rw [bb_sh (by omega), decide_eq_false d]
                  · rw [bb_0])
              rw [bz] at this'
              cases d : bb b v
              · rw [d, if_neg (by decide), par_0] at this'
                rw [← this']; rfl
              · rw [d, if_pos rfl, par_s v (List.mem_range.mpr (by omega))] at this'
                rw [← this']; rfl)
            have g1 : gI r 11 = n32 k ∧ ∀ j x, 10 ≤ j → j ≤ 11 → gA r j x = gA e j x := by
              -- assign writes none of these
              have : gI r 11 = gI o 11 ∧ ∀ j x, 10 ≤ j → j ≤ 11 → gA r j x = gA o j x := by
                have r1' := r1
                unfold X_assign at r1'
                refine ite_el r1' (fun _ t => ?_) (fun _ t => ?_)
                · cases t; exact ⟨rfl, fun _ _ _ _ => rfl⟩
                · refine ite_el t (fun _ t => ?_) (fun _ t => ?_)
                  · refine ite_el t (fun _ t => ?_) (fun _ t => ?_)
                    · refine ite_el t (fun _ t => ?_) (fun _ t => ?_)
                      · cases t; exact ⟨rfl, fun _ _ _ _ => rfl⟩
                      · refine ite_el t (fun _ t => ?_) (fun _ t => ?_)
                        · refine ite_el t (fun _ t => ?_) (fun _ t => ?_)
                          · refine chk_el t (fun _ t => ?_)
                            cases t
                            exact ⟨rfl, fun j x a b => by rw [gA_sI, gA_sA, if_neg (fun e => by omega)]; rfl⟩
                          · refine chk_el t (fun _ t => ?_)
                            cases t
                            exact ⟨rfl, fun j x a b => by rw [gA_sI, gA_sA, if_neg (fun e => by omega)]; rfl⟩
                        · cases t; exact ⟨rfl, fun _ _ _ _ => rfl⟩
                    · cases t; exact ⟨rfl, fun _ _ _ _ => rfl⟩
                  · cases t; exact ⟨rfl, fun _ _ _ _ => rfl⟩
              exact ⟨this.1.trans h11, fun j x a b => (this.2 j x a b).trans (hg j x a b)⟩
            rw [r1, Option.bind_some]
            exact ih g r (i + 1) (by omega) (by omega) (by omega) r2 (hp.tr r3) g1.1 g1.2
  unfold X_propagateXors
  rw [l1, Option.bind_some, e1, Option.bind_some]
  obtain ⟨a, r, r1, r2, r3, r4⟩ := main 20 NF e 0 (by omega) (by omega) (by omega) se (PS.rf e) e11 (fun _ _ _ _ => rfl)
  exact ⟨a, r, r1, r2, pe.tr r3, r4⟩
/-- the propagation -/
theorem prp (NF : Nat) (hNF : 300 < NF) {n cc xc k K : Nat} {Md : Int32 → Prop} {lv pv : Nat → Nat} (hn : n ≤ 8) : ∀ (m fuel : Nat) (ob : Rec) (i : Nat), m < fuel → i ≤ 14 → 14 - i ≤ m → CI ob n cc xc → EC ob n xc k pv → HM ob n cc k Md → SS ob n Md K lv → ∃ a r, X_propagate_l2 NF fuel ob (n32 i) = some (a, r) ∧ SS r n Md K lv ∧ PS ob r ∧ (a = 0 → Conf r Md) := by
  intro m
  induction m with
  | zero =>
    intro fuel ob i hf hi hm' ci ec hm h
    obtain ⟨g, rfl⟩ : ∃ g, fuel = g + 1 := ⟨fuel - 1, by clear ci h ec; omega⟩
    refine ⟨1, ob, ?_, h, PS.rf ob, fun z => absurd z (by decide)⟩
    show X_propagate_w2 NF _ ob _ = _
    unfold X_propagate_w2
    rw [if_neg (show ¬ n32 i < (14 : Int32) from nlt (n := 14) (by clear ci h ec; omega) (by omega) (by clear ci h ec; omega))]
  | succ m ih =>
    intro fuel ob i hf hi hm' ci ec hm h
    obtain ⟨g, rfl⟩ : ∃ g, fuel = g + 1 := ⟨fuel - 1, by clear ci h ec; omega⟩
    show ∃ a r, X_propagate_w2 NF (X_propagate_l2 NF g) ob (n32 i) = some (a, r) ∧ _
    unfold X_propagate_w2
    by_cases e : i = 14
    · rw [if_neg (show ¬ n32 i < (14 : Int32) from nlt (n := 14) (by clear ci h ec; omega) (by omega) (by clear ci h ec; omega))]
      exact ⟨1, ob, rfl, h, PS.rf ob, fun z => absurd z (by decide)⟩
    · have cc24 := ci.e5.2
      rw [if_pos (show n32 i < (14 : Int32) from ylt (n := 14) (by clear ci h ec; omega) (by omega) (by clear ci h ec; omega)), n32_s (by clear ci h ec; omega)]
      obtain ⟨a, r, r1, r2, r3, r4⟩ := pcs NF hNF hn 30 NF ob 0 (by clear ci h ec; omega) (by clear ci h ec; omega) (by clear ci h ec; omega) ci hm h
      have r1' : X_propagateClauses NF ob = some (a, r) := r1
      rw [r1', bind2_some]
      by_cases c : a = 0
      · rw [if_pos c]; exact ⟨0, r, rfl, r2, r3, fun _ => r4 c⟩
      · rw [if_neg c]
        obtain ⟨a', r', q1, q2, q3, q4⟩ := pxs NF hNF hn (CI_s ci r3.fs) (EC_s ec r3.fs) (HM_c hm r3.fs) r2
        rw [q1, bind2_some]
        by_cases d : a' = 0
        · rw [if_pos d]; exact ⟨0, r', rfl, q2, r3.tr q3, fun _ => q4 d⟩
        · rw [if_neg d]
          by_cases f : gI r' 15 = gI ob 15
          · rw [if_pos f]; exact ⟨1, r', rfl, q2, r3.tr q3, fun z => absurd z (by decide)⟩
          · rw [if_neg f]
            have ps := r3.tr q3
            obtain ⟨a2, r2', u1, u2, u3, u4⟩ := ih g r' (i + 1) (by clear ci h ec r2 q2; omega) (by clear ci h ec r2 q2; omega) (by clear ci h ec r2 q2; omega) (CI_s ci ps.fs) (EC_s ec ps.fs) (HM_c hm ps.fs) q2
            exact ⟨a2, r2', u1, u2, ps.tr u3, u4⟩
/-- the trail cut back -/
theorem und (NF : Nat) (hNF : 300 < NF) {ob : Rec} {n T K len : Nat} {tr lv ls : Nat → Nat} (hn : n ≤ 8) (h : SV ob n T K tr lv ls) (hl : len ≤ T) : ∃ r, X_undoTo NF ob (n32 len) = some r ∧ gI r 15 = n32 len ∧ (∀ v, bb (gI r 13) v = true ↔ ∃ t, t < len ∧ tr t = v) ∧ (∀ v, bb (gI r 14) v = true ↔ bb (gI ob 14) v = true ∧ ∃ t, t < len ∧ tr t = v) ∧ (∀ j, ¬ (13 ≤ j ∧ j ≤ 15) → gI r j = gI ob j) ∧ (∀ j x, gA r j x = gA ob j x) := by
  have hT := SV_T h
  unfold X_undoTo
  have main : ∀ (m fuel : Nat) (o : Rec) (T' i : Nat), m < fuel → len ≤ T' → T' ≤ T → T' - len ≤ m → i + (T' - len) ≤ 8 → gI o 15 = n32 T' → (∀ v, bb (gI o 13) v = true ↔ ∃ t, t < T' ∧ tr t = v) → (∀ v, bb (gI o 14) v = true ↔ bb (gI ob 14) v = true ∧ ∃ t, t < T' ∧ tr t = v) → (∀ j, ¬ (13 ≤ j ∧ j ≤ 15) → gI o j = gI ob j) → (∀ j x, gA o j x = gA ob j x) →
      ∃ r, X_undoTo_l2 NF fuel o (n32 len) (n32 i) = some r ∧ gI r 15 = n32 len ∧ (∀ v, bb (gI r 13) v = true ↔ ∃ t, t < len ∧ tr t = v) ∧ (∀ v, bb (gI r 14) v = true ↔ bb (gI ob 14) v = true ∧ ∃ t, t < len ∧ tr t = v) ∧ (∀ j, ¬ (13 ≤ j ∧ j ≤ 15) → gI r j = gI ob j) ∧ (∀ j x, gA r j x = gA ob j x) := by
    intro m
    induction m with
    | zero =>
      intro fuel o T' i hf h1 h2 h3 h4 e15 e13 e14 ei ea
      obtain ⟨g, rfl⟩ : ∃ g, fuel = g + 1 := ⟨fuel - 1, by clear h; omega⟩
      have e : T' = len := by clear h; omega
      rw [e] at e15 e13 e14
      refine ⟨o, ?_, e15, e13, e14, ei, ea⟩
      show X_undoTo_w2 NF _ o _ _ = _
      unfold X_undoTo_w2
      rw [if_pos (show n32 i < (12 : Int32) from ylt (n := 12) (by clear h; omega) (by omega) (by clear h; omega)), e15, if_neg (nlt (by clear h; omega) (by clear h; omega) (by clear h; omega))]
    | succ m ih =>
      intro fuel o T' i hf h1 h2 h3 h4 e15 e13 e14 ei ea
      obtain ⟨g, rfl⟩ : ∃ g, fuel = g + 1 := ⟨fuel - 1, by clear h; omega⟩
      show ∃ r, X_undoTo_w2 NF (X_undoTo_l2 NF g) o (n32 len) (n32 i) = some r ∧ _
      unfold X_undoTo_w2
      rw [if_pos (show n32 i < (12 : Int32) from ylt (n := 12) (by clear h; omega) (by omega) (by clear h; omega)), e15]
      by_cases e : T' = len
      · rw [if_neg (nlt (by clear h; omega) (by clear h; omega) (by clear h; omega))]
        rw [e] at e15 e13 e14
        exact ⟨o, rfl, e15, e13, e14, ei, ea⟩
      · obtain ⟨t, rfl⟩ : ∃ t, T' = t + 1 := ⟨T' - 1, by clear h; omega⟩
        have tt := h.tb t (by clear h; omega)
        have tv' : gA o 13 (n32 t) = n32 (tr t) := by rw [ea]; exact tt.1
        have v12 : tr t < 12 := by have := tt.2; clear h; omega
        rw [if_pos (ylt (by clear h; omega) (by clear h; omega) (by clear h; omega)), if_pos (by rw [lt_i, nt _ (by clear h; omega)]; show (0 : Int) < ((t + 1 : Nat) : Int); clear h; omega), n32_p (by clear h; omega), ck32 (m := 12) rfl (by clear h; omega) (by clear h; omega), tv', n32_s (by clear h; omega)]
        have bit : ∀ (x : Int32) (v : Nat), bb (x &&& (((1 : Int32) <<< (n32 (tr t) &&& 31)) ^^^ (-1 : Int32))) v = true ↔ bb x v = true ∧ ¬ v = tr t := fun x v => by
          by_cases hv : v < 32
          · rw [bb_and, bb_not _ hv, bb_sh v12, Bool.and_eq_true]
            by_cases d : v = tr t
            · rw [decide_eq_true d]; exact ⟨fun z => absurd z.2 (by decide), fun z => absurd d z.2⟩
            · rw [decide_eq_false d]; exact ⟨fun z => ⟨z.1, d⟩, fun z => ⟨z.1, rfl⟩⟩
          · rw [bb_h _ (by clear h; omega), bb_h x (by clear h; omega)]
            exact ⟨fun z => absurd z (by decide), fun z => absurd z.1 (by decide)⟩
        have cut : ∀ v, ((∃ s, s < t + 1 ∧ tr s = v) ∧ ¬ v = tr t) ↔ ∃ s, s < t ∧ tr s = v := fun v => by
          constructor
          · rintro ⟨⟨s, s1', s2⟩, ne⟩
            have : ¬ s = t := fun y => ne (by rw [← s2, y])
            exact ⟨s, by clear h; omega, s2⟩
          · rintro ⟨s, s1', s2⟩
            refine ⟨⟨s, by clear h; omega, s2⟩, fun y => ?_⟩
            have := h.ti s t (by clear h; omega) (by clear h; omega) (s2.trans y)
            clear h; omega
        refine ih g _ t (i + 1) (by clear h; omega) (by clear h; omega) (by clear h; omega) (by clear h; omega) (by clear h; omega) rfl (fun v => ?_) (fun v => ?_) (fun j hj => ?_) (fun j x => ea j x)
        · show bb (gI o 13 &&& _) v = true ↔ _
          rw [bit, e13 v, cut v]
        · show bb (gI o 14 &&& _) v = true ↔ _
          rw [bit, e14 v, ← cut v]
          exact ⟨fun z => ⟨z.1.1, z.1.2, z.2⟩, fun z => ⟨⟨z.1, z.2.1⟩, z.2.2⟩⟩
        · rw [gI_sI, if_neg (by clear h; omega), gI_sI, if_neg (by clear h; omega), gI_sI, if_neg (by clear h; omega)]; exact ei j hj
  exact main 20 NF ob T 0 (by clear h; omega) hl (Nat.le_refl _) (by clear h; omega) (by clear h; omega) h.e15 h.am (fun v => ⟨fun e => ⟨e, (h.am v).mp (h.av v e)⟩, fun e => e.1⟩) (fun _ _ => rfl) (fun _ _ => rfl)
theorem asg_raw {ob : Rec} {n v T : Nat} (e15 : gI ob 15 = n32 T) (Tn : T < 12) (h0 : gI ob 0 = n32 n) (hn : n ≤ 8) (hv : v < n) (hb : bb (gI ob 13) v = false) (val : Int32) : ∃ r, X_assign ob (n32 v) val = some r ∧ (∀ w, bb (gI r 14) w = if w = v then !decide (val = 0) else bb (gI ob 14) w) ∧ (∀ w, bb (gI r 13) w = if w = v then true else bb (gI ob 13) w) ∧ (∀ j, ¬ (13 ≤ j ∧ j ≤ 15) → gI r j = gI ob j) ∧ gI r 15 = n32 (T + 1) ∧ (∀ j x, ¬ j = 13 → gA r j x = gA ob j x) ∧ gA r 13 (n32 T) = n32 v ∧ (∀ t, t < T → gA r 13 (n32 t) = gA ob 13 (n32 t)) := by
  have v12 : v < 12 := by omega
  have k12 : ∀ A : Option Rec, chk 12 (n32 T) A = A := fun A => ck32 (m := 12) rfl Tn (by omega)
  unfold X_assign
  rw [if_neg (nneg (n32_b (by omega)).1), h0, if_pos (ylt (by omega) (by omega) hv), if_pos ((and_0 v12).mpr hb), e15, if_neg (nneg (n32_b (by omega)).1), if_pos (show n32 T < (12 : Int32) from ylt (n := 12) (by omega) (by omega) Tn), n32_s (by omega)]
  have b13 : ∀ w, bb (gI ob 13 ||| ((1 : Int32) <<< (n32 v &&& 31))) w = if w = v then true else bb (gI ob 13) w := fun w => by
    rw [bb_or, bb_sh v12]
    by_cases e : w = v
    · rw [if_pos e, decide_eq_true e]; simp
    · rw [if_neg e, decide_eq_false e]; simp
  by_cases c : val = 0
  · rw [if_pos c, k12]
    refine ⟨_, rfl, fun w => ?_, b13, fun j hj => ?_, rfl, fun j x hj => ?_, ?_, fun t ht => ?_⟩
    · show bb (gI ob 14 &&& (((1 : Int32) <<< (n32 v &&& 31)) ^^^ (-1 : Int32))) w = _
      by_cases hw : w < 32
      · rw [bb_and, bb_not _ hw, bb_sh v12]
        by_cases e : w = v
        · rw [if_pos e, decide_eq_true e, decide_eq_true c]; simp
        · rw [if_neg e, decide_eq_false e]; simp
      · rw [bb_h _ (by omega), if_neg (by omega), bb_h _ (by omega)]
    · rw [gI_sI, if_neg (by omega), gI_sA, gI_sI, if_neg (by omega), gI_sI, if_neg (by omega)]
    · rw [gA_sI, gA_sA, if_neg (fun e => hj e.1)]; rfl
    · rw [gA_sI, gA_sA, if_pos ⟨rfl, rfl⟩]
    · rw [gA_sI, gA_sA, if_neg (fun e => n32_ne (by omega) (by omega) (by omega) e.2)]; rfl
  · rw [if_neg c, k12]
    refine ⟨_, rfl, fun w => ?_, b13, fun j hj => ?_, rfl, fun j x hj => ?_, ?_, fun t ht => ?_⟩
    · show bb (gI ob 14 ||| ((1 : Int32) <<< (n32 v &&& 31))) w = _
      rw [bb_or, bb_sh v12]
      by_cases e : w = v
      · rw [if_pos e, decide_eq_true e, decide_eq_false c]; simp
      · rw [if_neg e, decide_eq_false e]; simp
    · rw [gI_sI, if_neg (by omega), gI_sA, gI_sI, if_neg (by omega), gI_sI, if_neg (by omega)]
    · rw [gA_sI, gA_sA, if_neg (fun e => hj e.1)]; rfl
    · rw [gA_sI, gA_sA, if_pos ⟨rfl, rfl⟩]
    · rw [gA_sI, gA_sA, if_neg (fun e => n32_ne (by omega) (by omega) (by omega) e.2)]; rfl
abbrev CPb (ob : Rec) (Md : Int32 → Prop) (K : Nat) (tr lv ls : Nat → Nat) : Prop := ∀ b, Md b → ∃ i, i < K ∧ gA ob 16 (n32 i) = 0 ∧ agT ob tr (ls i) b ∧ bb b (lv i) = true
theorem btk (NF : Nat) (hNF : 300 < NF) {n : Nat} {Md : Int32 → Prop} {tr lv ls : Nat → Nat} (hn : n ≤ 8) : ∀ (m fuel : Nat) (ob : Rec) (T K i : Nat), m < fuel → K ≤ m → i + K ≤ 8 → gI ob 0 = n32 n → SV ob n T K tr lv ls → CPb ob Md K tr lv ls →
    ∃ a r, X_backtrack_l2 NF fuel ob (n32 i) = some (a, r) ∧ Fs ob r ∧ ((a = 0 ∧ ∀ b, ¬ Md b) ∨ (¬ a = 0 ∧ ∃ j, j < K ∧ gA ob 16 (n32 j) = 0 ∧ SS r n Md (j + 1) lv ∧ gA r 16 (n32 j) = 1 ∧ ∀ i, i < j → gA r 16 (n32 i) = gA ob 16 (n32 i))) := by
  have base : ∀ (kk) (ob : Rec) (T i : Nat), i ≤ 8 → SV ob n T 0 tr lv ls → CPb ob Md 0 tr lv ls → ∃ a r, X_backtrack_w2 NF kk ob (n32 i) = some (a, r) ∧ Fs ob r ∧ ((a = 0 ∧ ∀ b, ¬ Md b) ∨ (¬ a = 0 ∧ ∃ j, j < 0 ∧ gA ob 16 (n32 j) = 0 ∧ SS r n Md (j + 1) lv ∧ gA r 16 (n32 j) = 1 ∧ ∀ i, i < j → gA r 16 (n32 i) = gA ob 16 (n32 i))) := by
    intro kk ob T i hi sv cp
    have e16 := sv.e16
    unfold X_backtrack_w2
    rw [if_pos (show n32 i < (14 : Int32) from ylt (n := 14) (by clear sv cp; omega) (by omega) (by clear sv cp; omega)), e16, if_neg (show ¬ (0 : Int32) < n32 0 by decide)]
    refine ⟨0, ob, rfl, ⟨fun _ _ => rfl, fun _ _ _ => rfl⟩, Or.inl ⟨rfl, fun b hb => ?_⟩⟩
    obtain ⟨j, hj, _⟩ := cp b hb
    clear sv cp; omega
  intro m
  induction m with
  | zero =>
    intro fuel ob T K i hf hK hi h0 sv cp
    obtain ⟨g, rfl⟩ : ∃ g, fuel = g + 1 := ⟨fuel - 1, by clear sv cp; omega⟩
    have e : K = 0 := by clear sv cp; omega
    subst e
    exact base _ ob T i (by clear sv cp; omega) sv cp
  | succ m ih =>
    intro fuel ob T K i hf hK hi h0 sv cp
    obtain ⟨g, rfl⟩ : ∃ g, fuel = g + 1 := ⟨fuel - 1, by clear sv cp; omega⟩
    by_cases e : K = 0
    · subst e
      exact base _ ob T i (by clear sv cp; omega) sv cp
    · obtain ⟨t, rfl⟩ : ∃ t, K = t + 1 := ⟨K - 1, by clear sv cp; omega⟩
      have hT := SV_T sv
      obtain ⟨⟨a1, a2⟩, ⟨a3, a4, a5⟩, a6, a7, a8⟩ := sv.lb t (by clear sv cp; omega)
      obtain ⟨q, q1, q15, q13, q14, qi, qa⟩ := und NF hNF hn sv (len := ls t) (by clear sv cp; omega)
      have e16 := sv.e16
      have k13 : ∀ A : Option (Int32 × Rec), chk 13 (n32 t) A = A := fun A => ck32 (m := 13) rfl (by clear sv cp; omega) (by clear sv cp; omega)
      show ∃ a r, X_backtrack_w2 NF (X_backtrack_l2 NF g) ob (n32 i) = some (a, r) ∧ _
      unfold X_backtrack_w2
      rw [if_pos (show n32 i < (14 : Int32) from ylt (n := 14) (by clear sv cp; omega) (by omega) (by clear sv cp; omega)), e16, if_pos (by rw [lt_i, nt _ (by clear sv cp; omega)]; show (0 : Int) < ((t + 1 : Nat) : Int); clear sv cp; omega), if_neg (show ¬ (13 : Int32) < n32 (t + 1) from nlt (i := 13) (by omega) (by clear sv cp; omega) (by clear sv cp; omega)), n32_p (by clear sv cp; omega), k13, a3, q1, Option.bind_some, k13, qa, qa, a1]
      -- bits after the undoing
      have v14 : ∀ s, s < ls t → bb (gI q 14) (tr s) = bb (gI ob 14) (tr s) := fun s hs => by
        cases d : bb (gI ob 14) (tr s)
        · cases d' : bb (gI q 14) (tr s)
          · rfl
          · have := ((q14 _).mp d').1; rw [d] at this; exact absurd this (by decide)
        · exact (q14 _).mpr ⟨d, s, hs, rfl⟩
      have top13 : bb (gI q 13) (lv t) = false := by
        cases d : bb (gI q 13) (lv t)
        · rfl
        · obtain ⟨s, s1', s2⟩ := (q13 _).mp d
          have := sv.ti s (ls t) (by clear sv cp; omega) a4 (s2.trans a5.symm)
          clear sv cp; omega
      have trne : ∀ s, s < ls t → ¬ tr s = lv t := fun s hs y => by
        have := sv.ti s (ls t) (by clear sv cp; omega) a4 (y.trans a5.symm)
        clear sv cp; omega
      by_cases c : gA ob 16 (n32 t) = 0
      · rw [if_pos c, k13, k13]
        obtain ⟨r, r1, r14, r13, ri, r15, ra, rT, rt⟩ := asg_raw (ob := sA q 16 (n32 t) 1) (n := n) (v := lv t) (T := ls t) q15 (by clear sv cp; omega) ((qi 0 (by decide)).trans h0) hn a2 top13 1
        rw [r1, Option.bind_some]
        have r16 : ∀ x, x < t + 1 → gA r 16 (n32 x) = if x = t then 1 else gA ob 16 (n32 x) := fun x hx => by
          rw [ra 16 _ (by decide), gA_sA]
          by_cases y : x = t
          · rw [if_pos ⟨rfl, by rw [y]⟩, if_pos y]
          · rw [if_neg (fun z => n32_ne (by clear sv cp; omega) (by clear sv cp; omega) y z.2), if_neg y, qa]
        have ro : ∀ j x, ¬ j = 13 → ¬ j = 16 → gA r j x = gA ob j x := fun j x j1 j2 => by rw [ra j x j1, gA_sA, if_neg (fun z => j2 z.1), qa]
        have r14' : ∀ s, s < ls t → bb (gI r 14) (tr s) = bb (gI ob 14) (tr s) := fun s hs => by
          rw [r14, if_neg (trne s hs)]; exact v14 s hs
        have nsv : SV r n (ls t + 1) (t + 1) tr lv ls := by
          refine ⟨r15, by rw [ri 16 (by decide)]; exact (qi 16 (by decide)).trans e16, fun s hs => ?_, fun s s' h1 h2 y => sv.ti s s' (by clear sv cp; omega) (by clear sv cp; omega) y, fun w => ?_, fun w y => ?_, fun x hx => ?_, fun x y h1 h2 => sv.li x y h1 h2⟩
          · by_cases y : s = ls t
            · rw [y, rT, a5]; exact ⟨rfl, a2⟩
            · have hs' : s < ls t := by clear sv cp; omega
              rw [rt s hs', gA_sA, if_neg (fun z => absurd z.1 (by decide)), qa]
              exact sv.tb s (by clear sv cp; omega)
          · rw [r13]
            by_cases y : w = lv t
            · rw [if_pos y]
              exact ⟨fun _ => ⟨ls t, by clear sv cp; omega, by rw [a5, y]⟩, fun _ => rfl⟩
            · rw [if_neg y]
              have q13' := q13 w
              have e13 : bb (gI (sA q 16 (n32 t) 1) 13) w = bb (gI q 13) w := rfl
              rw [e13, q13']
              constructor
              · rintro ⟨s, s1', s2⟩; exact ⟨s, by clear sv cp; omega, s2⟩
              · rintro ⟨s, s1', s2⟩
                by_cases u : s = ls t
                · rw [u, a5] at s2; exact absurd s2.symm y
                · exact ⟨s, by clear sv cp; omega, s2⟩
          · rw [r13]
            by_cases u : w = lv t
            · rw [if_pos u]
            · rw [if_neg u]
              rw [r14, if_neg u] at y
              exact (q13 w).mpr ((q14 w).mp y).2
          · obtain ⟨⟨b1, b2⟩, ⟨b3, b4, b5⟩, b6, b7, b8⟩ := sv.lb x (by clear sv cp; omega)
            rw [ro 14 _ (by decide) (by decide), ro 15 _ (by decide) (by decide), r16 x hx]
            by_cases y : x = t
            · rw [if_pos y, y]
              refine ⟨⟨a1, a2⟩, ⟨a3, by clear sv cp; omega, a5⟩, Or.inr rfl, ?_, a8⟩
              rw [r14, if_pos rfl]; rfl
            · rw [if_neg y]
              have lsl := (sv.li x t (by clear sv cp; omega) (by clear sv cp; omega)).1
              refine ⟨⟨b1, b2⟩, ⟨b3, by clear sv cp; omega, b5⟩, b6, ?_, b8⟩
              have := r14' (ls x) lsl
              rw [b5] at this
              rw [this]; exact b7
        refine ⟨1, r, rfl, ⟨fun j hj => by rw [ri j (by clear sv cp; omega)]; exact qi j (by clear sv cp; omega), fun j x hj => ro j x (by clear sv cp; omega) (by clear sv cp; omega)⟩, Or.inr ⟨by decide, t, by clear sv cp; omega, c, ⟨ls t + 1, tr, ls, nsv, fun b hM => ?_⟩, by rw [r16 t (by clear sv cp; omega), if_pos rfl], fun x hx => by rw [r16 x (by clear sv cp; omega), if_neg (by clear sv cp; omega)]⟩⟩
        obtain ⟨x, x1, x2, x3, x4⟩ := cp b hM
        by_cases y : x = t
        · left
          rw [y] at x3 x4
          intro w hw
          rw [r13] at hw
          by_cases u : w = lv t
          · rw [u, x4, r14, if_pos rfl]; rfl
          · rw [if_neg u] at hw
            obtain ⟨s, s1', s2⟩ := (q13 w).mp hw
            rw [← s2, r14' s s1']; exact x3 s s1'
        · right
          have lsl := (sv.li x t (by clear sv cp; omega) (by clear sv cp; omega)).1
          refine ⟨x, x1, by rw [r16 x (by clear sv cp; omega), if_neg y]; exact x2, fun s hs => ?_, x4⟩
          rw [r14' s (by clear sv cp; omega)]; exact x3 s hs
      · rw [if_neg c, qi 16 (by decide), e16, n32_p (by clear sv cp; omega), n32_s (by clear sv cp; omega)]
        have fl1 : gA ob 16 (n32 t) = 1 := a6.resolve_left c
        have nsv : SV (sI q 16 (n32 t)) n (ls t) t tr lv ls := by
          refine ⟨q15, rfl, fun s hs => by rw [gA_sI, qa]; exact sv.tb s (by clear sv cp; omega), fun s s' h1 h2 y => sv.ti s s' (by clear sv cp; omega) (by clear sv cp; omega) y, q13, fun w y => (q13 w).mpr ((q14 w).mp y).2, fun x hx => ?_, fun x y h1 h2 => sv.li x y h1 (by clear sv cp; omega)⟩
          obtain ⟨⟨b1, b2⟩, ⟨b3, b4, b5⟩, b6, b7, b8⟩ := sv.lb x (by clear sv cp; omega)
          have lsl := (sv.li x t hx (by clear sv cp; omega)).1
          rw [gA_sI, gA_sI, gA_sI, qa, qa, qa]
          refine ⟨⟨b1, b2⟩, ⟨b3, lsl, b5⟩, b6, ?_, b8⟩
          have := v14 (ls x) lsl
          rw [b5] at this
          show bb (gI q 14) (lv x) = _
          rw [this]; exact b7
        have ncp : CPb (sI q 16 (n32 t)) Md t tr lv ls := fun b hM => by
          obtain ⟨x, x1, x2, x3, x4⟩ := cp b hM
          have ne : ¬ x = t := fun y => by rw [y, fl1] at x2; exact absurd x2 (by decide)
          have lsl := (sv.li x t (by clear sv cp; omega) (by clear sv cp; omega)).1
          refine ⟨x, by clear sv cp; omega, by rw [gA_sI, qa]; exact x2, fun s hs => ?_, x4⟩
          show bb b (tr s) = bb (gI q 14) (tr s)
          rw [v14 s (by clear sv cp; omega)]; exact x3 s hs
        obtain ⟨a, r, u1, u2, u3⟩ := ih g (sI q 16 (n32 t)) (ls t) t (i + 1) (by clear sv cp nsv ncp; omega) (by clear sv cp nsv ncp; omega) (by clear sv cp nsv ncp; omega) ((qi 0 (by decide)).trans h0) nsv ncp
        have fs0 : Fs ob (sI q 16 (n32 t)) := ⟨fun j hj => by rw [gI_sI, if_neg (by clear sv cp nsv ncp; omega)]; exact qi j (by clear sv cp nsv ncp; omega), fun j x hj => by rw [gA_sI]; exact qa j x⟩
        refine ⟨a, r, u1, fs0.tr u2, ?_⟩
        rcases u3 with u | ⟨w1, j, w2, w3, w4, w5, w6⟩
        · exact Or.inl u
        · exact Or.inr ⟨w1, j, by clear sv cp nsv ncp; omega, by rw [gA_sI, qa] at w3; exact w3, w4, w5, fun x hx => by rw [w6 x hx, gA_sI, qa]⟩
theorem shb : ∀ i ∈ List.range 12, ((n32 i &&& 31).toUInt32.toBitVec % 32).toNat = i := by decide +kernel
theorem sht (x : Int32) {i : Nat} (hi : i < 12) : ((x.toUInt32 >>> (n32 i &&& 31).toUInt32).toInt32) &&& (1 : Int32) = 0 ↔ bb x i = false := by
  have e : (1 : Int32) = (1 : Int32) <<< (n32 0 &&& 31) := by decide
  have b : bb ((x.toUInt32 >>> (n32 i &&& 31).toUInt32).toInt32) 0 = bb x i := by
    unfold bb
    show ((x.toUInt32 >>> (n32 i &&& 31).toUInt32).toBitVec).getLsbD 0 = _
    rw [UInt32.toBitVec_shiftRight, BitVec.ushiftRight_eq', shb i (List.mem_range.mpr hi), BitVec.getLsbD_ushiftRight, Nat.add_zero]
    rfl
  have := and_0 (x := (x.toUInt32 >>> (n32 i &&& 31).toUInt32).toInt32) (v := 0) (by omega)
  rw [← e, b] at this
  exact this
theorem lun (NF : Nat) (hNF : 300 < NF) {ob : Rec} {n v : Nat} (hn : n ≤ 8) (h0 : gI ob 0 = n32 n) (hv : v < n) (hb : bb (gI ob 13) v = false) (hl : ∀ w, w < v → bb (gI ob 13) w = true) : X_lowestUnassigned NF ob = some (n32 v) := by
  unfold X_lowestUnassigned
  have := lpN (fun fuel i => X_lowestUnassigned_l2 NF ob fuel (n32 i)) v (some (n32 v)) (fun f => by
    show X_lowestUnassigned_w2 NF ob _ _ = _
    unfold X_lowestUnassigned_w2
    rw [h0, if_pos (ylt (by omega) (by omega) hv), if_pos (show n32 v < (12 : Int32) from ylt (n := 12) (by omega) (by omega) (by omega)), if_pos ((sht _ (by omega)).mpr hb)]) (fun f i hi => by
    show X_lowestUnassigned_w2 NF ob (X_lowestUnassigned_l2 NF ob f) _ = X_lowestUnassigned_l2 NF ob f (n32 (i + 1))
    unfold X_lowestUnassigned_w2
    rw [h0, if_pos (ylt (by omega) (by omega) (by omega)), if_pos (show n32 i < (12 : Int32) from ylt (n := 12) (by omega) (by omega) (by omega)), if_neg (fun z => by
      have := (sht _ (by omega)).mp z
      rw [hl i hi] at this; exact absurd this (by decide)), n32_s (by omega)]) v NF 0 (by omega) (by omega)
  exact this
theorem leastv (f : Nat → Bool) : ∀ n, (∃ v, v < n ∧ f v = false) → ∃ v, v < n ∧ f v = false ∧ ∀ w, w < v → f w = true
  | 0, ⟨v, h, _⟩ => by omega
  | n + 1, ⟨v, h1, h2⟩ => by
    by_cases c : ∃ v, v < n ∧ f v = false
    · obtain ⟨u, a, b, d⟩ := leastv f n c
      exact ⟨u, by omega, b, d⟩
    · refine ⟨v, h1, h2, fun w hw => ?_⟩
      cases e : f w
      · exact absurd ⟨w, by omega, e⟩ c
      · rfl
theorem dcd (NF : Nat) (hNF : 300 < NF) {ob : Rec} {n K : Nat} {Md : Int32 → Prop} {lv : Nat → Nat} (hn : n ≤ 8) (h0 : gI ob 0 = n32 n) (h1 : gI ob 1 = full n) (hs : SS ob n Md K lv) (hne : ¬ gI ob 13 = gI ob 1) : ∃ r v, X_decide NF ob = some r ∧ Fs ob r ∧ v < n ∧ (∀ i, i < K → lv i < v) ∧ gA r 16 (n32 K) = 0 ∧ (∀ i, i < K → gA r 16 (n32 i) = gA ob 16 (n32 i)) ∧ SS r n Md (K + 1) (fun i => if i = K then v else lv i) := by
  obtain ⟨T, tr, ls, sv, cp⟩ := hs
  have hT := SV_T sv
  have hK := SV_K sv
  have ex : ∃ v, v < n ∧ bb (gI ob 13) v = false := by
    apply Classical.byContradiction
    intro c
    apply hne
    rw [h1]
    apply bb_ext
    intro v _
    rw [full_b hn]
    by_cases d : v < n
    · rw [decide_eq_true d]
      cases e : bb (gI ob 13) v
      · exact absurd ⟨v, d, e⟩ c
      · rfl
    · rw [decide_eq_false d]
      cases e : bb (gI ob 13) v
      · rfl
      · obtain ⟨t, t1, t2⟩ := (sv.am v).mp e
        have := (sv.tb t t1).2
        rw [t2] at this; exact absurd this d
  obtain ⟨v, v1, v2, v3⟩ := leastv _ n ex
  have lvv : ∀ i, i < K → lv i < v := fun i hi => by
    obtain ⟨⟨a1, a2⟩, ⟨a3, a4, a5⟩, a6, a7, a8⟩ := sv.lb i hi
    have n1 : ¬ lv i = v := fun y => by
      have := (sv.am v).mpr ⟨ls i, a4, a5.trans y⟩
      rw [v2] at this; exact absurd this (by decide)
    have n2 : ¬ v < lv i := fun y => by
      obtain ⟨t, t1, t2⟩ := a8 v y
      have := (sv.am v).mpr ⟨t, by clear sv cp; omega, t2⟩
      rw [v2] at this; exact absurd this (by decide)
    clear sv cp; omega
  have k13 : ∀ A : Option Rec, chk 13 (n32 K) A = A := fun A => ck32 (m := 13) rfl (by clear sv cp; omega) (by clear sv cp; omega)
  unfold X_decide
  rw [lun NF hNF hn h0 v1 v2 v3, Option.bind_some, if_neg (nneg (n32_b (by clear sv cp; omega)).1), sv.e16, if_neg (nneg (n32_b (by clear sv cp; omega)).1), if_pos (show n32 K < (13 : Int32) from ylt (n := 13) (by clear sv cp; omega) (by omega) (by clear sv cp; omega)), k13, k13, k13, sv.e15, n32_s (by clear sv cp; omega)]
  generalize hz : sI (sA (sA (sA ob 15 (n32 K) (n32 T)) 14 (n32 K) (n32 v)) 16 (n32 K) 0) 16 (n32 (K + 1)) = z
  have zi : ∀ j, ¬ j = 16 → gI z j = gI ob j := fun j hj => by rw [← hz, gI_sI, if_neg hj]; rfl
  have zo : ∀ j x, ¬ x = n32 K → gA z j x = gA ob j x := fun j x hx => by rw [← hz, gA_sI, gA_sA, if_neg (fun e => hx e.2), gA_sA, if_neg (fun e => hx e.2), gA_sA, if_neg (fun e => hx e.2)]
  have za : ∀ j x, ¬ (14 ≤ j ∧ j ≤ 16) → gA z j x = gA ob j x := fun j x hj => by rw [← hz, gA_sI, gA_sA, if_neg (fun e => by clear sv cp; omega), gA_sA, if_neg (fun e => by clear sv cp; omega), gA_sA, if_neg (fun e => by clear sv cp; omega)]
  have zK : gA z 14 (n32 K) = n32 v ∧ gA z 15 (n32 K) = n32 T ∧ gA z 16 (n32 K) = 0 := by rw [← hz]; simp [gA_sI, gA_sA]
  obtain ⟨r, r1, r14, r13, ri, r15, ra, rT, rt⟩ := asg_raw (ob := z) (n := n) (v := v) (T := T) ((zi 15 (by decide)).trans sv.e15) (by clear sv cp; omega) ((zi 0 (by decide)).trans h0) hn v1 (by rw [zi 13 (by decide)]; exact v2) 0
  rw [zi 13 (by decide)] at r13
  rw [zi 14 (by decide)] at r14
  rw [r1, Option.bind_some]
  have rk : ∀ j x, x < K → ¬ j = 13 → gA r j (n32 x) = gA ob j (n32 x) := fun j x hx hj => by rw [ra j _ hj, zo j _ (n32_ne (by clear sv cp; omega) (by clear sv cp; omega) (by clear sv cp; omega))]
  obtain ⟨lv', l1, l2⟩ : ∃ lv' : Nat → Nat, lv' = (fun i => if i = K then v else lv i) ∧ (lv' K = v ∧ ∀ i, i < K → lv' i = lv i) := ⟨_, rfl, if_pos rfl, fun i hi => if_neg (by clear sv cp; omega)⟩
  obtain ⟨ls', l3, l4⟩ : ∃ ls' : Nat → Nat, ls' K = T ∧ ∀ i, i < K → ls' i = ls i := ⟨fun i => if i = K then T else ls i, if_pos rfl, fun i hi => if_neg (by clear sv cp; omega)⟩
  obtain ⟨tr', t1, t2⟩ : ∃ tr' : Nat → Nat, tr' T = v ∧ ∀ t, t < T → tr' t = tr t := ⟨fun t => if t = T then v else tr t, if_pos rfl, fun t ht => if_neg (by clear sv cp; omega)⟩
  have nt' : ∀ t, t < T → ¬ tr t = v := fun t ht e => by
    have := (sv.am v).mpr ⟨t, ht, e⟩
    rw [v2] at this; exact absurd this (by decide)
  have nsv : SV r n (T + 1) (K + 1) tr' lv' ls' := by
    refine ⟨r15, by rw [ri 16 (by decide), ← hz]; rfl, fun t ht => ?_, fun t t' ht ht' e => ?_, fun w => ?_, fun w e => ?_, fun i hi => ?_, fun i j hij hj => ?_⟩
    · by_cases c : t = T
      · rw [c, t1, rT]; exact ⟨rfl, v1⟩
      · rw [t2 t (by clear sv cp; omega), rt t (by clear sv cp; omega), za 13 _ (by omega)]; exact sv.tb t (by clear sv cp; omega)
    · by_cases c : t = T
      · by_cases d : t' = T
        · clear sv cp; omega
        · rw [c, t1, t2 t' (by clear sv cp; omega)] at e
          exact absurd e.symm (nt' t' (by clear sv cp; omega))
      · by_cases d : t' = T
        · rw [d, t1, t2 t (by clear sv cp; omega)] at e
          exact absurd e (nt' t (by clear sv cp; omega))
        · rw [t2 t (by clear sv cp; omega), t2 t' (by clear sv cp; omega)] at e
          exact sv.ti t t' (by clear sv cp; omega) (by clear sv cp; omega) e
    · rw [r13 w]
      by_cases c : w = v
      · rw [if_pos c]
        exact ⟨fun _ => ⟨T, by clear sv cp; omega, by rw [t1, c]⟩, fun _ => rfl⟩
      · rw [if_neg c, sv.am w]
        constructor
        · rintro ⟨t, a, b⟩
          exact ⟨t, by clear sv cp; omega, by rw [t2 t a]; exact b⟩
        · rintro ⟨t, a, b⟩
          by_cases d : t = T
          · rw [d, t1] at b; exact absurd b.symm c
          · rw [t2 t (by clear sv cp; omega)] at b
            exact ⟨t, by clear sv cp; omega, b⟩
    · rw [r13 w]
      by_cases c : w = v
      · rw [if_pos c]
      · rw [if_neg c]
        rw [r14 w, if_neg c] at e
        exact sv.av w e
    · by_cases c : i = K
      · rw [c, l2.1, l3, ra 14 _ (by decide), ra 15 _ (by decide), ra 16 _ (by decide), zK.1, zK.2.1, zK.2.2]
        refine ⟨⟨rfl, v1⟩, ⟨rfl, by clear sv cp; omega, t1⟩, Or.inl rfl, by rw [r14, if_pos rfl]; rfl, fun w hw => ?_⟩
        obtain ⟨t, b1, b2⟩ := (sv.am w).mp (v3 w hw)
        exact ⟨t, b1, by rw [t2 t b1]; exact b2⟩
      · have hi' : i < K := by clear sv cp; omega
        obtain ⟨⟨a1, a2⟩, ⟨a3, a4, a5⟩, a6, a7, a8⟩ := sv.lb i hi'
        have ne : ¬ lv i = v := by have := lvv i hi'; clear sv cp; omega
        rw [l2.2 i hi', l4 i hi', rk 14 i hi' (by decide), rk 15 i hi' (by decide), rk 16 i hi' (by decide)]
        refine ⟨⟨a1, a2⟩, ⟨a3, by clear sv cp; omega, by rw [t2 (ls i) a4]; exact a5⟩, a6, by rw [r14, if_neg ne]; exact a7, fun w hw => ?_⟩
        obtain ⟨t, b1, b2⟩ := a8 w hw
        exact ⟨t, b1, by rw [t2 t (by clear sv cp; omega)]; exact b2⟩
    · have hi' : i < K := by clear sv cp; omega
      rw [l2.2 i hi', l4 i hi']
      by_cases c : j = K
      · rw [c, l2.1, l3]; exact ⟨(sv.lb i hi').2.1.2.1, lvv i hi'⟩
      · rw [l2.2 j (by clear sv cp; omega), l4 j (by clear sv cp; omega)]; exact sv.li i j hij (by clear sv cp; omega)
  refine ⟨r, v, rfl, ⟨fun j hj => by rw [ri j (by clear sv cp nsv; omega)]; exact zi j (by clear sv cp nsv; omega), fun j x hj => by rw [ra j x (by clear sv cp nsv; omega)]; exact za j x (by clear sv cp nsv; omega)⟩, v1, lvv, by rw [ra 16 _ (by decide)]; exact zK.2.2, fun i hi => rk 16 i hi (by decide), ?_⟩
  rw [← l1]
  refine ⟨T + 1, tr', ls', nsv, fun b hM => ?_⟩
  rcases cp b hM with a | ⟨i, a1, a2, a3, a4⟩
  · cases d : bb b v
    · left
      intro w hw
      rw [r14]
      by_cases c : w = v
      · rw [if_pos c, c, d]; rfl
      · rw [if_neg c]
        rw [r13, if_neg c] at hw
        exact a w hw
    · right
      refine ⟨K, by clear sv cp nsv; omega, by rw [ra 16 _ (by decide)]; exact zK.2.2, fun t ht => ?_, by rw [l2.1]; exact d⟩
      rw [l3] at ht
      rw [t2 t ht, r14, if_neg (nt' t ht)]
      exact a _ ((sv.am _).mpr ⟨t, ht, rfl⟩)
  · right
    have lsT := (sv.lb i a1).2.1.2.1
    refine ⟨i, by clear sv cp nsv; omega, by rw [rk 16 i a1 (by decide)]; exact a2, fun t ht => ?_, by rw [l2.2 i a1]; exact a4⟩
    rw [l4 i a1] at ht
    have tT : t < T := by clear sv cp nsv; omega
    rw [t2 t tT, r14, if_neg (nt' t tT)]
    exact a3 t ht
def sgm (g : Nat → Nat) : Nat → Nat
  | 0 => 0
  | k + 1 => sgm g k + g k
theorem sgm_c {f g : Nat → Nat} : ∀ k, (∀ i, i < k → f i = g i) → sgm f k = sgm g k
  | 0, _ => rfl
  | k + 1, h => by show sgm f k + f k = sgm g k + g k; rw [sgm_c k (fun i hi => h i (by omega)), h k (by omega)]
theorem sgm_m (g : Nat → Nat) (k : Nat) : ∀ d, sgm g k ≤ sgm g (k + d)
  | 0 => Nat.le_refl _
  | d + 1 => by have := sgm_m g k d; show _ ≤ sgm g (k + d) + _; omega
def fwt (ob : Rec) (n : Nat) (lv : Nat → Nat) (i : Nat) : Nat := if gA ob 16 (n32 i) = 0 then 2 ^ (n - lv i) - 1 else 0
def mz (ob : Rec) (n K : Nat) (lv : Nat → Nat) : Nat := (2 ^ (if K = 0 then n + 1 else n - lv (K - 1)) - 1) + sgm (fwt ob n lv) K
theorem mz_c {ob r : Rec} {n K : Nat} {lv : Nat → Nat} (h : ∀ i, i < K → gA r 16 (n32 i) = gA ob 16 (n32 i)) : mz r n K lv = mz ob n K lv := by
  unfold mz
  rw [sgm_c (f := fwt r n lv) (g := fwt ob n lv) K (fun i hi => by unfold fwt; rw [h i hi])]
theorem mz_d {ob r : Rec} {n K v : Nat} {lv : Nat → Nat} (hv : v < n) (hl : ∀ i, i < K → lv i < v) (h0 : gA r 16 (n32 K) = 0) (h : ∀ i, i < K → gA r 16 (n32 i) = gA ob 16 (n32 i)) : mz r n (K + 1) (fun i => if i = K then v else lv i) + 1 ≤ mz ob n K lv := by
  have e1 : sgm (fwt r n (fun i => if i = K then v else lv i)) K = sgm (fwt ob n lv) K := sgm_c K (fun i hi => by
    show (if gA r 16 (n32 i) = 0 then 2 ^ (n - (if i = K then v else lv i)) - 1 else 0) = (if gA ob 16 (n32 i) = 0 then 2 ^ (n - lv i) - 1 else 0)
    rw [h i hi, if_neg (show ¬ i = K by omega)])
  have e2 : fwt r n (fun i => if i = K then v else lv i) K = 2 ^ (n - v) - 1 := by
    show (if gA r 16 (n32 K) = 0 then 2 ^ (n - (if K = K then v else lv K)) - 1 else 0) = _
    rw [if_pos h0, if_pos rfl]
  have e3 : mz r n (K + 1) (fun i => if i = K then v else lv i) = (2 ^ (n - v) - 1) + (sgm (fwt ob n lv) K + (2 ^ (n - v) - 1)) := by
    unfold mz
    show (2 ^ (if K + 1 = 0 then n + 1 else n - (if K + 1 - 1 = K then v else lv (K + 1 - 1))) - 1) + (sgm _ K + fwt r n _ K) = _
    rw [if_neg (by omega), if_pos (by omega), e1, e2]
  have p1 : 1 ≤ 2 ^ (n - v) := Nat.one_le_two_pow
  have p2 : 2 * 2 ^ (n - v) ≤ 2 ^ (if K = 0 then n + 1 else n - lv (K - 1)) := by
    have : 2 * 2 ^ (n - v) = 2 ^ (n - v + 1) := by rw [Nat.pow_succ, Nat.mul_comm]
    rw [this]
    apply Nat.pow_le_pow_right (by omega)
    by_cases c : K = 0
    · rw [if_pos c]; omega
    · rw [if_neg c]; have := hl (K - 1) (by omega); omega
  rw [e3]
  unfold mz
  omega
theorem mz_b {ob r : Rec} {n K j : Nat} {lv : Nat → Nat} (hj : j < K) (hl : lv (K - 1) < n) (f0 : gA ob 16 (n32 j) = 0) (f1 : gA r 16 (n32 j) = 1) (h : ∀ i, i < j → gA r 16 (n32 i) = gA ob 16 (n32 i)) : mz r n (j + 1) lv + 1 ≤ mz ob n K lv := by
  have e1 : sgm (fwt r n lv) j = sgm (fwt ob n lv) j := sgm_c j (fun i hi => by unfold fwt; rw [h i hi])
  have e2 : fwt r n lv j = 0 := by unfold fwt; rw [f1, if_neg (by decide)]
  have e3 : mz r n (j + 1) lv = (2 ^ (n - lv j) - 1) + (sgm (fwt ob n lv) j + 0) := by
    unfold mz
    show (2 ^ (if j + 1 = 0 then n + 1 else n - lv (j + 1 - 1)) - 1) + (sgm _ j + fwt r n _ j) = _
    rw [if_neg (by omega), e1, e2]; rfl
  have e4 : sgm (fwt ob n lv) (j + 1) = sgm (fwt ob n lv) j + (2 ^ (n - lv j) - 1) := by
    show sgm (fwt ob n lv) j + fwt ob n lv j = _
    unfold fwt; rw [if_pos f0]
  have m := sgm_m (fwt ob n lv) (j + 1) (K - (j + 1))
  rw [show j + 1 + (K - (j + 1)) = K by omega] at m
  have p2 : 2 ≤ 2 ^ (if K = 0 then n + 1 else n - lv (K - 1)) := by
    rw [if_neg (by omega)]
    have : 2 ^ 1 ≤ 2 ^ (n - lv (K - 1)) := Nat.pow_le_pow_right (by omega) (by omega)
    omega
  rw [e3]
  unfold mz
  omega
abbrev Lx (m b : Int32) : Prop := ∃ v, bb m v = false ∧ bb b v = true ∧ ∀ w, w < v → bb b w = bb m w
theorem Sat_f {ob r : Rec} {cc xc : Nat} (f : Fs ob r) (b : Int32) : Sat r cc xc b ↔ Sat ob cc xc b := Sat_c (fun j x _ h => f.2 j x (by omega)) b
theorem cpb_of {ob : Rec} {n T K : Nat} {Md : Int32 → Prop} {tr lv ls : Nat → Nat} (cp : CP ob Md K tr lv ls) (hc : Conf ob Md) : CPb ob Md K tr lv ls := fun b hM => by
  rcases cp b hM with a | a
  · exact absurd a (hc b hM)
  · exact a
/-- the search -/
theorem sch (NF : Nat) (hNF : 700 < NF) {n cc xc k : Nat} {pv : Nat → Nat} {S0 : Int32 → Prop} (hn : n ≤ 8) : ∀ (M fuel : Nat) (ob : Rec) (K i : Nat) (lv : Nat → Nat), mz ob n K lv ≤ M → M < fuel → i + M ≤ 600 → CI ob n cc xc → EC ob n xc k pv → gI ob 9 = 1 → (∀ b, Sat ob cc xc b ↔ S0 b) → SS ob n (fun b => Wi n b ∧ S0 b) K lv →
    ∃ a r, X_search_l29 NF fuel ob (n32 i) = some (a, r) ∧ Fs ob r ∧ ((a = 0 ∧ ∀ b, ¬ (Wi n b ∧ S0 b)) ∨ (a = 1 ∧ (Wi n (gI r 17) ∧ S0 (gI r 17)) ∧ ∀ b, (Wi n b ∧ S0 b) → ¬ b = gI r 17 → Lx (gI r 17) b)) := by
  intro M
  induction M with
  | zero =>
    intro fuel ob K i lv hM hf hi ci ec h9 hs ss
    exfalso
    have : 2 ≤ 2 ^ (if K = 0 then n + 1 else n - lv (K - 1)) := by
      by_cases c : K = 0
      · rw [if_pos c]
        have : 2 ^ 1 ≤ 2 ^ (n + 1) := Nat.pow_le_pow_right (by clear ss ci ec; omega) (by clear ss ci ec; omega)
        clear ss ci ec; omega
      · rw [if_neg c]
        obtain ⟨T, tr, ls, sv, cp⟩ := ss
        have := (sv.lb (K - 1) (by clear sv cp ci ec; omega)).1.2
        have : 2 ^ 1 ≤ 2 ^ (n - lv (K - 1)) := Nat.pow_le_pow_right (by clear sv cp ci ec; omega) (by clear sv cp ci ec; omega)
        clear sv cp ci ec; omega
    unfold mz at hM
    clear ss ci ec; omega
  | succ M ih =>
    intro fuel ob K i lv hM hf hi ci ec h9 hs ss
    obtain ⟨g, rfl⟩ : ∃ g, fuel = g + 1 := ⟨fuel - 1, by clear ss ci ec; omega⟩
    have hm : HM ob n cc k (fun b => Wi n b ∧ S0 b) := fun b hb => by
      have sb := (hs b).mpr hb.2
      refine ⟨hb.1, sb.1, ?_⟩
      rcases ec.co with ⟨c1, c2⟩ | ⟨c1, c2⟩
      · exact (c2 b).mp sb.2
      · exact absurd sb.2 (c2 b)
    obtain ⟨a, r, r1, r2, r3, r4⟩ := prp NF (by clear ss ci ec; omega) hn 20 NF ob 0 (by clear ss ci ec; omega) (by clear ss ci ec; omega) (by clear ss ci ec; omega) ci ec hm ss
    have r1' : X_propagate NF ob = some (a, r) := r1
    have mr : mz r n K lv = mz ob n K lv := mz_c (fun i _ => r3.lw.2 16 _ (by omega) (by omega))
    have ci' := CI_s ci r3.fs
    have ec' := EC_s ec r3.fs
    have h9' : gI r 9 = 1 := (r3.fs.1 9 (by omega)).trans h9
    have hs' : ∀ b, Sat r cc xc b ↔ S0 b := fun b => (Sat_f r3.fs b).trans (hs b)
    have e0 := ci'.e0
    have e1 := ci'.e1
    -- the way back
    have back : Conf r (fun b => Wi n b ∧ S0 b) → ∃ a' r', (bind2 (X_backtrack NF r) fun r6 q7 => if r6 = (0 : Int32) then some ((0 : Int32), q7) else X_search_l29 NF g q7 (n32 (i + 1))) = some (a', r') ∧ Fs ob r' ∧ ((a' = 0 ∧ ∀ b, ¬ (Wi n b ∧ S0 b)) ∨ (a' = 1 ∧ (Wi n (gI r' 17) ∧ S0 (gI r' 17)) ∧ ∀ b, (Wi n b ∧ S0 b) → ¬ b = gI r' 17 → Lx (gI r' 17) b)) := by
      intro hc
      obtain ⟨T, tr, ls, sv, cp⟩ := r2
      have hK := SV_K sv
      obtain ⟨a', r', u1, u2, u3⟩ := btk NF (by clear ss ci ec ci' ec' sv cp; omega) hn 20 NF r T K 0 (by clear ss ci ec ci' ec' sv cp; omega) (by clear ss ci ec ci' ec' sv cp; omega) (by clear ss ci ec ci' ec' sv cp; omega) e0 sv (cpb_of (n := n) (T := T) cp hc)
      have u1' : X_backtrack NF r = some (a', r') := u1
      rw [u1', bind2_some]
      rcases u3 with ⟨w1, w2⟩ | ⟨w1, j, w2, w3, w4, w5, w6⟩
      · rw [if_pos w1]; exact ⟨0, r', rfl, r3.fs.tr u2, Or.inl ⟨rfl, w2⟩⟩
      · rw [if_neg w1]
        have lk := (sv.lb (K - 1) (by clear ss ci ec ci' ec' sv cp w4; omega)).1.2
        have mb := mz_b w2 lk w3 w5 w6
        obtain ⟨a2, r2', x1, x2, x3⟩ := ih g r' (j + 1) (i + 1) lv (by clear ss ci ec ci' ec' sv cp w4; omega) (by clear ss ci ec ci' ec' sv cp w4; omega) (by clear ss ci ec ci' ec' sv cp w4; omega) (CI_s ci' u2) (EC_s ec' u2) ((u2.1 9 (by omega)).trans h9') (fun b => (Sat_f u2 b).trans (hs' b)) w4
        exact ⟨a2, r2', x1, (r3.fs.tr u2).tr x2, x3⟩
    show ∃ a r, X_search_w29 NF (X_search_l29 NF g) ob (n32 i) = some (a, r) ∧ _
    unfold X_search_w29
    rw [if_pos (by rw [lt_i, nt i (by clear ss ci ec ci' ec' r2; omega)]; show (i : Int) < 16384; clear ss ci ec ci' ec' r2; omega), r1', bind2_some, n32_s (by clear ss ci ec ci' ec' r2; omega)]
    by_cases c : a = 0
    · rw [if_pos c]
      exact back (r4 c)
    · rw [if_neg c]
      by_cases d : gI r 13 = gI r 1
      · rw [if_pos d]
        obtain ⟨T, tr, ls, sv, cp⟩ := r2
        have wv : Wi n (gI r 14) := fun v hv => by
          cases e : bb (gI r 14) v
          · rfl
          · have := sv.av v e
            rw [d, e1, full_b hn, decide_eq_false (by clear ss ci ec ci' ec' sv cp; omega)] at this; exact absurd this (by decide)
        have eqm : ∀ b, Wi n b → agr r b → b = gI r 14 := fun b hb hag => bb_ext (fun v _ => by
          by_cases e : v < n
          · exact hag v (by rw [d, e1, full_b hn, decide_eq_true e])
          · rw [hb v (by clear ss ci ec ci' ec' sv cp; omega), wv v (by clear ss ci ec ci' ec' sv cp; omega)])
        obtain ⟨q, q1, q2, q3⟩ := vio_e NF (by clear ss ci ec ci' ec' sv cp; omega) ci' (gI r 14)
        rw [Wi_f hn wv] at q3
        rw [q2, Option.bind_some]
        by_cases e : q = 0
        · have sm := (hs' _).mp (q3.mp e)
          have fe : gI r 14 &&& gI r 1 = gI r 14 := by rw [e1, Wi_f hn wv]
          rw [if_pos (by rw [e]; rfl), fe]
          refine ⟨1, _, rfl, ⟨fun j hj => by rw [gI_sI, if_neg (by clear ss ci ec ci' ec' sv cp; omega)]; exact r3.fs.1 j hj, fun j x hj => r3.fs.2 j x hj⟩, Or.inr ⟨rfl, ⟨wv, sm⟩, fun b hb ne => ?_⟩⟩
          have ne' : ¬ b = gI r 14 := ne
          show Lx (gI r 14) b
          rcases cp b hb with y | ⟨x, x1, x2, x3, x4⟩
          · exact absurd (eqm b hb.1 y) ne'
          · obtain ⟨⟨a1, a2⟩, ⟨a3, a4, a5⟩, a6, a7, a8⟩ := sv.lb x x1
            refine ⟨lv x, by rw [a7, x2]; rfl, x4, fun w hw => ?_⟩
            obtain ⟨t, t1, t2⟩ := a8 w hw
            rw [← t2]; exact x3 t t1
        · rw [if_neg (show ¬ n32 q = 0 from n32_ne (j := 0) (by clear ss ci ec ci' ec' sv cp; omega) (by omega) e)]
          exact back (fun b hb hag => e (q3.mpr ((hs' _).mpr (by rw [← eqm b hb.1 hag]; exact hb.2))))
      · rw [if_neg d]
        obtain ⟨r', v, u1, u2, u3, u4, u5, u6, u7⟩ := dcd NF (by clear ss ci ec ci' ec' r2; omega) hn e0 e1 r2 d
        rw [u1, Option.bind_some]
        have md := mz_d (ob := r) u3 u4 u5 u6
        obtain ⟨a2, r2', x1, x2, x3⟩ := ih g r' (K + 1) (i + 1) _ (by clear ss ci ec ci' ec' r2 u7; omega) (by clear ss ci ec ci' ec' r2 u7; omega) (by clear ss ci ec ci' ec' r2 u7; omega) (CI_s ci' u2) (EC_s ec' u2) ((u2.1 9 (by omega)).trans h9') (fun b => (Sat_f u2 b).trans (hs' b)) u7
        exact ⟨a2, r2', x1, (r3.fs.tr u2).tr x2, x3⟩
/-- what the object keeps between the calls -/
abbrev SX (ob : Rec) (n cc xc : Nat) : Prop := (CI ob n cc xc) ∧ (gI ob 10 = 0 ∨ (gI ob 10 = 1 ∧ ∃ k pv, EC ob n xc k pv)) ∧ (∃ p, p ≤ 8 ∧ gI ob 4 = n32 p) ∧ (∃ o, o ≤ 40 ∧ gI ob 7 = n32 o) ∧ (gI ob 2 = 2 ∨ (gI ob 2 = 0 ∧ ∀ b, ¬ (Wi n b ∧ Sat ob cc xc b)) ∨ (gI ob 2 = 1 ∧ (Wi n (gI ob 3) ∧ Sat ob cc xc (gI ob 3)) ∧ ∀ b, (Wi n b ∧ Sat ob cc xc b) → ¬ b = gI ob 3 → Lx (gI ob 3) b))
theorem SX.ci {ob : Rec} {n cc xc : Nat} (h : SX ob n cc xc) : CI ob n cc xc := h.1
theorem SX.ev {ob : Rec} {n cc xc : Nat} (h : SX ob n cc xc) : gI ob 10 = 0 ∨ (gI ob 10 = 1 ∧ ∃ k pv, EC ob n xc k pv) := h.2.1
theorem SX.pl {ob : Rec} {n cc xc : Nat} (h : SX ob n cc xc) : ∃ p, p ≤ 8 ∧ gI ob 4 = n32 p := h.2.2.1
theorem SX.ol {ob : Rec} {n cc xc : Nat} (h : SX ob n cc xc) : ∃ o, o ≤ 40 ∧ gI ob 7 = n32 o := h.2.2.2.1
theorem SX.st {ob : Rec} {n cc xc : Nat} (h : SX ob n cc xc) : gI ob 2 = 2 ∨ (gI ob 2 = 0 ∧ ∀ b, ¬ (Wi n b ∧ Sat ob cc xc b)) ∨ (gI ob 2 = 1 ∧ (Wi n (gI ob 3) ∧ Sat ob cc xc (gI ob 3)) ∧ ∀ b, (Wi n b ∧ Sat ob cc xc b) → ¬ b = gI ob 3 → Lx (gI ob 3) b) := h.2.2.2.2
theorem sea (NF : Nat) (hNF : 700 < NF) {ob : Rec} {n cc xc : Nat} (hn : n ≤ 8) (ci : CI ob n cc xc) (ev : gI ob 10 = 0 ∨ (gI ob 10 = 1 ∧ ∃ k pv, EC ob n xc k pv)) : ∃ a r k pv, X_search NF ob (-1) 0 = some (a, r) ∧ (∀ j, j ≤ 7 → gI r j = gI ob j) ∧ (∀ j x, j ≤ 6 → gA r j x = gA ob j x) ∧ gI r 10 = 1 ∧ EC r n xc k pv ∧ ((a = 0 ∧ ∀ b, ¬ (Wi n b ∧ Sat ob cc xc b)) ∨ (a = 1 ∧ (Wi n (gI r 17) ∧ Sat ob cc xc (gI r 17)) ∧ ∀ b, (Wi n b ∧ Sat ob cc xc b) → ¬ b = gI r 17 → Lx (gI r 17) b)) := by
  obtain ⟨q, k, pv, q1, q2, q3, q4⟩ := ens NF (by clear ci ev; omega) hn ci ev
  have cq : CI q n cc xc := CI_c ci (fun j hj => q2.1 j (by omega)) (fun j x a b => q2.2 j x (by omega))
  have sq : ∀ b, Sat q cc xc b ↔ Sat ob cc xc b := fun b => Sat_c (fun j x a b => q2.2 j x (by omega)) b
  unfold X_search
  rw [q1, Option.bind_some]
  rcases q4.co with ⟨c1, c2⟩ | ⟨c1, c2⟩
  · rw [if_neg (by rw [c1]; decide)]
    unfold X_resetSearch
    rw [Option.bind_some, if_pos (by decide)]
    generalize hz : sI (sI (sI (sI (sI q 13 0) 14 0) 15 0) 16 0) 17 0 = z
    have zi : ∀ j, j ≤ 12 → gI z j = gI q j := fun j hj => by rw [← hz, gI_sI, if_neg (by omega), gI_sI, if_neg (by omega), gI_sI, if_neg (by omega), gI_sI, if_neg (by omega), gI_sI, if_neg (by omega)]
    have za : ∀ j x, gA z j x = gA q j x := fun j x => by rw [← hz]; rfl
    have z13 : gI z 13 = 0 ∧ gI z 14 = 0 ∧ gI z 15 = 0 ∧ gI z 16 = 0 := by rw [← hz]; exact ⟨rfl, rfl, rfl, rfl⟩
    have fz : Fs q z := ⟨fun j hj => by
      by_cases c : j ≤ 12
      · exact zi j c
      · rw [← hz, gI_sI, if_neg (by omega), gI_sI, if_neg (by omega), gI_sI, if_neg (by omega), gI_sI, if_neg (by omega), gI_sI, if_neg (by omega)], fun j x _ => za j x⟩
    have ss : SS z n (fun b => Wi n b ∧ Sat ob cc xc b) 0 (fun _ => 0) := by
      refine ⟨0, fun _ => 0, fun _ => 0, ⟨z13.2.2.1, z13.2.2.2, fun t ht => by omega, fun t t' ht => by omega, fun v => ?_, fun v e => ?_, fun i hi => by omega, fun i j _ hj => by omega⟩, fun b _ => Or.inl (fun w hw => ?_)⟩
      · rw [z13.1, bb_0]
        exact ⟨fun e => absurd e (by decide), fun ⟨t, ht, _⟩ => by omega⟩
      · rw [z13.2.1, bb_0] at e; exact absurd e (by decide)
      · rw [z13.1, bb_0] at hw; exact absurd hw (by decide)
    have m0 : mz z n 0 (fun _ => 0) ≤ 511 := by
      unfold mz
      rw [if_pos rfl]
      have : 2 ^ (n + 1) ≤ 2 ^ 9 := Nat.pow_le_pow_right (by clear ci cq ss; omega) (by clear ci cq ss; omega)
      show (2 ^ (n + 1) - 1) + 0 ≤ 511
      clear ci cq ss; omega
    obtain ⟨a, r, r1, r2, r3⟩ := sch NF hNF (S0 := fun b => Sat ob cc xc b) hn 511 NF z 0 0 (fun _ => 0) m0 (by clear ci cq ss; omega) (by clear ci cq ss; omega) (CI_s cq fz) (EC_s q4 fz) ((zi 9 (by omega)).trans c1) (fun b => (Sat_f fz b).trans (sq b)) ss
    have r1' : X_search_l29 NF NF z 0 = some (a, r) := r1
    rw [r1']
    have fr := fz.tr r2
    exact ⟨a, r, k, pv, rfl, fun j hj => (fr.1 j (by omega)).trans (q2.1 j (by omega)), fun j x hj => (fr.2 j x (by omega)).trans (q2.2 j x (by omega)), (fr.1 10 (by omega)).trans q3, EC_s q4 fr, r3⟩
  · rw [if_pos c1]
    exact ⟨0, q, k, pv, rfl, fun j hj => q2.1 j (by omega), fun j x hj => q2.2 j x (by omega), q3, q4, Or.inl ⟨rfl, fun b hb => c2 b ((sq b).mpr hb.2).2⟩⟩
theorem SX_m {ob r : Rec} {n cc xc : Nat} (h : SX ob n cc xc) (hi : ∀ j, j ≤ 7 → gI r j = gI ob j) (ha : ∀ j x, j ≤ 6 → gA r j x = gA ob j x) (ev : gI r 10 = 1 ∧ ∃ k pv, EC r n xc k pv) : SX r n cc xc := by
  obtain ⟨a, b, c, d, e⟩ := h
  have ss : ∀ b, Sat r cc xc b ↔ Sat ob cc xc b := fun b => Sat_c (fun j x _ h2 => ha j x (by omega)) b
  refine ⟨CI_c a (fun j hj => hi j (by omega)) (fun j x _ h2 => ha j x (by omega)), Or.inr ev, by rw [hi 4 (by omega)]; exact c, by rw [hi 7 (by omega)]; exact d, ?_⟩
  rw [hi 2 (by omega), hi 3 (by omega)]
  rcases e with e | ⟨e1, e2⟩ | ⟨e1, e2, e3⟩
  · exact Or.inl e
  · exact Or.inr (Or.inl ⟨e1, fun b hb => e2 b ⟨hb.1, (ss b).mp hb.2⟩⟩)
  · exact Or.inr (Or.inr ⟨e1, ⟨e2.1, (ss _).mpr e2.2⟩, fun b hb ne => e3 b ⟨hb.1, (ss b).mp hb.2⟩ ne⟩)
theorem slv (NF : Nat) (hNF : 700 < NF) {ob : Rec} {n cc xc : Nat} (hn : n ≤ 8) (h : SX ob n cc xc) : ∃ a r, X_solve NF ob = some (a, r) ∧ SX r n cc xc ∧ (∀ b, Sat r cc xc b ↔ Sat ob cc xc b) ∧ ((a = 0 ∧ ∀ b, ¬ (Wi n b ∧ Sat ob cc xc b)) ∨ (a = 1 ∧ ∃ m, X_modelBits r = some m ∧ (Wi n m ∧ Sat ob cc xc m) ∧ ∀ b, (Wi n b ∧ Sat ob cc xc b) → ¬ b = m → Lx m b)) := by
  have mbt : ∀ r : Rec, gI r 1 = full n → gI r 2 = 1 → Wi n (gI r 3) → X_modelBits r = some (gI r 3) := fun r h1 h2 h3 => by
    unfold X_modelBits; rw [if_pos h2, h1, Wi_f hn h3]
  unfold X_solve
  rcases h.st with e | ⟨e1, e2⟩ | ⟨e1, e2, e3⟩
  · rw [if_neg (by rw [e]; decide), if_neg (by rw [e]; decide)]
    obtain ⟨a, r, k, pv, r1, r2, r3, r4, r5, r6⟩ := sea NF hNF hn h.ci h.ev
    have ss : ∀ b, Sat r cc xc b ↔ Sat ob cc xc b := fun b => Sat_c (fun j x _ h2 => r3 j x (by omega)) b
    have sx : SX r n cc xc := SX_m h r2 r3 ⟨r4, k, pv, r5⟩
    rw [r1, bind2_some]
    rcases r6 with ⟨w1, w2⟩ | ⟨w1, w2, w3⟩
    · rw [if_pos w1]
      refine ⟨0, sI r 2 0, rfl, ⟨CI_c sx.ci (fun j hj => by rw [gI_sI, if_neg (by omega)]) (fun _ _ _ _ => rfl), Or.inr ⟨r4, k, pv, ?_⟩, sx.pl, sx.ol, Or.inr (Or.inl ⟨rfl, fun b hb => w2 b ⟨hb.1, (ss b).mp hb.2⟩⟩)⟩, fun b => ss b, Or.inl ⟨rfl, w2⟩⟩
      obtain ⟨x1, x2, x3, x4, x5⟩ := r5
      exact ⟨x1, x2, x3, x4, x5⟩
    · rw [if_neg (by rw [w1]; decide)]
      have fe : gI r 17 &&& gI r 1 = gI r 17 := by rw [sx.ci.e1, Wi_f hn w2.1]
      rw [fe]
      refine ⟨1, sI (sI r 3 (gI r 17)) 2 1, rfl, ⟨CI_c sx.ci (fun j hj => by rw [gI_sI, if_neg (by omega), gI_sI, if_neg (by omega)]) (fun _ _ _ _ => rfl), Or.inr ⟨r4, k, pv, ?_⟩, sx.pl, sx.ol, Or.inr (Or.inr ⟨rfl, ⟨w2.1, (ss _).mpr w2.2⟩, fun b hb ne => w3 b ⟨hb.1, (ss b).mp hb.2⟩ ne⟩)⟩, fun b => ss b, Or.inr ⟨rfl, gI r 17, mbt _ sx.ci.e1 rfl w2.1, w2, w3⟩⟩
      obtain ⟨x1, x2, x3, x4, x5⟩ := r5
      exact ⟨x1, x2, x3, x4, x5⟩
  · rw [if_neg (by rw [e1]; decide), if_pos e1, e1]
    exact ⟨0, ob, rfl, h, fun _ => Iff.rfl, Or.inl ⟨rfl, e2⟩⟩
  · rw [if_pos e1, e1]
    exact ⟨1, ob, rfl, h, fun _ => Iff.rfl, Or.inr ⟨rfl, gI ob 3, mbt ob h.ci.e1 e1 e2.1, e2, e3⟩⟩
-- USE: bits pga0 nn xga lp xgb xgc xgd xge xgf xgg xgh
theorem low8 : ∀ d ∈ List.range 256, ¬ n32 d = 0 → ∃ v ∈ List.range 8, (n32 d &&& (-(n32 d))) = (1 : Int32) <<< (n32 v &&& 31) ∧ bb (n32 d) v = true ∧ ∀ w ∈ List.range 8, w < v → bb (n32 d) w = false := by decide +kernel
theorem bef {n : Nat} (hn : n ≤ 8) {b x : Int32} (hb : Wi n b) (hx : Wi n x) (ne : ¬ b = x) : (L_before b x = some 1 ∧ Lx b x) ∨ (L_before b x = some 0 ∧ Lx x b) := by
  have wd : Wi n (b ^^^ x) := fun v hv => by rw [bb_xor, hb v hv, hx v hv]; rfl
  have d0 : ¬ b ^^^ x = 0 := fun e => ne (bb_ext (fun v _ => by
    have := congrArg (fun z => bb z v) e
    simp only [bb_xor, bb_0] at this
    cases h1 : bb b v <;> cases h2 : bb x v <;> rw [h1, h2] at this <;> first | rfl | exact absurd this (by decide)))
  obtain ⟨k, k1, k2⟩ := Wi_n hn _ wd
  have p8 := pow8 hn
  have d0' := d0
  rw [k2] at d0'
  obtain ⟨v, v1, v2, v3, v4⟩ := low8 k (List.mem_range.mpr (by omega)) d0'
  rw [← k2] at v2 v3 v4
  have v8 := List.mem_range.mp v1
  have df : bb b v = !bb x v := by
    rw [bb_xor] at v3
    cases h1 : bb b v <;> cases h2 : bb x v <;> rw [h1, h2] at v3 <;> first | rfl | exact absurd v3 (by decide)
  have lo : ∀ w, w < v → bb b w = bb x w := fun w hw => by
    have := v4 w (List.mem_range.mpr (by omega)) hw
    rw [bb_xor] at this
    cases h1 : bb b w <;> cases h2 : bb x w <;> rw [h1, h2] at this <;> first | rfl | exact absurd this (by decide)
  unfold L_before
  rw [if_neg d0, v2]
  cases e : bb b v
  · left
    rw [if_pos ((and_0 (by omega)).mpr e)]
    rw [e] at df
    refine ⟨rfl, v, e, ?_, fun w hw => (lo w hw).symm⟩
    cases h2 : bb x v
    · rw [h2] at df; exact absurd df (by decide)
    · rfl
  · right
    rw [if_neg (fun z => by rw [and_0 (by omega), e] at z; exact absurd z (by decide))]
    rw [e] at df
    refine ⟨rfl, v, ?_, e, lo⟩
    cases h2 : bb x v
    · rfl
    · rw [h2] at df; exact absurd df (by decide)
theorem Lx_t {b x y : Int32} (h1 : Lx b x) (h2 : Lx x y) : Lx b y := by
  obtain ⟨v, a1, a2, a3⟩ := h1
  obtain ⟨w, b1, b2, b3⟩ := h2
  by_cases c : v < w
  · exact ⟨v, a1, by rw [b3 v c]; exact a2, fun u hu => by rw [b3 u (by omega), a3 u hu]⟩
  · by_cases d : v = w
    · rw [d, b1] at a2; exact absurd a2 (by decide)
    · exact ⟨w, by rw [← a3 w (by omega)]; exact b1, b2, fun u hu => by rw [b3 u hu, a3 u (by omega)]⟩
theorem Lx_a {b x : Int32} (h1 : Lx b x) (h2 : Lx x b) : False := by
  obtain ⟨v, a1, a2, a3⟩ := Lx_t h1 h2
  rw [a1] at a2; exact absurd a2 (by decide)
abbrev K7 : Type := Rec → Int32 → Int32 → Int32 → Int32 → Option Int32
abbrev NX (k : K7) (n : Nat) (i4 i5 : Int32) : Prop := ∀ ob cc xc, SX ob n cc xc → k ob (n32 n) (n32 (2 ^ n)) i4 (i5 + 1) = some 1
/-- the least model so far -/
abbrev LS (n : Nat) (S : Int32 → Prop) (b : Nat) (l : Int32) : Prop := (l = -1 ∧ ∀ y, y < b → ¬ S (n32 y)) ∨ (∃ x, x < b ∧ l = n32 x ∧ S (n32 x) ∧ ∀ y, y < b → S (n32 y) → ¬ y = x → Lx (n32 x) (n32 y))
theorem l228 (NF : Nat) (hNF : 700 < NF) (z : Int32) (f : Int32 → Int32) {k : K7} {n cc xc : Nat} (hn : n ≤ 8) {i4 i5 : Int32} (nx : NX k n i4 i5) {ob : Rec} (h : SX ob n cc xc) : L_law_l228 NF z f k NF ob (n32 n) (n32 (2 ^ n)) i4 i5 0 (-1) 0 = some 1 := by
  have p8 := pow8 hn
  have fin : ∀ (kk) (l : Int32), LS n (Sat ob cc xc) (2 ^ n) l → L_law_w228 NF z f k kk ob (n32 n) (n32 (2 ^ n)) i4 i5 (n32 (cN (fun b => decide (Sat ob cc xc (n32 b))) (2 ^ n))) l (n32 (2 ^ n)) = some 1 := by
    intro kk l hl
    unfold L_law_w228
    rw [if_neg (nlt (by clear h; omega) (by clear h; omega) (by clear h; omega))]
    obtain ⟨r, k', pv, r1, r2, r3, r4⟩ := cm_e NF (by clear h; omega) hn h.ci h.ev
    have sr : SX r n cc xc := SX_m h (fun j hj => r2.1 j (by omega)) (fun j x hj => r2.2 j x (by omega)) ⟨r3, k', pv, r4⟩
    have ss : ∀ b, Sat r cc xc b ↔ Sat ob cc xc b := fun b => Sat_c (fun j x _ h2 => r2.2 j x (by omega)) b
    rw [r1, bind2_some, if_pos rfl]
    obtain ⟨a, q, q1, q2, q3, q4⟩ := slv NF hNF hn sr
    rw [q1, bind2_some]
    have cb := cN_b (fun b => decide (Sat ob cc xc (n32 b))) (2 ^ n)
    rcases q4 with ⟨w1, w2⟩ | ⟨w1, m, w2, w3, w4⟩
    · have c0 : cN (fun b => decide (Sat ob cc xc (n32 b))) (2 ^ n) = 0 := (cN_z _).mpr (fun b hb => decide_eq_false (fun e => w2 (n32 b) ⟨(n_Wi hn hb).1, (ss _).mpr e⟩))
      rw [c0, if_pos (show n32 0 = 0 from rfl), if_pos w1]
      exact nx q cc xc q2
    · obtain ⟨x, x1, x2⟩ := Wi_n hn m w3.1
      have c0 : ¬ cN (fun b => decide (Sat ob cc xc (n32 b))) (2 ^ n) = 0 := fun e => by
        have := (cN_z _).mp e x x1
        rw [← x2, decide_eq_true ((ss m).mp w3.2)] at this; exact absurd this (by decide)
      rw [if_neg (show ¬ n32 _ = 0 from n32_ne (j := 0) (by clear h sr q2; omega) (by omega) c0), if_pos w1, w2, Option.bind_some]
      have e : m = l := by
        rcases hl with ⟨l1, l2⟩ | ⟨y, y1, y2, y3, y4⟩
        · exact absurd ((ss m).mp w3.2) (by rw [x2]; exact l2 x x1)
        · rw [y2, x2]
          by_cases c : y = x
          · rw [c]
          · exfalso
            have a1 := y4 x x1 (by rw [← x2]; exact (ss m).mp w3.2) (fun e => c e.symm)
            have ne : ¬ n32 y = m := by rw [x2]; exact n32_ne (by clear h sr q2; omega) (by clear h sr q2; omega) c
            have a2 := w4 (n32 y) ⟨(n_Wi hn y1).1, (ss _).mpr y3⟩ ne
            rw [x2] at a2
            exact Lx_a a1 a2
      rw [if_pos e]
      exact nx q cc xc q2
  have main : ∀ (m fuel b : Nat) (l : Int32), m < fuel → b ≤ 2 ^ n → 2 ^ n - b ≤ m → LS n (Sat ob cc xc) b l → L_law_l228 NF z f k fuel ob (n32 n) (n32 (2 ^ n)) i4 i5 (n32 (cN (fun b => decide (Sat ob cc xc (n32 b))) b)) l (n32 b) = some 1 := by
    intro m
    induction m with
    | zero =>
      intro fuel b l hf hb hm hl
      obtain ⟨g, rfl⟩ : ∃ g, fuel = g + 1 := ⟨fuel - 1, by clear h; omega⟩
      have e : b = 2 ^ n := by clear h; omega
      rw [e] at hl ⊢
      exact fin _ l hl
    | succ m ih =>
      intro fuel b l hf hb hm hl
      obtain ⟨g, rfl⟩ : ∃ g, fuel = g + 1 := ⟨fuel - 1, by clear h; omega⟩
      by_cases e : b = 2 ^ n
      · rw [e] at hl ⊢
        exact fin _ l hl
      · have hb' : b < 2 ^ n := by clear h; omega
        have wb := (n_Wi hn hb').1
        show L_law_w228 NF z f k (L_law_l228 NF z f k g) ob (n32 n) (n32 (2 ^ n)) i4 i5 _ l (n32 b) = some 1
        unfold L_law_w228
        obtain ⟨q, q1, q2, q3⟩ := vio_e NF (by clear h; omega) h.ci (n32 b)
        rw [Wi_f hn wb] at q3
        have cb := cN_b (fun b => decide (Sat ob cc xc (n32 b))) b
        have ce : cN (fun b => decide (Sat ob cc xc (n32 b))) (b + 1) = cN (fun b => decide (Sat ob cc xc (n32 b))) b + (if decide (Sat ob cc xc (n32 b)) = true then 1 else 0) := rfl
        rw [if_pos (ylt (by clear h; omega) (by clear h; omega) hb'), q2, Option.bind_some, n32_s (i := b) (by clear h; omega)]
        by_cases c : Sat ob cc xc (n32 b)
        · have q0 : q = 0 := q3.mpr c
          rw [decide_eq_true c, if_pos rfl] at ce
          rw [if_pos (by rw [q0]; rfl), n32_s (by clear h; omega), ← ce]
          rcases hl with ⟨l1, l2⟩ | ⟨x, x1, x2, x3, x4⟩
          · rw [if_pos (by rw [l1]; decide)]
            refine ih g (b + 1) (n32 b) (by clear h; omega) (by clear h; omega) (by clear h; omega) (Or.inr ⟨b, by clear h; omega, rfl, c, fun y y1 y2 y3 => ?_⟩)
            exact absurd y2 (l2 y (by clear h; omega))
          · rw [if_neg (by rw [x2]; exact nneg (n32_b (by clear h; omega)).1), x2]
            have ne : ¬ n32 b = n32 x := n32_ne (by clear h; omega) (by clear h; omega) (by clear h; omega)
            rcases bef hn wb (n_Wi hn (k := x) (by clear h; omega)).1 ne with ⟨b1, b2⟩ | ⟨b1, b2⟩
            · rw [b1, Option.bind_some, if_neg (by decide)]
              refine ih g (b + 1) (n32 b) (by clear h; omega) (by clear h; omega) (by clear h; omega) (Or.inr ⟨b, by clear h; omega, rfl, c, fun y y1 y2 y3 => ?_⟩)
              by_cases u : y = x
              · rw [u]; exact b2
              · exact Lx_t b2 (x4 y (by clear h; omega) y2 u)
            · rw [b1, Option.bind_some, if_pos rfl]
              refine ih g (b + 1) (n32 x) (by clear h; omega) (by clear h; omega) (by clear h; omega) (Or.inr ⟨x, by clear h; omega, rfl, x3, fun y y1 y2 y3 => ?_⟩)
              by_cases u : y = b
              · rw [u]; exact b2
              · exact x4 y (by clear h; omega) y2 y3
        · have q0 : ¬ q = 0 := fun e => c (q3.mp e)
          rw [decide_eq_false c, if_neg (by decide)] at ce
          have ce' : cN (fun b => decide (Sat ob cc xc (n32 b))) (b + 1) = cN (fun b => decide (Sat ob cc xc (n32 b))) b := ce
          rw [if_neg (show ¬ n32 q = 0 from n32_ne (j := 0) (by clear h; omega) (by omega) q0), ← ce']
          refine ih g (b + 1) l (by clear h; omega) (by clear h; omega) (by clear h; omega) ?_
          rcases hl with ⟨l1, l2⟩ | ⟨x, x1, x2, x3, x4⟩
          · left
            refine ⟨l1, fun y hy => ?_⟩
            by_cases u : y = b
            · rw [u]; exact c
            · exact l2 y (by clear h; omega)
          · right
            refine ⟨x, by clear h; omega, x2, x3, fun y y1 y2 y3 => ?_⟩
            by_cases u : y = b
            · rw [u] at y2; exact absurd y2 c
            · exact x4 y (by clear h; omega) y2 y3
  exact main 300 NF 0 (-1) (by clear h; omega) (Nat.zero_le _) (by clear h; omega) (Or.inl ⟨rfl, fun y hy => by omega⟩)
/- the writing calls -/
theorem pmsk (NF : Nat) (hNF : 700 < NF) {ob : Rec} {p n : Nat} (hp : p ≤ 8) (h4 : gI ob 4 = n32 p) (hn : n ≤ 8) (h1 : gI ob 1 = full n) (x : Int32) : ∃ m, X_pendingMask NF ob x = some m ∧ Wi n m := by
  unfold X_pendingMask
  have main : ∀ (m fuel i : Nat) (acc : Int32), m < fuel → i ≤ p → p - i ≤ m → ∃ r, X_pendingMask_l4 NF ob fuel x acc (n32 i) = some r ∧ Wi n r := by
    intro m
    induction m with
    | zero =>
      intro fuel i acc hf hi hm
      obtain ⟨g, rfl⟩ : ∃ g, fuel = g + 1 := ⟨fuel - 1, by omega⟩
      refine ⟨acc &&& full n, ?_, f_Wi hn _⟩
      show X_pendingMask_w4 NF ob _ _ _ _ = _
      unfold X_pendingMask_w4
      rw [h4, if_neg (nlt (by omega) (by omega) (by omega)), h1]
    | succ m ih =>
      intro fuel i acc hf hi hm
      obtain ⟨g, rfl⟩ : ∃ g, fuel = g + 1 := ⟨fuel - 1, by omega⟩
      show ∃ r, X_pendingMask_w4 NF ob (X_pendingMask_l4 NF ob g) x acc (n32 i) = some r ∧ _
      unfold X_pendingMask_w4
      by_cases e : i = p
      · rw [h4, if_neg (nlt (by omega) (by omega) (by omega)), h1]; exact ⟨_, rfl, f_Wi hn _⟩
      · have q : ∀ A : Option Int32, chk 8 (n32 i) A = A := fun A => ck32 (m := 8) rfl (by omega) (by omega)
        rw [h4, if_pos (ylt (by omega) (by omega) (by omega)), if_pos (show n32 i < (8 : Int32) from ylt (n := 8) (by omega) (by omega) (by omega)), q, n32_s (by omega)]
        by_cases c : gA ob 1 (n32 i) = x
        · rw [if_pos c, q]; exact ih g (i + 1) _ (by omega) (by omega) (by omega)
        · rw [if_neg c]; exact ih g (i + 1) _ (by omega) (by omega) (by omega)
  exact main 20 NF 0 0 (by omega) (by omega) (by omega)
theorem pxm (NF : Nat) (hNF : 700 < NF) {ob : Rec} {p n : Nat} (hp : p ≤ 8) (h4 : gI ob 4 = n32 p) (hn : n ≤ 8) (h1 : gI ob 1 = full n) : ∃ m, X_pendingXorMask NF ob = some m ∧ Wi n m := by
  unfold X_pendingXorMask
  have main : ∀ (m fuel i : Nat) (acc : Int32), m < fuel → i ≤ p → p - i ≤ m → ∃ r, X_pendingXorMask_l4 NF ob fuel acc (n32 i) = some r ∧ Wi n r := by
    intro m
    induction m with
    | zero =>
      intro fuel i acc hf hi hm
      obtain ⟨g, rfl⟩ : ∃ g, fuel = g + 1 := ⟨fuel - 1, by omega⟩
      refine ⟨acc &&& full n, ?_, f_Wi hn _⟩
      show X_pendingXorMask_w4 NF ob _ _ _ = _
      unfold X_pendingXorMask_w4
      rw [h4, if_neg (nlt (by omega) (by omega) (by omega)), h1]
    | succ m ih =>
      intro fuel i acc hf hi hm
      obtain ⟨g, rfl⟩ : ∃ g, fuel = g + 1 := ⟨fuel - 1, by omega⟩
      show ∃ r, X_pendingXorMask_w4 NF ob (X_pendingXorMask_l4 NF ob g) acc (n32 i) = some r ∧ _
      unfold X_pendingXorMask_w4
      by_cases e : i = p
      · rw [h4, if_neg (nlt (by omega) (by omega) (by omega)), h1]; exact ⟨_, rfl, f_Wi hn _⟩
      · have q : ∀ A : Option Int32, chk 8 (n32 i) A = A := fun A => ck32 (m := 8) rfl (by omega) (by omega)
        rw [h4, if_pos (ylt (by omega) (by omega) (by omega)), if_pos (show n32 i < (8 : Int32) from ylt (n := 8) (by omega) (by omega) (by omega)), q, n32_s (by omega)]
        exact ih g (i + 1) _ (by omega) (by omega) (by omega)
  exact main 20 NF 0 0 (by omega) (by omega) (by omega)
theorem pnp (NF : Nat) (hNF : 700 < NF) {ob : Rec} {p : Nat} (hp : p ≤ 8) (h4 : gI ob 4 = n32 p) : ∃ m, X_pendingNegatedParity NF ob = some m ∧ (m = 0 ∨ m = 1) := by
  unfold X_pendingNegatedParity
  have main : ∀ (m fuel i : Nat) (acc : Int32), m < fuel → i ≤ p → p - i ≤ m → (acc = 0 ∨ acc = 1) → ∃ r, X_pendingNegatedParity_l4 NF ob fuel acc (n32 i) = some r ∧ (r = 0 ∨ r = 1) := by
    intro m
    induction m with
    | zero =>
      intro fuel i acc hf hi hm ha
      obtain ⟨g, rfl⟩ : ∃ g, fuel = g + 1 := ⟨fuel - 1, by omega⟩
      refine ⟨acc, ?_, ha⟩
      show X_pendingNegatedParity_w4 NF ob _ _ _ = _
      unfold X_pendingNegatedParity_w4
      rw [h4, if_neg (nlt (by omega) (by omega) (by omega))]
    | succ m ih =>
      intro fuel i acc hf hi hm ha
      obtain ⟨g, rfl⟩ : ∃ g, fuel = g + 1 := ⟨fuel - 1, by omega⟩
      show ∃ r, X_pendingNegatedParity_w4 NF ob (X_pendingNegatedParity_l4 NF ob g) acc (n32 i) = some r ∧ _
      unfold X_pendingNegatedParity_w4
      by_cases e : i = p
      · rw [h4, if_neg (nlt (by omega) (by omega) (by omega))]; exact ⟨_, rfl, ha⟩
      · have q : ∀ A : Option Int32, chk 8 (n32 i) A = A := fun A => ck32 (m := 8) rfl (by omega) (by omega)
        rw [h4, if_pos (ylt (by omega) (by omega) (by omega)), if_pos (show n32 i < (8 : Int32) from ylt (n := 8) (by omega) (by omega) (by omega)), q, n32_s (by omega)]
        by_cases c : gA ob 1 (n32 i) = 0
        · rw [if_pos c]; exact ih g (i + 1) _ (by omega) (by omega) (by omega) ha
        · rw [if_neg c]; exact ih g (i + 1) _ (by omega) (by omega) (by omega) (x01 ha (Or.inr rfl)).2
  exact main 20 NF 0 0 (by omega) (by omega) (by omega) (Or.inl rfl)
theorem EC_c {ob r : Rec} {n xc k : Nat} {pv : Nat → Nat} (h : EC ob n xc k pv) (hi : ∀ j, 8 ≤ j → j ≤ 9 → gI r j = gI ob j) (ha : ∀ j x, 4 ≤ j → j ≤ 5 ∨ (7 ≤ j ∧ j ≤ 9) → gA r j x = gA ob j x) : EC r n xc k pv := by
  obtain ⟨a, b, c, d, e⟩ := h
  have xs : ∀ b, Xs r xc b ↔ Xs ob xc b := fun b => ⟨fun hh x hx => by have := hh x hx; rw [ha 4 _ (by omega) (by omega), ha 5 _ (by omega) (by omega)] at this; exact this, fun hh x hx => by rw [ha 4 _ (by omega) (by omega), ha 5 _ (by omega) (by omega)]; exact hh x hx⟩
  have r7 : ∀ x, gA r 7 x = gA ob 7 x := fun x => ha 7 x (by omega) (by omega)
  have r8 : ∀ x, gA r 8 x = gA ob 8 x := fun x => ha 8 x (by omega) (by omega)
  have r9 : ∀ x, gA r 9 x = gA ob 9 x := fun x => ha 9 x (by omega) (by omega)
  refine ⟨by rw [hi 8 (by omega) (by omega)]; exact a, fun x hx => by rw [r7, r8]; exact b x hx, fun x hx => by rw [r9, r7]; exact c x hx, fun x y h1 h2 h3 => by rw [r7]; exact d x y h1 h2 h3, ?_⟩
  rw [hi 9 (by omega) (by omega)]
  rcases e with ⟨e1, e2⟩ | ⟨e1, e2⟩
  · left
    refine ⟨e1, fun b => ?_⟩
    rw [xs b, e2 b]
    exact ⟨fun hh x hx => by rw [r7, r8]; exact hh x hx, fun hh x hx => by have := hh x hx; rw [r7, r8] at this; exact this⟩
  · right
    exact ⟨e1, fun b hb => e2 b ((xs b).mp hb)⟩
theorem adl {ob : Rec} {n cc xc : Nat} (hn : n ≤ 8) (h : SX ob n cc xc) (v w : Int32) : ∃ a r, X_addLiteral ob v w = some (a, r) ∧ SX r n cc xc := by
  obtain ⟨p, p8, e4⟩ := h.pl
  unfold X_addLiteral
  by_cases c1 : v < 0
  · rw [if_pos c1]; exact ⟨_, ob, rfl, h⟩
  · rw [if_neg c1]
    by_cases c2 : v < gI ob 0
    · rw [if_pos c2, e4]
      by_cases c3 : p < 8
      · have q : ∀ A : Option (Int32 × Rec), chk 8 (n32 p) A = A := fun A => ck32 (m := 8) rfl c3 (by clear h; omega)
        rw [if_pos (show n32 p < (8 : Int32) from ylt (n := 8) (by clear h; omega) (by omega) c3), q, q, n32_s (by clear h; omega)]
        refine ⟨_, _, rfl, ?_⟩
        generalize hz : sI (sA (sA ob 0 (n32 p) v) 1 (n32 p) (w &&& 1)) 4 (n32 (p + 1)) = z
        have zi : ∀ j, ¬ j = 4 → gI z j = gI ob j := fun j hj => by rw [← hz, gI_sI, if_neg hj]; rfl
        have za : ∀ j x, 2 ≤ j → gA z j x = gA ob j x := fun j x hj => by rw [← hz, gA_sI, gA_sA, if_neg (fun e => by clear h; omega), gA_sA, if_neg (fun e => by clear h; omega)]
        obtain ⟨a, b, _, d, e⟩ := h
        have ss : ∀ b, Sat z cc xc b ↔ Sat ob cc xc b := fun b => Sat_c (fun j x h1 _ => za j x h1) b
        refine ⟨CI_c a (fun j hj => zi j (by omega)) (fun j x h1 _ => za j x h1), ?_, ⟨p + 1, by omega, by rw [← hz]; rfl⟩, by rw [zi 7 (by decide)]; exact d, ?_⟩
        · rw [zi 10 (by decide)]
          rcases b with b | ⟨b1, k, pv, b2⟩
          · exact Or.inl b
          · exact Or.inr ⟨b1, k, pv, EC_c b2 (fun j h1 h2 => zi j (by omega)) (fun j x h1 _ => za j x (by omega))⟩
        · rw [zi 2 (by decide), zi 3 (by decide)]
          rcases e with e | ⟨e1, e2⟩ | ⟨e1, e2, e3⟩
          · exact Or.inl e
          · exact Or.inr (Or.inl ⟨e1, fun b hb => e2 b ⟨hb.1, (ss b).mp hb.2⟩⟩)
          · exact Or.inr (Or.inr ⟨e1, ⟨e2.1, (ss _).mpr e2.2⟩, fun b hb ne => e3 b ⟨hb.1, (ss b).mp hb.2⟩ ne⟩)
      · rw [if_neg (show ¬ n32 p < (8 : Int32) from nlt (n := 8) (by clear h; omega) (by omega) c3)]; exact ⟨_, ob, rfl, h⟩
    · rw [if_neg c2]; exact ⟨_, ob, rfl, h⟩
theorem puo {ob : Rec} {o : Nat} (h7 : gI ob 7 = n32 o) (ho : o < 40) (x : Int32) : X_pushOrder ob x = some (sI (sA ob 6 (n32 o) x) 7 (n32 (o + 1))) := by
  unfold X_pushOrder
  rw [h7, if_neg (nneg (n32_b (by omega)).1), if_pos (show n32 o < (40 : Int32) from ylt (n := 40) (by omega) (by omega) ho), ck32 (m := 40) rfl ho (by omega), n32_s (by omega)]
theorem cmc (NF : Nat) (hNF : 700 < NF) {ob : Rec} {n cc xc : Nat} (hn : n ≤ 8) (h : SX ob n cc xc) : ∃ a r cc', X_commitClause NF ob = some (a, r) ∧ SX r n cc' xc := by
  obtain ⟨p, p8, e4⟩ := h.pl
  obtain ⟨o, o40, e7⟩ := h.ol
  have e5 := h.ci.e5
  have e1 := h.ci.e1
  unfold X_commitClause
  rw [e5.1, e7]
  by_cases c1 : cc < 24
  · rw [if_pos (show n32 cc < (24 : Int32) from ylt (n := 24) (by clear h; omega) (by omega) c1)]
    by_cases c2 : o < 40
    · obtain ⟨m1, a1, a2⟩ := pmsk NF hNF p8 e4 hn e1 0
      obtain ⟨m2, b1, b2⟩ := pmsk NF hNF (ob := sA ob 2 (n32 cc) m1) p8 e4 hn e1 1
      have q : ∀ A : Option (Int32 × Rec), chk 24 (n32 cc) A = A := fun A => ck32 (m := 24) rfl c1 (by clear h; omega)
      rw [if_pos (show n32 o < (40 : Int32) from ylt (n := 40) (by clear h; omega) (by omega) c2), a1, Option.bind_some, q, b1, Option.bind_some, q, n32_s (by clear h; omega), puo (ob := sI (sA (sA ob 2 (n32 cc) m1) 3 (n32 cc) m2) 5 (n32 (cc + 1))) e7 c2, Option.bind_some]
      refine ⟨_, _, cc + 1, rfl, ?_⟩
      generalize hz : sI (sI (sI (sA (sI (sA (sA ob 2 (n32 cc) m1) 3 (n32 cc) m2) 5 (n32 (cc + 1))) 6 (n32 o) 1) 7 (n32 (o + 1))) 4 0) 2 2 = z
      have zi : ∀ j, ¬ j = 2 → ¬ j = 4 → ¬ j = 5 → ¬ j = 7 → gI z j = gI ob j := fun j h1 h2 h3 h4 => by rw [← hz]; simp [gI_sI, gI_sA, h1, h2, h3, h4]
      have za : ∀ j x, ¬ j = 2 → ¬ j = 3 → ¬ j = 6 → gA z j x = gA ob j x := fun j x h1 h2 h3 => by rw [← hz]; simp [gA_sI, gA_sA, h1, h2, h3]
      have z2 : ∀ x, x < cc → gA z 2 (n32 x) = gA ob 2 (n32 x) ∧ gA z 3 (n32 x) = gA ob 3 (n32 x) := fun x hx => by
        have ne : ¬ n32 x = n32 cc := n32_ne (by clear h; omega) (by clear h; omega) (by clear h; omega)
        rw [← hz]; simp [gA_sI, gA_sA, ne]
      have zc : gA z 2 (n32 cc) = m1 ∧ gA z 3 (n32 cc) = m2 := by rw [← hz]; simp [gA_sI, gA_sA]
      obtain ⟨⟨x1, x2, x3, x4, x5, x6⟩, b, _, _, _⟩ := h
      refine ⟨⟨by rw [zi 0 (by decide) (by decide) (by decide) (by decide)]; exact x1, by rw [zi 1 (by decide) (by decide) (by decide) (by decide)]; exact x2, ⟨by rw [← hz]; rfl, by omega⟩, by rw [zi 6 (by decide) (by decide) (by decide) (by decide)]; exact x4, fun x hx => ?_, fun x hx => by rw [za 4 _ (by decide) (by decide) (by decide), za 5 _ (by decide) (by decide) (by decide)]; exact x6 x hx⟩, ?_, ⟨0, by omega, by rw [← hz]; rfl⟩, ⟨o + 1, by omega, by rw [← hz]; rfl⟩, Or.inl (by rw [← hz]; rfl)⟩
      · by_cases y : x = cc
        · rw [y, zc.1, zc.2]; exact ⟨a2, b2⟩
        · rw [(z2 x (by omega)).1, (z2 x (by omega)).2]; exact x5 x (by omega)
      · rw [zi 10 (by decide) (by decide) (by decide) (by decide)]
        rcases b with b | ⟨b1, k, pv, b2⟩
        · exact Or.inl b
        · exact Or.inr ⟨b1, k, pv, EC_c b2 (fun j h1 h2 => zi j (by omega) (by omega) (by omega) (by omega)) (fun j x h1 h2 => za j x (by omega) (by omega) (by omega))⟩
    · rw [if_neg (show ¬ n32 o < (40 : Int32) from nlt (n := 40) (by clear h; omega) (by omega) c2)]; exact ⟨_, ob, cc, rfl, h⟩
  · rw [if_neg (show ¬ n32 cc < (24 : Int32) from nlt (n := 24) (by clear h; omega) (by omega) c1)]; exact ⟨_, ob, cc, rfl, h⟩
theorem cmx (NF : Nat) (hNF : 700 < NF) {ob : Rec} {n cc xc : Nat} (hn : n ≤ 8) (h : SX ob n cc xc) (t : Int32) : ∃ a r xc', X_commitXor NF ob t = some (a, r) ∧ SX r n cc xc' := by
  obtain ⟨p, p8, e4⟩ := h.pl
  obtain ⟨o, o40, e7⟩ := h.ol
  have e6 := h.ci.e6
  have e1 := h.ci.e1
  unfold X_commitXor
  rw [e6.1, e7]
  by_cases c1 : xc < 16
  · rw [if_pos (show n32 xc < (16 : Int32) from ylt (n := 16) (by clear h; omega) (by omega) c1)]
    by_cases c2 : o < 40
    · obtain ⟨m2, b1, b2⟩ := pnp NF hNF p8 e4
      rw [if_pos (show n32 o < (40 : Int32) from ylt (n := 40) (by clear h; omega) (by omega) c2), b1, Option.bind_some]
      have main : ∀ rh : Int32, (rh = 0 ∨ rh = 1) → ∃ a r xc', X_commitXor_b42 NF ob (n32 xc) rh = some (a, r) ∧ SX r n cc xc' := by
        intro rh hr
        obtain ⟨m1, a1, a2⟩ := pxm NF hNF p8 e4 hn e1
        have q : ∀ A : Option (Int32 × Rec), chk 16 (n32 xc) A = A := fun A => ck32 (m := 16) rfl c1 (by clear h; omega)
        unfold X_commitXor_b42
        rw [a1, Option.bind_some, q, q, e6.1, n32_s (by clear h; omega), puo (ob := sI (sA (sA ob 4 (n32 xc) m1) 5 (n32 xc) rh) 6 (n32 (xc + 1))) e7 c2, Option.bind_some]
        refine ⟨_, _, xc + 1, rfl, ?_⟩
        generalize hz : sI (sI (sI (sI (sA (sI (sA (sA ob 4 (n32 xc) m1) 5 (n32 xc) rh) 6 (n32 (xc + 1))) 6 (n32 o) 2) 7 (n32 (o + 1))) 4 0) 2 2) 10 0 = z
        have zi : ∀ j, j ≤ 1 ∨ j = 5 → gI z j = gI ob j := fun j hj => by rw [← hz]; simp [gI_sI, gI_sA, show ¬ j = 10 by clear h; omega, show ¬ j = 2 by clear h; omega, show ¬ j = 4 by clear h; omega, show ¬ j = 7 by clear h; omega, show ¬ j = 6 by clear h; omega]
        have za : ∀ j x, ¬ j = 4 → ¬ j = 5 → ¬ j = 6 → gA z j x = gA ob j x := fun j x h1 h2 h3 => by rw [← hz]; simp [gA_sI, gA_sA, h1, h2, h3]
        have z2 : ∀ x, x < xc → gA z 4 (n32 x) = gA ob 4 (n32 x) ∧ gA z 5 (n32 x) = gA ob 5 (n32 x) := fun x hx => by
          have ne : ¬ n32 x = n32 xc := n32_ne (by clear h; omega) (by clear h; omega) (by clear h; omega)
          rw [← hz]; simp [gA_sI, gA_sA, ne]
        have zc : gA z 4 (n32 xc) = m1 ∧ gA z 5 (n32 xc) = rh := by rw [← hz]; simp [gA_sI, gA_sA]
        obtain ⟨⟨x1, x2, x3, x4, x5, x6⟩, b, _, _, _⟩ := h
        refine ⟨⟨by rw [zi 0 (by omega)]; exact x1, by rw [zi 1 (by omega)]; exact x2, by rw [zi 5 (by omega)]; exact x3, ⟨by rw [← hz]; rfl, by omega⟩, fun x hx => by rw [za 2 _ (by decide) (by decide) (by decide), za 3 _ (by decide) (by decide) (by decide)]; exact x5 x hx, fun x hx => ?_⟩, Or.inl (by rw [← hz]; rfl), ⟨0, by omega, by rw [← hz]; rfl⟩, ⟨o + 1, by omega, by rw [← hz]; rfl⟩, Or.inl (by rw [← hz]; rfl)⟩
        by_cases y : x = xc
        · rw [y, zc.1, zc.2]; exact ⟨a2, hr⟩
        · rw [(z2 x (by omega)).1, (z2 x (by omega)).2]; exact x6 x (by omega)
      by_cases c3 : t = 0
      · rw [if_pos c3]; exact main m2 b2
      · rw [if_neg c3]; exact main _ (x01 b2 (Or.inr rfl)).2
    · rw [if_neg (show ¬ n32 o < (40 : Int32) from nlt (n := 40) (by clear h; omega) (by omega) c2)]; exact ⟨_, ob, xc, rfl, h⟩
  · rw [if_neg (show ¬ n32 xc < (16 : Int32) from nlt (n := 16) (by clear h; omega) (by omega) c1)]; exact ⟨_, ob, xc, rfl, h⟩
/-- fewer constraints -/
theorem SX_p {ob z : Rec} {n cc xc cc' xc' o : Nat} (h : SX ob n cc xc) (hc : cc' ≤ cc) (hx : xc' ≤ xc) (h5 : gI z 5 = n32 cc') (h6 : gI z 6 = n32 xc') (h7 : gI z 7 = n32 o) (ho : o ≤ 40) (h2 : gI z 2 = 2) (hi : ∀ j, j ≤ 1 ∨ j = 4 ∨ j = 8 ∨ j = 9 → gI z j = gI ob j) (ha : ∀ j x, gA z j x = gA ob j x) (h10 : gI z 10 = 0 ∨ (gI z 10 = gI ob 10 ∧ xc' = xc)) : SX z n cc' xc' := by
  obtain ⟨⟨x1, x2, x3, x4, x5, x6⟩, b, c, d, e⟩ := h
  refine ⟨⟨by rw [hi 0 (by omega)]; exact x1, by rw [hi 1 (by omega)]; exact x2, ⟨h5, by omega⟩, ⟨h6, by omega⟩, fun x hx' => by rw [ha, ha]; exact x5 x (by omega), fun x hx' => by rw [ha, ha]; exact x6 x (by omega)⟩, ?_, by rw [hi 4 (by omega)]; exact c, ⟨o, ho, h7⟩, Or.inl h2⟩
  rcases h10 with y | ⟨y1, y2⟩
  · exact Or.inl y
  · rw [y1, y2]
    rcases b with b | ⟨b1, k, pv, b2⟩
    · exact Or.inl b
    · exact Or.inr ⟨b1, k, pv, EC_c b2 (fun j h1 h2 => hi j (by omega)) (fun j x _ _ => ha j x)⟩
theorem pop {ob : Rec} {n cc xc : Nat} (hn : n ≤ 8) (h : SX ob n cc xc) : ∃ a r cc' xc', X_popConstraint ob = some (a, r) ∧ SX r n cc' xc' := by
  obtain ⟨o, o40, e7⟩ := h.ol
  have e5 := h.ci.e5
  have e6 := h.ci.e6
  unfold X_popConstraint
  rw [e7]
  by_cases c1 : o = 0
  · rw [c1, if_neg (show ¬ (0 : Int32) < n32 0 by decide)]; exact ⟨_, ob, cc, xc, rfl, h⟩
  · obtain ⟨p, rfl⟩ : ∃ p, o = p + 1 := ⟨o - 1, by clear h; omega⟩
    have pos : ∀ k, k < 100 → (0 : Int32) < n32 (k + 1) := fun k hk => by rw [lt_i, nt _ (by clear h; omega)]; show (0 : Int) < ((k + 1 : Nat) : Int); clear h; omega
    rw [if_pos (pos p (by clear h; omega)), if_neg (show ¬ (40 : Int32) < n32 (p + 1) from nlt (i := 40) (by omega) (by clear h; omega) (by clear h; omega)), n32_p (by clear h; omega), ck32 (m := 40) rfl (by clear h; omega) (by clear h; omega), e5.1, e6.1]
    by_cases c2 : gA ob 6 (n32 p) = 1
    · rw [if_pos c2]
      by_cases c3 : cc = 0
      · rw [c3, if_neg (show ¬ (0 : Int32) < n32 0 by decide)]
        exact ⟨_, _, cc, xc, rfl, SX_p (o := p) h (Nat.le_refl _) (Nat.le_refl _) e5.1 e6.1 rfl (by clear h; omega) rfl (fun j hj => by rw [gI_sI, if_neg (by clear h; omega), gI_sI, if_neg (by clear h; omega)]) (fun _ _ => rfl) (Or.inr ⟨rfl, rfl⟩)⟩
      · obtain ⟨c, rfl⟩ : ∃ c, cc = c + 1 := ⟨cc - 1, by clear h; omega⟩
        rw [if_pos (pos c (by clear h; omega)), n32_p (by clear h; omega)]
        exact ⟨_, _, c, xc, rfl, SX_p (o := p) h (by clear h; omega) (Nat.le_refl _) rfl e6.1 rfl (by clear h; omega) rfl (fun j hj => by rw [gI_sI, if_neg (by clear h; omega), gI_sI, if_neg (by clear h; omega), gI_sI, if_neg (by clear h; omega)]) (fun _ _ => rfl) (Or.inr ⟨rfl, rfl⟩)⟩
    · rw [if_neg c2]
      by_cases c3 : xc = 0
      · rw [c3, if_neg (show ¬ (0 : Int32) < n32 0 by decide)]
        exact ⟨_, _, cc, xc, rfl, SX_p (o := p) h (Nat.le_refl _) (Nat.le_refl _) e5.1 e6.1 rfl (by clear h; omega) rfl (fun j hj => by rw [gI_sI, if_neg (by clear h; omega), gI_sI, if_neg (by clear h; omega), gI_sI, if_neg (by clear h; omega)]) (fun _ _ => rfl) (Or.inl rfl)⟩
      · obtain ⟨c, rfl⟩ : ∃ c, xc = c + 1 := ⟨xc - 1, by clear h; omega⟩
        rw [if_pos (pos c (by clear h; omega)), n32_p (by clear h; omega)]
        exact ⟨_, _, cc, c, rfl, SX_p (o := p) h (Nat.le_refl _) (by clear h; omega) e5.1 rfl rfl (by clear h; omega) rfl (fun j hj => by rw [gI_sI, if_neg (by clear h; omega), gI_sI, if_neg (by clear h; omega), gI_sI, if_neg (by clear h; omega), gI_sI, if_neg (by clear h; omega)]) (fun _ _ => rfl) (Or.inl rfl)⟩
theorem clp {ob : Rec} {n cc xc : Nat} (h : SX ob n cc xc) : SX (sI ob 4 0) n cc xc := by
  obtain ⟨a, b, _, d, e⟩ := h
  refine ⟨CI_c a (fun j hj => by rw [gI_sI, if_neg (by omega)]) (fun _ _ _ _ => rfl), ?_, ⟨0, by omega, rfl⟩, d, e⟩
  rcases b with b | ⟨b1, k, pv, b2⟩
  · exact Or.inl b
  · exact Or.inr ⟨b1, k, pv, EC_c b2 (fun j h1 h2 => by rw [gI_sI, if_neg (by omega)]) (fun _ _ _ _ => rfl)⟩
theorem b127 (NF : Nat) (hNF : 700 < NF) (z : Int32) (f : Int32 → Int32) {k : K7} {n cc xc : Nat} (hn : n ≤ 8) {i4 i5 : Int32} (nx : NX k n i4 i5) {ob : Rec} (h : SX ob n cc xc) (u op v t : Int32) : L_law_b127 NF z f k ob (n32 n) (n32 (2 ^ n)) i4 i5 u op v t = some 1 := by
  unfold L_law_b127
  by_cases c1 : (5 : Int32) < op
  · rw [if_pos c1]
    by_cases c2 : (8 : Int32) < op
    · rw [if_pos c2]
      by_cases c3 : (10 : Int32) < op
      · rw [if_pos c3]
        by_cases c4 : (12 : Int32) < op
        · rw [if_pos c4]
          by_cases c5 : op = 13
          · unfold X_clearPending
            rw [if_pos c5, Option.bind_some]
            exact l228 NF hNF z f hn nx (clp h)
          · rw [if_neg c5]
            exact l228 NF hNF z f hn nx h
        · obtain ⟨a, r, cc', xc', r1, r2⟩ := pop hn h
          rw [if_neg c4, r1, bind2_some]
          exact l228 NF hNF z f hn nx r2
      · rw [if_neg c3]
        have x : ∀ t, L_law_b186 NF z f k ob (n32 n) (n32 (2 ^ n)) i4 i5 t = some 1 := fun t => by
          obtain ⟨a, r, xc', r1, r2⟩ := cmx NF hNF hn h t
          unfold L_law_b186
          rw [r1, bind2_some]
          exact l228 NF hNF z f hn nx r2
        by_cases c4 : (u / 16) &&& 1 = 1
        · rw [if_pos c4]; exact x 1
        · rw [if_neg c4]; exact x 0
    · obtain ⟨a, r, cc', r1, r2⟩ := cmc NF hNF hn h
      rw [if_neg c2, r1, bind2_some]
      exact l228 NF hNF z f hn nx r2
  · obtain ⟨a, r, r1, r2⟩ := adl hn h v t
    rw [if_neg c1, r1, bind2_some]
    exact l228 NF hNF z f hn nx r2
theorem law_l (NF : Nat) (hNF : 700 < NF) (z : Int32) (f : Int32 → Int32) {n : Nat} (hn : 1 ≤ n ∧ n ≤ 8) (i4 : Int32) (h4 : 0 ≤ i4.toInt ∧ i4.toInt ≤ 300) : ∀ (m fuel : Nat) (ob : Rec) (cc xc : Nat) (i : Int32), m < fuel → SX ob n cc xc → (0 ≤ i.toInt ∧ i.toInt ≤ i4.toInt + 1) → i4.toInt + 1 - i.toInt ≤ m → L_law_l70 NF z f fuel ob (n32 n) (n32 (2 ^ n)) i4 i = some 1 := by
  intro m
  induction m with
  | zero =>
    intro fuel ob cc xc i hf h hi hm
    obtain ⟨g, rfl⟩ : ∃ g, fuel = g + 1 := ⟨fuel - 1, by clear h; omega⟩
    show L_law_w70 NF z f _ ob _ _ i4 i = _
    unfold L_law_w70
    rw [if_pos (by rw [lt_i]; clear h; omega)]
  | succ m ih =>
    intro fuel ob cc xc i hf h hi hm
    obtain ⟨g, rfl⟩ : ∃ g, fuel = g + 1 := ⟨fuel - 1, by clear h; omega⟩
    show L_law_w70 NF z f (L_law_l70 NF z f g) ob _ _ i4 i = _
    unfold L_law_w70
    by_cases c : i4 < i
    · rw [if_pos c]
    · have c' : ¬ i4.toInt < i.toInt := by rw [lt_i] at c; exact c
      have e1 : (i + 1).toInt = i.toInt + 1 := s1 (by clear h; omega)
      have nx : NX (L_law_l70 NF z f g) n i4 i := fun ob' cc' xc' h' => ih g ob' cc' xc' (i + 1) (by clear h h'; omega) h' (by rw [e1]; clear h h'; omega) (by rw [e1]; clear h h'; omega)
      rw [if_neg c]
      by_cases d : i < 1
      · rw [if_pos d]; exact l228 NF hNF z f hn.2 nx h
      · have cell : ∃ v, L_cell z f i = some v := by
          unfold L_cell
          by_cases y : i < z
          · rw [if_pos y, chk_ok ⟨hi.1, lt_i.mp y⟩]; exact ⟨_, rfl⟩
          · rw [if_neg y]; exact ⟨_, rfl⟩
        obtain ⟨v, ev⟩ := cell
        have dz : ∀ A : Option Int32, dvz (n32 n) A = A := fun A => by
          unfold dvz; rw [if_neg (show ¬ n32 n = 0 from n32_ne (j := 0) (by clear h; omega) (by omega) (by clear h; omega))]
        rw [if_neg d, ev, Option.bind_some, dz]
        by_cases y : ((v &&& 2147483647) / 256) &&& 1 = 1
        · rw [if_pos y]; exact b127 NF hNF z f hn.2 nx h _ _ _ _
        · rw [if_neg y]; exact b127 NF hNF z f hn.2 nx h _ _ _ _
theorem pw : ∀ n ∈ List.range 9, (1 : Int32) <<< (n32 n &&& 31) = n32 (2 ^ n) := by decide +kernel
theorem owed : ∀ (z : Int32) (f : Int32 → Int32), ¬ z < 0 → z ≤ 260 → ∃ NF, L_law NF z f = some 1 := by
  intro z f h0 h1
  refine ⟨1000, ?_⟩
  have h1' : z.toInt ≤ 260 := le_i.mp h1
  have h0' := nneg' h0
  have cell : ∃ v, L_cell z f 0 = some v := by
    unfold L_cell
    by_cases y : (0 : Int32) < z
    · rw [if_pos y, chk_ok ⟨by decide, lt_i.mp y⟩]; exact ⟨_, rfl⟩
    · rw [if_neg y]; exact ⟨_, rfl⟩
  obtain ⟨v, ev⟩ := cell
  have b := and_b v 7 7 rfl (by decide)
  obtain ⟨k, k1, k2⟩ := n32_e (v &&& 7) b.1
  have en : (1 : Int32) + (v &&& 7) = n32 (1 + k) := by rw [k1]; exact n32_add (i := 1) (by omega) (by omega)
  have n8 : 1 ≤ 1 + k ∧ 1 + k ≤ 8 := by omega
  generalize hN : 1 + k = n at en n8
  have hi : ∃ o, X_init (n32 n) = some o ∧ SX o n 0 0 ∧ gI o 0 = n32 n := by
    unfold X_init
    rw [if_neg (show ¬ n32 n < (1 : Int32) from nlt (n := 1) (by omega) (by omega) (by omega))]
    unfold X_init_b149
    rw [if_neg (show ¬ (12 : Int32) < n32 n from nlt (i := 12) (by omega) (by omega) (by omega))]
    unfold X_init_b158
    refine ⟨_, rfl, ⟨⟨rfl, rfl, ⟨rfl, by omega⟩, ⟨rfl, by omega⟩, fun c hc => by omega, fun x hx => by omega⟩, Or.inl rfl, ⟨0, by omega, rfl⟩, ⟨0, by omega, rfl⟩, Or.inl rfl⟩, rfl⟩
  obtain ⟨o, o1, o2, o3⟩ := hi
  unfold L_law X_variables
  rw [ev, Option.bind_some, en, o1, Option.bind_some, o3, Option.bind_some, if_neg (show ¬ n32 n < (1 : Int32) from nlt (n := 1) (by omega) (by omega) (by omega)), if_neg (show ¬ (12 : Int32) < n32 n from nlt (i := 12) (by omega) (by omega) (by omega)), pw n (List.mem_range.mpr (by omega))]
  have ez : (z - 1).toInt = z.toInt - 1 := by
    rw [sb (by show -2147483648 ≤ z.toInt - (1 : Int) ∧ z.toInt - (1 : Int) < 2147483648; clear o2; omega)]; rfl
  have fin : ∀ i4 : Int32, i4.toInt ≤ 300 → L_law_b59 1000 z f o (n32 n) (n32 (2 ^ n)) i4 = some 1 := by
    intro i4 h4
    unfold L_law_b59
    by_cases c : i4 < 0
    · rw [if_pos c]
      exact law_l 1000 (by omega) z f n8 0 (by decide) 400 1000 o 0 0 0 (by omega) o2 (by decide) (by decide)
    · rw [if_neg c]
      have c' := nneg' c
      exact law_l 1000 (by omega) z f n8 i4 ⟨c', h4⟩ 400 1000 o 0 0 0 (by omega) o2 ⟨by decide, by show (0 : Int) ≤ i4.toInt + 1; clear o2; omega⟩ (by show i4.toInt + 1 - 0 ≤ _; clear o2; omega)
  by_cases c : (300 : Int32) < z - 1
  · rw [if_pos c]; exact fin 300 (by decide)
  · rw [if_neg c]; exact fin (z - 1) (by rw [ez]; clear o2; omega)
-- owed : ∀ (z : Int32) (f : Int32 → Int32), ¬ z < 0 → z ≤ 260 → ∃ NF, L_law NF z f = some 1
--COMES--
set_option maxRecDepth 65536 in
set_option maxHeartbeats 4000000 in
theorem comes_1 {Post : Tables → Env → Array Value → State → Outcome → State → Prop} (hpost : ∀ tb e args s v u, (limb_1_1.after args s (.returned v) u = true ∧ limb_1_2.after args s (.returned v) u = true ∧ True) → FrameEnd s (.returned v) u (Jvm.fieldLocs frame_1_writes args s ++ Jvm.arrayLocs frame_1_arrays args s ++ Jvm.staticLocs frame_1_statics s) 48 704 → Post tb e args s (.returned v) u) :
    ArmFor flags0 classFile x code maxLocals ret World_1 tables_1 room_1 Calls_1 rest_1 Pre_1 Post := by
  intro l hfl _ _ p e ha hc hk s m args below hf hA hF happ hP
  obtain ⟨hcalls, hrest, hpre⟩ := hP
  obtain ⟨-, -, -, hnamed, -, -, -, hat⟩ := (Spec.applies_iff hf).mp happ
  obtain ⟨hg, hn⟩ := and_e (Cond.before_iff.mp (show (Jvm.Cond.and given_1 narrow_1).before args s = true from hpre))
  obtain ⟨hcnt, hg⟩ := and_e hg
  obtain ⟨w0, rfl⟩ : ∃ w0 : Value, args = #[w0] := by
    have hs : args.size = 1 := by simpa [Cond.value, given_1] using hcnt
    obtain ⟨L⟩ := args
    match L, hs with
    | [w0], _ => exact ⟨w0, rfl⟩
  have hw := fun d (hd : d ∈ tables_1) => atoms_spec (ws := Jvm.Cond.code x code maxLocals ret :: tables_1) hat d (List.mem_cons_of_mem _ hd)
  have hfit : Fit s := fun {y c} hc i hi => by
    obtain ⟨ha, rfl⟩ := Array.getElem?_eq_some_iff.mp hc
    have q := List.all_eq_true.mp ((Array.all_eq_true_iff_forall_mem.mp hF) _ (Array.getElem_mem ha)) i (List.mem_range.mpr hi)
    simpa [Array.getElem?_eq_getElem hi] using q
  obtain ⟨n1, n2⟩ := and_e hn
  obtain ⟨sa, ev⟩ := arr_v n1
  obtain rfl : w0 = .ref sa := Option.some.inj ev
  obtain ⟨cl, A⟩ := Arr.start ev n1
  have hsz : cl.slots.size < 2 ^ 31 := by
    rcases Nat.lt_or_ge cl.slots.size (2 ^ 31) with q | q
    · exact q
    · have u : (Term.length (.arg 0)).eval #[.ref sa] s none [] s = none := by
        have v : s.arrayAt? sa = some cl := A.fin (Vm.Alike.refl _)
        have e' : ¬ cl.slots.size < 2 ^ 31 := by omega
        simp only [Term.eval] at ev ⊢
        simp [v, e']
      simp [Cond.value, u] at n2
  obtain ⟨z, hz, F⟩ := Scr.start hfit A hsz
  have hle : z ≤ 260 := by
    have u := len_f (t := .arg 0) (args := #[.ref sa]) (first := s) (o := none) (idx := []) ev (A.fin (Vm.Alike.refl _)) hsz
    rw [hz]; first | (simp only [Cond.value, u] at n2; simpa [Term.eval] using n2) | (simp [Cond.value, u, Term.int_eval] at n2; exact n2) | (simp [Cond.value, u, Term.int_eval] at n2; simpa using n2)
  obtain ⟨NF, hlaw⟩ := owed z (atv cl) F.2.2.1 hle
  have hp := L_law_pay (C := (l, s, s.heap.size, #[.ref sa])) (⟨cl, F, rfl⟩ : ScrF (l, s, s.heap.size, #[.ref sa]) sa z (atv cl)) hlaw hw s.heap (Rep.start s) tables_1
  obtain ⟨n, o, h1, h2, h3, v, L, rfl, ⟨N, G', -, rfl⟩, hq⟩ := hp p e ha hc hk s m _ below hf ((Spec.applies_iff_loose hf).mp happ).1 ⟨rfl, State.Warmed39.refl s, rfl⟩ trivial
  refine ⟨n, _, h1, h2, h3, hpost _ _ _ _ _ _ ⟨Cond.after_iff.mpr rfl, Cond.after_iff.mpr (eq_i res_at (Term.int_eval (1)) rfl), trivial⟩ ⟨hq.1, hq.2.1, (hq.2.2.sift fun y hy => Or.inr (N y hy)).mono (by decide) (by decide)⟩⟩
theorem main_1_1 : Claimed_1_1 := comes_1 fun _ _ _ _ _ _ h hF => ⟨h.1, hF⟩
theorem main_1_2 : Claimed_1_2 := comes_1 fun _ _ _ _ _ _ h hF => ⟨h.2.1, hF⟩
end Jvm.Pilot.@@N@@
namespace Jvm.Pilot.@@N@@
open Jvm Jvm.ClassFile Sem Op Lib Jvm.Free Jvm.Stand Jvm.Pilot.@@N@@.Jvm.D
/-! MADE BY PROGRAM (witnessworld.py) out of the Statement's table words and the real class files: 11 classes; the members and pool entries that the words name. The judged class is class 1, her method 3. -/
namespace start1
open Jvm.ClassFile
def u (s : String) : CpInfo := .utf8 (stringToUtf16 s)
/-- a pool by its gaps: so many unusable entries, then the entry; so many at the end -/
def gap : Nat → List CpInfo → List CpInfo
  | 0, r => r
  | n + 1, r => .unusable :: gap n r
def poolList (es : List (Nat × CpInfo)) (last : Nat) : List CpInfo := es.foldr (fun e r => gap e.1 (e.2 :: r)) (gap last [])
def pool (es : List (Nat × CpInfo)) (last : Nat) : Array CpInfo := ⟨poolList es last⟩
def fileOf (pool : Array CpInfo) (this : Nat) (attrs : Array Attribute := #[]) (ms : Array MethodInfo := #[]) (fl : Nat := 33) (sup : Nat := 0) (ifs : Array Nat := #[]) (fds : Array FieldInfo := #[]) : ClassFile where
  minorVersion := 0
  majorVersion := 65
  constantPool := pool
  accessFlags := fl
  thisClass := this
  superClass := sup
  interfaces := ifs
  fields := fds
  methods := ms
  attributes := attrs
def plain (name : String) (sup : Option ClassId) : Class where
  name := name
  kind := .ordinary
  loader := none
  accessFlags := 33
  super := sup
  interfaces := #[]
  cf := none
  fields := #[]
  methods := #[]
  instanceTypes := #[]
  staticTypes := #[]
  resolved := #[]
  callSites := []
  init := .initialized
  statics := none
  mirror := none

def pool0 : Array CpInfo := pool [(5, u "<init>"), (0, u "()V"), (1, .class_ 10), (1, u "java/lang/Object")] 113

def k0c0 : Code := { maxStack := 0, maxLocals := 1, code := object_method_1_code, exceptionTable := #[], attributes := #[] }
def k0m0 : Method := { name := "<init>", desc := "()V", sig := { parameters := [], returnType := none }, accessFlags := 1, code := some k0c0 }
/-- java/lang/Object -/
def k0 : Class := { plain "java/lang/Object" none with
  accessFlags := 33
  interfaces := #[]
  cf := some (fileOf pool0 8 #[] #[{ accessFlags := 1, nameIndex := 5, descriptorIndex := 6, attributes := #[] }] 33 0 #[] #[])
  fields := #[]
  methods := #[k0m0]
  instanceTypes := #[]
  staticTypes := #[]
  resolved := Array.replicate 124 none
  statics := none }

def pool1 : Array CpInfo := pool [(2, .class_ 4), (1, u "java/lang/Object"), (0, u "<init>"), (0, u "()V"), (0, .class_ 8), (0, u "XorGaussSat"), (0, .methodref 10 11), (0, .class_ 12), (0, .nameAndType 13 14), (0, u "XorGaussSatOwnLaw"), (0, u "cell"), (0, u "([II)I"), (0, .methodref 7 16), (0, .nameAndType 5 17), (0, u "(I)V"), (0, .methodref 7 19), (0, .nameAndType 20 21), (0, u "variables"), (0, u "()I"), (0, .integer 2147483647), (0, .methodref 7 24), (0, .nameAndType 25 26), (0, u "addLiteral"), (0, u "(IZ)I"), (0, .methodref 7 28), (0, .nameAndType 29 21), (0, u "commitClause"), (0, .methodref 7 31), (0, .nameAndType 32 33), (0, u "commitXor"), (0, u "(Z)I"), (0, .methodref 7 35), (0, .nameAndType 36 21), (0, u "popConstraint"), (0, .methodref 7 38), (0, .nameAndType 39 6), (0, u "clearPending"), (0, .methodref 7 41), (0, .nameAndType 42 43), (0, u "violations"), (0, u "(I)I"), (0, .methodref 10 45), (0, .nameAndType 46 47), (0, u "before"), (0, u "(II)Z"), (0, .methodref 7 49), (0, .nameAndType 50 21), (0, u "countModels"), (0, .methodref 7 52), (0, .nameAndType 53 21), (0, u "solve"), (0, .methodref 7 55), (0, .nameAndType 56 21), (0, u "modelBits"), (3, u "law"), (0, u "([I)Z")] 4

def k1m0 : Method := { name := "<init>", desc := "()V", sig := { parameters := [], returnType := none }, accessFlags := 1, code := none }
def k1c1 : Code := { maxStack := 2, maxLocals := 2, code := method_2_code, exceptionTable := #[], attributes := #[] }
def k1m1 : Method := { name := "cell", desc := "([II)I", sig := { parameters := [(.array .int), .int], returnType := some .int }, accessFlags := 10, code := some k1c1 }
def k1c2 : Code := { maxStack := 2, maxLocals := 4, code := method_3_code, exceptionTable := #[], attributes := #[] }
def k1m2 : Method := { name := "before", desc := "(II)Z", sig := { parameters := [.int, .int], returnType := some .boolean }, accessFlags := 10, code := some k1c2 }
def k1c3 : Code := { maxStack := 5, maxLocals := 10, code := code, exceptionTable := #[], attributes := #[] }
def k1m3 : Method := { name := "law", desc := "([I)Z", sig := { parameters := [(.array .int)], returnType := some .boolean }, accessFlags := 9, code := some k1c3 }
/-- XorGaussSatOwnLaw -/
def k1 : Class := { plain "XorGaussSatOwnLaw" (some 0) with
  accessFlags := 49
  interfaces := #[]
  cf := some (fileOf pool1 10 #[] #[{ accessFlags := 1, nameIndex := 5, descriptorIndex := 6, attributes := #[] }, { accessFlags := 10, nameIndex := 13, descriptorIndex := 14, attributes := #[] }, { accessFlags := 10, nameIndex := 46, descriptorIndex := 47, attributes := #[] }, { accessFlags := 9, nameIndex := 60, descriptorIndex := 61, attributes := #[] }] 49 2 #[] #[])
  fields := #[]
  methods := #[k1m0, k1m1, k1m2, k1m3]
  instanceTypes := #[]
  staticTypes := #[]
  resolved := Array.replicate 66 none
  statics := none }

def pool2 : Array CpInfo := pool [(1, .methodref 2 3), (0, .class_ 4), (0, .nameAndType 5 6), (0, u "java/lang/Object"), (0, u "<init>"), (0, u "()V"), (0, .fieldref 8 9), (0, .class_ 10), (0, .nameAndType 11 12), (0, u "XorGaussSat"), (0, u "pendVar"), (0, u "[I"), (0, .fieldref 8 14), (0, .nameAndType 15 16), (0, u "pendNeg"), (0, u "[Z"), (0, .fieldref 8 18), (0, .nameAndType 19 12), (0, u "clausePos"), (0, .fieldref 8 21), (0, .nameAndType 22 12), (0, u "clauseNeg"), (0, .fieldref 8 24), (0, .nameAndType 25 12), (0, u "xorMask"), (0, .fieldref 8 27), (0, .nameAndType 28 12), (0, u "xorRhs"), (0, .fieldref 8 30), (0, .nameAndType 31 12), (0, u "order"), (0, .fieldref 8 33), (0, .nameAndType 34 12), (0, u "echMask"), (0, .fieldref 8 36), (0, .nameAndType 37 12), (0, u "echRhs"), (0, .fieldref 8 39), (0, .nameAndType 40 12), (0, u "echPivot"), (0, .fieldref 8 42), (0, .nameAndType 43 12), (0, u "gMask"), (0, .fieldref 8 45), (0, .nameAndType 46 12), (0, u "gRhs"), (0, .fieldref 8 48), (0, .nameAndType 49 12), (0, u "gPivot"), (0, .fieldref 8 51), (0, .nameAndType 52 12), (0, u "trail"), (0, .fieldref 8 54), (0, .nameAndType 55 12), (0, u "lvlVar"), (0, .fieldref 8 57), (0, .nameAndType 58 12), (0, u "lvlStart"), (0, .fieldref 8 60), (0, .nameAndType 61 16), (0, u "lvlFlipped"), (0, .fieldref 8 63), (0, .nameAndType 64 65), (0, u "n"), (0, u "I"), (0, .fieldref 8 67), (0, .nameAndType 68 65), (0, u "fullMask"), (0, .fieldref 8 70), (0, .nameAndType 71 65), (0, u "status"), (0, .fieldref 8 73), (0, .nameAndType 74 65), (0, u "model"), (0, .fieldref 8 76), (0, .nameAndType 77 65), (0, u "pendLen"), (0, .fieldref 8 79), (0, .nameAndType 80 65), (0, u "clauseCnt"), (0, .fieldref 8 82), (0, .nameAndType 83 65), (0, u "xorCnt"), (0, .fieldref 8 85), (0, .nameAndType 86 65), (0, u "orderLen"), (0, .fieldref 8 88), (0, .nameAndType 89 90), (0, u "echValid"), (0, u "Z"), (0, .fieldref 8 92), (0, .nameAndType 93 90), (0, u "echConsistent"), (0, .fieldref 8 95), (0, .nameAndType 96 65), (0, u "echRank"), (0, .methodref 8 98), (0, .nameAndType 99 100), (0, u "pendingMask"), (0, u "(Z)I"), (0, .methodref 8 102), (0, .nameAndType 103 104), (0, u "pushOrder"), (0, u "(I)V"), (0, .methodref 8 106), (0, .nameAndType 107 108), (0, u "pendingNegatedParity"), (0, u "()I"), (0, .methodref 8 110), (0, .nameAndType 111 108), (0, u "pendingXorMask"), (0, .methodref 8 113), (0, .nameAndType 114 115), (0, u "search"), (0, u "(II)Z"), (0, .fieldref 8 117), (0, .nameAndType 118 65), (0, u "found"), (0, .methodref 8 120), (0, .nameAndType 121 115), (0, u "clauseHolds"), (0, .methodref 8 123), (0, .nameAndType 124 115), (0, u "xorHolds"), (0, .methodref 8 126), (0, .nameAndType 127 6), (0, u "ensureEchelon"), (0, .methodref 8 129), (0, .nameAndType 130 108), (0, u "echPivotMask"), (0, .methodref 8 132), (0, .nameAndType 133 134), (0, u "bitCount"), (0, u "(I)I"), (0, .methodref 8 136), (0, .nameAndType 137 134), (0, u "countAffinePoints"), (0, .methodref 8 139), (0, .nameAndType 140 134), (0, u "parity"), (0, .fieldref 8 142), (0, .nameAndType 143 65), (0, u "gRank"), (0, .methodref 8 145), (0, .nameAndType 146 134), (0, u "findPivot"), (0, .methodref 8 148), (0, .nameAndType 149 150), (0, u "swapRows"), (0, u "(II)V"), (0, .methodref 8 152), (0, .nameAndType 153 150), (0, u "clearColumn"), (0, .fieldref 8 155), (0, .nameAndType 156 65), (0, u "gRows"), (0, .methodref 8 158), (0, .nameAndType 159 6), (0, u "eliminate"), (0, .methodref 8 161), (0, .nameAndType 162 163), (0, u "scratchConsistent"), (0, u "()Z"), (0, .methodref 8 165), (0, .nameAndType 166 134), (0, u "completeFromFree"), (0, .methodref 8 168), (0, .nameAndType 169 170), (0, u "allClausesHold"), (0, u "(I)Z"), (0, .methodref 8 172), (0, .nameAndType 173 6), (0, u "resetSearch"), (0, .methodref 8 175), (0, .nameAndType 176 150), (0, u "assign"), (0, .methodref 8 178), (0, .nameAndType 179 163), (0, u "propagate"), (0, .methodref 8 181), (0, .nameAndType 182 163), (0, u "backtrack"), (0, .fieldref 8 184), (0, .nameAndType 185 65), (0, u "asgMask"), (0, .fieldref 8 187), (0, .nameAndType 188 65), (0, u "asgVals"), (0, .methodref 8 190), (0, .nameAndType 191 134), (0, u "violations"), (0, .methodref 8 193), (0, .nameAndType 194 6), (0, u "decide"), (0, .fieldref 8 196), (0, .nameAndType 197 65), (0, u "trailLen"), (0, .fieldref 8 199), (0, .nameAndType 200 65), (0, u "lvlCnt"), (0, .methodref 8 202), (0, .nameAndType 203 108), (0, u "lowestUnassigned"), (0, .methodref 8 205), (0, .nameAndType 206 104), (0, u "undoTo"), (0, .methodref 8 208), (0, .nameAndType 209 163), (0, u "propagateClauses"), (0, .methodref 8 211), (0, .nameAndType 212 163), (0, u "propagateXors"), (0, .methodref 8 214), (0, .nameAndType 215 170), (0, u "propagateClause"), (0, .methodref 8 217), (0, .nameAndType 218 170), (0, u "isSingleBit"), (0, .methodref 8 220), (0, .nameAndType 221 134), (0, u "lowestBit"), (0, .methodref 8 223), (0, .nameAndType 224 6), (0, u "loadResidualRows"), (0, u "UNSAT"), (2, u "SAT"), (1, u "UNKNOWN"), (1, u "KIND_CLAUSE"), (0, u "KIND_XOR"), (0, u "BB_FALSE"), (0, u "BB_TRUE"), (0, u "BB_FREE"), (0, u "BB_NONE"), (1, u "ERR_RANGE"), (1, u "ERR_FULL"), (1, u "ERR_EMPTY"), (1, u "MIN_VARS"), (0, u "MAX_VARS"), (1, u "MAX_PENDING"), (1, u "MAX_CLAUSES"), (1, u "MAX_XORS"), (4, u "variables"), (0, u "addLiteral"), (0, u "(IZ)I"), (0, u "clearPending"), (1, u "commitClause"), (0, u "commitXor"), (0, u "popConstraint"), (2, u "solve"), (1, u "modelBits"), (0, u "countModels")] 3

def k2c0 : Code := { maxStack := 3, maxLocals := 3, code := prog_1_method_1_code, exceptionTable := #[], attributes := #[] }
def k2m0 : Method := { name := "<init>", desc := "(I)V", sig := { parameters := [.int], returnType := none }, accessFlags := 1, code := some k2c0 }
def k2c1 : Code := { maxStack := 1, maxLocals := 1, code := prog_1_method_2_code, exceptionTable := #[], attributes := #[] }
def k2m1 : Method := { name := "variables", desc := "()I", sig := { parameters := [], returnType := some .int }, accessFlags := 1, code := some k2c1 }
def k2c2 : Code := { maxStack := 3, maxLocals := 3, code := prog_1_method_3_code, exceptionTable := #[], attributes := #[] }
def k2m2 : Method := { name := "addLiteral", desc := "(IZ)I", sig := { parameters := [.int, .boolean], returnType := some .int }, accessFlags := 1, code := some k2c2 }
def k2c3 : Code := { maxStack := 2, maxLocals := 1, code := prog_1_method_4_code, exceptionTable := #[], attributes := #[] }
def k2m3 : Method := { name := "clearPending", desc := "()V", sig := { parameters := [], returnType := none }, accessFlags := 1, code := some k2c3 }
def k2c4 : Code := { maxStack := 4, maxLocals := 2, code := prog_1_method_6_code, exceptionTable := #[], attributes := #[] }
def k2m4 : Method := { name := "commitClause", desc := "()I", sig := { parameters := [], returnType := some .int }, accessFlags := 1, code := some k2c4 }
def k2c5 : Code := { maxStack := 3, maxLocals := 4, code := prog_1_method_7_code, exceptionTable := #[], attributes := #[] }
def k2m5 : Method := { name := "commitXor", desc := "(Z)I", sig := { parameters := [.boolean], returnType := some .int }, accessFlags := 1, code := some k2c5 }
def k2c6 : Code := { maxStack := 3, maxLocals := 2, code := prog_1_method_8_code, exceptionTable := #[], attributes := #[] }
def k2m6 : Method := { name := "popConstraint", desc := "()I", sig := { parameters := [], returnType := some .int }, accessFlags := 1, code := some k2c6 }
def k2c7 : Code := { maxStack := 3, maxLocals := 1, code := prog_1_method_11_code, exceptionTable := #[], attributes := #[] }
def k2m7 : Method := { name := "solve", desc := "()I", sig := { parameters := [], returnType := some .int }, accessFlags := 1, code := some k2c7 }
def k2c8 : Code := { maxStack := 2, maxLocals := 1, code := prog_1_method_14_code, exceptionTable := #[], attributes := #[] }
def k2m8 : Method := { name := "modelBits", desc := "()I", sig := { parameters := [], returnType := some .int }, accessFlags := 1, code := some k2c8 }
def k2c9 : Code := { maxStack := 3, maxLocals := 5, code := prog_1_method_15_code, exceptionTable := #[], attributes := #[] }
def k2m9 : Method := { name := "violations", desc := "(I)I", sig := { parameters := [.int], returnType := some .int }, accessFlags := 1, code := some k2c9 }
def k2c10 : Code := { maxStack := 3, maxLocals := 3, code := prog_1_method_16_code, exceptionTable := #[], attributes := #[] }
def k2m10 : Method := { name := "countModels", desc := "()I", sig := { parameters := [], returnType := some .int }, accessFlags := 1, code := some k2c10 }
def k2c11 : Code := { maxStack := 4, maxLocals := 4, code := prog_1_method_18_code, exceptionTable := #[], attributes := #[] }
def k2m11 : Method := { name := "pendingMask", desc := "(Z)I", sig := { parameters := [.boolean], returnType := some .int }, accessFlags := 2, code := some k2c11 }
def k2c12 : Code := { maxStack := 4, maxLocals := 3, code := prog_1_method_19_code, exceptionTable := #[], attributes := #[] }
def k2m12 : Method := { name := "pendingXorMask", desc := "()I", sig := { parameters := [], returnType := some .int }, accessFlags := 2, code := some k2c12 }
def k2c13 : Code := { maxStack := 2, maxLocals := 3, code := prog_1_method_20_code, exceptionTable := #[], attributes := #[] }
def k2m13 : Method := { name := "pendingNegatedParity", desc := "()I", sig := { parameters := [], returnType := some .int }, accessFlags := 2, code := some k2c13 }
def k2c14 : Code := { maxStack := 3, maxLocals := 2, code := prog_1_method_21_code, exceptionTable := #[], attributes := #[] }
def k2m14 : Method := { name := "pushOrder", desc := "(I)V", sig := { parameters := [.int], returnType := none }, accessFlags := 2, code := some k2c14 }
def k2c15 : Code := { maxStack := 4, maxLocals := 4, code := prog_1_method_22_code, exceptionTable := #[], attributes := #[] }
def k2m15 : Method := { name := "clauseHolds", desc := "(II)Z", sig := { parameters := [.int, .int], returnType := some .boolean }, accessFlags := 2, code := some k2c15 }
def k2c16 : Code := { maxStack := 4, maxLocals := 4, code := prog_1_method_23_code, exceptionTable := #[], attributes := #[] }
def k2m16 : Method := { name := "xorHolds", desc := "(II)Z", sig := { parameters := [.int, .int], returnType := some .boolean }, accessFlags := 2, code := some k2c16 }
def k2c17 : Code := { maxStack := 3, maxLocals := 3, code := prog_1_method_24_code, exceptionTable := #[], attributes := #[] }
def k2m17 : Method := { name := "allClausesHold", desc := "(I)Z", sig := { parameters := [.int], returnType := some .boolean }, accessFlags := 2, code := some k2c17 }
def k2c18 : Code := { maxStack := 3, maxLocals := 3, code := prog_1_method_25_code, exceptionTable := #[], attributes := #[] }
def k2m18 : Method := { name := "parity", desc := "(I)I", sig := { parameters := [.int], returnType := some .int }, accessFlags := 2, code := some k2c18 }
def k2c19 : Code := { maxStack := 3, maxLocals := 5, code := prog_1_method_26_code, exceptionTable := #[], attributes := #[] }
def k2m19 : Method := { name := "bitCount", desc := "(I)I", sig := { parameters := [.int], returnType := some .int }, accessFlags := 2, code := some k2c19 }
def k2c20 : Code := { maxStack := 2, maxLocals := 3, code := prog_1_method_27_code, exceptionTable := #[], attributes := #[] }
def k2m20 : Method := { name := "lowestBit", desc := "(I)I", sig := { parameters := [.int], returnType := some .int }, accessFlags := 2, code := some k2c20 }
def k2c21 : Code := { maxStack := 3, maxLocals := 2, code := prog_1_method_28_code, exceptionTable := #[], attributes := #[] }
def k2m21 : Method := { name := "isSingleBit", desc := "(I)Z", sig := { parameters := [.int], returnType := some .boolean }, accessFlags := 2, code := some k2c21 }
def k2c22 : Code := { maxStack := 3, maxLocals := 3, code := prog_1_method_29_code, exceptionTable := #[], attributes := #[] }
def k2m22 : Method := { name := "eliminate", desc := "()V", sig := { parameters := [], returnType := none }, accessFlags := 2, code := some k2c22 }
def k2c23 : Code := { maxStack := 2, maxLocals := 4, code := prog_1_method_30_code, exceptionTable := #[], attributes := #[] }
def k2m23 : Method := { name := "findPivot", desc := "(I)I", sig := { parameters := [.int], returnType := some .int }, accessFlags := 2, code := some k2c23 }
def k2c24 : Code := { maxStack := 4, maxLocals := 5, code := prog_1_method_31_code, exceptionTable := #[], attributes := #[] }
def k2m24 : Method := { name := "swapRows", desc := "(II)V", sig := { parameters := [.int, .int], returnType := none }, accessFlags := 2, code := some k2c24 }
def k2c25 : Code := { maxStack := 5, maxLocals := 5, code := prog_1_method_32_code, exceptionTable := #[], attributes := #[] }
def k2m25 : Method := { name := "clearColumn", desc := "(II)V", sig := { parameters := [.int, .int], returnType := none }, accessFlags := 2, code := some k2c25 }
def k2c26 : Code := { maxStack := 2, maxLocals := 2, code := prog_1_method_33_code, exceptionTable := #[], attributes := #[] }
def k2m26 : Method := { name := "scratchConsistent", desc := "()Z", sig := { parameters := [], returnType := some .boolean }, accessFlags := 2, code := some k2c26 }
def k2c27 : Code := { maxStack := 4, maxLocals := 2, code := prog_1_method_34_code, exceptionTable := #[], attributes := #[] }
def k2m27 : Method := { name := "ensureEchelon", desc := "()V", sig := { parameters := [], returnType := none }, accessFlags := 2, code := some k2c27 }
def k2c28 : Code := { maxStack := 4, maxLocals := 3, code := prog_1_method_35_code, exceptionTable := #[], attributes := #[] }
def k2m28 : Method := { name := "echPivotMask", desc := "()I", sig := { parameters := [], returnType := some .int }, accessFlags := 2, code := some k2c28 }
def k2c29 : Code := { maxStack := 4, maxLocals := 7, code := prog_1_method_36_code, exceptionTable := #[], attributes := #[] }
def k2m29 : Method := { name := "completeFromFree", desc := "(I)I", sig := { parameters := [.int], returnType := some .int }, accessFlags := 2, code := some k2c29 }
def k2c30 : Code := { maxStack := 2, maxLocals := 6, code := prog_1_method_37_code, exceptionTable := #[], attributes := #[] }
def k2m30 : Method := { name := "countAffinePoints", desc := "(I)I", sig := { parameters := [.int], returnType := some .int }, accessFlags := 2, code := some k2c30 }
def k2c31 : Code := { maxStack := 3, maxLocals := 4, code := prog_1_method_38_code, exceptionTable := #[], attributes := #[] }
def k2m31 : Method := { name := "search", desc := "(II)Z", sig := { parameters := [.int, .int], returnType := some .boolean }, accessFlags := 2, code := some k2c31 }
def k2c32 : Code := { maxStack := 2, maxLocals := 1, code := prog_1_method_39_code, exceptionTable := #[], attributes := #[] }
def k2m32 : Method := { name := "resetSearch", desc := "()V", sig := { parameters := [], returnType := none }, accessFlags := 2, code := some k2c32 }
def k2c33 : Code := { maxStack := 4, maxLocals := 4, code := prog_1_method_40_code, exceptionTable := #[], attributes := #[] }
def k2m33 : Method := { name := "assign", desc := "(II)V", sig := { parameters := [.int, .int], returnType := none }, accessFlags := 2, code := some k2c33 }
def k2c34 : Code := { maxStack := 4, maxLocals := 5, code := prog_1_method_41_code, exceptionTable := #[], attributes := #[] }
def k2m34 : Method := { name := "undoTo", desc := "(I)V", sig := { parameters := [.int], returnType := none }, accessFlags := 2, code := some k2c34 }
def k2c35 : Code := { maxStack := 2, maxLocals := 2, code := prog_1_method_42_code, exceptionTable := #[], attributes := #[] }
def k2m35 : Method := { name := "lowestUnassigned", desc := "()I", sig := { parameters := [], returnType := some .int }, accessFlags := 2, code := some k2c35 }
def k2c36 : Code := { maxStack := 3, maxLocals := 2, code := prog_1_method_43_code, exceptionTable := #[], attributes := #[] }
def k2m36 : Method := { name := "decide", desc := "()V", sig := { parameters := [], returnType := none }, accessFlags := 2, code := some k2c36 }
def k2c37 : Code := { maxStack := 3, maxLocals := 3, code := prog_1_method_44_code, exceptionTable := #[], attributes := #[] }
def k2m37 : Method := { name := "backtrack", desc := "()Z", sig := { parameters := [], returnType := some .boolean }, accessFlags := 2, code := some k2c37 }
def k2c38 : Code := { maxStack := 2, maxLocals := 3, code := prog_1_method_45_code, exceptionTable := #[], attributes := #[] }
def k2m38 : Method := { name := "propagate", desc := "()Z", sig := { parameters := [], returnType := some .boolean }, accessFlags := 2, code := some k2c38 }
def k2c39 : Code := { maxStack := 2, maxLocals := 2, code := prog_1_method_46_code, exceptionTable := #[], attributes := #[] }
def k2m39 : Method := { name := "propagateClauses", desc := "()Z", sig := { parameters := [], returnType := some .boolean }, accessFlags := 2, code := some k2c39 }
def k2c40 : Code := { maxStack := 4, maxLocals := 9, code := prog_1_method_47_code, exceptionTable := #[], attributes := #[] }
def k2m40 : Method := { name := "propagateClause", desc := "(I)Z", sig := { parameters := [.int], returnType := some .boolean }, accessFlags := 2, code := some k2c40 }
def k2c41 : Code := { maxStack := 6, maxLocals := 3, code := prog_1_method_48_code, exceptionTable := #[], attributes := #[] }
def k2m41 : Method := { name := "loadResidualRows", desc := "()V", sig := { parameters := [], returnType := none }, accessFlags := 2, code := some k2c41 }
def k2c42 : Code := { maxStack := 4, maxLocals := 4, code := prog_1_method_49_code, exceptionTable := #[], attributes := #[] }
def k2m42 : Method := { name := "propagateXors", desc := "()Z", sig := { parameters := [], returnType := some .boolean }, accessFlags := 2, code := some k2c42 }
/-- XorGaussSat -/
def k2 : Class := { plain "XorGaussSat" (some 0) with
  accessFlags := 49
  interfaces := #[]
  cf := some (fileOf pool2 8 #[] #[{ accessFlags := 1, nameIndex := 5, descriptorIndex := 104, attributes := #[] }, { accessFlags := 1, nameIndex := 257, descriptorIndex := 108, attributes := #[] }, { accessFlags := 1, nameIndex := 258, descriptorIndex := 259, attributes := #[] }, { accessFlags := 1, nameIndex := 260, descriptorIndex := 6, attributes := #[] }, { accessFlags := 1, nameIndex := 262, descriptorIndex := 108, attributes := #[] }, { accessFlags := 1, nameIndex := 263, descriptorIndex := 100, attributes := #[] }, { accessFlags := 1, nameIndex := 264, descriptorIndex := 108, attributes := #[] }, { accessFlags := 1, nameIndex := 267, descriptorIndex := 108, attributes := #[] }, { accessFlags := 1, nameIndex := 269, descriptorIndex := 108, attributes := #[] }, { accessFlags := 1, nameIndex := 191, descriptorIndex := 134, attributes := #[] }, { accessFlags := 1, nameIndex := 270, descriptorIndex := 108, attributes := #[] }, { accessFlags := 2, nameIndex := 99, descriptorIndex := 100, attributes := #[] }, { accessFlags := 2, nameIndex := 111, descriptorIndex := 108, attributes := #[] }, { accessFlags := 2, nameIndex := 107, descriptorIndex := 108, attributes := #[] }, { accessFlags := 2, nameIndex := 103, descriptorIndex := 104, attributes := #[] }, { accessFlags := 2, nameIndex := 121, descriptorIndex := 115, attributes := #[] }, { accessFlags := 2, nameIndex := 124, descriptorIndex := 115, attributes := #[] }, { accessFlags := 2, nameIndex := 169, descriptorIndex := 170, attributes := #[] }, { accessFlags := 2, nameIndex := 140, descriptorIndex := 134, attributes := #[] }, { accessFlags := 2, nameIndex := 133, descriptorIndex := 134, attributes := #[] }, { accessFlags := 2, nameIndex := 221, descriptorIndex := 134, attributes := #[] }, { accessFlags := 2, nameIndex := 218, descriptorIndex := 170, attributes := #[] }, { accessFlags := 2, nameIndex := 159, descriptorIndex := 6, attributes := #[] }, { accessFlags := 2, nameIndex := 146, descriptorIndex := 134, attributes := #[] }, { accessFlags := 2, nameIndex := 149, descriptorIndex := 150, attributes := #[] }, { accessFlags := 2, nameIndex := 153, descriptorIndex := 150, attributes := #[] }, { accessFlags := 2, nameIndex := 162, descriptorIndex := 163, attributes := #[] }, { accessFlags := 2, nameIndex := 127, descriptorIndex := 6, attributes := #[] }, { accessFlags := 2, nameIndex := 130, descriptorIndex := 108, attributes := #[] }, { accessFlags := 2, nameIndex := 166, descriptorIndex := 134, attributes := #[] }, { accessFlags := 2, nameIndex := 137, descriptorIndex := 134, attributes := #[] }, { accessFlags := 2, nameIndex := 114, descriptorIndex := 115, attributes := #[] }, { accessFlags := 2, nameIndex := 173, descriptorIndex := 6, attributes := #[] }, { accessFlags := 2, nameIndex := 176, descriptorIndex := 150, attributes := #[] }, { accessFlags := 2, nameIndex := 206, descriptorIndex := 104, attributes := #[] }, { accessFlags := 2, nameIndex := 203, descriptorIndex := 108, attributes := #[] }, { accessFlags := 2, nameIndex := 194, descriptorIndex := 6, attributes := #[] }, { accessFlags := 2, nameIndex := 182, descriptorIndex := 163, attributes := #[] }, { accessFlags := 2, nameIndex := 179, descriptorIndex := 163, attributes := #[] }, { accessFlags := 2, nameIndex := 209, descriptorIndex := 163, attributes := #[] }, { accessFlags := 2, nameIndex := 215, descriptorIndex := 170, attributes := #[] }, { accessFlags := 2, nameIndex := 224, descriptorIndex := 6, attributes := #[] }, { accessFlags := 2, nameIndex := 212, descriptorIndex := 163, attributes := #[] }] 49 2 #[] #[{ accessFlags := 25, nameIndex := 225, descriptorIndex := 65, attributes := #[] }, { accessFlags := 25, nameIndex := 228, descriptorIndex := 65, attributes := #[] }, { accessFlags := 25, nameIndex := 230, descriptorIndex := 65, attributes := #[] }, { accessFlags := 25, nameIndex := 232, descriptorIndex := 65, attributes := #[] }, { accessFlags := 25, nameIndex := 233, descriptorIndex := 65, attributes := #[] }, { accessFlags := 25, nameIndex := 234, descriptorIndex := 65, attributes := #[] }, { accessFlags := 25, nameIndex := 235, descriptorIndex := 65, attributes := #[] }, { accessFlags := 25, nameIndex := 236, descriptorIndex := 65, attributes := #[] }, { accessFlags := 25, nameIndex := 237, descriptorIndex := 65, attributes := #[] }, { accessFlags := 25, nameIndex := 239, descriptorIndex := 65, attributes := #[] }, { accessFlags := 25, nameIndex := 241, descriptorIndex := 65, attributes := #[] }, { accessFlags := 25, nameIndex := 243, descriptorIndex := 65, attributes := #[] }, { accessFlags := 25, nameIndex := 245, descriptorIndex := 65, attributes := #[] }, { accessFlags := 25, nameIndex := 246, descriptorIndex := 65, attributes := #[] }, { accessFlags := 25, nameIndex := 248, descriptorIndex := 65, attributes := #[] }, { accessFlags := 25, nameIndex := 250, descriptorIndex := 65, attributes := #[] }, { accessFlags := 25, nameIndex := 252, descriptorIndex := 65, attributes := #[] }, { accessFlags := 2, nameIndex := 64, descriptorIndex := 65, attributes := #[] }, { accessFlags := 2, nameIndex := 68, descriptorIndex := 65, attributes := #[] }, { accessFlags := 2, nameIndex := 71, descriptorIndex := 65, attributes := #[] }, { accessFlags := 2, nameIndex := 74, descriptorIndex := 65, attributes := #[] }, { accessFlags := 18, nameIndex := 11, descriptorIndex := 12, attributes := #[] }, { accessFlags := 18, nameIndex := 15, descriptorIndex := 16, attributes := #[] }, { accessFlags := 2, nameIndex := 77, descriptorIndex := 65, attributes := #[] }, { accessFlags := 18, nameIndex := 19, descriptorIndex := 12, attributes := #[] }, { accessFlags := 18, nameIndex := 22, descriptorIndex := 12, attributes := #[] }, { accessFlags := 2, nameIndex := 80, descriptorIndex := 65, attributes := #[] }, { accessFlags := 18, nameIndex := 25, descriptorIndex := 12, attributes := #[] }, { accessFlags := 18, nameIndex := 28, descriptorIndex := 12, attributes := #[] }, { accessFlags := 2, nameIndex := 83, descriptorIndex := 65, attributes := #[] }, { accessFlags := 18, nameIndex := 31, descriptorIndex := 12, attributes := #[] }, { accessFlags := 2, nameIndex := 86, descriptorIndex := 65, attributes := #[] }, { accessFlags := 18, nameIndex := 34, descriptorIndex := 12, attributes := #[] }, { accessFlags := 18, nameIndex := 37, descriptorIndex := 12, attributes := #[] }, { accessFlags := 18, nameIndex := 40, descriptorIndex := 12, attributes := #[] }, { accessFlags := 2, nameIndex := 96, descriptorIndex := 65, attributes := #[] }, { accessFlags := 2, nameIndex := 93, descriptorIndex := 90, attributes := #[] }, { accessFlags := 2, nameIndex := 89, descriptorIndex := 90, attributes := #[] }, { accessFlags := 18, nameIndex := 43, descriptorIndex := 12, attributes := #[] }, { accessFlags := 18, nameIndex := 46, descriptorIndex := 12, attributes := #[] }, { accessFlags := 18, nameIndex := 49, descriptorIndex := 12, attributes := #[] }, { accessFlags := 2, nameIndex := 156, descriptorIndex := 65, attributes := #[] }, { accessFlags := 2, nameIndex := 143, descriptorIndex := 65, attributes := #[] }, { accessFlags := 2, nameIndex := 185, descriptorIndex := 65, attributes := #[] }, { accessFlags := 2, nameIndex := 188, descriptorIndex := 65, attributes := #[] }, { accessFlags := 18, nameIndex := 52, descriptorIndex := 12, attributes := #[] }, { accessFlags := 2, nameIndex := 197, descriptorIndex := 65, attributes := #[] }, { accessFlags := 18, nameIndex := 55, descriptorIndex := 12, attributes := #[] }, { accessFlags := 18, nameIndex := 58, descriptorIndex := 12, attributes := #[] }, { accessFlags := 18, nameIndex := 61, descriptorIndex := 16, attributes := #[] }, { accessFlags := 2, nameIndex := 200, descriptorIndex := 65, attributes := #[] }, { accessFlags := 2, nameIndex := 118, descriptorIndex := 65, attributes := #[] }])
  fields := #[{ name := "UNSAT", type := .int, accessFlags := 25, slot := 0, constantValue := 0 }, { name := "SAT", type := .int, accessFlags := 25, slot := 1, constantValue := 0 }, { name := "UNKNOWN", type := .int, accessFlags := 25, slot := 2, constantValue := 0 }, { name := "KIND_CLAUSE", type := .int, accessFlags := 25, slot := 3, constantValue := 0 }, { name := "KIND_XOR", type := .int, accessFlags := 25, slot := 4, constantValue := 0 }, { name := "BB_FALSE", type := .int, accessFlags := 25, slot := 5, constantValue := 0 }, { name := "BB_TRUE", type := .int, accessFlags := 25, slot := 6, constantValue := 0 }, { name := "BB_FREE", type := .int, accessFlags := 25, slot := 7, constantValue := 0 }, { name := "BB_NONE", type := .int, accessFlags := 25, slot := 8, constantValue := 0 }, { name := "ERR_RANGE", type := .int, accessFlags := 25, slot := 9, constantValue := 0 }, { name := "ERR_FULL", type := .int, accessFlags := 25, slot := 10, constantValue := 0 }, { name := "ERR_EMPTY", type := .int, accessFlags := 25, slot := 11, constantValue := 0 }, { name := "MIN_VARS", type := .int, accessFlags := 25, slot := 12, constantValue := 0 }, { name := "MAX_VARS", type := .int, accessFlags := 25, slot := 13, constantValue := 0 }, { name := "MAX_PENDING", type := .int, accessFlags := 25, slot := 14, constantValue := 0 }, { name := "MAX_CLAUSES", type := .int, accessFlags := 25, slot := 15, constantValue := 0 }, { name := "MAX_XORS", type := .int, accessFlags := 25, slot := 16, constantValue := 0 }, { name := "n", type := .int, accessFlags := 2, slot := 0, constantValue := 0 }, { name := "fullMask", type := .int, accessFlags := 2, slot := 1, constantValue := 0 }, { name := "status", type := .int, accessFlags := 2, slot := 2, constantValue := 0 }, { name := "model", type := .int, accessFlags := 2, slot := 3, constantValue := 0 }, { name := "pendVar", type := (.array .int), accessFlags := 18, slot := 4, constantValue := 0 }, { name := "pendNeg", type := (.array .boolean), accessFlags := 18, slot := 5, constantValue := 0 }, { name := "pendLen", type := .int, accessFlags := 2, slot := 6, constantValue := 0 }, { name := "clausePos", type := (.array .int), accessFlags := 18, slot := 7, constantValue := 0 }, { name := "clauseNeg", type := (.array .int), accessFlags := 18, slot := 8, constantValue := 0 }, { name := "clauseCnt", type := .int, accessFlags := 2, slot := 9, constantValue := 0 }, { name := "xorMask", type := (.array .int), accessFlags := 18, slot := 10, constantValue := 0 }, { name := "xorRhs", type := (.array .int), accessFlags := 18, slot := 11, constantValue := 0 }, { name := "xorCnt", type := .int, accessFlags := 2, slot := 12, constantValue := 0 }, { name := "order", type := (.array .int), accessFlags := 18, slot := 13, constantValue := 0 }, { name := "orderLen", type := .int, accessFlags := 2, slot := 14, constantValue := 0 }, { name := "echMask", type := (.array .int), accessFlags := 18, slot := 15, constantValue := 0 }, { name := "echRhs", type := (.array .int), accessFlags := 18, slot := 16, constantValue := 0 }, { name := "echPivot", type := (.array .int), accessFlags := 18, slot := 17, constantValue := 0 }, { name := "echRank", type := .int, accessFlags := 2, slot := 18, constantValue := 0 }, { name := "echConsistent", type := .boolean, accessFlags := 2, slot := 19, constantValue := 0 }, { name := "echValid", type := .boolean, accessFlags := 2, slot := 20, constantValue := 0 }, { name := "gMask", type := (.array .int), accessFlags := 18, slot := 21, constantValue := 0 }, { name := "gRhs", type := (.array .int), accessFlags := 18, slot := 22, constantValue := 0 }, { name := "gPivot", type := (.array .int), accessFlags := 18, slot := 23, constantValue := 0 }, { name := "gRows", type := .int, accessFlags := 2, slot := 24, constantValue := 0 }, { name := "gRank", type := .int, accessFlags := 2, slot := 25, constantValue := 0 }, { name := "asgMask", type := .int, accessFlags := 2, slot := 26, constantValue := 0 }, { name := "asgVals", type := .int, accessFlags := 2, slot := 27, constantValue := 0 }, { name := "trail", type := (.array .int), accessFlags := 18, slot := 28, constantValue := 0 }, { name := "trailLen", type := .int, accessFlags := 2, slot := 29, constantValue := 0 }, { name := "lvlVar", type := (.array .int), accessFlags := 18, slot := 30, constantValue := 0 }, { name := "lvlStart", type := (.array .int), accessFlags := 18, slot := 31, constantValue := 0 }, { name := "lvlFlipped", type := (.array .boolean), accessFlags := 18, slot := 32, constantValue := 0 }, { name := "lvlCnt", type := .int, accessFlags := 2, slot := 33, constantValue := 0 }, { name := "found", type := .int, accessFlags := 2, slot := 34, constantValue := 0 }]
  methods := #[k2m0, k2m1, k2m2, k2m3, k2m4, k2m5, k2m6, k2m7, k2m8, k2m9, k2m10, k2m11, k2m12, k2m13, k2m14, k2m15, k2m16, k2m17, k2m18, k2m19, k2m20, k2m21, k2m22, k2m23, k2m24, k2m25, k2m26, k2m27, k2m28, k2m29, k2m30, k2m31, k2m32, k2m33, k2m34, k2m35, k2m36, k2m37, k2m38, k2m39, k2m40, k2m41, k2m42]
  instanceTypes := #[.int, .int, .int, .int, (.array .int), (.array .boolean), .int, (.array .int), (.array .int), .int, (.array .int), (.array .int), .int, (.array .int), .int, (.array .int), (.array .int), (.array .int), .int, .boolean, .boolean, (.array .int), (.array .int), (.array .int), .int, .int, .int, .int, (.array .int), .int, (.array .int), (.array .int), (.array .boolean), .int, .int]
  staticTypes := #[.int, .int, .int, .int, .int, .int, .int, .int, .int, .int, .int, .int, .int, .int, .int, .int, .int]
  resolved := Array.replicate 274 none
  statics := none }

def pool3 : Array CpInfo := pool [(1, u "java/lang/Cloneable"), (0, .class_ 1), (0, u "java/lang/Object"), (0, .class_ 3)] 3

/-- java/lang/Cloneable -/
def k3 : Class := { plain "java/lang/Cloneable" (some 0) with
  accessFlags := 1537
  interfaces := #[]
  cf := some (fileOf pool3 2 #[] #[] 1537 4 #[] #[])
  fields := #[]
  methods := #[]
  instanceTypes := #[]
  staticTypes := #[]
  resolved := Array.replicate 8 none
  statics := none }

def pool4 : Array CpInfo := pool [(1, u "java/io/Serializable"), (0, .class_ 1), (0, u "java/lang/Object"), (0, .class_ 3)] 3

/-- java/io/Serializable -/
def k4 : Class := { plain "java/io/Serializable" (some 0) with
  accessFlags := 1537
  interfaces := #[]
  cf := some (fileOf pool4 2 #[] #[] 1537 4 #[] #[])
  fields := #[]
  methods := #[]
  instanceTypes := #[]
  staticTypes := #[]
  resolved := Array.replicate 8 none
  statics := none }

/-- the primitive boolean -/
def k5 : Class := { plain "boolean" none with kind := .primitive 'Z', accessFlags := 0x411 }
/-- [Z -/
def k6 : Class := { plain "[Z" (some 0) with kind := .array 5 .boolean, interfaces := #[3, 4], accessFlags := 1041 }

/-- the primitive byte -/
def k7 : Class := { plain "byte" none with kind := .primitive 'B', accessFlags := 0x411 }
/-- [B -/
def k8 : Class := { plain "[B" (some 0) with kind := .array 7 .byte, interfaces := #[3, 4], accessFlags := 1041 }

/-- the primitive int -/
def k9 : Class := { plain "int" none with kind := .primitive 'I', accessFlags := 0x411 }
/-- [I -/
def k10 : Class := { plain "[I" (some 0) with kind := .array 9 .int, interfaces := #[3, 4], accessFlags := 1041 }

def heap : Heap := #[{ cls := 10, slots := #[.int 0, .int 3, .int 5], vm := .none }]
def classes : Array Class := #[k0, k1, k2, k3, k4, k5, k6, k7, k8, k9, k10]
def interned : List (Array UInt16 × Addr) := []
def slotsUsed : Nat := 3
def theMethod : MethodId := ⟨1, 3⟩
def args0 : Array Value := #[.ref 0]
def aboutOver (below : List Frame) : State where
  vm := { classes := classes, interned := interned.toArray }
  heap := heap
  slotsUsed := slotsUsed
  threads := #[{ frames := .invoking theMethod args0 :: below }]
def below0 : List Frame := [.native { method := ⟨0, 0⟩, args := #[] }]
def about1 : State := aboutOver below0
def p0 : Program := .bare "" "" ""
def e0 : Env := launch0.env 0 0 0
theorem w_frames : about1.frames = Frame.invoking theMethod args0 :: below0 := rfl
set_option maxRecDepth 65536 in
theorem w_args : argsFit about1.vm theMethod args0 = true := by decide +kernel
set_option maxRecDepth 65536 in
theorem w_heap : heapFits about1 = true := by decide +kernel
set_option maxRecDepth 65536 in
theorem w_runnable : about1.curStatus? = some .runnable := by decide +kernel
set_option maxRecDepth 65536 in
theorem w_alone : about1.alone = true := by decide +kernel
set_option maxRecDepth 65536 in
theorem w_named : about1.methodNamed? x = some theMethod := by decide +kernel
set_option maxRecDepth 65536 in
theorem w_hears : about1.hears theMethod below0 = true := by decide +kernel
set_option maxRecDepth 65536 in
theorem w_ripe : about1.ripe theMethod args0 below0 = true := by decide +kernel
theorem w_running : about1.status = .running := rfl
set_option maxRecDepth 65536 in
theorem w_room : about1.hasRoom e0.platform room_1 = true :=
  launch0.hasRoom_least _ room_1 (by decide +kernel) (by decide +kernel) (by decide +kernel) (by decide +kernel) (by decide +kernel) (by decide +kernel)
theorem allAtoms_all (ts : List Jvm.Cond) (a : Array Jvm.Value) (st : Jvm.State) : (allAtoms ts).before a st = ts.all (fun c => c.before a st) := by
  induction ts with
  | nil => rfl
  | cons c t ih =>
    show (Jvm.Cond.and c (allAtoms t)).before a st = _
    rw [Jvm.Cond.before_and, ih, List.all_cons]
def words1 : List Jvm.Cond := Jvm.Cond.code x code maxLocals ret :: tables_1
/-- a 'code' word, met by the world's own term for the bytes: nothing is compared byte by byte -/
theorem code_word {y : MethodName} {bytes : ByteArray} {mx : Nat} {rt : Option FieldType} {a : Array Value} {s : State} {m : MethodId} {meth : Method} {c : Code} (h1 : s.methodNamed? y = some m) (h2 : s.vm.method? m = some meth) (h3 : meth.code = some c) (h4 : c.code = bytes)
    (h5 : (c.maxLocals == mx && c.exceptionTable.isEmpty && decide (c.maxStack ≤ mostOperands) && decide (meth.sig.returnType = rt) && !meth.locks && decide (parseMethodDescriptor y.desc = some meth.sig)) = true) : (Jvm.Cond.code y bytes mx rt).before a s = true := by
  simp only [Bool.and_eq_true, beq_iff_eq, Bool.not_eq_true', decide_eq_true_eq] at h5
  obtain ⟨⟨⟨⟨⟨g1, g2⟩, g3⟩, g4⟩, g5⟩, g6⟩ := h5
  simp [Cond.before, Cond.holds, Cond.value, h1, h2, h3, h4, g1, g2, g3, g4, g5, g6]
def isCode : Jvm.Cond → Bool
  | .code _ _ _ _ => true
  | _ => false
theorem all_split {L : List Jvm.Cond} {P : Jvm.Cond → Bool} (h1 : L.all (fun c => isCode c || P c) = true) (h2 : ∀ c ∈ L.filter isCode, P c = true) : L.all P = true := by
  refine List.all_eq_true.mpr fun c hc => ?_
  have h := List.all_eq_true.mp h1 c hc
  rcases Bool.eq_false_or_eq_true (isCode c) with hi | hi
  · exact h2 c (List.mem_filter.mpr ⟨hc, hi⟩)
  · simpa [hi] using h
set_option maxRecDepth 65536 in
theorem w_c0 : (Jvm.Cond.code x code maxLocals ret).before args0 about1 = true := code_word (m := ⟨1, 3⟩) (meth := k1m3) (c := k1c3) (by decide +kernel) rfl rfl rfl (by decide +kernel)
set_option maxRecDepth 65536 in
theorem w_c1 : (Jvm.Cond.code ({ cls := "XorGaussSatOwnLaw", name := "cell", desc := "([II)I" } : Jvm.MethodName) method_2_code (2 : Nat) (Option.some Jvm.ClassFile.FieldType.int)).before args0 about1 = true := code_word (m := ⟨1, 1⟩) (meth := k1m1) (c := k1c1) (by decide +kernel) rfl rfl rfl (by decide +kernel)
set_option maxRecDepth 65536 in
theorem w_c2 : (Jvm.Cond.code ({ cls := "XorGaussSat", name := "<init>", desc := "(I)V" } : Jvm.MethodName) prog_1_method_1_code (3 : Nat) (Option.none : Option Jvm.ClassFile.FieldType)).before args0 about1 = true := code_word (m := ⟨2, 0⟩) (meth := k2m0) (c := k2c0) (by decide +kernel) rfl rfl rfl (by decide +kernel)
set_option maxRecDepth 65536 in
theorem w_c3 : (Jvm.Cond.code ({ cls := "java/lang/Object", name := "<init>", desc := "()V" } : Jvm.MethodName) object_method_1_code (1 : Nat) (Option.none : Option Jvm.ClassFile.FieldType)).before args0 about1 = true := code_word (m := ⟨0, 0⟩) (meth := k0m0) (c := k0c0) (by decide +kernel) rfl rfl rfl (by decide +kernel)
set_option maxRecDepth 65536 in
theorem w_c4 : (Jvm.Cond.code ({ cls := "XorGaussSat", name := "variables", desc := "()I" } : Jvm.MethodName) prog_1_method_2_code (1 : Nat) (Option.some Jvm.ClassFile.FieldType.int)).before args0 about1 = true := code_word (m := ⟨2, 1⟩) (meth := k2m1) (c := k2c1) (by decide +kernel) rfl rfl rfl (by decide +kernel)
set_option maxRecDepth 65536 in
theorem w_c5 : (Jvm.Cond.code ({ cls := "XorGaussSat", name := "violations", desc := "(I)I" } : Jvm.MethodName) prog_1_method_15_code (5 : Nat) (Option.some Jvm.ClassFile.FieldType.int)).before args0 about1 = true := code_word (m := ⟨2, 9⟩) (meth := k2m9) (c := k2c9) (by decide +kernel) rfl rfl rfl (by decide +kernel)
set_option maxRecDepth 65536 in
theorem w_c6 : (Jvm.Cond.code ({ cls := "XorGaussSatOwnLaw", name := "before", desc := "(II)Z" } : Jvm.MethodName) method_3_code (4 : Nat) (Option.some Jvm.ClassFile.FieldType.boolean)).before args0 about1 = true := code_word (m := ⟨1, 2⟩) (meth := k1m2) (c := k1c2) (by decide +kernel) rfl rfl rfl (by decide +kernel)
set_option maxRecDepth 65536 in
theorem w_c7 : (Jvm.Cond.code ({ cls := "XorGaussSat", name := "countModels", desc := "()I" } : Jvm.MethodName) prog_1_method_16_code (3 : Nat) (Option.some Jvm.ClassFile.FieldType.int)).before args0 about1 = true := code_word (m := ⟨2, 10⟩) (meth := k2m10) (c := k2c10) (by decide +kernel) rfl rfl rfl (by decide +kernel)
set_option maxRecDepth 65536 in
theorem w_c8 : (Jvm.Cond.code ({ cls := "XorGaussSat", name := "ensureEchelon", desc := "()V" } : Jvm.MethodName) prog_1_method_34_code (2 : Nat) (Option.none : Option Jvm.ClassFile.FieldType)).before args0 about1 = true := code_word (m := ⟨2, 27⟩) (meth := k2m27) (c := k2c27) (by decide +kernel) rfl rfl rfl (by decide +kernel)
set_option maxRecDepth 65536 in
theorem w_c9 : (Jvm.Cond.code ({ cls := "XorGaussSat", name := "eliminate", desc := "()V" } : Jvm.MethodName) prog_1_method_29_code (3 : Nat) (Option.none : Option Jvm.ClassFile.FieldType)).before args0 about1 = true := code_word (m := ⟨2, 22⟩) (meth := k2m22) (c := k2c22) (by decide +kernel) rfl rfl rfl (by decide +kernel)
set_option maxRecDepth 65536 in
theorem w_c10 : (Jvm.Cond.code ({ cls := "XorGaussSat", name := "findPivot", desc := "(I)I" } : Jvm.MethodName) prog_1_method_30_code (4 : Nat) (Option.some Jvm.ClassFile.FieldType.int)).before args0 about1 = true := code_word (m := ⟨2, 23⟩) (meth := k2m23) (c := k2c23) (by decide +kernel) rfl rfl rfl (by decide +kernel)
set_option maxRecDepth 65536 in
theorem w_c11 : (Jvm.Cond.code ({ cls := "XorGaussSat", name := "scratchConsistent", desc := "()Z" } : Jvm.MethodName) prog_1_method_33_code (2 : Nat) (Option.some Jvm.ClassFile.FieldType.boolean)).before args0 about1 = true := code_word (m := ⟨2, 26⟩) (meth := k2m26) (c := k2c26) (by decide +kernel) rfl rfl rfl (by decide +kernel)
set_option maxRecDepth 65536 in
theorem w_c12 : (Jvm.Cond.code ({ cls := "XorGaussSat", name := "echPivotMask", desc := "()I" } : Jvm.MethodName) prog_1_method_35_code (3 : Nat) (Option.some Jvm.ClassFile.FieldType.int)).before args0 about1 = true := code_word (m := ⟨2, 28⟩) (meth := k2m28) (c := k2c28) (by decide +kernel) rfl rfl rfl (by decide +kernel)
set_option maxRecDepth 65536 in
theorem w_c13 : (Jvm.Cond.code ({ cls := "XorGaussSat", name := "bitCount", desc := "(I)I" } : Jvm.MethodName) prog_1_method_26_code (5 : Nat) (Option.some Jvm.ClassFile.FieldType.int)).before args0 about1 = true := code_word (m := ⟨2, 19⟩) (meth := k2m19) (c := k2c19) (by decide +kernel) rfl rfl rfl (by decide +kernel)
set_option maxRecDepth 65536 in
theorem w_c14 : (Jvm.Cond.code ({ cls := "XorGaussSat", name := "solve", desc := "()I" } : Jvm.MethodName) prog_1_method_11_code (1 : Nat) (Option.some Jvm.ClassFile.FieldType.int)).before args0 about1 = true := code_word (m := ⟨2, 7⟩) (meth := k2m7) (c := k2c7) (by decide +kernel) rfl rfl rfl (by decide +kernel)
set_option maxRecDepth 65536 in
theorem w_c15 : (Jvm.Cond.code ({ cls := "XorGaussSat", name := "search", desc := "(II)Z" } : Jvm.MethodName) prog_1_method_38_code (4 : Nat) (Option.some Jvm.ClassFile.FieldType.boolean)).before args0 about1 = true := code_word (m := ⟨2, 31⟩) (meth := k2m31) (c := k2c31) (by decide +kernel) rfl rfl rfl (by decide +kernel)
set_option maxRecDepth 65536 in
theorem w_c16 : (Jvm.Cond.code ({ cls := "XorGaussSat", name := "resetSearch", desc := "()V" } : Jvm.MethodName) prog_1_method_39_code (1 : Nat) (Option.none : Option Jvm.ClassFile.FieldType)).before args0 about1 = true := code_word (m := ⟨2, 32⟩) (meth := k2m32) (c := k2c32) (by decide +kernel) rfl rfl rfl (by decide +kernel)
set_option maxRecDepth 65536 in
theorem w_c17 : (Jvm.Cond.code ({ cls := "XorGaussSat", name := "propagate", desc := "()Z" } : Jvm.MethodName) prog_1_method_45_code (3 : Nat) (Option.some Jvm.ClassFile.FieldType.boolean)).before args0 about1 = true := code_word (m := ⟨2, 38⟩) (meth := k2m38) (c := k2c38) (by decide +kernel) rfl rfl rfl (by decide +kernel)
set_option maxRecDepth 65536 in
theorem w_c18 : (Jvm.Cond.code ({ cls := "XorGaussSat", name := "propagateClauses", desc := "()Z" } : Jvm.MethodName) prog_1_method_46_code (2 : Nat) (Option.some Jvm.ClassFile.FieldType.boolean)).before args0 about1 = true := code_word (m := ⟨2, 39⟩) (meth := k2m39) (c := k2c39) (by decide +kernel) rfl rfl rfl (by decide +kernel)
set_option maxRecDepth 65536 in
theorem w_c19 : (Jvm.Cond.code ({ cls := "XorGaussSat", name := "propagateXors", desc := "()Z" } : Jvm.MethodName) prog_1_method_49_code (4 : Nat) (Option.some Jvm.ClassFile.FieldType.boolean)).before args0 about1 = true := code_word (m := ⟨2, 42⟩) (meth := k2m42) (c := k2c42) (by decide +kernel) rfl rfl rfl (by decide +kernel)
set_option maxRecDepth 65536 in
theorem w_c20 : (Jvm.Cond.code ({ cls := "XorGaussSat", name := "loadResidualRows", desc := "()V" } : Jvm.MethodName) prog_1_method_48_code (3 : Nat) (Option.none : Option Jvm.ClassFile.FieldType)).before args0 about1 = true := code_word (m := ⟨2, 41⟩) (meth := k2m41) (c := k2c41) (by decide +kernel) rfl rfl rfl (by decide +kernel)
set_option maxRecDepth 65536 in
theorem w_c21 : (Jvm.Cond.code ({ cls := "XorGaussSat", name := "decide", desc := "()V" } : Jvm.MethodName) prog_1_method_43_code (2 : Nat) (Option.none : Option Jvm.ClassFile.FieldType)).before args0 about1 = true := code_word (m := ⟨2, 36⟩) (meth := k2m36) (c := k2c36) (by decide +kernel) rfl rfl rfl (by decide +kernel)
set_option maxRecDepth 65536 in
theorem w_c22 : (Jvm.Cond.code ({ cls := "XorGaussSat", name := "lowestUnassigned", desc := "()I" } : Jvm.MethodName) prog_1_method_42_code (2 : Nat) (Option.some Jvm.ClassFile.FieldType.int)).before args0 about1 = true := code_word (m := ⟨2, 35⟩) (meth := k2m35) (c := k2c35) (by decide +kernel) rfl rfl rfl (by decide +kernel)
set_option maxRecDepth 65536 in
theorem w_c23 : (Jvm.Cond.code ({ cls := "XorGaussSat", name := "assign", desc := "(II)V" } : Jvm.MethodName) prog_1_method_40_code (4 : Nat) (Option.none : Option Jvm.ClassFile.FieldType)).before args0 about1 = true := code_word (m := ⟨2, 33⟩) (meth := k2m33) (c := k2c33) (by decide +kernel) rfl rfl rfl (by decide +kernel)
set_option maxRecDepth 65536 in
theorem w_c24 : (Jvm.Cond.code ({ cls := "XorGaussSat", name := "modelBits", desc := "()I" } : Jvm.MethodName) prog_1_method_14_code (1 : Nat) (Option.some Jvm.ClassFile.FieldType.int)).before args0 about1 = true := code_word (m := ⟨2, 8⟩) (meth := k2m8) (c := k2c8) (by decide +kernel) rfl rfl rfl (by decide +kernel)
set_option maxRecDepth 65536 in
theorem w_c25 : (Jvm.Cond.code ({ cls := "XorGaussSat", name := "addLiteral", desc := "(IZ)I" } : Jvm.MethodName) prog_1_method_3_code (3 : Nat) (Option.some Jvm.ClassFile.FieldType.int)).before args0 about1 = true := code_word (m := ⟨2, 2⟩) (meth := k2m2) (c := k2c2) (by decide +kernel) rfl rfl rfl (by decide +kernel)
set_option maxRecDepth 65536 in
theorem w_c26 : (Jvm.Cond.code ({ cls := "XorGaussSat", name := "popConstraint", desc := "()I" } : Jvm.MethodName) prog_1_method_8_code (2 : Nat) (Option.some Jvm.ClassFile.FieldType.int)).before args0 about1 = true := code_word (m := ⟨2, 6⟩) (meth := k2m6) (c := k2c6) (by decide +kernel) rfl rfl rfl (by decide +kernel)
set_option maxRecDepth 65536 in
theorem w_c27 : (Jvm.Cond.code ({ cls := "XorGaussSat", name := "commitClause", desc := "()I" } : Jvm.MethodName) prog_1_method_6_code (2 : Nat) (Option.some Jvm.ClassFile.FieldType.int)).before args0 about1 = true := code_word (m := ⟨2, 4⟩) (meth := k2m4) (c := k2c4) (by decide +kernel) rfl rfl rfl (by decide +kernel)
set_option maxRecDepth 65536 in
theorem w_c28 : (Jvm.Cond.code ({ cls := "XorGaussSat", name := "pendingMask", desc := "(Z)I" } : Jvm.MethodName) prog_1_method_18_code (4 : Nat) (Option.some Jvm.ClassFile.FieldType.int)).before args0 about1 = true := code_word (m := ⟨2, 11⟩) (meth := k2m11) (c := k2c11) (by decide +kernel) rfl rfl rfl (by decide +kernel)
set_option maxRecDepth 65536 in
theorem w_c29 : (Jvm.Cond.code ({ cls := "XorGaussSat", name := "pushOrder", desc := "(I)V" } : Jvm.MethodName) prog_1_method_21_code (2 : Nat) (Option.none : Option Jvm.ClassFile.FieldType)).before args0 about1 = true := code_word (m := ⟨2, 14⟩) (meth := k2m14) (c := k2c14) (by decide +kernel) rfl rfl rfl (by decide +kernel)
set_option maxRecDepth 65536 in
theorem w_c30 : (Jvm.Cond.code ({ cls := "XorGaussSat", name := "clauseHolds", desc := "(II)Z" } : Jvm.MethodName) prog_1_method_22_code (4 : Nat) (Option.some Jvm.ClassFile.FieldType.boolean)).before args0 about1 = true := code_word (m := ⟨2, 15⟩) (meth := k2m15) (c := k2c15) (by decide +kernel) rfl rfl rfl (by decide +kernel)
set_option maxRecDepth 65536 in
theorem w_c31 : (Jvm.Cond.code ({ cls := "XorGaussSat", name := "countAffinePoints", desc := "(I)I" } : Jvm.MethodName) prog_1_method_37_code (6 : Nat) (Option.some Jvm.ClassFile.FieldType.int)).before args0 about1 = true := code_word (m := ⟨2, 30⟩) (meth := k2m30) (c := k2c30) (by decide +kernel) rfl rfl rfl (by decide +kernel)
set_option maxRecDepth 65536 in
theorem w_c32 : (Jvm.Cond.code ({ cls := "XorGaussSat", name := "completeFromFree", desc := "(I)I" } : Jvm.MethodName) prog_1_method_36_code (7 : Nat) (Option.some Jvm.ClassFile.FieldType.int)).before args0 about1 = true := code_word (m := ⟨2, 29⟩) (meth := k2m29) (c := k2c29) (by decide +kernel) rfl rfl rfl (by decide +kernel)
set_option maxRecDepth 65536 in
theorem w_c33 : (Jvm.Cond.code ({ cls := "XorGaussSat", name := "allClausesHold", desc := "(I)Z" } : Jvm.MethodName) prog_1_method_24_code (3 : Nat) (Option.some Jvm.ClassFile.FieldType.boolean)).before args0 about1 = true := code_word (m := ⟨2, 17⟩) (meth := k2m17) (c := k2c17) (by decide +kernel) rfl rfl rfl (by decide +kernel)
set_option maxRecDepth 65536 in
theorem w_c34 : (Jvm.Cond.code ({ cls := "XorGaussSat", name := "propagateClause", desc := "(I)Z" } : Jvm.MethodName) prog_1_method_47_code (9 : Nat) (Option.some Jvm.ClassFile.FieldType.boolean)).before args0 about1 = true := code_word (m := ⟨2, 40⟩) (meth := k2m40) (c := k2c40) (by decide +kernel) rfl rfl rfl (by decide +kernel)
set_option maxRecDepth 65536 in
theorem w_c35 : (Jvm.Cond.code ({ cls := "XorGaussSat", name := "backtrack", desc := "()Z" } : Jvm.MethodName) prog_1_method_44_code (3 : Nat) (Option.some Jvm.ClassFile.FieldType.boolean)).before args0 about1 = true := code_word (m := ⟨2, 37⟩) (meth := k2m37) (c := k2c37) (by decide +kernel) rfl rfl rfl (by decide +kernel)
set_option maxRecDepth 65536 in
theorem w_c36 : (Jvm.Cond.code ({ cls := "XorGaussSat", name := "commitXor", desc := "(Z)I" } : Jvm.MethodName) prog_1_method_7_code (4 : Nat) (Option.some Jvm.ClassFile.FieldType.int)).before args0 about1 = true := code_word (m := ⟨2, 5⟩) (meth := k2m5) (c := k2c5) (by decide +kernel) rfl rfl rfl (by decide +kernel)
set_option maxRecDepth 65536 in
theorem w_c37 : (Jvm.Cond.code ({ cls := "XorGaussSat", name := "pendingNegatedParity", desc := "()I" } : Jvm.MethodName) prog_1_method_20_code (3 : Nat) (Option.some Jvm.ClassFile.FieldType.int)).before args0 about1 = true := code_word (m := ⟨2, 13⟩) (meth := k2m13) (c := k2c13) (by decide +kernel) rfl rfl rfl (by decide +kernel)
set_option maxRecDepth 65536 in
theorem w_c38 : (Jvm.Cond.code ({ cls := "XorGaussSat", name := "pendingXorMask", desc := "()I" } : Jvm.MethodName) prog_1_method_19_code (3 : Nat) (Option.some Jvm.ClassFile.FieldType.int)).before args0 about1 = true := code_word (m := ⟨2, 12⟩) (meth := k2m12) (c := k2c12) (by decide +kernel) rfl rfl rfl (by decide +kernel)
set_option maxRecDepth 65536 in
theorem w_c39 : (Jvm.Cond.code ({ cls := "XorGaussSat", name := "xorHolds", desc := "(II)Z" } : Jvm.MethodName) prog_1_method_23_code (4 : Nat) (Option.some Jvm.ClassFile.FieldType.boolean)).before args0 about1 = true := code_word (m := ⟨2, 16⟩) (meth := k2m16) (c := k2c16) (by decide +kernel) rfl rfl rfl (by decide +kernel)
set_option maxRecDepth 65536 in
theorem w_c40 : (Jvm.Cond.code ({ cls := "XorGaussSat", name := "parity", desc := "(I)I" } : Jvm.MethodName) prog_1_method_25_code (3 : Nat) (Option.some Jvm.ClassFile.FieldType.int)).before args0 about1 = true := code_word (m := ⟨2, 18⟩) (meth := k2m18) (c := k2c18) (by decide +kernel) rfl rfl rfl (by decide +kernel)
set_option maxRecDepth 65536 in
theorem w_c41 : (Jvm.Cond.code ({ cls := "XorGaussSat", name := "clearPending", desc := "()V" } : Jvm.MethodName) prog_1_method_4_code (1 : Nat) (Option.none : Option Jvm.ClassFile.FieldType)).before args0 about1 = true := code_word (m := ⟨2, 3⟩) (meth := k2m3) (c := k2c3) (by decide +kernel) rfl rfl rfl (by decide +kernel)
set_option maxRecDepth 65536 in
theorem w_c42 : (Jvm.Cond.code ({ cls := "XorGaussSat", name := "swapRows", desc := "(II)V" } : Jvm.MethodName) prog_1_method_31_code (5 : Nat) (Option.none : Option Jvm.ClassFile.FieldType)).before args0 about1 = true := code_word (m := ⟨2, 24⟩) (meth := k2m24) (c := k2c24) (by decide +kernel) rfl rfl rfl (by decide +kernel)
set_option maxRecDepth 65536 in
theorem w_c43 : (Jvm.Cond.code ({ cls := "XorGaussSat", name := "clearColumn", desc := "(II)V" } : Jvm.MethodName) prog_1_method_32_code (5 : Nat) (Option.none : Option Jvm.ClassFile.FieldType)).before args0 about1 = true := code_word (m := ⟨2, 25⟩) (meth := k2m25) (c := k2c25) (by decide +kernel) rfl rfl rfl (by decide +kernel)
set_option maxRecDepth 65536 in
theorem w_c44 : (Jvm.Cond.code ({ cls := "XorGaussSat", name := "isSingleBit", desc := "(I)Z" } : Jvm.MethodName) prog_1_method_28_code (2 : Nat) (Option.some Jvm.ClassFile.FieldType.boolean)).before args0 about1 = true := code_word (m := ⟨2, 21⟩) (meth := k2m21) (c := k2c21) (by decide +kernel) rfl rfl rfl (by decide +kernel)
set_option maxRecDepth 65536 in
theorem w_c45 : (Jvm.Cond.code ({ cls := "XorGaussSat", name := "lowestBit", desc := "(I)I" } : Jvm.MethodName) prog_1_method_27_code (3 : Nat) (Option.some Jvm.ClassFile.FieldType.int)).before args0 about1 = true := code_word (m := ⟨2, 20⟩) (meth := k2m20) (c := k2c20) (by decide +kernel) rfl rfl rfl (by decide +kernel)
set_option maxRecDepth 65536 in
theorem w_c46 : (Jvm.Cond.code ({ cls := "XorGaussSat", name := "undoTo", desc := "(I)V" } : Jvm.MethodName) prog_1_method_41_code (5 : Nat) (Option.none : Option Jvm.ClassFile.FieldType)).before args0 about1 = true := code_word (m := ⟨2, 34⟩) (meth := k2m34) (c := k2c34) (by decide +kernel) rfl rfl rfl (by decide +kernel)
def codes1 : List Jvm.Cond := [Jvm.Cond.code x code maxLocals ret, Jvm.Cond.code ({ cls := "XorGaussSatOwnLaw", name := "cell", desc := "([II)I" } : Jvm.MethodName) method_2_code (2 : Nat) (Option.some Jvm.ClassFile.FieldType.int), Jvm.Cond.code ({ cls := "XorGaussSat", name := "<init>", desc := "(I)V" } : Jvm.MethodName) prog_1_method_1_code (3 : Nat) (Option.none : Option Jvm.ClassFile.FieldType), Jvm.Cond.code ({ cls := "java/lang/Object", name := "<init>", desc := "()V" } : Jvm.MethodName) object_method_1_code (1 : Nat) (Option.none : Option Jvm.ClassFile.FieldType), Jvm.Cond.code ({ cls := "XorGaussSat", name := "variables", desc := "()I" } : Jvm.MethodName) prog_1_method_2_code (1 : Nat) (Option.some Jvm.ClassFile.FieldType.int), Jvm.Cond.code ({ cls := "XorGaussSat", name := "violations", desc := "(I)I" } : Jvm.MethodName) prog_1_method_15_code (5 : Nat) (Option.some Jvm.ClassFile.FieldType.int), Jvm.Cond.code ({ cls := "XorGaussSatOwnLaw", name := "before", desc := "(II)Z" } : Jvm.MethodName) method_3_code (4 : Nat) (Option.some Jvm.ClassFile.FieldType.boolean), Jvm.Cond.code ({ cls := "XorGaussSat", name := "countModels", desc := "()I" } : Jvm.MethodName) prog_1_method_16_code (3 : Nat) (Option.some Jvm.ClassFile.FieldType.int), Jvm.Cond.code ({ cls := "XorGaussSat", name := "ensureEchelon", desc := "()V" } : Jvm.MethodName) prog_1_method_34_code (2 : Nat) (Option.none : Option Jvm.ClassFile.FieldType), Jvm.Cond.code ({ cls := "XorGaussSat", name := "eliminate", desc := "()V" } : Jvm.MethodName) prog_1_method_29_code (3 : Nat) (Option.none : Option Jvm.ClassFile.FieldType), Jvm.Cond.code ({ cls := "XorGaussSat", name := "findPivot", desc := "(I)I" } : Jvm.MethodName) prog_1_method_30_code (4 : Nat) (Option.some Jvm.ClassFile.FieldType.int), Jvm.Cond.code ({ cls := "XorGaussSat", name := "scratchConsistent", desc := "()Z" } : Jvm.MethodName) prog_1_method_33_code (2 : Nat) (Option.some Jvm.ClassFile.FieldType.boolean), Jvm.Cond.code ({ cls := "XorGaussSat", name := "echPivotMask", desc := "()I" } : Jvm.MethodName) prog_1_method_35_code (3 : Nat) (Option.some Jvm.ClassFile.FieldType.int), Jvm.Cond.code ({ cls := "XorGaussSat", name := "bitCount", desc := "(I)I" } : Jvm.MethodName) prog_1_method_26_code (5 : Nat) (Option.some Jvm.ClassFile.FieldType.int), Jvm.Cond.code ({ cls := "XorGaussSat", name := "solve", desc := "()I" } : Jvm.MethodName) prog_1_method_11_code (1 : Nat) (Option.some Jvm.ClassFile.FieldType.int), Jvm.Cond.code ({ cls := "XorGaussSat", name := "search", desc := "(II)Z" } : Jvm.MethodName) prog_1_method_38_code (4 : Nat) (Option.some Jvm.ClassFile.FieldType.boolean), Jvm.Cond.code ({ cls := "XorGaussSat", name := "resetSearch", desc := "()V" } : Jvm.MethodName) prog_1_method_39_code (1 : Nat) (Option.none : Option Jvm.ClassFile.FieldType), Jvm.Cond.code ({ cls := "XorGaussSat", name := "propagate", desc := "()Z" } : Jvm.MethodName) prog_1_method_45_code (3 : Nat) (Option.some Jvm.ClassFile.FieldType.boolean), Jvm.Cond.code ({ cls := "XorGaussSat", name := "propagateClauses", desc := "()Z" } : Jvm.MethodName) prog_1_method_46_code (2 : Nat) (Option.some Jvm.ClassFile.FieldType.boolean), Jvm.Cond.code ({ cls := "XorGaussSat", name := "propagateXors", desc := "()Z" } : Jvm.MethodName) prog_1_method_49_code (4 : Nat) (Option.some Jvm.ClassFile.FieldType.boolean), Jvm.Cond.code ({ cls := "XorGaussSat", name := "loadResidualRows", desc := "()V" } : Jvm.MethodName) prog_1_method_48_code (3 : Nat) (Option.none : Option Jvm.ClassFile.FieldType), Jvm.Cond.code ({ cls := "XorGaussSat", name := "decide", desc := "()V" } : Jvm.MethodName) prog_1_method_43_code (2 : Nat) (Option.none : Option Jvm.ClassFile.FieldType), Jvm.Cond.code ({ cls := "XorGaussSat", name := "lowestUnassigned", desc := "()I" } : Jvm.MethodName) prog_1_method_42_code (2 : Nat) (Option.some Jvm.ClassFile.FieldType.int), Jvm.Cond.code ({ cls := "XorGaussSat", name := "assign", desc := "(II)V" } : Jvm.MethodName) prog_1_method_40_code (4 : Nat) (Option.none : Option Jvm.ClassFile.FieldType), Jvm.Cond.code ({ cls := "XorGaussSat", name := "modelBits", desc := "()I" } : Jvm.MethodName) prog_1_method_14_code (1 : Nat) (Option.some Jvm.ClassFile.FieldType.int), Jvm.Cond.code ({ cls := "XorGaussSat", name := "addLiteral", desc := "(IZ)I" } : Jvm.MethodName) prog_1_method_3_code (3 : Nat) (Option.some Jvm.ClassFile.FieldType.int), Jvm.Cond.code ({ cls := "XorGaussSat", name := "popConstraint", desc := "()I" } : Jvm.MethodName) prog_1_method_8_code (2 : Nat) (Option.some Jvm.ClassFile.FieldType.int), Jvm.Cond.code ({ cls := "XorGaussSat", name := "commitClause", desc := "()I" } : Jvm.MethodName) prog_1_method_6_code (2 : Nat) (Option.some Jvm.ClassFile.FieldType.int), Jvm.Cond.code ({ cls := "XorGaussSat", name := "pendingMask", desc := "(Z)I" } : Jvm.MethodName) prog_1_method_18_code (4 : Nat) (Option.some Jvm.ClassFile.FieldType.int), Jvm.Cond.code ({ cls := "XorGaussSat", name := "pushOrder", desc := "(I)V" } : Jvm.MethodName) prog_1_method_21_code (2 : Nat) (Option.none : Option Jvm.ClassFile.FieldType), Jvm.Cond.code ({ cls := "XorGaussSat", name := "clauseHolds", desc := "(II)Z" } : Jvm.MethodName) prog_1_method_22_code (4 : Nat) (Option.some Jvm.ClassFile.FieldType.boolean), Jvm.Cond.code ({ cls := "XorGaussSat", name := "countAffinePoints", desc := "(I)I" } : Jvm.MethodName) prog_1_method_37_code (6 : Nat) (Option.some Jvm.ClassFile.FieldType.int), Jvm.Cond.code ({ cls := "XorGaussSat", name := "completeFromFree", desc := "(I)I" } : Jvm.MethodName) prog_1_method_36_code (7 : Nat) (Option.some Jvm.ClassFile.FieldType.int), Jvm.Cond.code ({ cls := "XorGaussSat", name := "allClausesHold", desc := "(I)Z" } : Jvm.MethodName) prog_1_method_24_code (3 : Nat) (Option.some Jvm.ClassFile.FieldType.boolean), Jvm.Cond.code ({ cls := "XorGaussSat", name := "propagateClause", desc := "(I)Z" } : Jvm.MethodName) prog_1_method_47_code (9 : Nat) (Option.some Jvm.ClassFile.FieldType.boolean), Jvm.Cond.code ({ cls := "XorGaussSat", name := "backtrack", desc := "()Z" } : Jvm.MethodName) prog_1_method_44_code (3 : Nat) (Option.some Jvm.ClassFile.FieldType.boolean), Jvm.Cond.code ({ cls := "XorGaussSat", name := "commitXor", desc := "(Z)I" } : Jvm.MethodName) prog_1_method_7_code (4 : Nat) (Option.some Jvm.ClassFile.FieldType.int), Jvm.Cond.code ({ cls := "XorGaussSat", name := "pendingNegatedParity", desc := "()I" } : Jvm.MethodName) prog_1_method_20_code (3 : Nat) (Option.some Jvm.ClassFile.FieldType.int), Jvm.Cond.code ({ cls := "XorGaussSat", name := "pendingXorMask", desc := "()I" } : Jvm.MethodName) prog_1_method_19_code (3 : Nat) (Option.some Jvm.ClassFile.FieldType.int), Jvm.Cond.code ({ cls := "XorGaussSat", name := "xorHolds", desc := "(II)Z" } : Jvm.MethodName) prog_1_method_23_code (4 : Nat) (Option.some Jvm.ClassFile.FieldType.boolean), Jvm.Cond.code ({ cls := "XorGaussSat", name := "parity", desc := "(I)I" } : Jvm.MethodName) prog_1_method_25_code (3 : Nat) (Option.some Jvm.ClassFile.FieldType.int), Jvm.Cond.code ({ cls := "XorGaussSat", name := "clearPending", desc := "()V" } : Jvm.MethodName) prog_1_method_4_code (1 : Nat) (Option.none : Option Jvm.ClassFile.FieldType), Jvm.Cond.code ({ cls := "XorGaussSat", name := "swapRows", desc := "(II)V" } : Jvm.MethodName) prog_1_method_31_code (5 : Nat) (Option.none : Option Jvm.ClassFile.FieldType), Jvm.Cond.code ({ cls := "XorGaussSat", name := "clearColumn", desc := "(II)V" } : Jvm.MethodName) prog_1_method_32_code (5 : Nat) (Option.none : Option Jvm.ClassFile.FieldType), Jvm.Cond.code ({ cls := "XorGaussSat", name := "isSingleBit", desc := "(I)Z" } : Jvm.MethodName) prog_1_method_28_code (2 : Nat) (Option.some Jvm.ClassFile.FieldType.boolean), Jvm.Cond.code ({ cls := "XorGaussSat", name := "lowestBit", desc := "(I)I" } : Jvm.MethodName) prog_1_method_27_code (3 : Nat) (Option.some Jvm.ClassFile.FieldType.int), Jvm.Cond.code ({ cls := "XorGaussSat", name := "undoTo", desc := "(I)V" } : Jvm.MethodName) prog_1_method_41_code (5 : Nat) (Option.none : Option Jvm.ClassFile.FieldType)]
set_option maxRecDepth 65536 in
theorem codes_eq : words1.filter isCode = codes1 := rfl
theorem w_codes : ∀ c ∈ words1.filter isCode, c.before args0 about1 = true := by
  rw [codes_eq]
  intro c hc
  simp only [codes1, List.mem_cons, List.not_mem_nil, or_false] at hc
  rcases hc with rfl | rfl | rfl | rfl | rfl | rfl | rfl | rfl | rfl | rfl | rfl | rfl | rfl | rfl | rfl | rfl | rfl | rfl | rfl | rfl | rfl | rfl | rfl | rfl | rfl | rfl | rfl | rfl | rfl | rfl | rfl | rfl | rfl | rfl | rfl | rfl | rfl | rfl | rfl | rfl | rfl | rfl | rfl | rfl | rfl | rfl | rfl
  · exact w_c0
  · exact w_c1
  · exact w_c2
  · exact w_c3
  · exact w_c4
  · exact w_c5
  · exact w_c6
  · exact w_c7
  · exact w_c8
  · exact w_c9
  · exact w_c10
  · exact w_c11
  · exact w_c12
  · exact w_c13
  · exact w_c14
  · exact w_c15
  · exact w_c16
  · exact w_c17
  · exact w_c18
  · exact w_c19
  · exact w_c20
  · exact w_c21
  · exact w_c22
  · exact w_c23
  · exact w_c24
  · exact w_c25
  · exact w_c26
  · exact w_c27
  · exact w_c28
  · exact w_c29
  · exact w_c30
  · exact w_c31
  · exact w_c32
  · exact w_c33
  · exact w_c34
  · exact w_c35
  · exact w_c36
  · exact w_c37
  · exact w_c38
  · exact w_c39
  · exact w_c40
  · exact w_c41
  · exact w_c42
  · exact w_c43
  · exact w_c44
  · exact w_c45
  · exact w_c46
set_option maxRecDepth 65536 in
theorem w_t1 : (words1.take 24).all (fun c => isCode c || c.before args0 about1) = true := by decide +kernel
set_option maxRecDepth 65536 in
theorem w_t2 : ((words1.drop 24).take 24).all (fun c => isCode c || c.before args0 about1) = true := by decide +kernel
set_option maxRecDepth 65536 in
theorem w_t3 : (((words1.drop 24).drop 24).take 24).all (fun c => isCode c || c.before args0 about1) = true := by decide +kernel
set_option maxRecDepth 65536 in
theorem w_t4 : ((((words1.drop 24).drop 24).drop 24).take 24).all (fun c => isCode c || c.before args0 about1) = true := by decide +kernel
set_option maxRecDepth 65536 in
theorem w_t5 : (((((words1.drop 24).drop 24).drop 24).drop 24).take 24).all (fun c => isCode c || c.before args0 about1) = true := by decide +kernel
set_option maxRecDepth 65536 in
theorem w_t6 : ((((((words1.drop 24).drop 24).drop 24).drop 24).drop 24).take 24).all (fun c => isCode c || c.before args0 about1) = true := by decide +kernel
set_option maxRecDepth 65536 in
theorem w_t7 : (((((((words1.drop 24).drop 24).drop 24).drop 24).drop 24).drop 24).take 24).all (fun c => isCode c || c.before args0 about1) = true := by decide +kernel
set_option maxRecDepth 65536 in
theorem w_t8 : ((((((((words1.drop 24).drop 24).drop 24).drop 24).drop 24).drop 24).drop 24).take 24).all (fun c => isCode c || c.before args0 about1) = true := by decide +kernel
set_option maxRecDepth 65536 in
theorem w_t9 : (((((((((words1.drop 24).drop 24).drop 24).drop 24).drop 24).drop 24).drop 24).drop 24).take 24).all (fun c => isCode c || c.before args0 about1) = true := by decide +kernel
set_option maxRecDepth 65536 in
theorem w_t10 : ((((((((((words1.drop 24).drop 24).drop 24).drop 24).drop 24).drop 24).drop 24).drop 24).drop 24).take 24).all (fun c => isCode c || c.before args0 about1) = true := by decide +kernel
set_option maxRecDepth 65536 in
theorem w_t11 : (((((((((((words1.drop 24).drop 24).drop 24).drop 24).drop 24).drop 24).drop 24).drop 24).drop 24).drop 24).take 24).all (fun c => isCode c || c.before args0 about1) = true := by decide +kernel
set_option maxRecDepth 65536 in
theorem w_t12 : (((((((((((words1.drop 24).drop 24).drop 24).drop 24).drop 24).drop 24).drop 24).drop 24).drop 24).drop 24).drop 24).all (fun c => isCode c || c.before args0 about1) = true := by decide +kernel
theorem w_tables : (allAtoms (Jvm.Cond.code x code maxLocals ret :: tables_1)).before args0 about1 = true := by
  rw [allAtoms_all]
  show words1.all (fun c => c.before args0 about1) = true
  refine all_split ?_ w_codes
  rw [← List.take_append_drop 24 words1, List.all_append, w_t1, ← List.take_append_drop 24 (words1.drop 24), List.all_append, w_t2, ← List.take_append_drop 24 ((words1.drop 24).drop 24), List.all_append, w_t3, ← List.take_append_drop 24 (((words1.drop 24).drop 24).drop 24), List.all_append, w_t4, ← List.take_append_drop 24 ((((words1.drop 24).drop 24).drop 24).drop 24), List.all_append, w_t5, ← List.take_append_drop 24 (((((words1.drop 24).drop 24).drop 24).drop 24).drop 24), List.all_append, w_t6, ← List.take_append_drop 24 ((((((words1.drop 24).drop 24).drop 24).drop 24).drop 24).drop 24), List.all_append, w_t7, ← List.take_append_drop 24 (((((((words1.drop 24).drop 24).drop 24).drop 24).drop 24).drop 24).drop 24), List.all_append, w_t8, ← List.take_append_drop 24 ((((((((words1.drop 24).drop 24).drop 24).drop 24).drop 24).drop 24).drop 24).drop 24), List.all_append, w_t9, ← List.take_append_drop 24 (((((((((words1.drop 24).drop 24).drop 24).drop 24).drop 24).drop 24).drop 24).drop 24).drop 24), List.all_append, w_t10, ← List.take_append_drop 24 ((((((((((words1.drop 24).drop 24).drop 24).drop 24).drop 24).drop 24).drop 24).drop 24).drop 24).drop 24), List.all_append, w_t11, w_t12]
  rfl
set_option maxRecDepth 65536 in
theorem w_rest : rest_1_c.before args0 about1 = true := by decide +kernel
set_option maxRecDepth 65536 in
theorem w_case : (Jvm.Cond.and given_1 narrow_1).before args0 about1 = true := by decide +kernel
theorem w_applies : (headSpec (Jvm.Cond.code x code maxLocals ret :: tables_1) room_1).applies x e0.platform about1 = true :=
  (Spec.applies_iff w_frames).mpr ⟨w_running, w_runnable, w_alone, w_named, w_hears, w_ripe, w_room, w_tables⟩
theorem atStart : AtStart classFile x code maxLocals ret World_1 tables_1 room_1 Calls_1 rest_1 Pre_1 launch0 p0 e0 about1 theMethod args0 below0 :=
  ⟨lists_1, trivial, launch0.admits_env _ _ _, launch0.least_env, fairChoices_fair.cas, fairChoices_fair.clock, w_frames, w_args, w_heap, w_applies, trivial, w_rest, w_case⟩
end start1
theorem witness_1 : WitnessClaimed_1 := ⟨start1.p0, start1.e0, start1.about1, start1.theMethod, start1.args0, start1.below0, start1.atStart⟩
end Jvm.Pilot.@@N@@
