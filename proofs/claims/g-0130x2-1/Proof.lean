import JvmDerived
import JvmDerived.Pilot.@@N@@Statement
import JvmDerived.Pilot.@@N@@Code
set_option linter.unusedVariables false
set_option linter.unusedSimpArgs false
namespace Jvm.RoadKit
open Sem ClassFile Op Lib Jvm.Stand Jvm.Free Jvm.LawKit
section New
variable {p : Program} {l : Launch} {e : Env} {R : Room} {s : State} {m : MethodId} {args : Array Value} {below : List Frame} {meth : Method} {c : Code} {T : State} {locs : List Loc} {cells slots : Nat}
theorem retI (X : Stand p l e R s m args below meth c T locs cells slots) (hx : p.tables.exec = Jvm.exec) {pc : Nat} {Ls : Array Slot} {z : Int32} {rest : List Value} (hret : meth.sig.returnType = some .int) (hd : decode c.code pc = .ok (.ireturn, 1)) {fs : List Frame}
    (hl : ∀ (f : JFrame) (acts : List Action), f.method = m → f.locked = none → f.entered = [] → (doReturn e (T.setTop f) acts (some (.int z))).1 = T.setFrames fs) : Steps p.tables e below (T.setTop (mkF m pc Ls (.int z :: rest))) (T.setFrames fs) := by
  have hm' : T.vm.method? m = some meth := X.method'
  have hn : narrow .int (.int z) = .int z := rfl
  show Steps p.tables e below (T.setTop { method := m, pc := pc, locals := Ls, stack := _ :: rest, locked := none }) _
  jvm_step X.here [X.here.top, hx, hd, hm', hret, hn]
  first | (intro acts; rw [hl _ acts rfl rfl rfl]) | rw [hl _ _ rfl rfl rfl]
  exact Steps.refl _
end New
end Jvm.RoadKit
namespace Jvm.Pilot.@@N@@
open Jvm Jvm.ClassFile Sem Op Lib Jvm.Free Jvm.Stand Jvm.LawKit Jvm.RoadKit Bundle Jvm.Pilot.@@N@@.Jvm.D
/- records: scalars, int-like arrays, long arrays -/
abbrev Rec : Type := (Nat → Int32) × (Nat → Int32 → Int32) × (Nat → Int32 → Int64)
def zrec : Rec := (fun _ => 0, fun _ _ => 0, fun _ _ => 0)
def gI (ob : Rec) (k : Nat) : Int32 := ob.1 k
def gA (ob : Rec) (k : Nat) (i : Int32) : Int32 := ob.2.1 k i
def gJ (ob : Rec) (k : Nat) (i : Int32) : Int64 := ob.2.2 k i
def sI (ob : Rec) (k : Nat) (v : Int32) : Rec := (fun j => if j = k then v else ob.1 j, ob.2)
def sA (ob : Rec) (k : Nat) (i v : Int32) : Rec := (ob.1, fun j x => if j = k ∧ x = i then v else ob.2.1 j x, ob.2.2)
def sJ (ob : Rec) (k : Nat) (i : Int32) (v : Int64) : Rec := (ob.1, ob.2.1, fun j x => if j = k ∧ x = i then v else ob.2.2 j x)
def chk {γ : Type} (n i : Int32) (A : Option γ) : Option γ := if i < 0 then none else if i < n then A else none
def dvz {γ : Type} (y : Int32) (A : Option γ) : Option γ := if y = 0 then none else A
def bind2 {α β γ : Type} (o : Option (α × β)) (f : α → β → Option γ) : Option γ := o.bind fun q => f q.1 q.2
def bind3 {α β γ δ : Type} (o : Option (α × β × δ)) (f : α → β → δ → Option γ) : Option γ := o.bind fun q => f q.1 q.2.1 q.2.2
theorem ite_el {c : Prop} [Decidable c] {γ : Type} {A B : Option γ} {r : γ} {Q : Prop} (h : (if c then A else B) = some r) (t : c → A = some r → Q) (e : ¬ c → B = some r → Q) : Q := by
  by_cases hc : c
  · rw [if_pos hc] at h; exact t hc h
  · rw [if_neg hc] at h; exact e hc h
theorem bind_el {α γ : Type} {o : Option α} {f : α → Option γ} {r : γ} {Q : Prop} (h : o.bind f = some r) (k : ∀ x, o = some x → f x = some r → Q) : Q := by
  cases o with
  | none => cases h
  | some x => exact k x rfl h
theorem bind2_el {α β γ : Type} {o : Option (α × β)} {f : α → β → Option γ} {r : γ} {Q : Prop} (h : bind2 o f = some r) (k : ∀ x y, o = some (x, y) → f x y = some r → Q) : Q := by
  rcases o with _ | ⟨x, y⟩
  · cases h
  · exact k x y rfl h
theorem bind3_el {α β γ δ : Type} {o : Option (α × β × δ)} {f : α → β → δ → Option γ} {r : γ} {Q : Prop} (h : bind3 o f = some r) (k : ∀ x y z, o = some (x, y, z) → f x y z = some r → Q) : Q := by
  rcases o with _ | ⟨x, y, z⟩
  · cases h
  · exact k x y z rfl h
theorem chk_el {γ : Type} {n i : Int32} {A : Option γ} {r : γ} {Q : Prop} (h : chk n i A = some r) (k : (¬ i < 0 ∧ i < n) → A = some r → Q) : Q := by
  unfold chk at h
  by_cases h0 : i < 0
  · rw [if_pos h0] at h; cases h
  · rw [if_neg h0] at h
    by_cases h1 : i < n
    · rw [if_pos h1] at h; exact k ⟨h0, h1⟩ h
    · rw [if_neg h1] at h; cases h
theorem dvz_el {γ : Type} {y : Int32} {A : Option γ} {r : γ} {Q : Prop} (h : dvz y A = some r) (k : y ≠ 0 → A = some r → Q) : Q := by
  unfold dvz at h
  by_cases h0 : y = 0
  · rw [if_pos h0] at h; cases h
  · rw [if_neg h0] at h; exact k h0 h
def All {α : Type} (p : α → Prop) : List α → Prop
  | [] => True
  | x :: l => p x ∧ All p l
theorem All.mem {α : Type} {p : α → Prop} : ∀ {l : List α}, All p l → ∀ {x : α}, x ∈ l → p x
  | [], _, _, h => nomatch h
  | _ :: _, H, _, h => (List.mem_cons.mp h).elim (fun e => e ▸ H.1) (fun e => All.mem H.2 e)
def el (ty : FieldType) (ob : Rec) (k : Nat) (j : Int32) : Value := match ty with
  | .long => .long (ob.2.2 k j)
  | _ => .int (ob.2.1 k j)
def aD (ty : FieldType) : String := match ty with
  | .int => "[I"
  | .boolean => "[Z"
  | _ => "[J"
abbrev Cls : Type := String × List (String × String) × List (String × FieldType × Int32)
abbrev mem1 (k : Nat) {d : Jvm.Cond} (h : tables_1[k]? = some d) : d ∈ tables_1 := List.mem_of_getElem? h
abbrev sOk (C : String) (nd : String × String) : Prop := (Jvm.Cond.lays C C nd.1 nd.2 ∈ tables_1 ∨ Jvm.Cond.laysFinal C C nd.1 nd.2 ∈ tables_1) ∧ (nd.2 = "I" ∨ nd.2 = "Z")
abbrev aOk (C : String) (t : String × FieldType × Int32) : Prop := (Jvm.Cond.lays C C t.1 (aD t.2.1) ∈ tables_1 ∨ Jvm.Cond.laysFinal C C t.1 (aD t.2.1) ∈ tables_1) ∧ (t.2.1 = .int ∨ t.2.1 = .boolean ∨ t.2.1 = .long) ∧ ¬ t.2.2 < 0
def K : Cls := ("WsClockPager", [("procs", "I"), ("pages", "I"), ("frames", "I"), ("tau", "I"), ("status", "I"), ("suspensionCount", "I"), ("readmissionCount", "I"), ("hand", "I")], [("suspended", .boolean, 4), ("vtime", .int, 4), ("winLen", .int, 4), ("winHead", .int, 4), ("wsSize", .int, 4), ("touchedCount", .int, 4), ("ring", .int, 64), ("winCount", .int, 64), ("touched", .boolean, 64), ("pageFrame", .int, 64), ("pageSlot", .int, 64), ("pageLastUse", .int, 64), ("frameOwner", .int, 32), ("frameRef", .boolean, 32), ("frameDirty", .boolean, 32), ("frameWords", .int, 128), ("slotUsed", .boolean, 64), ("swapWords", .int, 256)])
theorem kS : All (sOk K.1) K.2.1 := ⟨⟨Or.inl (mem1 56 rfl), Or.inl rfl⟩, ⟨Or.inl (mem1 58 rfl), Or.inl rfl⟩, ⟨Or.inl (mem1 60 rfl), Or.inl rfl⟩, ⟨Or.inl (mem1 62 rfl), Or.inl rfl⟩, ⟨Or.inl (mem1 64 rfl), Or.inl rfl⟩, ⟨Or.inl (mem1 66 rfl), Or.inl rfl⟩, ⟨Or.inl (mem1 68 rfl), Or.inl rfl⟩, ⟨Or.inl (mem1 70 rfl), Or.inl rfl⟩, trivial⟩
theorem kA : All (aOk K.1) K.2.2 := ⟨⟨Or.inl (mem1 15 rfl), Or.inr (Or.inl rfl), by decide⟩, ⟨Or.inl (mem1 18 rfl), Or.inl rfl, by decide⟩, ⟨Or.inl (mem1 20 rfl), Or.inl rfl, by decide⟩, ⟨Or.inl (mem1 22 rfl), Or.inl rfl, by decide⟩, ⟨Or.inl (mem1 24 rfl), Or.inl rfl, by decide⟩, ⟨Or.inl (mem1 26 rfl), Or.inl rfl, by decide⟩, ⟨Or.inl (mem1 28 rfl), Or.inl rfl, by decide⟩, ⟨Or.inl (mem1 30 rfl), Or.inl rfl, by decide⟩, ⟨Or.inl (mem1 32 rfl), Or.inr (Or.inl rfl), by decide⟩, ⟨Or.inl (mem1 34 rfl), Or.inl rfl, by decide⟩, ⟨Or.inl (mem1 36 rfl), Or.inl rfl, by decide⟩, ⟨Or.inl (mem1 38 rfl), Or.inl rfl, by decide⟩, ⟨Or.inl (mem1 40 rfl), Or.inl rfl, by decide⟩, ⟨Or.inl (mem1 42 rfl), Or.inr (Or.inl rfl), by decide⟩, ⟨Or.inl (mem1 44 rfl), Or.inr (Or.inl rfl), by decide⟩, ⟨Or.inl (mem1 46 rfl), Or.inl rfl, by decide⟩, ⟨Or.inl (mem1 48 rfl), Or.inr (Or.inl rfl), by decide⟩, ⟨Or.inl (mem1 50 rfl), Or.inl rfl, by decide⟩, trivial⟩
abbrev kN : Nat := 26
theorem kI : Jvm.Cond.instantiable K.1 kN ∈ tables_1 := mem1 5 rfl
theorem kZ : Jvm.Cond.initialized K.1 ∈ tables_1 := mem1 6 rfl
theorem kNm : (K.2.1.map (·.1) ++ K.2.2.map (·.1)).Nodup := by decide +kernel
theorem nm_ss {k k' : Nat} {nd nd' : String × String} (h : K.2.1[k]? = some nd) (h' : K.2.1[k']? = some nd') (ne : k ≠ k') : nd.1 ≠ nd'.1 := fun e => by
  have l := (List.getElem?_eq_some_iff.mp h).1
  have l' := (List.getElem?_eq_some_iff.mp h').1
  refine ne ((List.getElem?_inj (l := K.2.1.map (·.1) ++ K.2.2.map (·.1)) (i := k) (j := k') (by simp; omega) kNm).mp ?_)
  rw [List.getElem?_append_left (by simpa using l), List.getElem?_append_left (by simpa using l'), List.getElem?_map, List.getElem?_map, h, h']
  simp [e]
theorem nm_aa {k k' : Nat} {t t' : String × FieldType × Int32} (h : K.2.2[k]? = some t) (h' : K.2.2[k']? = some t') (ne : k ≠ k') : t.1 ≠ t'.1 := fun e => by
  have l := (List.getElem?_eq_some_iff.mp h).1
  have l' := (List.getElem?_eq_some_iff.mp h').1
  have q := (List.getElem?_inj (l := K.2.1.map (·.1) ++ K.2.2.map (·.1)) (i := K.2.1.length + k) (j := K.2.1.length + k') (by simp; omega) kNm).mp (by
    rw [List.getElem?_append_right (by simp), List.getElem?_append_right (by simp)]
    simp [h, h', e])
  omega
theorem nm_sa {k k' : Nat} {nd : String × String} {t : String × FieldType × Int32} (h : K.2.1[k]? = some nd) (h' : K.2.2[k']? = some t) : nd.1 ≠ t.1 := fun e => by
  have l := (List.getElem?_eq_some_iff.mp h).1
  have l' := (List.getElem?_eq_some_iff.mp h').1
  have q := (List.getElem?_inj (l := K.2.1.map (·.1) ++ K.2.2.map (·.1)) (i := k) (j := K.2.1.length + k') (by simp; omega) kNm).mp (by
    rw [List.getElem?_append_left (by simpa using l), List.getElem?_append_right (by simp)]
    simp [h, h', e])
  omega
abbrev Ctx : Type := Launch × State × Nat × Array Value
def Ok (C : Ctx) : Prop := ∀ d ∈ tables_1, d.before C.2.2.2 C.2.1 = true
def ArrAt (Z : State) (h : Heap) (b : Nat) (ty : FieldType) (len : Int32) (v : Int32 → Value) : Prop := ∃ cl : Cell, Arr Z h b cl ty ∧ cl.slots.size = len.toNatClampNeg ∧ ∀ j : Int32, ¬ j < 0 → j < len → cl.slots[j.toNatClampNeg]? = some (v j)
def ObjAt (Z : State) (h : Heap) (a : Nat) (q : Nat) (ob : Rec) : Prop :=
  Exa Z h a K.1 ∧ (∀ k nd, K.2.1[k]? = some nd → Fld Z h a K.1 nd.1 nd.2 (.int (ob.1 k))) ∧
  (∀ k t, K.2.2[k]? = some t → k < q → Fld Z h a K.1 t.1 (aD t.2.1) (.ref (a + 1 + k)) ∧ ArrAt Z h (a + 1 + k) t.2.1 t.2.2 (el t.2.1 ob k)) ∧
  (∀ k t, K.2.2[k]? = some t → q ≤ k → Fld Z h a K.1 t.1 (aD t.2.1) .null)
abbrev AH : Type := Nat × List (Nat × Nat × Rec)
def Rep (Z : State) (n0 : Nat) (h : Heap) (G : AH) : Prop :=
  h.size = G.1 ∧ Old Z n0 h ∧ (∀ x ∈ G.2, n0 ≤ x.1 ∧ x.1 + x.2.1 < G.1 ∧ ObjAt Z h x.1 x.2.1 x.2.2) ∧ G.2.Pairwise (fun x y => x.1 + x.2.1 < y.1 ∨ y.1 + y.2.1 < x.1)
section Facts
variable {Z : State} {h h' : Heap} {a b : Nat} {q k n0 top : Nat} {ob ob' : Rec} {nd : String × String} {t : String × FieldType × Int32} {a0 : Array Value} {sl : Nat} {v : Value} {H : List (Nat × Nat × Rec)} {G : AH}
theorem fld_fr {C n d : String} (e : h'[a]? = h[a]?) (F : Fld Z h a C n d v) : Fld Z h' a C n d v := by
  obtain ⟨cell, cf, k, i, f, h1, r⟩ := F; exact ⟨cell, cf, k, i, f, e.trans h1, r⟩
theorem exa_fr {C : String} (e : h'[a]? = h[a]?) (F : Exa Z h a C) : Exa Z h' a C := by
  obtain ⟨cell, k, h1, r⟩ := F; exact ⟨cell, k, e.trans h1, r⟩
theorem arrAt_fr {ty : FieldType} {len : Int32} {w : Int32 → Value} (e : h'[a]? = h[a]?) (F : ArrAt Z h a ty len w) : ArrAt Z h' a ty len w := by
  obtain ⟨cl, A, r⟩ := F; exact ⟨cl, ⟨e.trans A.1, A.2⟩, r⟩
theorem ObjAt.frame (e : ∀ b, a ≤ b → b ≤ a + q → h'[b]? = h[b]?) (F : ObjAt Z h a q ob) : ObjAt Z h' a q ob := by
  have e0 := e a (Nat.le_refl _) (Nat.le_add_right _ _)
  refine ⟨exa_fr e0 F.1, fun k nd hk => fld_fr e0 (F.2.1 k nd hk), fun k t hk hq => ⟨fld_fr e0 (F.2.2.1 k t hk hq).1, arrAt_fr (e _ (by omega) (by omega)) (F.2.2.1 k t hk hq).2⟩, fun k t hk hq => fld_fr e0 (F.2.2.2 k t hk hq)⟩
theorem ObjAt.ext (E : Ext h h') (F : ObjAt Z h a q ob) : ObjAt Z h' a q ob := by
  refine ⟨F.1.ext E, fun k nd hk => (F.2.1 k nd hk).ext E, fun k t hk hq => ⟨(F.2.2.1 k t hk hq).1.ext E, ?_⟩, fun k t hk hq => (F.2.2.2 k t hk hq).ext E⟩
  obtain ⟨cl, A, r⟩ := (F.2.2.1 k t hk hq).2; exact ⟨cl, A.ext E, r⟩
theorem wr_ne (W : Wr h h' a sl v) (ne : b ≠ a) : h'[b]? = h[b]? := by
  obtain ⟨cell, -, -, -, rfl⟩ := W; exact Array.getElem?_setIfInBounds_ne (Ne.symm ne)
theorem laidS (hw : ∀ d ∈ tables_1, d.before a0 Z = true) (hk : K.2.1[k]? = some nd) : Laid Z a0 K.1 K.1 nd.1 nd.2 := ((All.mem kS (List.mem_of_getElem? hk)).1).imp (hw _) (hw _)
theorem laidA (hw : ∀ d ∈ tables_1, d.before a0 Z = true) (hk : K.2.2[k]? = some t) : Laid Z a0 K.1 K.1 t.1 (aD t.2.1) := ((All.mem kA (List.mem_of_getElem? hk)).1).imp (hw _) (hw _)
theorem pfS (hk : K.2.1[k]? = some nd) : ∃ ty, parseFieldDescriptor nd.2 = some ty := by
  rcases (All.mem kS (List.mem_of_getElem? hk)).2 with e | e <;> rw [e]
  · exact ⟨.int, by decide⟩
  · exact ⟨.boolean, by decide⟩
theorem pfA (hk : K.2.2[k]? = some t) : parseFieldDescriptor (aD t.2.1) = some (.array t.2.1) := by
  rcases (All.mem kA (List.mem_of_getElem? hk)).2.1 with e | e | e <;> rw [e] <;> decide
theorem ObjAt.putI {x : Int32} (hw : ∀ d ∈ tables_1, d.before a0 Z = true) (F : ObjAt Z h a q ob) (hk : K.2.1[k]? = some nd) (W : Wr h h' a (Jvm.RoadKit.slotOf Z K.1 nd.1 nd.2) (.int x)) : ObjAt Z h' a q (sI ob k x) := by
  obtain ⟨ty, hty⟩ := pfS hk
  refine ⟨F.1.wr W, fun k' nd' hk' => ?_, fun k' t hk' hq => ⟨(F.2.2.1 k' t hk' hq).1.other W (Or.inr (Jvm.RoadKit.slot_ne (laidA hw hk') (laidS hw hk) (Ne.symm (nm_sa hk hk')) (pfA hk') hty)), ?_⟩, fun k' t hk' hq => (F.2.2.2 k' t hk' hq).other W (Or.inr (Jvm.RoadKit.slot_ne (laidA hw hk') (laidS hw hk) (Ne.symm (nm_sa hk hk')) (pfA hk') hty))⟩
  · by_cases e : k' = k
    · subst e; cases hk.symm.trans hk'
      have := (F.2.1 k' nd hk).same W
      simpa [sI] using this
    · obtain ⟨ty', hty'⟩ := pfS hk'
      have := (F.2.1 k' nd' hk').other W (Or.inr (Jvm.RoadKit.slot_ne (laidS hw hk') (laidS hw hk) (nm_ss hk' hk e) hty' hty))
      simpa [sI, e] using this
  · have := arrAt_fr (wr_ne W (by omega)) (F.2.2.1 k' t hk' hq).2
    have e : el t.2.1 (sI ob k x) k' = el t.2.1 ob k' := by funext j; unfold el; split <;> rfl
    rw [e]; exact this
theorem ObjAt.putA (F : ObjAt Z h a q ob) (hk : K.2.2[k]? = some t) (hq : k < q) {x : Value} {j : Int32} (hj : ¬ j < 0 ∧ j < t.2.2) (W : Wr h h' (a + 1 + k) j.toNatClampNeg x)
    (e1 : el t.2.1 ob' k = fun i => if i = j then x else el t.2.1 ob k i) (e2 : ∀ k' t', k' ≠ k → el t' ob' k' = el t' ob k') (e3 : ob'.1 = ob.1) : ObjAt Z h' a q ob' := by
  have u : h'[a]? = h[a]? := wr_ne W (by omega)
  refine ⟨exa_fr u F.1, fun k' nd hk' => by rw [e3]; exact fld_fr u (F.2.1 k' nd hk'), fun k' t' hk' hq' => ⟨fld_fr u (F.2.2.1 k' t' hk' hq').1, ?_⟩, fun k' t' hk' hq' => fld_fr u (F.2.2.2 k' t' hk' hq')⟩
  by_cases e : k' = k
  · subst e; cases hk.symm.trans hk'
    obtain ⟨cl, A, S, V⟩ := (F.2.2.1 k' t hk hq).2
    have inb : ¬ (j < 0 ∨ cl.slots.size ≤ j.toNatClampNeg) := inb_of S hj
    refine ⟨_, A.same W, by rw [sz_set]; exact S, fun i h0 h1 => ?_⟩
    rw [e1]
    by_cases ei : i = j
    · simp only [ei, if_true]; exact get_hit inb rfl
    · simp only [ei, if_false]; rw [get_miss hj.1 h0 ei]; exact V i h0 h1
  · rw [e2 k' _ e]; exact arrAt_fr (wr_ne W (by omega)) (F.2.2.1 k' t' hk' hq').2
theorem el_sA {ty : FieldType} (ht : ty ≠ .long) (j x : Int32) : el ty (sA ob k j x) k = fun i => if i = j then .int x else el ty ob k i := by
  funext i; cases ty <;> first | exact absurd rfl ht | (simp only [el, sA, true_and]; split <;> rfl)
theorem el_sJ (j : Int32) (x : Int64) : el .long (sJ ob k j x) k = fun i => if i = j then .long x else el .long ob k i := by
  funext i; simp only [el, sJ, true_and]; split <;> rfl
theorem el_sA' (j x : Int32) (k' : Nat) (t' : FieldType) (ne : k' ≠ k) : el t' (sA ob k j x) k' = el t' ob k' := by
  funext i; cases t' <;> simp [el, sA, ne]
theorem el_sJ' (j : Int32) (x : Int64) (k' : Nat) (t' : FieldType) (ne : k' ≠ k) : el t' (sJ ob k j x) k' = el t' ob k' := by
  funext i; cases t' <;> simp [el, sJ, ne]
theorem Rep.upd (R : Rep Z n0 h (top, (a, q, ob) :: H)) (hs : h'.size = h.size) (hO : Old Z n0 h') (e : ∀ b, (b < a ∨ a + q < b) → h'[b]? = h[b]?) (F : ObjAt Z h' a q ob') : Rep Z n0 h' (top, (a, q, ob') :: H) := by
  obtain ⟨r1, r2, r3, r4⟩ := R
  refine ⟨hs.trans r1, hO, fun x hx => ?_, ?_⟩
  · rcases List.mem_cons.mp hx with rfl | hx
    · exact ⟨(r3 _ (List.mem_cons_self ..)).1, (r3 _ (List.mem_cons_self ..)).2.1, F⟩
    · obtain ⟨p1, p2, p3⟩ := r3 x (List.mem_cons_of_mem _ hx)
      refine ⟨p1, p2, p3.frame fun b h1 h2 => e b ?_⟩
      have := (List.pairwise_cons.mp r4).1 x hx
      simp only at this
      omega
  · have := List.pairwise_cons.mp r4
    exact List.pairwise_cons.mpr ⟨fun y hy => this.1 y hy, this.2⟩
theorem Rep.objs (R : Rep Z n0 h (top, (a, q, ob) :: H)) : n0 ≤ a ∧ a + q < top ∧ ObjAt Z h a q ob := R.2.2.1 _ (List.mem_cons_self ..)
theorem Rep.putI {x : Int32} (hw : ∀ d ∈ tables_1, d.before a0 Z = true) (R : Rep Z n0 h (top, (a, q, ob) :: H)) (hk : K.2.1[k]? = some nd) (W : Wr h h' a (Jvm.RoadKit.slotOf Z K.1 nd.1 nd.2) (.int x)) : Rep Z n0 h' (top, (a, q, sI ob k x) :: H) :=
  R.upd W.size (R.2.1.wr W R.objs.1) (fun b hb => wr_ne W (by omega)) (R.objs.2.2.putI hw hk W)
theorem Rep.putA {x j : Int32} (R : Rep Z n0 h (top, (a, q, ob) :: H)) (hk : K.2.2[k]? = some t) (hq : k < q) (ht : t.2.1 ≠ .long) (hj : ¬ j < 0 ∧ j < t.2.2) (W : Wr h h' (a + 1 + k) j.toNatClampNeg (.int x)) : Rep Z n0 h' (top, (a, q, sA ob k j x) :: H) :=
  R.upd W.size (R.2.1.wr W (by have := R.objs.1; omega)) (fun b hb => wr_ne W (by omega)) (R.objs.2.2.putA hk hq hj W (el_sA ht j x) (fun k' t' ne => el_sA' j x k' t' ne) rfl)
theorem Rep.putJ {j : Int32} {x : Int64} (R : Rep Z n0 h (top, (a, q, ob) :: H)) (hk : K.2.2[k]? = some t) (hq : k < q) (ht : t.2.1 = .long) (hj : ¬ j < 0 ∧ j < t.2.2) (W : Wr h h' (a + 1 + k) j.toNatClampNeg (.long x)) : Rep Z n0 h' (top, (a, q, sJ ob k j x) :: H) :=
  R.upd W.size (R.2.1.wr W (by have := R.objs.1; omega)) (fun b hb => wr_ne W (by omega)) (R.objs.2.2.putA hk hq hj W (by rw [ht]; exact el_sJ j x) (fun k' t' ne => el_sJ' j x k' t' ne) rfl)
theorem Rep.swap {x y : Nat × Nat × Rec} (R : Rep Z n0 h (top, x :: y :: H)) : Rep Z n0 h (top, y :: x :: H) := by
  obtain ⟨r1, r2, r3, r4⟩ := R
  refine ⟨r1, r2, fun z hz => r3 z ?_, ?_⟩
  · simp only [List.mem_cons] at hz ⊢
    rcases hz with e | e | e
    · exact Or.inr (Or.inl e)
    · exact Or.inl e
    · exact Or.inr (Or.inr e)
  · simp only [List.pairwise_cons, List.mem_cons] at r4 ⊢
    obtain ⟨p1, p2, p3⟩ := r4
    refine ⟨fun z hz => ?_, fun z hz => p1 z (Or.inr hz), p3⟩
    rcases hz with rfl | hz
    · exact (p1 _ (Or.inl rfl)).symm
    · exact p2 z hz
theorem ObjAt.addA (hw : ∀ d ∈ tables_1, d.before a0 Z = true) (F : ObjAt Z h a k ob) (hk : K.2.2[k]? = some t) (A : ArrAt Z h (a + 1 + k) t.2.1 t.2.2 (el t.2.1 ob k)) (W : Wr h h' a (Jvm.RoadKit.slotOf Z K.1 t.1 (aD t.2.1)) (.ref (a + 1 + k))) : ObjAt Z h' a (k + 1) ob := by
  refine ⟨F.1.wr W, fun k' nd hk' => ?_, fun k' t' hk' hq => ?_, fun k' t' hk' hq => ?_⟩
  · obtain ⟨ty', hty'⟩ := pfS hk'
    exact (F.2.1 k' nd hk').other W (Or.inr (Jvm.RoadKit.slot_ne (laidS hw hk') (laidA hw hk) (nm_sa hk' hk) hty' (pfA hk)))
  · by_cases e : k' = k
    · subst e
      have et : t = t' := Option.some.inj (hk.symm.trans hk')
      subst et
      exact ⟨(F.2.2.2 k' t hk (Nat.le_refl _)).same W, arrAt_fr (wr_ne W (by omega)) A⟩
    · obtain ⟨f1, f2⟩ := F.2.2.1 k' t' hk' (by omega)
      exact ⟨f1.other W (Or.inr (Jvm.RoadKit.slot_ne (laidA hw hk') (laidA hw hk) (nm_aa hk' hk e) (pfA hk') (pfA hk))), arrAt_fr (wr_ne W (by omega)) f2⟩
  · exact (F.2.2.2 k' t' hk' (by omega)).other W (Or.inr (Jvm.RoadKit.slot_ne (laidA hw hk') (laidA hw hk) (nm_aa hk' hk (by omega)) (pfA hk') (pfA hk)))
theorem Rep.addA {h1 h2 : Heap} (hw : ∀ d ∈ tables_1, d.before a0 Z = true) (R : Rep Z n0 h (top, (a, k, ob) :: H)) (E : Ext h h1) (s1 : h1.size = top + 1) (htop : top = a + 1 + k) (hk : K.2.2[k]? = some t) (A : ArrAt Z h1 top t.2.1 t.2.2 (el t.2.1 ob k)) (W : Wr h1 h2 a (Jvm.RoadKit.slotOf Z K.1 t.1 (aD t.2.1)) (.ref top)) : Rep Z n0 h2 (top + 1, (a, k + 1, ob) :: H) := by
  obtain ⟨q1, q2, q3⟩ := R.objs
  have hp := List.pairwise_cons.mp R.2.2.2
  have hO : ObjAt Z h2 a (k + 1) ob := by
    subst htop
    exact (q3.ext E).addA hw hk A W
  refine ⟨W.size.trans s1, (R.2.1.ext E).wr W q1, List.forall_mem_cons.mpr ⟨⟨q1, ?_, hO⟩, fun x hx => ?_⟩, List.pairwise_cons.mpr ⟨fun y hy => ?_, hp.2⟩⟩
  · show a + (k + 1) < top + 1; omega
  · obtain ⟨p1, p2, p3⟩ := R.2.2.1 x (List.mem_cons_of_mem _ hx)
    have u1 : a + k < x.1 ∨ x.1 + x.2.1 < a := hp.1 x hx
    have u2 : x.1 + x.2.1 < top := p2
    exact ⟨p1, Nat.lt_succ_of_lt u2, (p3.ext E).frame fun b h1 h2 => wr_ne W (by omega)⟩
  · have u1 : a + k < y.1 ∨ y.1 + y.2.1 < a := hp.1 y hy
    have u2 : y.1 + y.2.1 < top := (R.2.2.1 y (List.mem_cons_of_mem _ hy)).2.1
    show a + (k + 1) < y.1 ∨ y.1 + y.2.1 < a
    omega
theorem arr_new {cA : ClassId} {ty : FieldType} {len : Int32} (A : Arr Z h b (newA cA ty len) ty) (hts : ty = .int ∨ ty = .boolean ∨ ty = .long) (hz : (∀ i, ob.2.1 k i = 0) ∧ (∀ i, ob.2.2 k i = 0)) : ArrAt Z h b ty len (el ty ob k) := by
  refine ⟨_, A, sz_new _ _ _, fun i h0 h1 => ?_⟩
  have hi : ¬ (i < 0 ∨ len.toNatClampNeg ≤ i.toNatClampNeg) := by
    have e0 : (0 : Int32).toInt = 0 := rfl
    simp only [Int32.lt_iff_toInt_lt, Int32.toNatClampNeg] at *
    omega
  rw [get_new hi]
  rcases hts with rfl | rfl | rfl
  · show some (Value.int 0) = some (Value.int (ob.2.1 k i)); rw [hz.1]
  · show some (Value.int 0) = some (Value.int (ob.2.1 k i)); rw [hz.1]
  · show some (Value.long 0) = some (Value.long (ob.2.2 k i)); rw [hz.2]
theorem Rep.start (s : State) : Rep s s.heap.size s.heap (s.heap.size, []) := ⟨rfl, Old.start s, fun x hx => (by cases hx), List.Pairwise.nil⟩
end Facts
/- bodies, decode facts, patterns of local variables -/
abbrev Bdy : Type := MethodName × ByteArray × Nat × Option FieldType × Room
def DAt (M : Bdy) (pc : Nat) (i : Instr) (n q : Nat) : Prop := decode M.2.1 pc = .ok (i, n) ∧ q = pc + n
abbrev Pat : Type := List (Option Slot)
abbrev vi (x : Int32) : Option Slot := some (.val (.int x))
abbrev vl (x : Int64) : Option Slot := some (.val (.long x))
abbrev vr (a : Nat) : Option Slot := some (.val (.ref a))
abbrev v2 : Option Slot := some .second
abbrev vn : Option Slot := none
def pget : Pat → Nat → Option Slot
  | [], _ => none
  | x :: _, 0 => x
  | _ :: l, n + 1 => pget l n
theorem pget_eq : ∀ (P : Pat) (i : Nat), pget P i = (P[i]?).join
  | [], _ => by simp [pget]
  | x :: l, 0 => by simp [pget]
  | x :: l, n + 1 => by simp [pget, pget_eq l n]
def pput : Pat → Nat → Option Slot → Pat
  | [], _, _ => []
  | _ :: l, 0, y => y :: l
  | x :: l, n + 1, y => x :: pput l n y
theorem pget_pput : ∀ (P : Pat) (i j : Nat) (y : Option Slot) (s : Slot), pget (pput P i y) j = some s → (j = i ∧ y = some s) ∨ (j ≠ i ∧ pget P j = some s)
  | [], _, _, _, _, h => by simp [pput, pget] at h
  | x :: l, 0, 0, y, s, h => Or.inl ⟨rfl, h⟩
  | x :: l, 0, j + 1, y, s, h => Or.inr ⟨by omega, h⟩
  | x :: l, i + 1, 0, y, s, h => Or.inr ⟨by omega, h⟩
  | x :: l, i + 1, j + 1, y, s, h => by
    rcases pget_pput l i j y s h with ⟨e, r⟩ | ⟨e, r⟩
    · exact Or.inl ⟨by omega, r⟩
    · exact Or.inr ⟨by omega, r⟩
/-- a two-word value whose first word is at i is forgotten -/
def pk1 (P : Pat) (i : Nat) : Pat := match pget P i with
  | some (.val (.long _)) => pput P i none
  | some (.val (.double _)) => pput P i none
  | _ => P
def pk2 (P : Pat) (i : Nat) : Pat := match pget P i with
  | some .second => pput P i none
  | _ => P
def pkp (P : Pat) : Nat → Pat
  | 0 => P
  | i + 1 => pk1 P i
def ps1 (P : Pat) (i : Nat) (v : Value) : Pat := pput (pk2 (pkp P i) (i + 1)) i (some (.val v))
def ps2 (P : Pat) (i : Nat) (v : Value) : Pat := pput (pput (pk2 (pkp P i) (i + 2)) i (some (.val v))) (i + 1) (some .second)
def WFl (L : Array Slot) : Prop := (∀ i : Nat, L[i]? = some .second → ∃ (j : Nat) (v : Value), i = j + 1 ∧ L[j]? = some (.val v) ∧ v.category = 2) ∧ (∀ (i : Nat) (v : Value), L[i]? = some (.val v) → v.category = 2 → L[i + 1]? = some .second)
def Fits (P : Pat) (L : Array Slot) : Prop := (∀ i s, pget P i = some s → L[i]? = some s) ∧ WFl L
theorem pk1_sub {P : Pat} {i j : Nat} {s : Slot} (h : pget (pk1 P i) j = some s) : pget P j = some s ∧ (j = i → ∀ w : Value, s = .val w → w.category = 1) := by
  unfold pk1 at h
  split at h
  · rcases pget_pput _ _ _ _ _ h with ⟨-, e⟩ | ⟨e, r⟩
    · cases e
    · exact ⟨r, fun q => absurd q e⟩
  · rcases pget_pput _ _ _ _ _ h with ⟨-, e⟩ | ⟨e, r⟩
    · cases e
    · exact ⟨r, fun q => absurd q e⟩
  · rename_i h1 h2
    refine ⟨h, fun q w e => ?_⟩
    subst q e
    cases w <;> first | rfl | exact absurd h (h1 _) | exact absurd h (h2 _)
theorem pk2_sub {P : Pat} {i j : Nat} {s : Slot} (h : pget (pk2 P i) j = some s) : pget P j = some s ∧ (j = i → s ≠ .second) := by
  unfold pk2 at h
  split at h
  · rcases pget_pput _ _ _ _ _ h with ⟨-, e⟩ | ⟨e, r⟩
    · cases e
    · exact ⟨r, fun q => absurd q e⟩
  · rename_i h1
    refine ⟨h, fun q e => ?_⟩
    subst q e; exact h1 h
theorem pkp_sub {P : Pat} {i j : Nat} {s : Slot} (h : pget (pkp P i) j = some s) : pget P j = some s ∧ (j + 1 = i → ∀ w : Value, s = .val w → w.category = 1) := by
  cases i with
  | zero => exact ⟨h, fun q => by omega⟩
  | succ i => obtain ⟨h1, h2⟩ := pk1_sub (show pget (pk1 P i) j = some s from h); exact ⟨h1, fun q => h2 (by omega)⟩
theorem setAt_eq {L : Array Slot} {i : Nat} {x : Slot} (hi : i < L.size) : Jvm.setAt L i x = some (L.setIfInBounds i x) := by simp [Jvm.setAt, hi]
theorem sl_second {L : Array Slot} {i : Nat} {v : Value} (ho : L[i]? = some .second) : storeLocals L i v = (Jvm.setAt L (i - 1) .unset).bind fun l => storeSelf l i v := by
  unfold storeLocals; rw [ho]; rfl
theorem sl_unset {L : Array Slot} {i : Nat} {v : Value} (ho : L[i]? = some .unset) : storeLocals L i v = storeSelf L i v := by
  unfold storeLocals; rw [ho]; rfl
theorem sl_val {L : Array Slot} {i : Nat} {v o : Value} (ho : L[i]? = some (.val o)) : storeLocals L i v = if o.category = 2 then (Jvm.setAt L (i + 1) .unset).bind fun l => storeSelf l i v else storeSelf L i v := by
  unfold storeLocals; rw [ho]; rfl
theorem ss_one {L : Array Slot} {i : Nat} {v : Value} (hi : i < L.size) (hv : ¬ v.category = 2) : storeSelf L i v = some (L.setIfInBounds i (.val v)) := by
  unfold storeSelf; rw [setAt_eq hi]; simp [hv]
theorem ss_two {L : Array Slot} {i : Nat} {v : Value} {o : Slot} (hi : i < L.size) (hv : v.category = 2) (ho : L[i + 1]? = some o) : storeSelf L i v = (match o with
    | .val old => if old.category = 2 then (Jvm.setAt (L.setIfInBounds i (.val v)) (i + 2) .unset).bind fun l => Jvm.setAt l (i + 1) .second else Jvm.setAt (L.setIfInBounds i (.val v)) (i + 1) .second
    | _ => Jvm.setAt (L.setIfInBounds i (.val v)) (i + 1) .second) := by
  have e : (L.setIfInBounds i (.val v))[i + 1]? = some o := by rw [Array.getElem?_setIfInBounds_ne (by omega)]; exact ho
  unfold storeSelf; rw [setAt_eq hi]
  show (if v.category = 2 then _ else _) = _
  rw [if_pos hv, e]
  cases o <;> rfl
theorem cat12 (v : Value) : v.category = 1 ∨ v.category = 2 := by cases v <;> first | exact Or.inl rfl | exact Or.inr rfl
/-- a one-word store: what stands elsewhere stays, but for the halves of a two-word value that it breaks -/
theorem store_one {L : Array Slot} {i : Nat} {v : Value} (hW : WFl L) (hi : i < L.size) (hv : v.category = 1) :
    ∃ L', storeLocals L i v = some L' ∧ L'.size = L.size ∧ WFl L' ∧ L'[i]? = some (.val v) ∧ ∀ j, j ≠ i → L'[j]? = L[j]? ∨ (j + 1 = i ∧ L[i]? = some .second) ∨ (j = i + 1 ∧ L[j]? = some .second) := by
  have hv2 : ¬ v.category = 2 := by omega
  cases ho : L[i]? with
  | none => rw [Array.getElem?_eq_none_iff] at ho; omega
  | some o =>
    cases o with
    | unset =>
      refine ⟨L.setIfInBounds i (.val v), ?_, by simp, ?_, by simp [hi], fun j hj => Or.inl (Array.getElem?_setIfInBounds_ne (Ne.symm hj))⟩
      · rw [sl_unset ho, ss_one hi hv2]
      · refine ⟨fun j hj => ?_, fun j w hj hw => ?_⟩
        · by_cases e : j = i
          · subst e; simp [hi] at hj
          · rw [Array.getElem?_setIfInBounds_ne (Ne.symm e)] at hj
            obtain ⟨j', w, e1, e2, e3⟩ := hW.1 j hj
            refine ⟨j', w, e1, ?_, e3⟩
            rw [Array.getElem?_setIfInBounds_ne]; exact e2
            intro q; subst q; rw [ho] at e2; cases e2
        · by_cases e : j = i
          · subst e; simp [hi] at hj; subst hj; omega
          · rw [Array.getElem?_setIfInBounds_ne (Ne.symm e)] at hj
            have := hW.2 j w hj hw
            rw [Array.getElem?_setIfInBounds_ne]; exact this
            intro q; subst q; rw [ho] at this; cases this
    | second =>
      obtain ⟨j0, w0, rfl, f2, f3⟩ := hW.1 i ho
      have hj0 : j0 < L.size := by omega
      refine ⟨(L.setIfInBounds j0 .unset).setIfInBounds (j0 + 1) (.val v), ?_, by simp, ?_, by simp [hi], fun j hj => ?_⟩
      · rw [sl_second ho, show j0 + 1 - 1 = j0 from rfl, setAt_eq hj0]; exact ss_one (by simpa using hi) hv2
      · refine ⟨fun j hj => ?_, fun j w hj hw => ?_⟩
        · by_cases e : j = j0 + 1
          · subst e; simp [hi] at hj
          · rw [Array.getElem?_setIfInBounds_ne (Ne.symm e)] at hj
            by_cases e' : j = j0
            · subst e'; simp [hj0] at hj
            · rw [Array.getElem?_setIfInBounds_ne (Ne.symm e')] at hj
              obtain ⟨j', w, e1, e2, e3⟩ := hW.1 j hj
              refine ⟨j', w, e1, ?_, e3⟩
              rw [Array.getElem?_setIfInBounds_ne, Array.getElem?_setIfInBounds_ne]
              · exact e2
              · intro q; subst q; omega
              · intro q; subst q; rw [ho] at e2; cases e2
        · by_cases e : j = j0 + 1
          · subst e; simp [hi] at hj; subst hj; omega
          · rw [Array.getElem?_setIfInBounds_ne (Ne.symm e)] at hj
            by_cases e' : j = j0
            · subst e'; simp [hj0] at hj
            · rw [Array.getElem?_setIfInBounds_ne (Ne.symm e')] at hj
              have := hW.2 j w hj hw
              rw [Array.getElem?_setIfInBounds_ne, Array.getElem?_setIfInBounds_ne]
              · exact this
              · intro q; subst q; rw [f2] at this; cases this
              · omega
      · by_cases e' : j = j0
        · exact Or.inr (Or.inl ⟨by omega, rfl⟩)
        · left; rw [Array.getElem?_setIfInBounds_ne (Ne.symm hj), Array.getElem?_setIfInBounds_ne (Ne.symm e')]
    | val old =>
      by_cases hc : old.category = 2
      · have f2 := hW.2 i old ho hc
        have hi1 : i + 1 < L.size := (Array.getElem?_eq_some_iff.mp f2).1
        refine ⟨(L.setIfInBounds (i + 1) .unset).setIfInBounds i (.val v), ?_, by simp, ?_, by simp [hi], fun j hj => ?_⟩
        · rw [sl_val ho, if_pos hc, setAt_eq hi1]; exact ss_one (by simpa using hi) hv2
        · refine ⟨fun j hj => ?_, fun j w hj hw => ?_⟩
          · by_cases e : j = i
            · subst e; simp [hi] at hj
            · rw [Array.getElem?_setIfInBounds_ne (Ne.symm e)] at hj
              by_cases e' : j = i + 1
              · subst e'; simp [hi1] at hj
              · rw [Array.getElem?_setIfInBounds_ne (Ne.symm e')] at hj
                obtain ⟨j', w, e1, e2, e3⟩ := hW.1 j hj
                refine ⟨j', w, e1, ?_, e3⟩
                rw [Array.getElem?_setIfInBounds_ne, Array.getElem?_setIfInBounds_ne]
                · exact e2
                · intro q; subst q; rw [f2] at e2; cases e2
                · omega
          · by_cases e : j = i
            · subst e; simp [hi] at hj; subst hj; omega
            · rw [Array.getElem?_setIfInBounds_ne (Ne.symm e)] at hj
              by_cases e' : j = i + 1
              · subst e'; simp [hi1] at hj
              · rw [Array.getElem?_setIfInBounds_ne (Ne.symm e')] at hj
                have := hW.2 j w hj hw
                rw [Array.getElem?_setIfInBounds_ne, Array.getElem?_setIfInBounds_ne]
                · exact this
                · omega
                · intro q; subst q; rw [ho] at this; cases this
        · by_cases e' : j = i + 1
          · subst e'; exact Or.inr (Or.inr ⟨rfl, f2⟩)
          · left; rw [Array.getElem?_setIfInBounds_ne (Ne.symm hj), Array.getElem?_setIfInBounds_ne (Ne.symm e')]
      · refine ⟨L.setIfInBounds i (.val v), ?_, by simp, ?_, by simp [hi], fun j hj => Or.inl (Array.getElem?_setIfInBounds_ne (Ne.symm hj))⟩
        · rw [sl_val ho, if_neg hc, ss_one hi hv2]
        · refine ⟨fun j hj => ?_, fun j w hj hw => ?_⟩
          · by_cases e : j = i
            · subst e; simp [hi] at hj
            · rw [Array.getElem?_setIfInBounds_ne (Ne.symm e)] at hj
              obtain ⟨j', w, e1, e2, e3⟩ := hW.1 j hj
              refine ⟨j', w, e1, ?_, e3⟩
              rw [Array.getElem?_setIfInBounds_ne]; exact e2
              intro q; subst q; rw [ho] at e2; cases e2; omega
          · by_cases e : j = i
            · subst e; simp [hi] at hj; subst hj; omega
            · rw [Array.getElem?_setIfInBounds_ne (Ne.symm e)] at hj
              have := hW.2 j w hj hw
              rw [Array.getElem?_setIfInBounds_ne]; exact this
              intro q; subst q; rw [ho] at this; cases this
theorem Fits.store1 {P : Pat} {L : Array Slot} {i : Nat} {v : Value} (h : Fits P L) (hi : i < L.size) (hv : v.category = 1) :
    ∃ L', storeLocals L i v = some L' ∧ L'.size = L.size ∧ Fits (ps1 P i v) L' := by
  obtain ⟨L', e1, e2, e3, e4, e5⟩ := store_one h.2 hi hv
  refine ⟨L', e1, e2, fun j s hj => ?_, e3⟩
  rcases pget_pput _ _ _ _ _ hj with ⟨rfl, q⟩ | ⟨ne, q⟩
  · rw [e4]; exact q
  · obtain ⟨q1, q2⟩ := pk2_sub q
    obtain ⟨q3, q4⟩ := pkp_sub q1
    have hL := h.1 j s q3
    rcases e5 j ne with r | ⟨r1, r2⟩ | ⟨r1, r2⟩
    · rw [r]; exact hL
    · obtain ⟨j', w, z1, z2, z3⟩ := h.2.1 i r2
      have : j' = j := by omega
      subst this
      rw [hL] at z2; cases z2
      have := q4 r1 w rfl; omega
    · rw [hL] at r2; cases r2
      exact absurd rfl (q2 r1)
theorem st_ph1 {L : Array Slot} {i : Nat} {v : Value} (hW : WFl L) (hi : i + 1 < L.size) :
    ∃ A : Array Slot, storeLocals L i v = storeSelf A i v ∧ A.size = L.size ∧ (∀ j, j ≠ i → j ≠ i + 1 → A[j]? = L[j]? ∨ (j + 1 = i ∧ L[i]? = some .second ∧ A[j]? = some .unset)) ∧ (A[i + 1]? = L[i + 1]? ∨ (A[i + 1]? = some .unset ∧ L[i + 1]? = some .second)) ∧ (L[i]? = some .second → ∀ j, j + 1 = i → A[j]? = some .unset) := by
  have hi0 : i < L.size := by omega
  cases ho : L[i]? with
  | none => rw [Array.getElem?_eq_none_iff] at ho; omega
  | some o =>
    cases o with
    | unset => exact ⟨L, sl_unset ho, rfl, fun j _ _ => Or.inl rfl, Or.inl rfl, fun q => by cases q⟩
    | second =>
      obtain ⟨j0, w0, rfl, f2, f3⟩ := hW.1 i ho
      have hj0 : j0 < L.size := by omega
      refine ⟨L.setIfInBounds j0 .unset, by rw [sl_second ho, show j0 + 1 - 1 = j0 from rfl, setAt_eq hj0]; rfl, by simp, fun j h1 h2 => ?_, Or.inl (Array.getElem?_setIfInBounds_ne (by omega)), fun _ j hj => ?_⟩
      · by_cases e : j = j0
        · subst e; exact Or.inr ⟨rfl, rfl, by simp [hj0]⟩
        · exact Or.inl (Array.getElem?_setIfInBounds_ne (Ne.symm e))
      · have : j = j0 := by omega
        subst this; simp [hj0]
    | val old =>
      by_cases hc : old.category = 2
      · refine ⟨L.setIfInBounds (i + 1) .unset, by rw [sl_val ho, if_pos hc, setAt_eq hi]; rfl, by simp, fun j h1 h2 => Or.inl (Array.getElem?_setIfInBounds_ne (Ne.symm h2)), Or.inr ⟨by simp [hi], hW.2 i old ho hc⟩, fun q => by cases q⟩
      · exact ⟨L, by rw [sl_val ho, if_neg hc], rfl, fun j _ _ => Or.inl rfl, Or.inl rfl, fun q => by cases q⟩
theorem st_ph2 {A : Array Slot} {i : Nat} {v : Value} (hi : i + 1 < A.size) (hv : v.category = 2) (hn : ∀ w : Value, A[i + 1]? = some (.val w) → w.category = 2 → i + 2 < A.size) :
    ∃ L', storeSelf A i v = some L' ∧ L'.size = A.size ∧ L'[i]? = some (.val v) ∧ L'[i + 1]? = some .second ∧ (∀ j, j ≠ i → j ≠ i + 1 → L'[j]? = A[j]? ∨ (j = i + 2 ∧ L'[j]? = some .unset ∧ ∃ w : Value, A[i + 1]? = some (.val w) ∧ w.category = 2)) ∧ ((∃ w : Value, A[i + 1]? = some (.val w) ∧ w.category = 2) → L'[i + 2]? = some .unset) := by
  have hi0 : i < A.size := by omega
  have eB : (A.setIfInBounds i (.val v))[i + 1]? = A[i + 1]? := Array.getElem?_setIfInBounds_ne (by omega)
  have plain : (∀ w : Value, A[i + 1]? = some (.val w) → w.category ≠ 2) → storeSelf A i v = some ((A.setIfInBounds i (.val v)).setIfInBounds (i + 1) .second) := fun hq => by
    cases ho : A[i + 1]? with
    | none => rw [Array.getElem?_eq_none_iff] at ho; omega
    | some o => cases o with
      | unset => rw [ss_two hi0 hv ho]; exact setAt_eq (by simpa using hi)
      | second => rw [ss_two hi0 hv ho]; exact setAt_eq (by simpa using hi)
      | val w => have := hq w ho; rw [ss_two hi0 hv ho]; simp only [if_neg this]; exact setAt_eq (by simpa using hi)
  by_cases hw : ∃ w : Value, A[i + 1]? = some (.val w) ∧ w.category = 2
  · obtain ⟨w, h1, h2⟩ := hw
    have h3 := hn w h1 h2
    refine ⟨((A.setIfInBounds i (.val v)).setIfInBounds (i + 2) .unset).setIfInBounds (i + 1) .second, by rw [ss_two hi0 hv h1]; simp only [if_pos h2]; rw [setAt_eq (by simpa using h3)]; exact setAt_eq (by simpa using hi), by simp, ?_, by simp [hi], fun j a b => ?_, fun _ => ?_⟩
    · rw [Array.getElem?_setIfInBounds_ne (by omega), Array.getElem?_setIfInBounds_ne (by omega)]; simp [hi0]
    · rw [Array.getElem?_setIfInBounds_ne (by omega)]
      by_cases e : j = i + 2
      · subst e; exact Or.inr ⟨rfl, by simp [h3], w, h1, h2⟩
      · left; rw [Array.getElem?_setIfInBounds_ne (by omega), Array.getElem?_setIfInBounds_ne (by omega)]
    · rw [Array.getElem?_setIfInBounds_ne (by omega)]; simp [h3]
  · refine ⟨_, plain fun w h1 h2 => hw ⟨w, h1, h2⟩, by simp, ?_, by simp [hi], fun j a b => Or.inl ?_, fun q => absurd q hw⟩
    · rw [Array.getElem?_setIfInBounds_ne (by omega)]; simp [hi0]
    · rw [Array.getElem?_setIfInBounds_ne (by omega), Array.getElem?_setIfInBounds_ne (by omega)]
theorem store_two {L : Array Slot} {i : Nat} {v : Value} (hW : WFl L) (hi : i + 1 < L.size) (hv : v.category = 2) :
    ∃ L', storeLocals L i v = some L' ∧ L'.size = L.size ∧ WFl L' ∧ L'[i]? = some (.val v) ∧ L'[i + 1]? = some .second ∧ ∀ j, j ≠ i → j ≠ i + 1 → L'[j]? = L[j]? ∨ (j + 1 = i ∧ L[i]? = some .second) ∨ (j = i + 2 ∧ L[j]? = some .second) := by
  obtain ⟨A, a1, a2, a3, a4, a5⟩ := st_ph1 (v := v) hW hi
  have a6 : ∀ w : Value, A[i + 1]? = some (.val w) → w.category = 2 → L[i + 2]? = some .second := fun w h1 h2 => by
    rcases a4 with e | ⟨e, -⟩
    · rw [e] at h1; exact hW.2 _ _ h1 h2
    · rw [e] at h1; cases h1
  obtain ⟨L', b1, b2, b3, b4, b5, b6⟩ := st_ph2 (A := A) (i := i) (v := v) (by omega) hv (fun w h1 h2 => by have := (Array.getElem?_eq_some_iff.mp (a6 w h1 h2)).1; omega)
  have c : ∀ j, j ≠ i → j ≠ i + 1 → L'[j]? = L[j]? ∨ (j + 1 = i ∧ L[i]? = some .second ∧ L'[j]? = some .unset) ∨ (j = i + 2 ∧ L[j]? = some .second ∧ L'[j]? = some .unset) := fun j h1 h2 => by
    rcases b5 j h1 h2 with e | ⟨e1, e2, w, e3, e4⟩
    · rcases a3 j h1 h2 with r | ⟨r1, r2, r3⟩
      · exact Or.inl (e.trans r)
      · exact Or.inr (Or.inl ⟨r1, r2, e.trans r3⟩)
    · subst e1; exact Or.inr (Or.inr ⟨rfl, a6 w e3 e4, e2⟩)
  have cs : L[i]? = some .second → ∀ j, j + 1 = i → L'[j]? = some .unset := fun q j hj => by
    rcases b5 j (by omega) (by omega) with e | ⟨e1, -⟩
    · exact e.trans (a5 q j hj)
    · omega
  have c2 : L[i + 2]? = some .second → L'[i + 2]? = some .unset := fun q => by
    obtain ⟨j', w, z1, z2, z3⟩ := hW.1 _ q
    have : j' = i + 1 := by omega
    subst this
    rcases a4 with e | ⟨-, e⟩
    · exact b6 ⟨w, e.trans z2, z3⟩
    · rw [e] at z2; cases z2
  refine ⟨L', a1.trans b1, b2.trans a2, ⟨fun j hj => ?_, fun j w hj hw => ?_⟩, b3, b4, fun j h1 h2 => ?_⟩
  · by_cases e0 : j = i
    · subst e0; rw [b3] at hj; cases hj
    by_cases e1 : j = i + 1
    · exact ⟨i, v, e1, b3, hv⟩
    rcases c j e0 e1 with r | ⟨-, -, r⟩ | ⟨-, -, r⟩
    · rw [r] at hj
      obtain ⟨j', w, z1, z2, z3⟩ := hW.1 j hj
      refine ⟨j', w, z1, ?_, z3⟩
      have n0 : j' ≠ i := by omega
      by_cases n1 : j' = i + 1
      · have : j = i + 2 := by omega
        subst this
        rw [c2 hj] at r; rw [hj] at r; cases r
      rcases c j' n0 n1 with u | ⟨u, -, -⟩ | ⟨-, u, -⟩
      · exact u.trans z2
      · omega
      · rw [z2] at u; cases u
    · rw [r] at hj; cases hj
    · rw [r] at hj; cases hj
  · by_cases e0 : j = i
    · subst e0; exact b4
    by_cases e1 : j = i + 1
    · subst e1; rw [b4] at hj; cases hj
    rcases c j e0 e1 with r | ⟨-, -, r⟩ | ⟨-, -, r⟩
    · have hj' := hj
      rw [r] at hj
      have z := hW.2 j w hj hw
      by_cases n0 : j + 1 = i
      · subst n0; rw [cs z j rfl] at hj'; cases hj'
      by_cases n1 : j + 1 = i + 1
      · omega
      rcases c (j + 1) n0 n1 with u | ⟨u1, u2, -⟩ | ⟨u, -, -⟩
      · exact u.trans z
      · obtain ⟨j', w', y1, y2, y3⟩ := hW.1 i u2
        have : j' = j + 1 := by omega
        subst this; rw [z] at y2; cases y2
      · omega
    · rw [r] at hj; cases hj
    · rw [r] at hj; cases hj
  · rcases c j h1 h2 with r | ⟨r1, r2, -⟩ | ⟨r1, r2, -⟩
    · exact Or.inl r
    · exact Or.inr (Or.inl ⟨r1, r2⟩)
    · exact Or.inr (Or.inr ⟨r1, r2⟩)
theorem Fits.store2 {P : Pat} {L : Array Slot} {i : Nat} {v : Value} (h : Fits P L) (hi : i + 1 < L.size) (hv : v.category = 2) :
    ∃ L', storeLocals L i v = some L' ∧ L'.size = L.size ∧ Fits (ps2 P i v) L' := by
  obtain ⟨L', e1, e2, e3, e4, e4', e5⟩ := store_two h.2 hi hv
  refine ⟨L', e1, e2, fun j s hj => ?_, e3⟩
  rcases pget_pput _ _ _ _ _ hj with ⟨rfl, q⟩ | ⟨ne, q⟩
  · rw [e4']; exact q
  rcases pget_pput _ _ _ _ _ q with ⟨rfl, q'⟩ | ⟨ne', q'⟩
  · rw [e4]; exact q'
  obtain ⟨q1, q2⟩ := pk2_sub q'
  obtain ⟨q3, q4⟩ := pkp_sub q1
  have hL := h.1 j s q3
  rcases e5 j ne' ne with r | ⟨r1, r2⟩ | ⟨r1, r2⟩
  · rw [r]; exact hL
  · obtain ⟨j', w, z1, z2, z3⟩ := h.2.1 i r2
    have : j' = j := by omega
    subst this
    rw [hL] at z2; cases z2
    have := q4 r1 w rfl; omega
  · rw [hL] at r2; cases r2
    exact absurd rfl (q2 r1)
/- what a body does from a place on -/
def Runs (C : Ctx) (M : Bdy) (k n pc : Nat) (P : Pat) (S : List Value) (G : AH) (Q : Option Value → AH → Prop) : Prop :=
  Ok C → ∀ (p : Program) (e : Env) (s : State) (m : MethodId) (args : Array Value) (below : List Frame) (meth : Method) (c : Code) (T : State) (locs : List Loc) (L : Array Slot),
    p.tables.exec = Jvm.exec → c.code = M.2.1 → c.maxLocals = M.2.2.1 → meth.sig.returnType = M.2.2.2.1 → meth.name = M.1.name → s.vm.findClass M.1.cls = some m.cls → C.2.1.Warmed39 s.vm →
    Fits P L → L.size = M.2.2.1 → Stand p C.1 e M.2.2.2.2 s m args below meth c T locs k n → Rep C.2.1 C.2.2.1 T.heap G → Fr C.2.2.1 locs →
    ∃ (T' : State) (locs' : List Loc) (k' n' : Nat) (r : Option Value) (G' : AH), Stand p C.1 e M.2.2.2.2 s m args below meth c T' locs' k' n' ∧ k' ≤ M.2.2.2.2.cells ∧ n' ≤ M.2.2.2.2.slots ∧ Rep C.2.1 C.2.2.1 T'.heap G' ∧ Fr C.2.2.1 locs' ∧ Q r G' ∧
      (M.2.2.2.1 = none → r = none) ∧
      ∀ fs : List Frame, (∀ (f : JFrame) (acts : List Action), f.method = m → f.locked = none → f.entered = [] → (doReturn e (T'.setTop f) acts r).1 = T'.setFrames fs) → Steps p.tables e below (T.setTop (mkF m pc L S)) (T'.setFrames fs)
section Rules
variable {C : Ctx} {M : Bdy} {k n pc q : Nat} {P P' : Pat} {S S' : List Value} {G : AH} {Q : Option Value → AH → Prop}
/-- a step that leaves the heap alone -/
theorem Runs.pure {i : Instr} {len : Nat} (d : DAt M pc i len q) {pc' : Nat}
    (st : ∀ (p : Program) (e : Env) (s : State) (m : MethodId) (args : Array Value) (below : List Frame) (meth : Method) (c : Code) (T : State) (locs : List Loc) (L : Array Slot), Ok C → p.tables.exec = Jvm.exec → s.vm.findClass M.1.cls = some m.cls → C.2.1.Warmed39 s.vm → decode c.code pc = .ok (i, len) → Fits P L → L.size = M.2.2.1 → Rep C.2.1 C.2.2.1 T.heap G →
      Stand p C.1 e M.2.2.2.2 s m args below meth c T locs k n → ∃ L', Fits P' L' ∧ L'.size = M.2.2.1 ∧ ∀ t, Steps p.tables e below (T.setTop (mkF m pc' L' S')) t → Steps p.tables e below (T.setTop (mkF m pc L S)) t)
    (h : Runs C M k n pc' P' S' G Q) : Runs C M k n pc P S G Q := by
  intro hw p e s m args below meth c T locs L hx hby hml hret hnm hown hZ hP hsz X hR hF
  obtain ⟨L', f1, f2, f3⟩ := st p e s m args below meth c T locs L hw hx hown hZ (hb hby d.1) hP hsz hR X
  obtain ⟨T', locs', k', n', r, G', g1, g2, g3, g4, g5, g6, g7, g8⟩ := h hw p e s m args below meth c T locs L' hx hby hml hret hnm hown hZ f1 f2 X hR hF
  exact ⟨T', locs', k', n', r, G', g1, g2, g3, g4, g5, g6, g7, fun fs hr => f3 _ (g8 fs hr)⟩
/-- a step that keeps the locals and what the heap says -/
theorem Runs.stk {i : Instr} {len : Nat} (d : DAt M pc i len q)
    (st : ∀ (p : Program) (e : Env) (s : State) (m : MethodId) (args : Array Value) (below : List Frame) (meth : Method) (c : Code) (T : State) (locs : List Loc) (L : Array Slot), p.tables.exec = Jvm.exec → decode c.code pc = .ok (i, len) → Fits P L →
      Stand p C.1 e M.2.2.2.2 s m args below meth c T locs k n → ∀ t, Steps p.tables e below (T.setTop (mkF m (pc + len) L S')) t → Steps p.tables e below (T.setTop (mkF m pc L S)) t)
    (h : Runs C M k n q P S' G Q) : Runs C M k n pc P S G Q := by
  have hq := d.2
  subst hq
  exact Runs.pure d (fun p e s m args below meth c T locs L _ hx _ _ hd hP hsz _ X => ⟨L, hP, hsz, st p e s m args below meth c T locs L hx hd hP X⟩) h
theorem Runs.iloadN {j : Fin 4} {v : Int32} (d : DAt M pc (.iload_n j) 1 q) (hl : pget P j.val = vi v) (h : Runs C M k n q P (.int v :: S) G Q) : Runs C M k n pc P S G Q :=
  Runs.stk d (fun p e s m args below meth c T locs L hx hd hP X t r => XS.iloadN (g := mkF m pc L S) X.here hx rfl hd (hP.1 _ _ hl) r) h
theorem Runs.iload {j : Nat} {v : Int32} (d : DAt M pc (.iload j) 2 q) (hl : pget P j = vi v) (h : Runs C M k n q P (.int v :: S) G Q) : Runs C M k n pc P S G Q :=
  Runs.stk d (fun p e s m args below meth c T locs L hx hd hP X t r => XS.iload (g := mkF m pc L S) X.here hx rfl hd (hP.1 _ _ hl) r) h
theorem Runs.lloadN {j : Fin 4} {v : Int64} (d : DAt M pc (.lload_n j) 1 q) (hl : pget P j.val = vl v) (h : Runs C M k n q P (.long v :: S) G Q) : Runs C M k n pc P S G Q :=
  Runs.stk d (fun p e s m args below meth c T locs L hx hd hP X t r => XS.lloadN (g := mkF m pc L S) X.here hx rfl hd (hP.1 _ _ hl) r) h
theorem Runs.lload {j : Nat} {v : Int64} (d : DAt M pc (.lload j) 2 q) (hl : pget P j = vl v) (h : Runs C M k n q P (.long v :: S) G Q) : Runs C M k n pc P S G Q :=
  Runs.stk d (fun p e s m args below meth c T locs L hx hd hP X t r => XS.lload (g := mkF m pc L S) X.here hx rfl hd (hP.1 _ _ hl) r) h
theorem Runs.aloadN {j : Fin 4} {v : Nat} (d : DAt M pc (.aload_n j) 1 q) (hl : pget P j.val = vr v) (h : Runs C M k n q P (.ref v :: S) G Q) : Runs C M k n pc P S G Q :=
  Runs.stk d (fun p e s m args below meth c T locs L hx hd hP X t r => XS.aloadN (g := mkF m pc L S) X.here hx rfl hd (hP.1 _ _ hl) rfl r) h
theorem Runs.aload {j : Nat} {v : Nat} (d : DAt M pc (.aload j) 2 q) (hl : pget P j = vr v) (h : Runs C M k n q P (.ref v :: S) G Q) : Runs C M k n pc P S G Q :=
  Runs.stk d (fun p e s m args below meth c T locs L hx hd hP X t r => XS.aload (g := mkF m pc L S) X.here hx rfl hd (hP.1 _ _ hl) rfl r) h
theorem Runs.iconst {i : Int} {v : Int32} (d : DAt M pc (.iconst i) 1 q) (hv : Int32.ofInt i = v) (h : Runs C M k n q P (.int v :: S) G Q) : Runs C M k n pc P S G Q :=
  Runs.stk d (fun p e s m args below meth c T locs L hx hd hP X t r => XS.iconst (g := mkF m pc L S) X.here hx rfl hd (by rw [hv]; exact r)) h
theorem Runs.bipush {i : Int} {v : Int32} (d : DAt M pc (.bipush i) 2 q) (hv : (Int8.ofInt i).toInt32 = v) (h : Runs C M k n q P (.int v :: S) G Q) : Runs C M k n pc P S G Q :=
  Runs.stk d (fun p e s m args below meth c T locs L hx hd hP X t r => XS.bipush (g := mkF m pc L S) X.here hx rfl hd (by rw [hv]; exact r)) h
theorem Runs.sipush {i : Int} {v : Int32} (d : DAt M pc (.sipush i) 3 q) (hv : (Int16.ofInt i).toInt32 = v) (h : Runs C M k n q P (.int v :: S) G Q) : Runs C M k n pc P S G Q :=
  Runs.stk d (fun p e s m args below meth c T locs L hx hd hP X t r => XS.sipush (g := mkF m pc L S) X.here hx rfl hd (by rw [hv]; exact r)) h
theorem Runs.lconst {i : Fin 2} {v : Int64} (d : DAt M pc (.lconst i) 1 q) (hv : Int64.ofNat i = v) (h : Runs C M k n q P (.long v :: S) G Q) : Runs C M k n pc P S G Q :=
  Runs.stk d (fun p e s m args below meth c T locs L hx hd hP X t r => Jvm.Free.XT.lconstV (g := mkF m pc L S) X.here hx rfl v hd hv r) h
theorem Runs.ldc {i : Nat} {v : Int32} (d : DAt M pc (.ldc i) 2 q) (w : Jvm.Cond.constant M.1.cls i v ∈ tables_1) (h : Runs C M k n q P (.int v :: S) G Q) : Runs C M k n pc P S G Q := by
  have hq := d.2
  subst hq
  exact Runs.pure d (fun p e s m args below meth c T locs L hw hx hown hZ hd hP hsz _ X => ⟨L, hP, hsz, fun t r => X.ldcInt hx hown (mvT hZ (hw _ w)) (g := mkF m pc L S) rfl hd t r⟩) h
theorem Runs.ldc2 {i : Nat} {v : Int64} (d : DAt M pc (.ldc2_w i) 3 q) (w : Jvm.Cond.constantLong M.1.cls i v ∈ tables_1) (h : Runs C M k n q P (.long v :: S) G Q) : Runs C M k n pc P S G Q := by
  have hq := d.2
  subst hq
  exact Runs.pure d (fun p e s m args below meth c T locs L hw hx hown hZ hd hP hsz _ X => ⟨L, hP, hsz, fun t r => X.ldc2Long hx hown (mvT hZ (hw _ w)) (g := mkF m pc L S) rfl hd t r⟩) h
theorem Runs.iadd {x y : Int32} (d : DAt M pc .iadd 1 q) (h : Runs C M k n q P (.int (x + y) :: S) G Q) : Runs C M k n pc P (.int y :: .int x :: S) G Q :=
  Runs.stk d (fun p e s m args below meth c T locs L hx hd hP X t r => XS.iadd (g := mkF m pc L (.int y :: .int x :: S)) X.here hx rfl hd rfl r) h
theorem Runs.isub {x y : Int32} (d : DAt M pc .isub 1 q) (h : Runs C M k n q P (.int (x - y) :: S) G Q) : Runs C M k n pc P (.int y :: .int x :: S) G Q :=
  Runs.stk d (fun p e s m args below meth c T locs L hx hd hP X t r => XS.isub (g := mkF m pc L (.int y :: .int x :: S)) X.here hx rfl hd rfl r) h
theorem Runs.imul {x y : Int32} (d : DAt M pc .imul 1 q) (h : Runs C M k n q P (.int (x * y) :: S) G Q) : Runs C M k n pc P (.int y :: .int x :: S) G Q :=
  Runs.stk d (fun p e s m args below meth c T locs L hx hd hP X t r => XS.imul (g := mkF m pc L (.int y :: .int x :: S)) X.here hx rfl hd rfl r) h
theorem Runs.iand {x y : Int32} (d : DAt M pc .iand 1 q) (h : Runs C M k n q P (.int (x &&& y) :: S) G Q) : Runs C M k n pc P (.int y :: .int x :: S) G Q :=
  Runs.stk d (fun p e s m args below meth c T locs L hx hd hP X t r => XS.iand (g := mkF m pc L (.int y :: .int x :: S)) X.here hx rfl hd rfl r) h
theorem Runs.ior {x y : Int32} (d : DAt M pc .ior 1 q) (h : Runs C M k n q P (.int (x ||| y) :: S) G Q) : Runs C M k n pc P (.int y :: .int x :: S) G Q :=
  Runs.stk d (fun p e s m args below meth c T locs L hx hd hP X t r => XS.ior (g := mkF m pc L (.int y :: .int x :: S)) X.here hx rfl hd rfl r) h
theorem Runs.ixor {x y : Int32} (d : DAt M pc .ixor 1 q) (h : Runs C M k n q P (.int (x ^^^ y) :: S) G Q) : Runs C M k n pc P (.int y :: .int x :: S) G Q :=
  Runs.stk d (fun p e s m args below meth c T locs L hx hd hP X t r => XS.ixor (g := mkF m pc L (.int y :: .int x :: S)) X.here hx rfl hd rfl r) h
theorem Runs.ladd {x y : Int64} (d : DAt M pc .ladd 1 q) (h : Runs C M k n q P (.long (x + y) :: S) G Q) : Runs C M k n pc P (.long y :: .long x :: S) G Q :=
  Runs.stk d (fun p e s m args below meth c T locs L hx hd hP X t r => XS.ladd (g := mkF m pc L (.long y :: .long x :: S)) X.here hx rfl hd rfl r) h
theorem Runs.lsub {x y : Int64} (d : DAt M pc .lsub 1 q) (h : Runs C M k n q P (.long (x - y) :: S) G Q) : Runs C M k n pc P (.long y :: .long x :: S) G Q :=
  Runs.stk d (fun p e s m args below meth c T locs L hx hd hP X t r => XS.lsub (g := mkF m pc L (.long y :: .long x :: S)) X.here hx rfl hd rfl r) h
theorem Runs.lmul {x y : Int64} (d : DAt M pc .lmul 1 q) (h : Runs C M k n q P (.long (x * y) :: S) G Q) : Runs C M k n pc P (.long y :: .long x :: S) G Q :=
  Runs.stk d (fun p e s m args below meth c T locs L hx hd hP X t r => XS.lmul (g := mkF m pc L (.long y :: .long x :: S)) X.here hx rfl hd rfl r) h
theorem Runs.land {x y : Int64} (d : DAt M pc .land 1 q) (h : Runs C M k n q P (.long (x &&& y) :: S) G Q) : Runs C M k n pc P (.long y :: .long x :: S) G Q :=
  Runs.stk d (fun p e s m args below meth c T locs L hx hd hP X t r => XS.land (g := mkF m pc L (.long y :: .long x :: S)) X.here hx rfl hd rfl r) h
theorem Runs.lor {x y : Int64} (d : DAt M pc .lor 1 q) (h : Runs C M k n q P (.long (x ||| y) :: S) G Q) : Runs C M k n pc P (.long y :: .long x :: S) G Q :=
  Runs.stk d (fun p e s m args below meth c T locs L hx hd hP X t r => XS.lor (g := mkF m pc L (.long y :: .long x :: S)) X.here hx rfl hd rfl r) h
theorem Runs.lxor {x y : Int64} (d : DAt M pc .lxor 1 q) (h : Runs C M k n q P (.long (x ^^^ y) :: S) G Q) : Runs C M k n pc P (.long y :: .long x :: S) G Q :=
  Runs.stk d (fun p e s m args below meth c T locs L hx hd hP X t r => XS.lxor (g := mkF m pc L (.long y :: .long x :: S)) X.here hx rfl hd rfl r) h
theorem Runs.ishl {x : Int32} {y : Int32} (d : DAt M pc .ishl 1 q) (h : Runs C M k n q P (.int (x <<< (y &&& 31)) :: S) G Q) : Runs C M k n pc P (.int y :: .int x :: S) G Q :=
  Runs.stk d (fun p e s m args below meth c T locs L hx hd hP X t r => XS.ishl (g := mkF m pc L (.int y :: .int x :: S)) X.here hx rfl hd rfl r) h
theorem Runs.ishr {x : Int32} {y : Int32} (d : DAt M pc .ishr 1 q) (h : Runs C M k n q P (.int (x >>> (y &&& 31)) :: S) G Q) : Runs C M k n pc P (.int y :: .int x :: S) G Q :=
  Runs.stk d (fun p e s m args below meth c T locs L hx hd hP X t r => XS.ishr (g := mkF m pc L (.int y :: .int x :: S)) X.here hx rfl hd rfl r) h
theorem Runs.iushr {x : Int32} {y : Int32} (d : DAt M pc .iushr 1 q) (h : Runs C M k n q P (.int ((x.toUInt32 >>> (y &&& 31).toUInt32).toInt32) :: S) G Q) : Runs C M k n pc P (.int y :: .int x :: S) G Q :=
  Runs.stk d (fun p e s m args below meth c T locs L hx hd hP X t r => XS.iushr (g := mkF m pc L (.int y :: .int x :: S)) X.here hx rfl hd rfl r) h
theorem Runs.lshl {x : Int64} {y : Int32} (d : DAt M pc .lshl 1 q) (h : Runs C M k n q P (.long (x <<< (y &&& 0x3f).toInt64) :: S) G Q) : Runs C M k n pc P (.int y :: .long x :: S) G Q :=
  Runs.stk d (fun p e s m args below meth c T locs L hx hd hP X t r => XS.lshl (g := mkF m pc L (.int y :: .long x :: S)) X.here hx rfl hd rfl r) h
theorem Runs.lshr {x : Int64} {y : Int32} (d : DAt M pc .lshr 1 q) (h : Runs C M k n q P (.long (x >>> (y &&& 0x3f).toInt64) :: S) G Q) : Runs C M k n pc P (.int y :: .long x :: S) G Q :=
  Runs.stk d (fun p e s m args below meth c T locs L hx hd hP X t r => XS.lshr (g := mkF m pc L (.int y :: .long x :: S)) X.here hx rfl hd rfl r) h
theorem Runs.lushr {x : Int64} {y : Int32} (d : DAt M pc .lushr 1 q) (h : Runs C M k n q P (.long ((x.toUInt64 >>> (y &&& 0x3f).toInt64.toUInt64).toInt64) :: S) G Q) : Runs C M k n pc P (.int y :: .long x :: S) G Q :=
  Runs.stk d (fun p e s m args below meth c T locs L hx hd hP X t r => XS.lushr (g := mkF m pc L (.int y :: .long x :: S)) X.here hx rfl hd rfl r) h
theorem Runs.ineg {x : Int32} (d : DAt M pc .ineg 1 q) (h : Runs C M k n q P (.int (-x) :: S) G Q) : Runs C M k n pc P (.int x :: S) G Q :=
  Runs.stk d (fun p e s m args below meth c T locs L hx hd hP X t r => XS.ineg (g := mkF m pc L (.int x :: S)) X.here hx rfl hd rfl r) h
theorem Runs.lneg {x : Int64} (d : DAt M pc .lneg 1 q) (h : Runs C M k n q P (.long (-x) :: S) G Q) : Runs C M k n pc P (.long x :: S) G Q :=
  Runs.stk d (fun p e s m args below meth c T locs L hx hd hP X t r => XS.lneg (g := mkF m pc L (.long x :: S)) X.here hx rfl hd rfl r) h
theorem Runs.i2l {x : Int32} (d : DAt M pc .i2l 1 q) (h : Runs C M k n q P (.long x.toInt64 :: S) G Q) : Runs C M k n pc P (.int x :: S) G Q :=
  Runs.stk d (fun p e s m args below meth c T locs L hx hd hP X t r => XS.i2l (g := mkF m pc L (.int x :: S)) X.here hx rfl hd rfl r) h
theorem Runs.l2i {x : Int64} (d : DAt M pc .l2i 1 q) (h : Runs C M k n q P (.int x.toInt32 :: S) G Q) : Runs C M k n pc P (.long x :: S) G Q :=
  Runs.stk d (fun p e s m args below meth c T locs L hx hd hP X t r => XS.l2i (g := mkF m pc L (.long x :: S)) X.here hx rfl hd rfl r) h
theorem Runs.lcmp {x y : Int64} (d : DAt M pc .lcmp 1 q) (h : Runs C M k n q P (.int (lcmpW x y) :: S) G Q) : Runs C M k n pc P (.long y :: .long x :: S) G Q :=
  Runs.stk d (fun p e s m args below meth c T locs L hx hd hP X t r => XS.lcmp (g := mkF m pc L (.long y :: .long x :: S)) X.here hx rfl hd rfl r) h
theorem Runs.idiv {x y : Int32} (d : DAt M pc .idiv 1 q) (hy : y ≠ 0) (h : Runs C M k n q P (.int (x / y) :: S) G Q) : Runs C M k n pc P (.int y :: .int x :: S) G Q :=
  Runs.stk d (fun p e s m args below meth c T locs L hx hd hP X t r => XS.idiv (g := mkF m pc L (.int y :: .int x :: S)) X.here hx rfl hd rfl hy r) h
theorem Runs.irem {x y : Int32} (d : DAt M pc .irem 1 q) (hy : y ≠ 0) (h : Runs C M k n q P (.int (x % y) :: S) G Q) : Runs C M k n pc P (.int y :: .int x :: S) G Q :=
  Runs.stk d (fun p e s m args below meth c T locs L hx hd hP X t r => iremM (g := mkF m pc L (.int y :: .int x :: S)) X hx rfl hd rfl hy r) h
theorem Runs.dup {x : Value} (d : DAt M pc .dup 1 q) (hc : x.category = 1) (h : Runs C M k n q P (x :: x :: S) G Q) : Runs C M k n pc P (x :: S) G Q :=
  Runs.stk d (fun p e s m args below meth c T locs L hx hd hP X t r => XS.dup (g := mkF m pc L (x :: S)) X.here hx rfl hd rfl hc r) h
theorem Runs.dup2 {x y : Value} (d : DAt M pc .dup2 1 q) (hc : x.category = 1) (hc' : y.category = 1) (h : Runs C M k n q P (x :: y :: x :: y :: S) G Q) : Runs C M k n pc P (x :: y :: S) G Q :=
  Runs.stk d (fun p e s m args below meth c T locs L hx hd hP X t r => Jvm.Free.XT.dup2 (g := mkF m pc L (x :: y :: S)) X.here hx rfl hd rfl hc hc' r) h
theorem Runs.pop {x : Value} (d : DAt M pc .pop 1 q) (hc : x.category = 1) (h : Runs C M k n q P S G Q) : Runs C M k n pc P (x :: S) G Q :=
  Runs.stk d (fun p e s m args below meth c T locs L hx hd hP X t r => XS.pop (g := mkF m pc L (x :: S)) X.here hx rfl hd rfl hc r) h
theorem Runs.goto {o : Int} {pc' : Nat} (d : DAt M pc (.goto o) 3 q) (ho : 0 ≤ (pc : Int) + o ∧ ((pc : Int) + o).toNat = pc') (h : Runs C M k n pc' P S G Q) : Runs C M k n pc P S G Q :=
  Runs.pure d (fun p e s m args below meth c T locs L hw hx hown hZ hd hP hsz _ X => ⟨L, hP, hsz, fun t r => XS.goto (g := mkF m pc L S) X.here hx rfl (pc0 := pc) rfl hd ho.1 ho.2 r⟩) h
theorem Runs.ifY {cd : ClassFile.Cond} {x : Int32} {o : Int} {pc' : Nat} (d : DAt M pc (.ifCond cd o) 3 q) (hc : if_icmp.holds cd x 0 = true) (ho : 0 ≤ (pc : Int) + o ∧ ((pc : Int) + o).toNat = pc') (h : Runs C M k n pc' P S G Q) : Runs C M k n pc P (.int x :: S) G Q :=
  Runs.pure d (fun p e s m args below meth c T locs L hw hx hown hZ hd hP hsz _ X => ⟨L, hP, hsz, fun t r => XS.ifYes (g := mkF m pc L (.int x :: S)) X.here hx rfl (pc0 := pc) rfl hd rfl ((if0 _ _).trans hc) ho.1 ho.2 r⟩) h
theorem Runs.ifN {cd : ClassFile.Cond} {x : Int32} {o : Int} (d : DAt M pc (.ifCond cd o) 3 q) (hc : if_icmp.holds cd x 0 = false) (h : Runs C M k n q P S G Q) : Runs C M k n pc P (.int x :: S) G Q :=
  Runs.stk d (fun p e s m args below meth c T locs L hx hd hP X t r => XS.ifNo (g := mkF m pc L (.int x :: S)) X.here hx rfl hd rfl ((if0 _ _).trans hc) r) h
theorem Runs.icY {cd : ClassFile.Cond} {x y : Int32} {o : Int} {pc' : Nat} (d : DAt M pc (.if_icmp cd o) 3 q) (hc : if_icmp.holds cd x y = true) (ho : 0 ≤ (pc : Int) + o ∧ ((pc : Int) + o).toNat = pc') (h : Runs C M k n pc' P S G Q) : Runs C M k n pc P (.int y :: .int x :: S) G Q :=
  Runs.pure d (fun p e s m args below meth c T locs L hw hx hown hZ hd hP hsz _ X => ⟨L, hP, hsz, fun t r => XS.icmpYes (g := mkF m pc L (.int y :: .int x :: S)) X.here hx rfl (pc0 := pc) rfl hd rfl hc ho.1 ho.2 r⟩) h
theorem Runs.icN {cd : ClassFile.Cond} {x y : Int32} {o : Int} (d : DAt M pc (.if_icmp cd o) 3 q) (hc : if_icmp.holds cd x y = false) (h : Runs C M k n q P S G Q) : Runs C M k n pc P (.int y :: .int x :: S) G Q :=
  Runs.stk d (fun p e s m args below meth c T locs L hx hd hP X t r => XS.icmpNo (g := mkF m pc L (.int y :: .int x :: S)) X.here hx rfl hd rfl hc r) h
theorem Runs.tswI {dflt low high : Int} {offs : Array Int} {len : Nat} {o : Int} {pc' : Nat} {i : Int32} (d : DAt M pc (.tableswitch dflt low high offs) len q) (hin : ¬ (i.toInt < low ∨ i.toInt > high)) (hoff : offs[(i.toInt - low).toNat]? = some o) (ho : 0 ≤ (pc : Int) + o ∧ ((pc : Int) + o).toNat = pc') (h : Runs C M k n pc' P S G Q) : Runs C M k n pc P (.int i :: S) G Q :=
  Runs.pure d (fun p e s m args below meth c T locs L hw hx hown hZ hd hP hsz _ X => ⟨L, hP, hsz, fun t r => XS.tswIn (g := mkF m pc L (.int i :: S)) X.here hx rfl (pc0 := pc) rfl hd rfl hin hoff ho.1 ho.2 r⟩) h
theorem Runs.tswO {dflt low high : Int} {offs : Array Int} {len : Nat} {pc' : Nat} {i : Int32} (d : DAt M pc (.tableswitch dflt low high offs) len q) (hout : i.toInt < low ∨ i.toInt > high) (ho : 0 ≤ (pc : Int) + dflt ∧ ((pc : Int) + dflt).toNat = pc') (h : Runs C M k n pc' P S G Q) : Runs C M k n pc P (.int i :: S) G Q :=
  Runs.pure d (fun p e s m args below meth c T locs L hw hx hown hZ hd hP hsz _ X => ⟨L, hP, hsz, fun t r => XS.tswOut (g := mkF m pc L (.int i :: S)) X.here hx rfl (pc0 := pc) rfl hd rfl hout ho.1 ho.2 r⟩) h
theorem Runs.istoreN {j : Fin 4} {x : Int32} (d : DAt M pc (.istore_n j) 1 q) (hi : j.val < M.2.2.1) (hP' : ps1 P j.val (.int x) = P') (h : Runs C M k n q P' S G Q) : Runs C M k n pc P (.int x :: S) G Q := by
  have hq := d.2
  subst hq hP'
  refine Runs.pure d (fun p e s m args below meth c T locs L hw hx hown hZ hd hP hsz _ X => ?_) h
  obtain ⟨L', e1, e2, e3⟩ := hP.store1 (i := j.val) (v := .int x) (by omega) rfl
  exact ⟨L', e3, e2.trans hsz, fun t r => XS.istoreN (g := mkF m pc L (.int x :: S)) X.here hx rfl hd rfl e1 r⟩
theorem Runs.istore {j : Nat} {x : Int32} (d : DAt M pc (.istore j) 2 q) (hi : j < M.2.2.1) (hP' : ps1 P j (.int x) = P') (h : Runs C M k n q P' S G Q) : Runs C M k n pc P (.int x :: S) G Q := by
  have hq := d.2
  subst hq hP'
  refine Runs.pure d (fun p e s m args below meth c T locs L hw hx hown hZ hd hP hsz _ X => ?_) h
  obtain ⟨L', e1, e2, e3⟩ := hP.store1 (i := j) (v := .int x) (by omega) rfl
  exact ⟨L', e3, e2.trans hsz, fun t r => XS.istore (g := mkF m pc L (.int x :: S)) X.here hx rfl hd rfl e1 r⟩
theorem Runs.astoreN {j : Fin 4} {x : Nat} (d : DAt M pc (.astore_n j) 1 q) (hi : j.val < M.2.2.1) (hP' : ps1 P j.val (.ref x) = P') (h : Runs C M k n q P' S G Q) : Runs C M k n pc P (.ref x :: S) G Q := by
  have hq := d.2
  subst hq hP'
  refine Runs.pure d (fun p e s m args below meth c T locs L hw hx hown hZ hd hP hsz _ X => ?_) h
  obtain ⟨L', e1, e2, e3⟩ := hP.store1 (i := j.val) (v := .ref x) (by omega) rfl
  exact ⟨L', e3, e2.trans hsz, fun t r => XS.astoreN (g := mkF m pc L (.ref x :: S)) X.here hx rfl hd rfl rfl e1 r⟩
theorem Runs.astore {j : Nat} {x : Nat} (d : DAt M pc (.astore j) 2 q) (hi : j < M.2.2.1) (hP' : ps1 P j (.ref x) = P') (h : Runs C M k n q P' S G Q) : Runs C M k n pc P (.ref x :: S) G Q := by
  have hq := d.2
  subst hq hP'
  refine Runs.pure d (fun p e s m args below meth c T locs L hw hx hown hZ hd hP hsz _ X => ?_) h
  obtain ⟨L', e1, e2, e3⟩ := hP.store1 (i := j) (v := .ref x) (by omega) rfl
  exact ⟨L', e3, e2.trans hsz, fun t r => XS.astore (g := mkF m pc L (.ref x :: S)) X.here hx rfl hd rfl rfl e1 r⟩
theorem Runs.lstoreN {j : Fin 4} {x : Int64} (d : DAt M pc (.lstore_n j) 1 q) (hi : j.val + 1 < M.2.2.1) (hP' : ps2 P j.val (.long x) = P') (h : Runs C M k n q P' S G Q) : Runs C M k n pc P (.long x :: S) G Q := by
  have hq := d.2
  subst hq hP'
  refine Runs.pure d (fun p e s m args below meth c T locs L hw hx hown hZ hd hP hsz _ X => ?_) h
  obtain ⟨L', e1, e2, e3⟩ := hP.store2 (i := j.val) (v := .long x) (by omega) rfl
  exact ⟨L', e3, e2.trans hsz, fun t r => XS.lstoreN (g := mkF m pc L (.long x :: S)) X.here hx rfl hd rfl e1 r⟩
theorem Runs.lstore {j : Nat} {x : Int64} (d : DAt M pc (.lstore j) 2 q) (hi : j + 1 < M.2.2.1) (hP' : ps2 P j (.long x) = P') (h : Runs C M k n q P' S G Q) : Runs C M k n pc P (.long x :: S) G Q := by
  have hq := d.2
  subst hq hP'
  refine Runs.pure d (fun p e s m args below meth c T locs L hw hx hown hZ hd hP hsz _ X => ?_) h
  obtain ⟨L', e1, e2, e3⟩ := hP.store2 (i := j) (v := .long x) (by omega) rfl
  exact ⟨L', e3, e2.trans hsz, fun t r => XS.lstore (g := mkF m pc L (.long x :: S)) X.here hx rfl hd rfl e1 r⟩
theorem Runs.iinc {j : Nat} {cst : Int} {x v : Int32} (d : DAt M pc (.iinc j cst) 3 q) (hv : Int32.ofInt cst = v) (hl : pget P j = vi x) (hi : j < M.2.2.1) (hP' : ps1 P j (.int (x + v)) = P') (h : Runs C M k n q P' S G Q) : Runs C M k n pc P S G Q := by
  have hq := d.2
  subst hq hP' hv
  refine Runs.pure d (fun p e s m args below meth c T locs L hw hx hown hZ hd hP hsz _ X => ?_) h
  obtain ⟨L', e1, e2, e3⟩ := hP.store1 (i := j) (v := .int (x + Int32.ofInt cst)) (by omega) rfl
  exact ⟨L', e3, e2.trans hsz, fun t r => XS.iinc (g := mkF m pc L S) X.here hx rfl hd (hP.1 _ _ hl) e1 r⟩
/-- less is known of the locals -/
def psub : Pat → Pat → Prop
  | [], _ => True
  | none :: l, _ :: l' => psub l l'
  | some s :: l, y :: l' => y = some s ∧ psub l l'
  | none :: l, [] => psub l []
  | some _ :: _, [] => False
theorem psub_get : ∀ (P P' : Pat), psub P P' → ∀ i s, pget P i = some s → pget P' i = some s
  | [], _, _, i, s, h => by simp [pget] at h
  | none :: l, _ :: l', H, 0, s, h => by simp [pget] at h
  | none :: l, _ :: l', H, i + 1, s, h => psub_get l l' H i s h
  | some x :: l, y :: l', H, 0, s, h => by rw [show y = some x from H.1]; exact h
  | some x :: l, y :: l', H, i + 1, s, h => psub_get l l' H.2 i s h
  | none :: l, [], H, 0, s, h => by simp [pget] at h
  | none :: l, [], H, i + 1, s, h => by have := psub_get l [] H i s h; simp [pget] at this
  | some _ :: _, [], H, _, _, _ => H.elim
theorem Runs.weak (hP : psub P' P) (h : Runs C M k n pc P' S G Q) : Runs C M k n pc P S G Q := by
  intro hw p e s m args below meth c T locs L hx hby hml hret hnm hown hZ hf
  exact h hw p e s m args below meth c T locs L hx hby hml hret hnm hown hZ ⟨fun i s hi => hf.1 i s (psub_get _ _ hP i s hi), hf.2⟩
theorem Runs.swap {top : Nat} {x y : Nat × Nat × Rec} {H : List (Nat × Nat × Rec)} (h : Runs C M k n pc P S (top, y :: x :: H) Q) : Runs C M k n pc P S (top, x :: y :: H) Q := by
  intro hw p e s m args below meth c T locs L hx hby hml hret hnm hown hZ hf hsz X hR hF
  exact h hw p e s m args below meth c T locs L hx hby hml hret hnm hown hZ hf hsz X hR.swap hF
end Rules
/- the steps that touch the heap -/
section Made
variable {p : Program} {l : Launch} {e : Env} {R : Room} {s : State} {m : MethodId} {args : Array Value} {below : List Frame} {meth : Method} {c : Code} {T : State} {locs : List Loc} {cells slots : Nat} {Z : State} {a0 : Array Value}
theorem ext_push (h : Heap) (x : Cell) : Ext h (h.push x) := ⟨by simp, fun a c q => by rw [Array.getElem?_push_lt (Array.getElem?_eq_some_iff.mp q).1]; exact (Array.getElem?_eq_getElem _).symm.trans q⟩
/-- 'new', with the heap's size behind it -/
theorem new1 (X : Stand p l e R s m args below meth c T locs cells slots) (hx : p.tables.exec = Jvm.exec) (hZ : Z.Warmed39 s.vm) {own C : String} {index n : Nat} (hown : s.vm.findClass own = some m.cls) (w : (Jvm.Cond.classLink own index C).before a0 Z = true) (wi : (Jvm.Cond.instantiable C n).before a0 Z = true) (wz : (Jvm.Cond.initialized C).before a0 Z = true)
    {g : JFrame} (hg : g.method = m) (hd : decode c.code g.pc = .ok (.new index, 3)) (hc : cells + 1 ≤ R.cells) (hl : slots + n ≤ R.slots) :
    ∃ T', Stand p l e R s m args below meth c T' locs (cells + 1) (slots + n) ∧ T'.heap.size = T.heap.size + 1 ∧ Ext T.heap T'.heap ∧ Exa Z T'.heap T.heap.size C ∧ (∀ {O nm d : String} {ty : FieldType}, Laid Z a0 C O nm d → parseFieldDescriptor d = some ty → Fld Z T'.heap T.heap.size O nm d (defaultValue ty)) ∧
      ∀ target, Steps p.tables e below (T'.setTop { g with pc := g.pc + 3, stack := .ref T.heap.size :: g.stack }) target → Steps p.tables e below (T.setTop g) target := by
  obtain ⟨vm', cC, kC, h1, h2, h3, h4, X', st⟩ := X.newCold hx hown (mv hZ w) (mv hZ wi) (mv hZ wz) hg hd hc hl
  rw [hZ.alike.findClass] at h1
  obtain ⟨kZ, z1, -⟩ := Vm.findClass_spec h1
  obtain ⟨k', z2, z3⟩ := hZ.alike.2.2 _ _ z1
  have ek : kC.instanceTypes = kZ.instanceTypes := by rw [Option.some.inj (h2.symm.trans z2), z3]
  obtain ⟨cell, hcell⟩ : ∃ cell : Cell, cell = { cls := cC, slots := kC.instanceTypes.map defaultValue, vm := .none } := ⟨_, rfl⟩
  rw [← hcell] at X' st
  have hp : ((T.setVm vm').pushCell cell).heap = T.heap.push cell := rfl
  have at' : (T.heap.push cell)[T.heap.size]? = some cell := by simp
  refine ⟨_, X', by rw [hp]; simp, by rw [hp]; exact ext_push _ _, ?_, fun {O nm d ty} L ht => ?_, st⟩
  · rw [hp]; exact ⟨cell, kZ, at', by rw [hcell]; exact h1, by rw [hcell]; exact z1, by rw [hcell]; rfl, fun _ => by rw [hcell]; simp [ek]⟩
  · rw [hp]
    obtain ⟨c1, k1, cf, kf, i, f, a1, a2, a3, a4, a5, a6, -⟩ := L.spec
    cases h1.symm.trans a1
    cases z1.symm.trans a2
    refine ⟨cell, cf, kf, i, f, at', a3, a4, by rw [hcell]; simp, by rw [hcell]; rfl, by rw [hcell]; exact a5, ?_⟩
    rw [hcell]; simp [ek, a6, (State.fieldFound?_type a3 ht).2]
theorem newArr1 (X : Stand p l e R s m args below meth c T locs cells slots) (hx : p.tables.exec = Jvm.exec) (hZ : Z.Warmed39 s.vm) {aty : ArrayType} (w : (Jvm.Cond.arrayClass (newarray.typeOf aty)).before a0 Z = true) {g : JFrame} (hg : g.method = m) (hd : decode c.code g.pc = .ok (.newarray aty, 2)) {n : Int32} {rest : List Value} (hs : g.stack = .int n :: rest)
    (hn : ¬ n < 0) (hb : n.toNatClampNeg * 8 ≤ 536870912) (hc : cells + 1 ≤ R.cells) (hl : slots + n.toNatClampNeg ≤ R.slots) :
    ∃ T' cA, Stand p l e R s m args below meth c T' locs (cells + 1) (slots + n.toNatClampNeg) ∧ T'.heap.size = T.heap.size + 1 ∧ Ext T.heap T'.heap ∧ Arr Z T'.heap T.heap.size (newA cA (newarray.typeOf aty) n) (newarray.typeOf aty) ∧
      ∀ target, Steps p.tables e below (T'.setTop { g with pc := g.pc + 2, stack := .ref T.heap.size :: rest }) target → Steps p.tables e below (T.setTop g) target := by
  have hcb : componentBytes (newarray.typeOf aty) ≤ 8 := by cases aty <;> decide
  obtain ⟨cA, kA, comp, h1, h2, h3, X', st⟩ := X.newarrayPrim hx (mvA hZ w) hg hd hs hn (Nat.le_trans (Nat.mul_le_mul_left _ hcb) hb) hc hl
  rw [hZ.alike.findClass] at h1
  obtain ⟨kZ, z1, -⟩ := Vm.findClass_spec h1
  obtain ⟨k', z2, z3⟩ := hZ.alike.2.2 _ _ z1
  have ek : kA.kind = kZ.kind := by rw [Option.some.inj (h2.symm.trans z2), z3]
  have hp : (T.pushCell (newA cA (newarray.typeOf aty) n)).heap = T.heap.push (newA cA (newarray.typeOf aty) n) := rfl
  refine ⟨T.pushCell (newA cA (newarray.typeOf aty) n), cA, X', by rw [hp]; simp, by rw [hp]; exact ext_push _ _, ?_, st⟩
  rw [hp]
  exact ⟨by simp, ⟨by simp [newA], kZ, z1, comp, by rw [← ek]; exact h3⟩, by simp [newA]⟩
end Made
section Heap
variable {C : Ctx} {M : Bdy} {k n pc q : Nat} {P P' : Pat} {S S' : List Value} {G : AH} {Q : Option Value → AH → Prop} {top : Nat} {a : Nat} {qq j idx : Nat} {ob : Rec} {H : List (Nat × Nat × Rec)} {nm ds : String}
theorem Runs.getI (d : DAt M pc (.getfield idx) 3 q) (w : Jvm.Cond.fieldLink M.1.cls idx K.1 nm ds ∈ tables_1) (hk : K.2.1[j]? = some (nm, ds)) (h : Runs C M k n q P (.int (gI ob j) :: S) (top, (a, qq, ob) :: H) Q) : Runs C M k n pc P (.ref a :: S) (top, (a, qq, ob) :: H) Q := by
  intro hw p e s m args below meth c T locs L hx hby hml hret hnm hown hZ hf hsz X hR hF
  have hq := d.2
  subst hq
  obtain ⟨T1, X1, e1, st1⟩ := getF X hx hZ hown (host := "") (Or.inl (hw _ w)) Via.refl rfl (hR.objs.2.2.2.1 j _ hk) (g := mkF m pc L (.ref a :: S)) rfl rfl (hb hby d.1)
  obtain ⟨T', locs', k', n', r, G', g1, g2, g3, g4, g5, g6, g7, g8⟩ := h hw p e s m args below meth c T1 locs L hx hby hml hret hnm hown hZ hf hsz X1 (by rw [e1]; exact hR) hF
  exact ⟨T', locs', k', n', r, G', g1, g2, g3, g4, g5, g6, g7, fun fs hr => st1 _ (g8 fs hr)⟩
theorem Runs.getA {ty : FieldType} {len : Int32} (d : DAt M pc (.getfield idx) 3 q) (hk : K.2.2[j]? = some (nm, ty, len)) (w : Jvm.Cond.fieldLink M.1.cls idx K.1 nm (aD ty) ∈ tables_1) (hq : j < qq) (h : Runs C M k n q P (.ref (a + 1 + j) :: S) (top, (a, qq, ob) :: H) Q) : Runs C M k n pc P (.ref a :: S) (top, (a, qq, ob) :: H) Q := by
  intro hw p e s m args below meth c T locs L hx hby hml hret hnm hown hZ hf hsz X hR hF
  have hqq := d.2
  subst hqq
  obtain ⟨T1, X1, e1, st1⟩ := getF X hx hZ hown (host := "") (Or.inl (hw _ w)) Via.refl rfl (hR.objs.2.2.2.2.1 j _ hk hq).1 (g := mkF m pc L (.ref a :: S)) rfl rfl (hb hby d.1)
  obtain ⟨T', locs', k', n', r, G', g1, g2, g3, g4, g5, g6, g7, g8⟩ := h hw p e s m args below meth c T1 locs L hx hby hml hret hnm hown hZ hf hsz X1 (by rw [e1]; exact hR) hF
  exact ⟨T', locs', k', n', r, G', g1, g2, g3, g4, g5, g6, g7, fun fs hr => st1 _ (g8 fs hr)⟩
theorem lw_of {Z : State} {a0 : Array Value} {meth : Method} (hw : ∀ d ∈ tables_1, d.before a0 Z = true) {C O n d own : String} (h : Jvm.Cond.lays C O n d ∈ tables_1 ∨ Jvm.Cond.laysFinal C O n d ∈ tables_1) (hc : Jvm.Cond.lays C O n d ∈ tables_1 ∨ (own = O ∧ meth.name = "<init>")) : (Jvm.Cond.lays C O n d).before a0 Z = true ∨ ((Jvm.Cond.laysFinal C O n d).before a0 Z = true ∧ own = O ∧ meth.name = "<init>") := by
  rcases hc with hc | hc
  · exact Or.inl (hw _ hc)
  · exact h.imp (hw _) (fun u => ⟨hw _ u, hc⟩)
/-- a field that may be written here: not final, or in a constructor of its class -/
def Mine (M : Bdy) (nm ds : String) : Prop := Jvm.Cond.lays K.1 K.1 nm ds ∈ tables_1 ∨ (M.1.cls = K.1 ∧ M.1.name = "<init>")
theorem Runs.putI {x : Int32} (d : DAt M pc (.putfield idx) 3 q) (w : Jvm.Cond.fieldLink M.1.cls idx K.1 nm "I" ∈ tables_1) (hk : K.2.1[j]? = some (nm, "I")) (hm : Mine M nm "I") (h : Runs C M k n q P S (top, (a, qq, sI ob j x) :: H) Q) : Runs C M k n pc P (.int x :: .ref a :: S) (top, (a, qq, ob) :: H) Q := by
  intro hw p e s m args below meth c T locs L hx hby hml hret hnm hown hZ hf hsz X hR hF
  have hqq := d.2
  subst hqq
  obtain ⟨T1, h1, X1, e1, W1, st1⟩ := putF X hx hZ hown (host := "") (Or.inl (hw _ w)) Via.refl rfl (hR.objs.2.2.2.1 j _ hk) hR.objs.2.2.1 (lw_of hw ((All.mem kS (List.mem_of_getElem? hk)).1) (hm.imp id (fun u => ⟨u.1, hnm.trans u.2⟩))) (hw _ kI) (ty := .int) (by decide) rfl rfl (g := mkF m pc L (.int x :: .ref a :: S)) rfl rfl (hb hby d.1)
  obtain ⟨T', locs', k', n', r, G', g1, g2, g3, g4, g5, g6, g7, g8⟩ := h hw p e s m args below meth c T1 _ L hx hby hml hret hnm hown hZ hf hsz X1 (by rw [e1]; exact hR.putI hw hk W1) (Fr.snoc X1 hF hR.objs.1)
  exact ⟨T', locs', k', n', r, G', g1, g2, g3, g4, g5, g6, g7, fun fs hr => st1 _ (g8 fs hr)⟩
theorem Runs.putZ {x y : Int32} (d : DAt M pc (.putfield idx) 3 q) (w : Jvm.Cond.fieldLink M.1.cls idx K.1 nm "Z" ∈ tables_1) (hk : K.2.1[j]? = some (nm, "Z")) (hm : Mine M nm "Z") (hy : nar .boolean x = y) (h : Runs C M k n q P S (top, (a, qq, sI ob j y) :: H) Q) : Runs C M k n pc P (.int x :: .ref a :: S) (top, (a, qq, ob) :: H) Q := by
  subst hy
  intro hw p e s m args below meth c T locs L hx hby hml hret hnm hown hZ hf hsz X hR hF
  have hqq := d.2
  subst hqq
  obtain ⟨T1, h1, X1, e1, W1, st1⟩ := putFN X hx hZ hown (hw _ w) Via.refl rfl (hR.objs.2.2.2.1 j _ hk) hR.objs.2.2.1 (lw_of hw ((All.mem kS (List.mem_of_getElem? hk)).1) (hm.imp id (fun u => ⟨u.1, hnm.trans u.2⟩))) (hw _ kI) (ty := .boolean) (v' := .int (nar .boolean x)) (by decide) rfl (fits_nar_bool _) (g := mkF m pc L (.int x :: .ref a :: S)) rfl rfl (hb hby d.1)
  obtain ⟨T', locs', k', n', r, G', g1, g2, g3, g4, g5, g6, g7, g8⟩ := h hw p e s m args below meth c T1 _ L hx hby hml hret hnm hown hZ hf hsz X1 (by rw [e1]; exact hR.putI hw hk W1) (Fr.snoc X1 hF hR.objs.1)
  exact ⟨T', locs', k', n', r, G', g1, g2, g3, g4, g5, g6, g7, fun fs hr => st1 _ (g8 fs hr)⟩
theorem Runs.ialoadA {i len : Int32} (d : DAt M pc .iaload 1 q) (hk : K.2.2[j]? = some (nm, .int, len)) (hq : j < qq) (hi : ¬ i < 0 ∧ i < len) (h : Runs C M k n q P (.int (gA ob j i) :: S) (top, (a, qq, ob) :: H) Q) : Runs C M k n pc P (.int i :: .ref (a + 1 + j) :: S) (top, (a, qq, ob) :: H) Q := by
  have hqq := d.2
  subst hqq
  refine Runs.pure d (fun p e s m args below meth c T locs L hw hx hown hZ hd hP hsz hR X => ⟨L, hP, hsz, fun t r => ?_⟩) h
  obtain ⟨cl, A, Sz, V⟩ := (hR.objs.2.2.2.2.1 j _ hk hq).2
  exact X.iaload hx (j := i) (v := .int (gA ob j i)) A.1 (State.isArrayOf_alike hZ.alike A.2.1) A.2.2 (inb_of Sz hi) (V i hi.1 hi.2) (g := mkF m pc L (.int i :: .ref (a + 1 + j) :: S)) rfl rfl hd _ r
theorem Runs.baloadA {i len : Int32} (d : DAt M pc .baload 1 q) (hk : K.2.2[j]? = some (nm, .boolean, len)) (hq : j < qq) (hi : ¬ i < 0 ∧ i < len) (h : Runs C M k n q P (.int (gA ob j i) :: S) (top, (a, qq, ob) :: H) Q) : Runs C M k n pc P (.int i :: .ref (a + 1 + j) :: S) (top, (a, qq, ob) :: H) Q := by
  have hqq := d.2
  subst hqq
  refine Runs.pure d (fun p e s m args below meth c T locs L hw hx hown hZ hd hP hsz hR X => ⟨L, hP, hsz, fun t r => ?_⟩) h
  obtain ⟨cl, A, Sz, V⟩ := (hR.objs.2.2.2.2.1 j _ hk hq).2
  exact X.baloadBooleans hx (j := i) (v := .int (gA ob j i)) A.1 (State.isArrayOf_alike hZ.alike A.2.1) A.2.2 (inb_of Sz hi) (V i hi.1 hi.2) (g := mkF m pc L (.int i :: .ref (a + 1 + j) :: S)) rfl rfl hd _ r
theorem Runs.laloadA {i len : Int32} (d : DAt M pc .laload 1 q) (hk : K.2.2[j]? = some (nm, .long, len)) (hq : j < qq) (hi : ¬ i < 0 ∧ i < len) (h : Runs C M k n q P (.long (gJ ob j i) :: S) (top, (a, qq, ob) :: H) Q) : Runs C M k n pc P (.int i :: .ref (a + 1 + j) :: S) (top, (a, qq, ob) :: H) Q := by
  have hqq := d.2
  subst hqq
  refine Runs.pure d (fun p e s m args below meth c T locs L hw hx hown hZ hd hP hsz hR X => ⟨L, hP, hsz, fun t r => ?_⟩) h
  obtain ⟨cl, A, Sz, V⟩ := (hR.objs.2.2.2.2.1 j _ hk hq).2
  exact X.laload hx (j := i) (v := .long (gJ ob j i)) A.1 (State.isArrayOf_alike hZ.alike A.2.1) A.2.2 (inb_of Sz hi) (V i hi.1 hi.2) (g := mkF m pc L (.int i :: .ref (a + 1 + j) :: S)) rfl rfl hd _ r
theorem Runs.iastoreA {i x len : Int32} (d : DAt M pc .iastore 1 q) (hk : K.2.2[j]? = some (nm, .int, len)) (hq : j < qq) (hi : ¬ i < 0 ∧ i < len) (h : Runs C M k n q P S (top, (a, qq, sA ob j i x) :: H) Q) : Runs C M k n pc P (.int x :: .int i :: .ref (a + 1 + j) :: S) (top, (a, qq, ob) :: H) Q := by
  intro hw p e s m args below meth c T locs L hx hby hml hret hnm hown hZ hf hsz X hR hF
  have hqq := d.2
  subst hqq
  obtain ⟨cl, A, Sz, V⟩ := (hR.objs.2.2.2.2.1 j _ hk hq).2
  obtain ⟨T1, h1, X1, e1, W1, st1⟩ := stI X hx hZ rfl A (j := i) (x := x) (inb_of Sz hi) (g := mkF m pc L (.int x :: .int i :: .ref (a + 1 + j) :: S)) rfl rfl (hb hby d.1)
  obtain ⟨T', locs', k', n', r, G', g1, g2, g3, g4, g5, g6, g7, g8⟩ := h hw p e s m args below meth c T1 _ L hx hby hml hret hnm hown hZ hf hsz X1 (by rw [e1]; exact hR.putA hk hq (by simp) hi W1) (Fr.snoc X1 hF (by have := hR.objs.1; omega))
  exact ⟨T', locs', k', n', r, G', g1, g2, g3, g4, g5, g6, g7, fun fs hr => st1 _ (g8 fs hr)⟩
theorem Runs.bastoreA {i x len : Int32} (d : DAt M pc .bastore 1 q) (hk : K.2.2[j]? = some (nm, .boolean, len)) (hq : j < qq) (hi : ¬ i < 0 ∧ i < len) {y : Int32} (hy : nar .boolean x = y) (h : Runs C M k n q P S (top, (a, qq, sA ob j i y) :: H) Q) : Runs C M k n pc P (.int x :: .int i :: .ref (a + 1 + j) :: S) (top, (a, qq, ob) :: H) Q := by
  subst hy
  intro hw p e s m args below meth c T locs L hx hby hml hret hnm hown hZ hf hsz X hR hF
  have hqq := d.2
  subst hqq
  obtain ⟨cl, A, Sz, V⟩ := (hR.objs.2.2.2.2.1 j _ hk hq).2
  obtain ⟨T1, h1, X1, e1, W1, st1⟩ := stZ X hx hZ rfl A (j := i) (x := x) (inb_of Sz hi) (g := mkF m pc L (.int x :: .int i :: .ref (a + 1 + j) :: S)) rfl rfl (hb hby d.1)
  obtain ⟨T', locs', k', n', r, G', g1, g2, g3, g4, g5, g6, g7, g8⟩ := h hw p e s m args below meth c T1 _ L hx hby hml hret hnm hown hZ hf hsz X1 (by rw [e1]; exact hR.putA hk hq (by simp) hi W1) (Fr.snoc X1 hF (by have := hR.objs.1; omega))
  exact ⟨T', locs', k', n', r, G', g1, g2, g3, g4, g5, g6, g7, fun fs hr => st1 _ (g8 fs hr)⟩
theorem Runs.lastoreA {i len : Int32} {x : Int64} (d : DAt M pc .lastore 1 q) (hk : K.2.2[j]? = some (nm, .long, len)) (hq : j < qq) (hi : ¬ i < 0 ∧ i < len) (h : Runs C M k n q P S (top, (a, qq, sJ ob j i x) :: H) Q) : Runs C M k n pc P (.long x :: .int i :: .ref (a + 1 + j) :: S) (top, (a, qq, ob) :: H) Q := by
  intro hw p e s m args below meth c T locs L hx hby hml hret hnm hown hZ hf hsz X hR hF
  have hqq := d.2
  subst hqq
  obtain ⟨cl, A, Sz, V⟩ := (hR.objs.2.2.2.2.1 j _ hk hq).2
  obtain ⟨T1, h1, X1, e1, W1, st1⟩ := stJ X hx hZ rfl A (j := i) (x := x) (inb_of Sz hi) (g := mkF m pc L (.long x :: .int i :: .ref (a + 1 + j) :: S)) rfl rfl (hb hby d.1)
  obtain ⟨T', locs', k', n', r, G', g1, g2, g3, g4, g5, g6, g7, g8⟩ := h hw p e s m args below meth c T1 _ L hx hby hml hret hnm hown hZ hf hsz X1 (by rw [e1]; exact hR.putJ hk hq rfl hi W1) (Fr.snoc X1 hF (by have := hR.objs.1; omega))
  exact ⟨T', locs', k', n', r, G', g1, g2, g3, g4, g5, g6, g7, fun fs hr => st1 _ (g8 fs hr)⟩
/-- the script: an array that stood before the law began -/
def ScrF (C : Ctx) (sa : Nat) (z : Int32) (f : Int32 → Int32) : Prop := ∃ cl : Cell, Scr C.2.1 C.2.1.heap sa cl z ∧ f = atv cl
theorem Runs.lenS {sa : Nat} {z : Int32} {f : Int32 → Int32} (hs : ScrF C sa z f) (d : DAt M pc .arraylength 1 q) (h : Runs C M k n q P (.int z :: S) G Q) : Runs C M k n pc P (.ref sa :: S) G Q := by
  have hqq := d.2
  subst hqq
  refine Runs.pure d (fun p e s m args below meth c T locs L hw hx hown hZ hd hP hsz hR X => ⟨L, hP, hsz, fun t r => ?_⟩) h
  obtain ⟨cl, F, -⟩ := hs
  obtain ⟨A, Sz, N, V⟩ := F.ext hR.2.1.2
  exact X.arraylength hx A.1 (State.isArrayOf_alike hZ.alike A.2.1) (g := mkF m pc L (.ref sa :: S)) rfl rfl hd _ (by rw [len_of Sz N]; exact r)
theorem Runs.ialoadS {sa : Nat} {z i : Int32} {f : Int32 → Int32} (hs : ScrF C sa z f) (d : DAt M pc .iaload 1 q) (hi : ¬ i < 0 ∧ i < z) (h : Runs C M k n q P (.int (f i) :: S) G Q) : Runs C M k n pc P (.int i :: .ref sa :: S) G Q := by
  have hqq := d.2
  subst hqq
  refine Runs.pure d (fun p e s m args below meth c T locs L hw hx hown hZ hd hP hsz hR X => ⟨L, hP, hsz, fun t r => ?_⟩) h
  obtain ⟨cl, F, rfl⟩ := hs
  obtain ⟨A, Sz, N, V⟩ := F.ext hR.2.1.2
  exact X.iaload hx (j := i) (v := .int (atv cl i)) A.1 (State.isArrayOf_alike hZ.alike A.2.1) A.2.2 (inb_of Sz hi) (V i (inb_of Sz hi)) (g := mkF m pc L (.int i :: .ref sa :: S)) rfl rfl hd _ r
/- leaving -/
theorem Runs.retI {v : Int32} (d : DAt M pc .ireturn 1 q) (hret : M.2.2.2.1 = some .int) (hk : k ≤ M.2.2.2.2.cells ∧ n ≤ M.2.2.2.2.slots) (hQ : Q (some (.int v)) G) : Runs C M k n pc P (.int v :: S) G Q := by
  intro hw p e s m args below meth c T locs L hx hby hml hr0 hnm hown hZ hf hsz X hR hF
  exact ⟨T, locs, k, n, _, G, X, hk.1, hk.2, hR, hF, hQ, (fun u => by rw [hret] at u; cases u), fun fs hr => Jvm.RoadKit.retI X hx (hr0.trans hret) (hb hby d.1) hr⟩
theorem Runs.retZ {v : Int32} (d : DAt M pc .ireturn 1 q) (hret : M.2.2.2.1 = some .boolean) (hk : k ≤ M.2.2.2.2.cells ∧ n ≤ M.2.2.2.2.slots) {y : Int32} (hy : nar .boolean v = y) (hQ : Q (some (.int y)) G) : Runs C M k n pc P (.int v :: S) G Q := by
  subst hy
  intro hw p e s m args below meth c T locs L hx hby hml hr0 hnm hown hZ hf hsz X hR hF
  exact ⟨T, locs, k, n, _, G, X, hk.1, hk.2, hR, hF, hQ, (fun u => by rw [hret] at u; cases u), fun fs hr => retN X hx (t := .boolean) (hr0.trans hret) (by simp) (hb hby d.1) hr⟩
theorem Runs.retJ {v : Int64} (d : DAt M pc .lreturn 1 q) (hret : M.2.2.2.1 = some .long) (hk : k ≤ M.2.2.2.2.cells ∧ n ≤ M.2.2.2.2.slots) (hQ : Q (some (.long v)) G) : Runs C M k n pc P (.long v :: []) G Q := by
  intro hw p e s m args below meth c T locs L hx hby hml hr0 hnm hown hZ hf hsz X hR hF
  exact ⟨T, locs, k, n, _, G, X, hk.1, hk.2, hR, hF, hQ, (fun u => by rw [hret] at u; cases u), fun fs hr => X.lreturnOut hx (hr0.trans hret) (hb hby d.1) hr⟩
theorem Runs.retV (d : DAt M pc .return_ 1 q) (hret : M.2.2.2.1 = none) (hk : k ≤ M.2.2.2.2.cells ∧ n ≤ M.2.2.2.2.slots) (hQ : Q none G) : Runs C M k n pc P [] G Q := by
  intro hw p e s m args below meth c T locs L hx hby hml hr0 hnm hown hZ hf hsz X hR hF
  exact ⟨T, locs, k, n, _, G, X, hk.1, hk.2, hR, hF, hQ, (fun _ => rfl), fun fs hr => X.returnOut hx (hr0.trans hret) (hb hby d.1) hr⟩
/- a new object, and the arrays that its constructor makes -/
theorem Runs.newK (d : DAt M pc (.new idx) 3 q) (w : Jvm.Cond.classLink M.1.cls idx K.1 ∈ tables_1) (hc : k + 1 ≤ M.2.2.2.2.cells ∧ n + kN ≤ M.2.2.2.2.slots) {k' n' : Nat} (hk' : k + 1 = k') (hn' : n + kN = n') {H : List (Nat × Nat × Rec)} (hd : ∀ x ∈ H, x.1 + x.2.1 < top) (h : Runs C M k' n' q P (.ref top :: S) (top + 1, (top, 0, zrec) :: H) Q) : Runs C M k n pc P S (top, H) Q := by
  subst hk' hn'
  intro hw p e s m args below meth c T locs L hx hby hml hr0 hnm hown hZ hf hsz X hR hF
  have hqq := d.2
  subst hqq
  obtain ⟨T2, X2, s2, E2, A2, D2, st2⟩ := new1 X hx hZ hown (hw _ w) (hw _ kI) (hw _ kZ) (g := mkF m pc L S) rfl (hb hby d.1) hc.1 hc.2
  have hs : T.heap.size = top := hR.1
  rw [hs] at A2 D2 st2 s2
  have hR2 : Rep C.2.1 C.2.2.1 T2.heap (top + 1, (top, 0, zrec) :: H) := by
    refine ⟨s2, hR.2.1.ext E2, fun x hx' => ?_, ?_⟩
    · rcases List.mem_cons.mp hx' with rfl | hx'
      · refine ⟨?_, by simp, A2, fun k nd hk => ?_, fun k t hk hq => by simp at hq, fun k t hk hq => ?_⟩
        · have := hR.2.1.2.1; rw [hR.2.1.1] at this; simp only; omega
        · rcases (All.mem kS (List.mem_of_getElem? hk)).2 with e | e
          · have := D2 (laidS hw hk) (ty := .int) (by rw [e]; decide); exact this
          · have := D2 (laidS hw hk) (ty := .boolean) (by rw [e]; decide); exact this
        · have := D2 (laidA hw hk) (pfA hk); exact this
      · obtain ⟨p1, p2, p3⟩ := hR.2.2.1 x hx'
        exact ⟨p1, by simp only at p2 ⊢; omega, p3.ext E2⟩
    · exact List.pairwise_cons.mpr ⟨fun y hy => Or.inr (hd y hy), hR.2.2.2⟩
  obtain ⟨T', locs', k', n', r, G', g1, g2, g3, g4, g5, g6, g7, g8⟩ := h hw p e s m args below meth c T2 _ L hx hby hml hr0 hnm hown hZ hf hsz X2 hR2 hF
  exact ⟨T', locs', k', n', r, G', g1, g2, g3, g4, g5, g6, g7, fun fs hr => st2 _ (g8 fs hr)⟩
/-- newarray and the putfield behind it: the next array of an object that is being made -/
theorem Runs.newArr {aty : ArrayType} {ty : FieldType} {len : Int32} {q1 : Nat} (d : DAt M pc (.newarray aty) 2 q1) (d' : DAt M q1 (.putfield idx) 3 q) (hk : K.2.2[j]? = some (nm, ty, len)) (w : Jvm.Cond.fieldLink M.1.cls idx K.1 nm (aD ty) ∈ tables_1) (ht : newarray.typeOf aty = ty) (wa : Jvm.Cond.arrayClass ty ∈ tables_1) (hm : Mine M nm (aD ty))
    (htop : top = a + 1 + j) (hlen : ¬ len < 0 ∧ len.toNatClampNeg * 8 ≤ 536870912) (hc : k + 1 ≤ M.2.2.2.2.cells ∧ n + len.toNatClampNeg ≤ M.2.2.2.2.slots) (hz : (∀ i, ob.2.1 j i = 0) ∧ (∀ i, ob.2.2 j i = 0)) {j' top' k' n' : Nat} (hj' : j + 1 = j') (ht' : top + 1 = top') (hk' : k + 1 = k') (hn' : n + len.toNatClampNeg = n')
    (h : Runs C M k' n' q P S (top', (a, j', ob) :: H) Q) : Runs C M k n pc P (.int len :: .ref a :: S) (top, (a, j, ob) :: H) Q := by
  subst hj' ht' hk' hn'
  intro hw p e s m args below meth c T locs L hx hby hml hr0 hnm hown hZ hf hsz X hR hF
  have hqq := d.2
  have hqq' := d'.2
  subst hqq hqq' ht
  obtain ⟨T1, cA, X1, s1, E1, A1, st1⟩ := newArr1 X hx hZ (hw _ wa) (g := mkF m pc L (.int len :: .ref a :: S)) rfl (hb hby d.1) rfl hlen.1 hlen.2 hc.1 hc.2
  have hs : T.heap.size = top := hR.1
  rw [hs] at A1 st1 s1
  have O1 := hR.objs.2.2.ext E1
  obtain ⟨T2, h2, X2, e2, W2, st2⟩ := putF X1 hx hZ hown (host := "") (Or.inl (hw _ w)) Via.refl rfl (O1.2.2.2 j _ hk (Nat.le_refl _)) O1.1 (lw_of hw ((All.mem kA (List.mem_of_getElem? hk)).1) (hm.imp id (fun u => ⟨u.1, hnm.trans u.2⟩))) (hw _ kI) (ty := .array (newarray.typeOf aty)) (pfA hk) rfl rfl (g := mkF m (pc + 2) L (.ref top :: .ref a :: S)) rfl rfl (hb hby d'.1)
  have hts : (newarray.typeOf aty = .int ∨ newarray.typeOf aty = .boolean ∨ newarray.typeOf aty = .long) := (All.mem kA (List.mem_of_getElem? hk)).2.1
  have hA := arr_new A1 hts hz
  have hR2 : Rep C.2.1 C.2.2.1 T2.heap (top + 1, (a, j + 1, ob) :: H) := by rw [e2]; exact hR.addA hw E1 s1 htop hk hA W2
  obtain ⟨T', locs', k', n', r, G', g1, g2, g3, g4, g5, g6, g7, g8⟩ := h hw p e s m args below meth c T2 _ L hx hby hml hr0 hnm hown hZ hf hsz X2 hR2 (Fr.snoc X2 hF hR.objs.1)
  exact ⟨T', locs', k', n', r, G', g1, g2, g3, g4, g5, g6, g7, fun fs hr => st1 _ (st2 _ (g8 fs hr))⟩
theorem Runs.initO {W : Nat} (d : DAt M pc (.invokespecial idx) 3 q) (w1 : Jvm.Cond.methodLink M.1.cls idx Lib.objectInit ∈ tables_1) (w2 : Jvm.Cond.instanceMethod Lib.objectInit ∈ tables_1) (w3 : Jvm.Cond.code Lib.objectInit ⟨#[0xb1]⟩ 1 none ∈ tables_1) (hW : (S.map fun v => v.category).sum = W) (hc : 1 ≤ M.2.2.2.2.frames ∧ W + 12 ≤ M.2.2.2.2.locals) (h : Runs C M k n q P S G Q) : Runs C M k n pc P (.ref a :: S) G Q := by
  intro hw p e s m args below meth c T locs L hx hby hml hr0 hnm hown hZ hf hsz X hR hF
  have hqq := d.2
  subst hqq
  obtain ⟨T1, X1, e1, st1⟩ := Jvm.RoadKit.initO X hx hZ hown (hw _ w1) (hw _ w2) (hw _ w3) rfl (g := mkF m pc L (.ref a :: S)) rfl (by rw [hml]; exact hsz) rfl (hb hby d.1) hc.1 (W := W) (by show 2 * 0 + _ ≤ _; omega) hc.2
  obtain ⟨T', locs', k', n', r, G', g1, g2, g3, g4, g5, g6, g7, g8⟩ := h hw p e s m args below meth c T1 _ L hx hby hml hr0 hnm hown hZ hf hsz X1 (by rw [e1]; exact hR) hF
  exact ⟨T', locs', k', n', r, G', g1, g2, g3, g4, g5, g6, g7, fun fs hr => st1 _ (g8 fs hr)⟩
end Heap
/- a body's contract, and the calls that are paid by one -/
def Pays (C : Ctx) (N : Bdy) (as : List Value) (G : AH) (Q : Option Value → AH → Prop) : Prop :=
  Ok C → ∀ h0 : Heap, Rep C.2.1 C.2.2.1 h0 G → ∀ ws : List Jvm.Cond, MetFree C.1 N.1 (head1 (Jvm.Cond.code N.1 N.2.1 N.2.2.1 N.2.2.2.1 :: ws) N.2.2.2.2) (fun a U => a = as.toArray ∧ C.2.1.Warmed39 U.vm ∧ U.heap = h0) (fun _ _ _ _ _ => True)
    (fun _ U o U' => ∃ v L, o = .returned v ∧ (Fr C.2.2.1 L ∧ ∃ G', Rep C.2.1 C.2.2.1 U'.heap G' ∧ Q v G') ∧ FrameEnd U o U' L N.2.2.2.2.cells N.2.2.2.2.slots)
def lay : List Value → List Slot
  | [] => []
  | v :: l => if v.category = 2 then .val v :: .second :: lay l else .val v :: lay l
theorem lay_foldl (l : List Value) : ∀ acc : Array Slot, (l.foldl (fun acc v => if v.category = 2 then (acc.push (.val v)).push .second else acc.push (.val v)) acc).toList = acc.toList ++ lay l := by
  induction l with
  | nil => intro acc; simp [lay]
  | cons v l ih =>
    intro acc
    rw [List.foldl_cons, ih]
    by_cases h : v.category = 2 <;> simp [lay, h]
theorem args_lay (as : List Value) (ml : Nat) : argsToLocals as.toArray ml = (lay as ++ List.replicate (ml - (lay as).length) Slot.unset).toArray := by
  have h := lay_foldl as #[]
  apply Array.ext'
  simp only [argsToLocals, Array.toList_append, List.toList_toArray] at *
  rw [show (as.toArray.foldl (init := #[]) fun acc v => if v.category = 2 then (acc.push (Slot.val v)).push .second else acc.push (.val v)).toList = lay as by simpa using h]
  congr 1
  rw [← Array.length_toList, show (as.toArray.foldl (init := #[]) fun acc v => if v.category = 2 then (acc.push (Slot.val v)).push .second else acc.push (.val v)).toList = lay as by simpa using h]
  simp
def WFL (l : List Slot) : Prop := (∀ i : Nat, l[i]? = some .second → ∃ (j : Nat) (v : Value), i = j + 1 ∧ l[j]? = some (.val v) ∧ v.category = 2) ∧ (∀ (i : Nat) (v : Value), l[i]? = some (.val v) → v.category = 2 → l[i + 1]? = some .second)
theorem WFL.unset (n : Nat) : WFL (List.replicate n Slot.unset) := by
  refine ⟨fun i h => ?_, fun i v h => ?_⟩ <;> (rw [List.getElem?_replicate] at h; split at h <;> cases h)
theorem WFL.one {l : List Slot} {v : Value} (h : WFL l) (hv : v.category ≠ 2) : WFL (.val v :: l) := by
  refine ⟨fun i hi => ?_, fun i w hi hw => ?_⟩
  · cases i with
    | zero => simp at hi
    | succ i =>
      obtain ⟨j, w, e1, e2, e3⟩ := h.1 i (by simpa using hi)
      exact ⟨j + 1, w, by omega, by simpa using e2, e3⟩
  · cases i with
    | zero => simp at hi; subst hi; exact absurd hw hv
    | succ i => have := h.2 i w (by simpa using hi) hw; simpa using this
theorem WFL.two {l : List Slot} {v : Value} (h : WFL l) (hv : v.category = 2) : WFL (.val v :: .second :: l) := by
  refine ⟨fun i hi => ?_, fun i w hi hw => ?_⟩
  · match i, hi with
    | 0, hi => simp at hi
    | 1, hi => exact ⟨0, v, rfl, by simp, hv⟩
    | i + 2, hi =>
      obtain ⟨j, w, e1, e2, e3⟩ := h.1 i (by simpa using hi)
      exact ⟨j + 2, w, by omega, by simpa using e2, e3⟩
  · match i, hi with
    | 0, hi => simp
    | 1, hi => simp at hi
    | i + 2, hi => have := h.2 i w (by simpa using hi) hw; simpa using this
theorem WFL.lay (as : List Value) (n : Nat) : WFL (lay as ++ List.replicate n Slot.unset) := by
  induction as with
  | nil => exact WFL.unset n
  | cons v l ih =>
    by_cases h : v.category = 2
    · simpa [Jvm.Pilot.@@N@@.lay, h] using ih.two h
    · simpa [Jvm.Pilot.@@N@@.lay, h] using ih.one h
def pforget : List Bool → Pat → Pat
  | [], _ => []
  | _, [] => []
  | true :: ms, x :: l => x :: pforget ms l
  | false :: ms, _ :: l => none :: pforget ms l
theorem pforget_get : ∀ (ms : List Bool) (P : Pat) (i : Nat) (s : Slot), pget (pforget ms P) i = some s → pget P i = some s
  | [], _, i, s, h => by simp [pforget, pget] at h
  | _ :: _, [], i, s, h => by simp [pforget, pget] at h
  | true :: ms, x :: l, 0, s, h => h
  | true :: ms, x :: l, i + 1, s, h => pforget_get ms l i s h
  | false :: ms, x :: l, 0, s, h => by simp [pforget, pget] at h
  | false :: ms, x :: l, i + 1, s, h => pforget_get ms l i s h
section Calls
variable {C : Ctx} {M N : Bdy} {k n pc q : Nat} {P P' : Pat} {S S' : List Value} {G G1 : AH} {Q : Option Value → AH → Prop} {top : Nat} {a : Nat} {qq j idx W : Nat} {ob : Rec} {H : List (Nat × Nat × Rec)} {as : List Value}
theorem Runs.forget (ms : List Bool) (hP : pforget ms P = P') (h : Runs C M k n pc P' S G Q) : Runs C M k n pc P S G Q := by
  intro hw p e s m args below meth c T locs L hx hby hml hret hnm hown hZ hf
  subst hP
  exact h hw p e s m args below meth c T locs L hx hby hml hret hnm hown hZ ⟨fun i s hi => hf.1 i s (pforget_get _ _ i s hi), hf.2⟩
theorem Pays.of (hpl : plainName N.1.cls = true) (hml : (lay as).length ≤ N.2.2.1) (x : Nat) (hP : (lay as).map some ++ List.replicate x none = P) (h : Runs C N 0 0 0 P [] G Q) : Pays C N as G Q := by
  intro hw h0 hR ws
  refine MetFree.of_bodySF (plainFor_of_name hpl) hisR ?_
  intro p e s m args below meth c s₁ Bd hml0 hp hK
  obtain ⟨rfl, hZ, hh⟩ := hp
  have X0 : Stand p C.1 e N.2.2.2.2 s m as.toArray below meth c s₁ [] 0 0 := Stand.of_body Bd
  have e0 : s₁.heap = h0 := by rw [← hh, Bd.state]; rfl
  obtain ⟨L, hL⟩ : ∃ L : Array Slot, L = (lay as ++ List.replicate (N.2.2.1 - (lay as).length) Slot.unset).toArray := ⟨_, rfl⟩
  have hfit : Fits P L := by
    subst hP hL
    refine ⟨fun i s hi => ?_, ?_⟩
    · rw [pget_eq] at hi
      cases hq : (lay as)[i]? with
      | none =>
        rw [List.getElem?_append_right (by simpa using hq), List.getElem?_replicate] at hi
        split at hi <;> simp at hi
      | some y =>
        have hlt := (List.getElem?_eq_some_iff.mp hq).1
        rw [List.getElem?_append_left (by simpa using hlt), List.getElem?_map, hq] at hi
        have this : y = s := by simpa using hi
        simp only [List.getElem?_toArray]
        rw [List.getElem?_append_left hlt, hq, this]
    · have := WFL.lay as (N.2.2.1 - (lay as).length)
      refine ⟨fun i hi => ?_, fun i v hi hv => ?_⟩
      · rw [List.getElem?_toArray] at hi
        obtain ⟨j, v, e1, e2, e3⟩ := this.1 i hi
        exact ⟨j, v, e1, by rw [List.getElem?_toArray]; exact e2, e3⟩
      · rw [List.getElem?_toArray] at hi ⊢
        exact this.2 i v hi hv
  obtain ⟨T', locs', k', n', r, G', g1, g2, g3, g4, g5, g6, g7, g8⟩ := h hw p e s m as.toArray below meth c s₁ [] L Bd.exec Bd.bytes hml0 Bd.returns (name_of_methodNamed Bd.named Bd.method).1 (findClass_of_methodNamed Bd.named) hZ hfit (by rw [hL]; simp; omega) X0 (by rw [e0]; exact hR) (Fr.nil _)
  obtain ⟨fs, hr, hrun, hended, hW, hsame⟩ := g1.leave (v := r) (fun u => g7 (by rw [← Bd.returns]; exact u))
  refine ⟨_, _, ?_, hrun, hended, _, _, rfl, ⟨g5, G', ?_, g6⟩, ⟨_, rfl⟩, hW, hsame.mono g2 g3⟩
  · have ef : entryFrame m as.toArray N.2.2.1 = mkF m 0 L [] := by
      rw [hL, ← args_lay]; rfl
    rw [ef]; exact g8 fs hr
  · exact g4
abbrev room_al (M N : Bdy) (W k n : Nat) : Prop := N.2.2.2.2.frames + 1 ≤ M.2.2.2.2.frames ∧ W + (N.2.2.1 + 11) + N.2.2.2.2.locals ≤ M.2.2.2.2.locals ∧ k + N.2.2.2.2.cells ≤ M.2.2.2.2.cells ∧ n + N.2.2.2.2.slots ≤ M.2.2.2.2.slots
abbrev room_ok (M N : Bdy) (W : Nat) : Prop := N.2.2.2.2.frames + 1 ≤ M.2.2.2.2.frames ∧ W + (N.2.2.1 + 11) + N.2.2.2.2.locals ≤ M.2.2.2.2.locals ∧ N.2.2.2.2.cells = 0 ∧ N.2.2.2.2.slots = 0
abbrev full_ok (M : Bdy) (k n : Nat) : Prop := k ≤ M.2.2.2.2.cells ∧ n ≤ M.2.2.2.2.slots
theorem room_ok.al (h : room_ok M N W) (f : full_ok M k n) : room_al M N W k n := ⟨h.1, h.2.1, by rw [h.2.2.1]; exact f.1, by rw [h.2.2.2]; exact f.2⟩
abbrev code_w (N : Bdy) : Prop := Jvm.Cond.code N.1 N.2.1 N.2.2.1 N.2.2.2.1 ∈ tables_1 ∧ Jvm.Cond.initialized N.1.cls ∈ tables_1 ∧ (N.1.cls ≠ "java/lang/invoke/MethodHandle" ∧ N.1.cls ≠ "java/lang/invoke/VarHandle")
def arity (N : Bdy) (na : Nat) : Prop := ∃ ps r, parseMethodDescriptor N.1.desc = some ⟨ps, r⟩ ∧ na = ps.length
theorem arity.len {na : Nat} (h : arity N na) (e : as.length = na) : ∀ sig, parseMethodDescriptor N.1.desc = some sig → as.length = sig.parameters.length := by
  obtain ⟨ps, r, h1, h2⟩ := h
  exact lenOf h1 (e.trans h2)
theorem after_call {v : Option Value} {p : Program} {e : Env} {s : State} {m : MethodId} {args : Array Value} {below : List Frame} {meth : Method} {c : Code} {T T0 : State} {locs : List Loc} {L : Array Slot} {QN : Option Value → AH → Prop} {Lc : List Loc}
    (hw : Ok C) (hx : p.tables.exec = Jvm.exec) (hby : c.code = M.2.1) (hml : c.maxLocals = M.2.2.1) (hret : meth.sig.returnType = M.2.2.2.1) (hnm : meth.name = M.1.name) (hown : s.vm.findClass M.1.cls = some m.cls) (hZ : C.2.1.Warmed39 s.vm) (hf : Fits P L) (hsz : L.size = M.2.2.1) (hF : Fr C.2.2.1 locs)
    (X : Stand p C.1 e M.2.2.2.2 s m args below meth c T (locs ++ Lc) (k + N.2.2.2.2.cells) (n + N.2.2.2.2.slots)) (hQ : Fr C.2.2.1 Lc ∧ ∃ G', Rep C.2.1 C.2.2.1 T.heap G' ∧ QN v G')
    (h : ∀ v G', QN v G' → Runs C M (k + N.2.2.2.2.cells) (n + N.2.2.2.2.slots) (pc + 3) P (v.toList ++ S') G' Q)
    (st : ∀ t, Steps p.tables e below (T.setTop (mkF m (pc + 3) L (v.toList ++ S'))) t → Steps p.tables e below (T0.setTop (mkF m pc L S)) t) :
    ∃ (T' : State) (locs' : List Loc) (k' n' : Nat) (r : Option Value) (G' : AH), Stand p C.1 e M.2.2.2.2 s m args below meth c T' locs' k' n' ∧ k' ≤ M.2.2.2.2.cells ∧ n' ≤ M.2.2.2.2.slots ∧ Rep C.2.1 C.2.2.1 T'.heap G' ∧ Fr C.2.2.1 locs' ∧ Q r G' ∧
      (M.2.2.2.1 = none → r = none) ∧
      ∀ fs : List Frame, (∀ (f : JFrame) (acts : List Action), f.method = m → f.locked = none → f.entered = [] → (doReturn e (T'.setTop f) acts r).1 = T'.setFrames fs) → Steps p.tables e below (T0.setTop (mkF m pc L S)) (T'.setFrames fs) := by
  obtain ⟨f1, G', f2, f3⟩ := hQ
  obtain ⟨T', locs', k', n', r, G'', g1, g2, g3, g4, g5, g6, g7, g8⟩ := h v G' f3 hw p e s m args below meth c T _ L hx hby hml hret hnm hown hZ hf hsz X f2 (Fr.app hF f1)
  exact ⟨T', locs', k', n', r, G'', g1, g2, g3, g4, g5, g6, g7, fun fs hr => st _ (g8 fs hr)⟩
theorem Runs.callS {QN : Option Value → AH → Prop} (d : DAt M pc (.invokestatic idx) 3 q) (wl : Jvm.Cond.methodLink M.1.cls idx N.1 ∈ tables_1) (wt : Jvm.Cond.static N.1 ∈ tables_1) (wc : code_w N) (ar : arity N as.length) (hr0 : room_ok M N W) (hfull : full_ok M k n) (hS : S = as.reverse ++ S') (hW : (S'.map fun v => v.category).sum = W)
    (hN : Pays C N as G QN) (h : ∀ v G', QN v G' → Runs C M k n q P (v.toList ++ S') G' Q) : Runs C M k n pc P S G Q := by
  intro hw p e s m args below meth c T locs L hx hby hml hret hnm hown hZ hf hsz X hR hF
  have hq := d.2
  subst hq hS
  have hr := hr0.al hfull
  obtain ⟨_, _, ⟨T1, L1, k1, n1⟩, -, X1, ⟨Lc, hQ, l1, y1, z1⟩, st⟩ := Jvm.LawKit.callS X hx (y := N.1) hown (mvT hZ (hw _ wl)) (mvT hZ (hw _ wt)) (mvT hZ (hw _ wc.2.1)) (mvT hZ (hw _ wc.1)) wc.2.2 (backOf (W := W) (Q := fun v h L => Fr C.2.2.1 L ∧ ∃ G', Rep C.2.1 C.2.2.1 h G' ∧ QN v G') (hN hw T.heap hR []) hZ (hw _ wc.1) (hw _ wc.2.1) hr.1 hr.2.1) (g := mkF m pc L (as.reverse ++ S')) rfl (by rw [hml]; exact hsz) (argsL := as) (rest := S') (ar.len rfl) rfl (by show 2 * 0 + _ ≤ _; omega) (hb hby d.1) (fun _ _ => ⟨rfl, rfl, hr.2.2.1, hr.2.2.2⟩)
  dsimp only [Pt.U, Pt.locs, Pt.cells, Pt.slots] at X1 l1 y1 z1 st hQ
  subst l1 y1 z1
  exact after_call hw hx hby hml hret hnm hown hZ hf hsz hF X1 hQ (by rw [hr0.2.2.1, hr0.2.2.2]; exact h) (fun t u => st t u)
theorem Runs.callV {QN : Option Value → AH → Prop} (d : DAt M pc (.invokevirtual idx) 3 q) (wl : Jvm.Cond.methodLink M.1.cls idx N.1 ∈ tables_1) (wd : Jvm.Cond.declares N.1 ∈ tables_1) (wi : Jvm.Cond.instanceMethod N.1 ∈ tables_1) (ws : Jvm.Cond.selects K.1 N.1 N.1 ∈ tables_1) (wc : code_w N) (ar : arity N as.length) (hr0 : room_ok M N W) (hfull : full_ok M k n) (hS : S = as.reverse ++ .ref a :: S') (hW : (S'.map fun v => v.category).sum = W)
    (hN : Pays C N (.ref a :: as) (top, (a, qq, ob) :: H) QN) (h : ∀ v G', QN v G' → Runs C M k n q P (v.toList ++ S') G' Q) : Runs C M k n pc P S (top, (a, qq, ob) :: H) Q := by
  intro hw p e s m args below meth c T locs L hx hby hml hret hnm hown hZ hf hsz X hR hF
  have hq := d.2
  subst hq hS
  have hr := hr0.al hfull
  obtain ⟨cB, kB, u1, -, u3⟩ := isOf hZ rfl hR.objs.2.2.1
  obtain ⟨_, _, ⟨T1, L1, k1, n1⟩, -, X1, ⟨Lc, hQ, l1, y1, z1⟩, st⟩ := X.virtualBack hx (y := N.1) (z := N.1) hown (mvT hZ (hw _ wl)) (mvT hZ (hw _ wd)) (notFace_of_selects (args := #[]) (mvT hZ (hw _ ws))) (mvT hZ (hw _ ws)) (mvT hZ (hw _ wi)) wc.2.2 (backOf (W := W) (Q := fun v h L => Fr C.2.2.1 L ∧ ∃ G', Rep C.2.1 C.2.2.1 h G' ∧ QN v G') (hN hw T.heap hR []) hZ (hw _ wc.1) (hw _ wc.2.1) hr.1 hr.2.1) u1 u3 (g := mkF m pc L (as.reverse ++ .ref a :: S')) rfl (by rw [hml]; exact hsz) (Steps.refl _) (argsL := as) (rest := S') (ar.len rfl) rfl (by show 2 * 0 + _ ≤ _; omega) (hb hby d.1) (fun _ _ => ⟨rfl, rfl, hr.2.2.1, hr.2.2.2⟩)
  dsimp only [Pt.U, Pt.locs, Pt.cells, Pt.slots] at X1 l1 y1 z1 st hQ
  subst l1 y1 z1
  exact after_call hw hx hby hml hret hnm hown hZ hf hsz hF X1 hQ (by rw [hr0.2.2.1, hr0.2.2.2]; exact h) (fun t u => st.trans u)
theorem Runs.callP {QN : Option Value → AH → Prop} (d : DAt M pc (.invokevirtual idx) 3 q) (wl : Jvm.Cond.methodLink M.1.cls idx N.1 ∈ tables_1) (wi : Jvm.Cond.instanceMethod N.1 ∈ tables_1) (wp : Jvm.Cond.privateMethod N.1 ∈ tables_1) (wK : N.1.cls = K.1) (wc : code_w N) (ar : arity N as.length) (hr0 : room_ok M N W) (hfull : full_ok M k n) (hS : S = as.reverse ++ .ref a :: S') (hW : (S'.map fun v => v.category).sum = W)
    (hN : Pays C N (.ref a :: as) (top, (a, qq, ob) :: H) QN) (h : ∀ v G', QN v G' → Runs C M k n q P (v.toList ++ S') G' Q) : Runs C M k n pc P S (top, (a, qq, ob) :: H) Q := by
  intro hw p e s m args below meth c T locs L hx hby hml hret hnm hown hZ hf hsz X hR hF
  have hq := d.2
  subst hq hS
  have hr := hr0.al hfull
  obtain ⟨cl, u1, u2⟩ := hR.objs.2.2.1.cell
  have hpr : s.PrivateAt N.1 := Cond.privateMethod_at (mvP hZ (hw _ wp) (args := #[]))
  obtain ⟨c2, k2, i1, i2, i3, i4, -⟩ := Cond.instantiable_spec (mvT (args := args) hZ (hw _ kI))
  have hsel : (Jvm.Cond.selects N.1.cls N.1 N.1).before args s = true := Stand.selects_self_of_private (by rw [wK]; exact i1) i2 (by simp at i4; exact i4.1) hpr (mvT hZ (hw _ wi)) wc.2.2
  obtain ⟨_, _, ⟨T1, L1, k1, n1⟩, -, X1, ⟨Lc, hQ, l1, y1, z1⟩, st⟩ := X.privateBack hx (y := N.1) hown (mvT hZ (hw _ wl)) (mvT hZ (hw _ wi)) hsel hpr (mvT hZ (hw _ wc.1)) wc.2.2 (backOf (W := W) (Q := fun v h L => Fr C.2.2.1 L ∧ ∃ G', Rep C.2.1 C.2.2.1 h G' ∧ QN v G') (hN hw T.heap hR []) hZ (hw _ wc.1) (hw _ wc.2.1) hr.1 hr.2.1) (g := mkF m pc L (as.reverse ++ .ref a :: S')) rfl (by rw [hml]; exact hsz) (Steps.refl _) (a := a) u1 u2 (argsL := as) (rest := S') (ar.len rfl) rfl (by show 2 * 0 + _ ≤ _; omega) (hb hby d.1) (fun _ _ => ⟨rfl, rfl, hr.2.2.1, hr.2.2.2⟩)
  dsimp only [Pt.U, Pt.locs, Pt.cells, Pt.slots] at X1 l1 y1 z1 st hQ
  subst l1 y1 z1
  exact after_call hw hx hby hml hret hnm hown hZ hf hsz hF X1 hQ (by rw [hr0.2.2.1, hr0.2.2.2]; exact h) (fun t u => st.trans u)
theorem Runs.callI {QN : Option Value → AH → Prop} (d : DAt M pc (.invokespecial idx) 3 q) (hi : N.1.name = "<init>") (hn : N.2.2.2.1 = none) (wl : Jvm.Cond.methodLink M.1.cls idx N.1 ∈ tables_1) (wi : Jvm.Cond.instanceMethod N.1 ∈ tables_1) (wc : code_w N) (ar : arity N as.length) (hr : room_al M N W k n) (hS : S = as.reverse ++ .ref a :: S') (hW : (S'.map fun v => v.category).sum = W) {k' n' : Nat} (hk' : k + N.2.2.2.2.cells = k') (hn' : n + N.2.2.2.2.slots = n')
    (hN : Pays C N (.ref a :: as) G QN) (h : ∀ v G', QN v G' → Runs C M k' n' q P (v.toList ++ S') G' Q) : Runs C M k n pc P S G Q := by
  intro hw p e s m args below meth c T locs L hx hby hml hret hnm hown hZ hf hsz X hR hF
  have hq := d.2
  subst hq hS hk' hn'
  have wc1 := hw _ wc.1
  obtain ⟨_, _, ⟨T1, L1, k1, n1⟩, -, X1, ⟨Lc, hQ, l1, y1, z1⟩, st⟩ := X.specialBack hx (y := N.1) hi hown (mvT hZ (hw _ wl)) (mvT hZ (hw _ wi)) (bytes := N.2.1) (maxL := N.2.2.1) (by have := mvT (args := args) hZ wc1; rw [hn] at this; exact this) wc.2.2 (backOf (W := W) (Q := fun v h L => Fr C.2.2.1 L ∧ ∃ G', Rep C.2.1 C.2.2.1 h G' ∧ QN v G') (hN hw T.heap hR []) hZ wc1 (hw _ wc.2.1) hr.1 hr.2.1) (g := mkF m pc L (as.reverse ++ .ref a :: S')) rfl (by rw [hml]; exact hsz) (Steps.refl _) (a := a) (argsL := as) (rest := S') (ar.len rfl) rfl (by show 2 * 0 + _ ≤ _; omega) (hb hby d.1) (fun _ _ => ⟨rfl, rfl, hr.2.2.1, hr.2.2.2⟩)
  dsimp only [Pt.U, Pt.locs, Pt.cells, Pt.slots] at X1 l1 y1 z1 st hQ
  subst l1 y1 z1
  exact after_call hw hx hby hml hret hnm hown hZ hf hsz hF X1 hQ h (fun t u => st.trans u)
/-- the plain form of a contract: one answer, one heap -/
abbrev Ans (r : Option Value) (G1 : AH) : Option Value → AH → Prop := fun v G' => v = r ∧ G' = G1
theorem ans1 {x : Value} {k n : Nat} (h : Runs C M k n pc P (x :: S) G1 Q) : ∀ v G', Ans (some x) G1 v G' → Runs C M k n pc P (v.toList ++ S) G' Q := by
  rintro v G' ⟨rfl, rfl⟩; exact h
theorem ans0 {k n : Nat} (h : Runs C M k n pc P S G1 Q) : ∀ v G', Ans none G1 v G' → Runs C M k n pc P (v.toList ++ S) G' Q := by
  rintro v G' ⟨rfl, rfl⟩; exact h
end Calls
theorem pnK : plainName "WsClockPager" = true := by first | (simp [plainName, overriddenIn]; done) | decide +kernel
theorem pnL : plainName "WsClockPagerOwnLaw" = true := by first | (simp [plainName, overriddenIn]; done) | decide +kernel
theorem w0 : (Jvm.Cond.methodLink "WsClockPagerOwnLaw" (7 : Nat) ({ cls := "WsClockPagerOwnLaw", name := "cell", desc := "([II)I" } : Jvm.MethodName)) ∈ tables_1 := mem1 0 rfl
theorem w1 : (Jvm.Cond.static ({ cls := "WsClockPagerOwnLaw", name := "cell", desc := "([II)I" } : Jvm.MethodName)) ∈ tables_1 := mem1 1 rfl
theorem w4 : (Jvm.Cond.classLink "WsClockPagerOwnLaw" (13 : Nat) "WsClockPager") ∈ tables_1 := mem1 4 rfl
theorem w7 : (Jvm.Cond.methodLink "WsClockPagerOwnLaw" (15 : Nat) ({ cls := "WsClockPager", name := "<init>", desc := "(IIII)V" } : Jvm.MethodName)) ∈ tables_1 := mem1 7 rfl
theorem w8 : (Jvm.Cond.instanceMethod ({ cls := "WsClockPager", name := "<init>", desc := "(IIII)V" } : Jvm.MethodName)) ∈ tables_1 := mem1 8 rfl
theorem w10 : (Jvm.Cond.methodLink "WsClockPager" (1 : Nat) ({ cls := "java/lang/Object", name := "<init>", desc := "()V" } : Jvm.MethodName)) ∈ tables_1 := mem1 10 rfl
theorem w11 : (Jvm.Cond.instanceMethod ({ cls := "java/lang/Object", name := "<init>", desc := "()V" } : Jvm.MethodName)) ∈ tables_1 := mem1 11 rfl
theorem w12 : (Jvm.Cond.code ({ cls := "java/lang/Object", name := "<init>", desc := "()V" } : Jvm.MethodName) object_method_1_code (1 : Nat) (Option.none : Option Jvm.ClassFile.FieldType)) ∈ tables_1 := mem1 12 rfl
theorem w13 : (Jvm.Cond.arrayClass Jvm.ClassFile.FieldType.boolean) ∈ tables_1 := mem1 13 rfl
theorem w14 : (Jvm.Cond.fieldLink "WsClockPager" (7 : Nat) "WsClockPager" "suspended" "[Z") ∈ tables_1 := mem1 14 rfl
theorem w15 : (Jvm.Cond.lays "WsClockPager" "WsClockPager" "suspended" "[Z") ∈ tables_1 := mem1 15 rfl
theorem w16 : (Jvm.Cond.arrayClass Jvm.ClassFile.FieldType.int) ∈ tables_1 := mem1 16 rfl
theorem w17 : (Jvm.Cond.fieldLink "WsClockPager" (13 : Nat) "WsClockPager" "vtime" "[I") ∈ tables_1 := mem1 17 rfl
theorem w18 : (Jvm.Cond.lays "WsClockPager" "WsClockPager" "vtime" "[I") ∈ tables_1 := mem1 18 rfl
theorem w19 : (Jvm.Cond.fieldLink "WsClockPager" (17 : Nat) "WsClockPager" "winLen" "[I") ∈ tables_1 := mem1 19 rfl
theorem w20 : (Jvm.Cond.lays "WsClockPager" "WsClockPager" "winLen" "[I") ∈ tables_1 := mem1 20 rfl
theorem w21 : (Jvm.Cond.fieldLink "WsClockPager" (20 : Nat) "WsClockPager" "winHead" "[I") ∈ tables_1 := mem1 21 rfl
theorem w22 : (Jvm.Cond.lays "WsClockPager" "WsClockPager" "winHead" "[I") ∈ tables_1 := mem1 22 rfl
theorem w23 : (Jvm.Cond.fieldLink "WsClockPager" (23 : Nat) "WsClockPager" "wsSize" "[I") ∈ tables_1 := mem1 23 rfl
theorem w24 : (Jvm.Cond.lays "WsClockPager" "WsClockPager" "wsSize" "[I") ∈ tables_1 := mem1 24 rfl
theorem w25 : (Jvm.Cond.fieldLink "WsClockPager" (26 : Nat) "WsClockPager" "touchedCount" "[I") ∈ tables_1 := mem1 25 rfl
theorem w26 : (Jvm.Cond.lays "WsClockPager" "WsClockPager" "touchedCount" "[I") ∈ tables_1 := mem1 26 rfl
theorem w27 : (Jvm.Cond.fieldLink "WsClockPager" (29 : Nat) "WsClockPager" "ring" "[I") ∈ tables_1 := mem1 27 rfl
theorem w28 : (Jvm.Cond.lays "WsClockPager" "WsClockPager" "ring" "[I") ∈ tables_1 := mem1 28 rfl
theorem w29 : (Jvm.Cond.fieldLink "WsClockPager" (32 : Nat) "WsClockPager" "winCount" "[I") ∈ tables_1 := mem1 29 rfl
theorem w30 : (Jvm.Cond.lays "WsClockPager" "WsClockPager" "winCount" "[I") ∈ tables_1 := mem1 30 rfl
theorem w31 : (Jvm.Cond.fieldLink "WsClockPager" (35 : Nat) "WsClockPager" "touched" "[Z") ∈ tables_1 := mem1 31 rfl
theorem w32 : (Jvm.Cond.lays "WsClockPager" "WsClockPager" "touched" "[Z") ∈ tables_1 := mem1 32 rfl
theorem w33 : (Jvm.Cond.fieldLink "WsClockPager" (38 : Nat) "WsClockPager" "pageFrame" "[I") ∈ tables_1 := mem1 33 rfl
theorem w34 : (Jvm.Cond.lays "WsClockPager" "WsClockPager" "pageFrame" "[I") ∈ tables_1 := mem1 34 rfl
theorem w35 : (Jvm.Cond.fieldLink "WsClockPager" (41 : Nat) "WsClockPager" "pageSlot" "[I") ∈ tables_1 := mem1 35 rfl
theorem w36 : (Jvm.Cond.lays "WsClockPager" "WsClockPager" "pageSlot" "[I") ∈ tables_1 := mem1 36 rfl
theorem w37 : (Jvm.Cond.fieldLink "WsClockPager" (44 : Nat) "WsClockPager" "pageLastUse" "[I") ∈ tables_1 := mem1 37 rfl
theorem w38 : (Jvm.Cond.lays "WsClockPager" "WsClockPager" "pageLastUse" "[I") ∈ tables_1 := mem1 38 rfl
theorem w39 : (Jvm.Cond.fieldLink "WsClockPager" (47 : Nat) "WsClockPager" "frameOwner" "[I") ∈ tables_1 := mem1 39 rfl
theorem w40 : (Jvm.Cond.lays "WsClockPager" "WsClockPager" "frameOwner" "[I") ∈ tables_1 := mem1 40 rfl
theorem w41 : (Jvm.Cond.fieldLink "WsClockPager" (50 : Nat) "WsClockPager" "frameRef" "[Z") ∈ tables_1 := mem1 41 rfl
theorem w42 : (Jvm.Cond.lays "WsClockPager" "WsClockPager" "frameRef" "[Z") ∈ tables_1 := mem1 42 rfl
theorem w43 : (Jvm.Cond.fieldLink "WsClockPager" (53 : Nat) "WsClockPager" "frameDirty" "[Z") ∈ tables_1 := mem1 43 rfl
theorem w44 : (Jvm.Cond.lays "WsClockPager" "WsClockPager" "frameDirty" "[Z") ∈ tables_1 := mem1 44 rfl
theorem w45 : (Jvm.Cond.fieldLink "WsClockPager" (56 : Nat) "WsClockPager" "frameWords" "[I") ∈ tables_1 := mem1 45 rfl
theorem w46 : (Jvm.Cond.lays "WsClockPager" "WsClockPager" "frameWords" "[I") ∈ tables_1 := mem1 46 rfl
theorem w47 : (Jvm.Cond.fieldLink "WsClockPager" (59 : Nat) "WsClockPager" "slotUsed" "[Z") ∈ tables_1 := mem1 47 rfl
theorem w48 : (Jvm.Cond.lays "WsClockPager" "WsClockPager" "slotUsed" "[Z") ∈ tables_1 := mem1 48 rfl
theorem w49 : (Jvm.Cond.fieldLink "WsClockPager" (62 : Nat) "WsClockPager" "swapWords" "[I") ∈ tables_1 := mem1 49 rfl
theorem w50 : (Jvm.Cond.lays "WsClockPager" "WsClockPager" "swapWords" "[I") ∈ tables_1 := mem1 50 rfl
theorem w51 : (Jvm.Cond.methodLink "WsClockPager" (65 : Nat) ({ cls := "WsClockPager", name := "clamp", desc := "(III)I" } : Jvm.MethodName)) ∈ tables_1 := mem1 51 rfl
theorem w52 : (Jvm.Cond.instanceMethod ({ cls := "WsClockPager", name := "clamp", desc := "(III)I" } : Jvm.MethodName)) ∈ tables_1 := mem1 52 rfl
theorem w53 : (Jvm.Cond.privateMethod ({ cls := "WsClockPager", name := "clamp", desc := "(III)I" } : Jvm.MethodName)) ∈ tables_1 := mem1 53 rfl
theorem w55 : (Jvm.Cond.fieldLink "WsClockPager" (69 : Nat) "WsClockPager" "procs" "I") ∈ tables_1 := mem1 55 rfl
theorem w56 : (Jvm.Cond.lays "WsClockPager" "WsClockPager" "procs" "I") ∈ tables_1 := mem1 56 rfl
theorem w57 : (Jvm.Cond.fieldLink "WsClockPager" (73 : Nat) "WsClockPager" "pages" "I") ∈ tables_1 := mem1 57 rfl
theorem w58 : (Jvm.Cond.lays "WsClockPager" "WsClockPager" "pages" "I") ∈ tables_1 := mem1 58 rfl
theorem w59 : (Jvm.Cond.fieldLink "WsClockPager" (76 : Nat) "WsClockPager" "frames" "I") ∈ tables_1 := mem1 59 rfl
theorem w60 : (Jvm.Cond.lays "WsClockPager" "WsClockPager" "frames" "I") ∈ tables_1 := mem1 60 rfl
theorem w61 : (Jvm.Cond.fieldLink "WsClockPager" (79 : Nat) "WsClockPager" "tau" "I") ∈ tables_1 := mem1 61 rfl
theorem w62 : (Jvm.Cond.lays "WsClockPager" "WsClockPager" "tau" "I") ∈ tables_1 := mem1 62 rfl
theorem w63 : (Jvm.Cond.fieldLink "WsClockPager" (82 : Nat) "WsClockPager" "status" "I") ∈ tables_1 := mem1 63 rfl
theorem w64 : (Jvm.Cond.lays "WsClockPager" "WsClockPager" "status" "I") ∈ tables_1 := mem1 64 rfl
theorem w65 : (Jvm.Cond.fieldLink "WsClockPager" (85 : Nat) "WsClockPager" "suspensionCount" "I") ∈ tables_1 := mem1 65 rfl
theorem w66 : (Jvm.Cond.lays "WsClockPager" "WsClockPager" "suspensionCount" "I") ∈ tables_1 := mem1 66 rfl
theorem w67 : (Jvm.Cond.fieldLink "WsClockPager" (88 : Nat) "WsClockPager" "readmissionCount" "I") ∈ tables_1 := mem1 67 rfl
theorem w68 : (Jvm.Cond.lays "WsClockPager" "WsClockPager" "readmissionCount" "I") ∈ tables_1 := mem1 68 rfl
theorem w69 : (Jvm.Cond.fieldLink "WsClockPager" (91 : Nat) "WsClockPager" "hand" "I") ∈ tables_1 := mem1 69 rfl
theorem w70 : (Jvm.Cond.lays "WsClockPager" "WsClockPager" "hand" "I") ∈ tables_1 := mem1 70 rfl
theorem w71 : (Jvm.Cond.constant "WsClockPagerOwnLaw" (18 : Nat) (-1640531535 : Int32)) ∈ tables_1 := mem1 71 rfl
theorem w72 : (Jvm.Cond.methodLink "WsClockPagerOwnLaw" (19 : Nat) ({ cls := "WsClockPager", name := "store", desc := "(III)I" } : Jvm.MethodName)) ∈ tables_1 := mem1 72 rfl
theorem w73 : (Jvm.Cond.declares ({ cls := "WsClockPager", name := "store", desc := "(III)I" } : Jvm.MethodName)) ∈ tables_1 := mem1 73 rfl
theorem w74 : (Jvm.Cond.instanceMethod ({ cls := "WsClockPager", name := "store", desc := "(III)I" } : Jvm.MethodName)) ∈ tables_1 := mem1 74 rfl
theorem w75 : (Jvm.Cond.selects "WsClockPager" ({ cls := "WsClockPager", name := "store", desc := "(III)I" } : Jvm.MethodName) ({ cls := "WsClockPager", name := "store", desc := "(III)I" } : Jvm.MethodName)) ∈ tables_1 := mem1 75 rfl
theorem w77 : (Jvm.Cond.methodLink "WsClockPager" (94 : Nat) ({ cls := "WsClockPager", name := "check", desc := "(II)I" } : Jvm.MethodName)) ∈ tables_1 := mem1 77 rfl
theorem w78 : (Jvm.Cond.instanceMethod ({ cls := "WsClockPager", name := "check", desc := "(II)I" } : Jvm.MethodName)) ∈ tables_1 := mem1 78 rfl
theorem w79 : (Jvm.Cond.privateMethod ({ cls := "WsClockPager", name := "check", desc := "(II)I" } : Jvm.MethodName)) ∈ tables_1 := mem1 79 rfl
theorem w81 : (Jvm.Cond.methodLink "WsClockPager" (111 : Nat) ({ cls := "WsClockPager", name := "validPid", desc := "(I)Z" } : Jvm.MethodName)) ∈ tables_1 := mem1 81 rfl
theorem w82 : (Jvm.Cond.instanceMethod ({ cls := "WsClockPager", name := "validPid", desc := "(I)Z" } : Jvm.MethodName)) ∈ tables_1 := mem1 82 rfl
theorem w83 : (Jvm.Cond.privateMethod ({ cls := "WsClockPager", name := "validPid", desc := "(I)Z" } : Jvm.MethodName)) ∈ tables_1 := mem1 83 rfl
theorem w85 : (Jvm.Cond.methodLink "WsClockPager" (100 : Nat) ({ cls := "WsClockPager", name := "ensureResident", desc := "(II)I" } : Jvm.MethodName)) ∈ tables_1 := mem1 85 rfl
theorem w86 : (Jvm.Cond.instanceMethod ({ cls := "WsClockPager", name := "ensureResident", desc := "(II)I" } : Jvm.MethodName)) ∈ tables_1 := mem1 86 rfl
theorem w87 : (Jvm.Cond.privateMethod ({ cls := "WsClockPager", name := "ensureResident", desc := "(II)I" } : Jvm.MethodName)) ∈ tables_1 := mem1 87 rfl
theorem w89 : (Jvm.Cond.methodLink "WsClockPager" (132 : Nat) ({ cls := "WsClockPager", name := "findFreeFrame", desc := "()I" } : Jvm.MethodName)) ∈ tables_1 := mem1 89 rfl
theorem w90 : (Jvm.Cond.instanceMethod ({ cls := "WsClockPager", name := "findFreeFrame", desc := "()I" } : Jvm.MethodName)) ∈ tables_1 := mem1 90 rfl
theorem w91 : (Jvm.Cond.privateMethod ({ cls := "WsClockPager", name := "findFreeFrame", desc := "()I" } : Jvm.MethodName)) ∈ tables_1 := mem1 91 rfl
theorem w93 : (Jvm.Cond.methodLink "WsClockPager" (141 : Nat) ({ cls := "WsClockPager", name := "fillFrame", desc := "(II)V" } : Jvm.MethodName)) ∈ tables_1 := mem1 93 rfl
theorem w94 : (Jvm.Cond.instanceMethod ({ cls := "WsClockPager", name := "fillFrame", desc := "(II)V" } : Jvm.MethodName)) ∈ tables_1 := mem1 94 rfl
theorem w95 : (Jvm.Cond.privateMethod ({ cls := "WsClockPager", name := "fillFrame", desc := "(II)V" } : Jvm.MethodName)) ∈ tables_1 := mem1 95 rfl
theorem w97 : (Jvm.Cond.methodLink "WsClockPager" (103 : Nat) ({ cls := "WsClockPager", name := "recordReference", desc := "(II)V" } : Jvm.MethodName)) ∈ tables_1 := mem1 97 rfl
theorem w98 : (Jvm.Cond.instanceMethod ({ cls := "WsClockPager", name := "recordReference", desc := "(II)V" } : Jvm.MethodName)) ∈ tables_1 := mem1 98 rfl
theorem w99 : (Jvm.Cond.privateMethod ({ cls := "WsClockPager", name := "recordReference", desc := "(II)V" } : Jvm.MethodName)) ∈ tables_1 := mem1 99 rfl
theorem w101 : (Jvm.Cond.methodLink "WsClockPager" (121 : Nat) ({ cls := "WsClockPager", name := "pushWindow", desc := "(II)V" } : Jvm.MethodName)) ∈ tables_1 := mem1 101 rfl
theorem w102 : (Jvm.Cond.instanceMethod ({ cls := "WsClockPager", name := "pushWindow", desc := "(II)V" } : Jvm.MethodName)) ∈ tables_1 := mem1 102 rfl
theorem w103 : (Jvm.Cond.privateMethod ({ cls := "WsClockPager", name := "pushWindow", desc := "(II)V" } : Jvm.MethodName)) ∈ tables_1 := mem1 103 rfl
theorem w105 : (Jvm.Cond.methodLink "WsClockPager" (107 : Nat) ({ cls := "WsClockPager", name := "loadControl", desc := "(I)V" } : Jvm.MethodName)) ∈ tables_1 := mem1 105 rfl
theorem w106 : (Jvm.Cond.instanceMethod ({ cls := "WsClockPager", name := "loadControl", desc := "(I)V" } : Jvm.MethodName)) ∈ tables_1 := mem1 106 rfl
theorem w107 : (Jvm.Cond.privateMethod ({ cls := "WsClockPager", name := "loadControl", desc := "(I)V" } : Jvm.MethodName)) ∈ tables_1 := mem1 107 rfl
theorem w109 : (Jvm.Cond.methodLink "WsClockPager" (124 : Nat) ({ cls := "WsClockPager", name := "activeTotal", desc := "()I" } : Jvm.MethodName)) ∈ tables_1 := mem1 109 rfl
theorem w110 : (Jvm.Cond.declares ({ cls := "WsClockPager", name := "activeTotal", desc := "()I" } : Jvm.MethodName)) ∈ tables_1 := mem1 110 rfl
theorem w111 : (Jvm.Cond.instanceMethod ({ cls := "WsClockPager", name := "activeTotal", desc := "()I" } : Jvm.MethodName)) ∈ tables_1 := mem1 111 rfl
theorem w112 : (Jvm.Cond.selects "WsClockPager" ({ cls := "WsClockPager", name := "activeTotal", desc := "()I" } : Jvm.MethodName) ({ cls := "WsClockPager", name := "activeTotal", desc := "()I" } : Jvm.MethodName)) ∈ tables_1 := mem1 112 rfl
theorem w114 : (Jvm.Cond.methodLink "WsClockPagerOwnLaw" (23 : Nat) ({ cls := "WsClockPager", name := "load", desc := "(II)J" } : Jvm.MethodName)) ∈ tables_1 := mem1 114 rfl
theorem w115 : (Jvm.Cond.declares ({ cls := "WsClockPager", name := "load", desc := "(II)J" } : Jvm.MethodName)) ∈ tables_1 := mem1 115 rfl
theorem w116 : (Jvm.Cond.instanceMethod ({ cls := "WsClockPager", name := "load", desc := "(II)J" } : Jvm.MethodName)) ∈ tables_1 := mem1 116 rfl
theorem w117 : (Jvm.Cond.selects "WsClockPager" ({ cls := "WsClockPager", name := "load", desc := "(II)J" } : Jvm.MethodName) ({ cls := "WsClockPager", name := "load", desc := "(II)J" } : Jvm.MethodName)) ∈ tables_1 := mem1 117 rfl
theorem w119 : (Jvm.Cond.constantLong "WsClockPagerOwnLaw" (27 : Nat) (-9223372036854775808 : Int64)) ∈ tables_1 := mem1 119 rfl
theorem w120 : (Jvm.Cond.methodLink "WsClockPagerOwnLaw" (29 : Nat) ({ cls := "WsClockPager", name := "lastStatus", desc := "()I" } : Jvm.MethodName)) ∈ tables_1 := mem1 120 rfl
theorem w121 : (Jvm.Cond.declares ({ cls := "WsClockPager", name := "lastStatus", desc := "()I" } : Jvm.MethodName)) ∈ tables_1 := mem1 121 rfl
theorem w122 : (Jvm.Cond.instanceMethod ({ cls := "WsClockPager", name := "lastStatus", desc := "()I" } : Jvm.MethodName)) ∈ tables_1 := mem1 122 rfl
theorem w123 : (Jvm.Cond.selects "WsClockPager" ({ cls := "WsClockPager", name := "lastStatus", desc := "()I" } : Jvm.MethodName) ({ cls := "WsClockPager", name := "lastStatus", desc := "()I" } : Jvm.MethodName)) ∈ tables_1 := mem1 123 rfl
theorem w125 : (Jvm.Cond.methodLink "WsClockPagerOwnLaw" (33 : Nat) ({ cls := "WsClockPager", name := "release", desc := "(I)I" } : Jvm.MethodName)) ∈ tables_1 := mem1 125 rfl
theorem w126 : (Jvm.Cond.declares ({ cls := "WsClockPager", name := "release", desc := "(I)I" } : Jvm.MethodName)) ∈ tables_1 := mem1 126 rfl
theorem w127 : (Jvm.Cond.instanceMethod ({ cls := "WsClockPager", name := "release", desc := "(I)I" } : Jvm.MethodName)) ∈ tables_1 := mem1 127 rfl
theorem w128 : (Jvm.Cond.selects "WsClockPager" ({ cls := "WsClockPager", name := "release", desc := "(I)I" } : Jvm.MethodName) ({ cls := "WsClockPager", name := "release", desc := "(I)I" } : Jvm.MethodName)) ∈ tables_1 := mem1 128 rfl
theorem w130 : (Jvm.Cond.methodLink "WsClockPager" (115 : Nat) ({ cls := "WsClockPager", name := "discardPage", desc := "(I)V" } : Jvm.MethodName)) ∈ tables_1 := mem1 130 rfl
theorem w131 : (Jvm.Cond.instanceMethod ({ cls := "WsClockPager", name := "discardPage", desc := "(I)V" } : Jvm.MethodName)) ∈ tables_1 := mem1 131 rfl
theorem w132 : (Jvm.Cond.privateMethod ({ cls := "WsClockPager", name := "discardPage", desc := "(I)V" } : Jvm.MethodName)) ∈ tables_1 := mem1 132 rfl
theorem w134 : (Jvm.Cond.methodLink "WsClockPager" (135 : Nat) ({ cls := "WsClockPager", name := "chooseVictim", desc := "()I" } : Jvm.MethodName)) ∈ tables_1 := mem1 134 rfl
theorem w135 : (Jvm.Cond.instanceMethod ({ cls := "WsClockPager", name := "chooseVictim", desc := "()I" } : Jvm.MethodName)) ∈ tables_1 := mem1 135 rfl
theorem w136 : (Jvm.Cond.privateMethod ({ cls := "WsClockPager", name := "chooseVictim", desc := "()I" } : Jvm.MethodName)) ∈ tables_1 := mem1 136 rfl
theorem w138 : (Jvm.Cond.methodLink "WsClockPager" (138 : Nat) ({ cls := "WsClockPager", name := "evictFrame", desc := "(I)V" } : Jvm.MethodName)) ∈ tables_1 := mem1 138 rfl
theorem w139 : (Jvm.Cond.instanceMethod ({ cls := "WsClockPager", name := "evictFrame", desc := "(I)V" } : Jvm.MethodName)) ∈ tables_1 := mem1 139 rfl
theorem w140 : (Jvm.Cond.privateMethod ({ cls := "WsClockPager", name := "evictFrame", desc := "(I)V" } : Jvm.MethodName)) ∈ tables_1 := mem1 140 rfl
theorem w142 : (Jvm.Cond.methodLink "WsClockPager" (128 : Nat) ({ cls := "WsClockPager", name := "pickProcessToSuspend", desc := "(I)I" } : Jvm.MethodName)) ∈ tables_1 := mem1 142 rfl
theorem w143 : (Jvm.Cond.instanceMethod ({ cls := "WsClockPager", name := "pickProcessToSuspend", desc := "(I)I" } : Jvm.MethodName)) ∈ tables_1 := mem1 143 rfl
theorem w144 : (Jvm.Cond.privateMethod ({ cls := "WsClockPager", name := "pickProcessToSuspend", desc := "(I)I" } : Jvm.MethodName)) ∈ tables_1 := mem1 144 rfl
theorem w146 : (Jvm.Cond.methodLink "WsClockPager" (144 : Nat) ({ cls := "WsClockPager", name := "writeBack", desc := "(I)V" } : Jvm.MethodName)) ∈ tables_1 := mem1 146 rfl
theorem w147 : (Jvm.Cond.instanceMethod ({ cls := "WsClockPager", name := "writeBack", desc := "(I)V" } : Jvm.MethodName)) ∈ tables_1 := mem1 147 rfl
theorem w148 : (Jvm.Cond.privateMethod ({ cls := "WsClockPager", name := "writeBack", desc := "(I)V" } : Jvm.MethodName)) ∈ tables_1 := mem1 148 rfl
theorem w150 : (Jvm.Cond.methodLink "WsClockPager" (147 : Nat) ({ cls := "WsClockPager", name := "allocSlot", desc := "()I" } : Jvm.MethodName)) ∈ tables_1 := mem1 150 rfl
theorem w151 : (Jvm.Cond.instanceMethod ({ cls := "WsClockPager", name := "allocSlot", desc := "()I" } : Jvm.MethodName)) ∈ tables_1 := mem1 151 rfl
theorem w152 : (Jvm.Cond.privateMethod ({ cls := "WsClockPager", name := "allocSlot", desc := "()I" } : Jvm.MethodName)) ∈ tables_1 := mem1 152 rfl
theorem w154 : (Jvm.Cond.constantLong "WsClockPager" (98 : Nat) (-9223372036854775808 : Int64)) ∈ tables_1 := mem1 154 rfl
theorem fS_0 : K.2.1[0]? = some ("procs", "I") := rfl
theorem fS_1 : K.2.1[1]? = some ("pages", "I") := rfl
theorem fS_2 : K.2.1[2]? = some ("frames", "I") := rfl
theorem fS_3 : K.2.1[3]? = some ("tau", "I") := rfl
theorem fS_4 : K.2.1[4]? = some ("status", "I") := rfl
theorem fS_5 : K.2.1[5]? = some ("suspensionCount", "I") := rfl
theorem fS_6 : K.2.1[6]? = some ("readmissionCount", "I") := rfl
theorem fS_7 : K.2.1[7]? = some ("hand", "I") := rfl
theorem fA_0 : K.2.2[0]? = some ("suspended", .boolean, (4 : Int32)) := rfl
theorem fA_1 : K.2.2[1]? = some ("vtime", .int, (4 : Int32)) := rfl
theorem fA_2 : K.2.2[2]? = some ("winLen", .int, (4 : Int32)) := rfl
theorem fA_3 : K.2.2[3]? = some ("winHead", .int, (4 : Int32)) := rfl
theorem fA_4 : K.2.2[4]? = some ("wsSize", .int, (4 : Int32)) := rfl
theorem fA_5 : K.2.2[5]? = some ("touchedCount", .int, (4 : Int32)) := rfl
theorem fA_6 : K.2.2[6]? = some ("ring", .int, (64 : Int32)) := rfl
theorem fA_7 : K.2.2[7]? = some ("winCount", .int, (64 : Int32)) := rfl
theorem fA_8 : K.2.2[8]? = some ("touched", .boolean, (64 : Int32)) := rfl
theorem fA_9 : K.2.2[9]? = some ("pageFrame", .int, (64 : Int32)) := rfl
theorem fA_10 : K.2.2[10]? = some ("pageSlot", .int, (64 : Int32)) := rfl
theorem fA_11 : K.2.2[11]? = some ("pageLastUse", .int, (64 : Int32)) := rfl
theorem fA_12 : K.2.2[12]? = some ("frameOwner", .int, (32 : Int32)) := rfl
theorem fA_13 : K.2.2[13]? = some ("frameRef", .boolean, (32 : Int32)) := rfl
theorem fA_14 : K.2.2[14]? = some ("frameDirty", .boolean, (32 : Int32)) := rfl
theorem fA_15 : K.2.2[15]? = some ("frameWords", .int, (128 : Int32)) := rfl
theorem fA_16 : K.2.2[16]? = some ("slotUsed", .boolean, (64 : Int32)) := rfl
theorem fA_17 : K.2.2[17]? = some ("swapWords", .int, (256 : Int32)) := rfl
theorem cb_6 : (Int8.ofInt 6).toInt32 = (6 : Int32) := by decide
theorem cb_7 : (Int8.ofInt 7).toInt32 = (7 : Int32) := by decide
theorem cb_10 : (Int8.ofInt 10).toInt32 = (10 : Int32) := by decide
theorem cb_14 : (Int8.ofInt 14).toInt32 = (14 : Int32) := by decide
theorem cb_15 : (Int8.ofInt 15).toInt32 = (15 : Int32) := by decide
theorem cb_16 : (Int8.ofInt 16).toInt32 = (16 : Int32) := by decide
theorem cb_32 : (Int8.ofInt 32).toInt32 = (32 : Int32) := by decide
theorem cb_64 : (Int8.ofInt 64).toInt32 = (64 : Int32) := by decide
theorem ci_m1 : Int32.ofInt (-1) = (-1 : Int32) := by decide
theorem ci_0 : Int32.ofInt 0 = (0 : Int32) := by decide
theorem ci_1 : Int32.ofInt 1 = (1 : Int32) := by decide
theorem ci_2 : Int32.ofInt 2 = (2 : Int32) := by decide
theorem ci_3 : Int32.ofInt 3 = (3 : Int32) := by decide
theorem ci_4 : Int32.ofInt 4 = (4 : Int32) := by decide
theorem cs_128 : (Int16.ofInt 128).toInt32 = (128 : Int32) := by decide
theorem cs_256 : (Int16.ofInt 256).toInt32 = (256 : Int32) := by decide
def B1 : Bdy := ((⟨"WsClockPagerOwnLaw", "cell", "([II)I"⟩ : MethodName), method_2_code, 2, (some .int), ({ frames := 0, cells := 0, slots := 0, locals := 0 } : Room))
theorem d1_0 : DAt B1 0 (.iload_n 1) 1 1 := ⟨by decide +kernel, rfl⟩
theorem d1_1 : DAt B1 1 (.aload_n 0) 1 2 := ⟨by decide +kernel, rfl⟩
theorem d1_2 : DAt B1 2 (.arraylength) 1 3 := ⟨by decide +kernel, rfl⟩
theorem d1_3 : DAt B1 3 (.if_icmp .ge 9) 3 6 := ⟨by decide +kernel, rfl⟩
theorem d1_6 : DAt B1 6 (.aload_n 0) 1 7 := ⟨by decide +kernel, rfl⟩
theorem d1_7 : DAt B1 7 (.iload_n 1) 1 8 := ⟨by decide +kernel, rfl⟩
theorem d1_8 : DAt B1 8 (.iaload) 1 9 := ⟨by decide +kernel, rfl⟩
theorem d1_9 : DAt B1 9 (.goto 4) 3 12 := ⟨by decide +kernel, rfl⟩
theorem d1_12 : DAt B1 12 (.iconst 0) 1 13 := ⟨by decide +kernel, rfl⟩
theorem d1_13 : DAt B1 13 (.ireturn) 1 14 := ⟨by decide +kernel, rfl⟩
def B3 : Bdy := ((⟨"WsClockPager", "clamp", "(III)I"⟩ : MethodName), prog_1_method_16_code, 4, (some .int), ({ frames := 0, cells := 0, slots := 0, locals := 0 } : Room))
theorem d3_0 : DAt B3 0 (.iload_n 1) 1 1 := ⟨by decide +kernel, rfl⟩
theorem d3_1 : DAt B3 1 (.iload_n 2) 1 2 := ⟨by decide +kernel, rfl⟩
theorem d3_2 : DAt B3 2 (.if_icmp .ge 5) 3 5 := ⟨by decide +kernel, rfl⟩
theorem d3_5 : DAt B3 5 (.iload_n 2) 1 6 := ⟨by decide +kernel, rfl⟩
theorem d3_6 : DAt B3 6 (.ireturn) 1 7 := ⟨by decide +kernel, rfl⟩
theorem d3_7 : DAt B3 7 (.iload_n 1) 1 8 := ⟨by decide +kernel, rfl⟩
theorem d3_8 : DAt B3 8 (.iload_n 3) 1 9 := ⟨by decide +kernel, rfl⟩
theorem d3_9 : DAt B3 9 (.if_icmp .le 5) 3 12 := ⟨by decide +kernel, rfl⟩
theorem d3_12 : DAt B3 12 (.iload_n 3) 1 13 := ⟨by decide +kernel, rfl⟩
theorem d3_13 : DAt B3 13 (.ireturn) 1 14 := ⟨by decide +kernel, rfl⟩
theorem d3_14 : DAt B3 14 (.iload_n 1) 1 15 := ⟨by decide +kernel, rfl⟩
theorem d3_15 : DAt B3 15 (.ireturn) 1 16 := ⟨by decide +kernel, rfl⟩
def B2 : Bdy := ((⟨"WsClockPager", "<init>", "(IIII)V"⟩ : MethodName), prog_1_method_1_code, 6, none, ({ frames := 1, cells := 18, slots := 952, locals := 16 } : Room))
theorem d2_0 : DAt B2 0 (.aload_n 0) 1 1 := ⟨by decide +kernel, rfl⟩
theorem d2_1 : DAt B2 1 (.invokespecial 1) 3 4 := ⟨by decide +kernel, rfl⟩
theorem d2_4 : DAt B2 4 (.aload_n 0) 1 5 := ⟨by decide +kernel, rfl⟩
theorem d2_5 : DAt B2 5 (.iconst 4) 1 6 := ⟨by decide +kernel, rfl⟩
theorem d2_6 : DAt B2 6 (.newarray .boolean) 2 8 := ⟨by decide +kernel, rfl⟩
theorem d2_8 : DAt B2 8 (.putfield 7) 3 11 := ⟨by decide +kernel, rfl⟩
theorem d2_11 : DAt B2 11 (.aload_n 0) 1 12 := ⟨by decide +kernel, rfl⟩
theorem d2_12 : DAt B2 12 (.iconst 4) 1 13 := ⟨by decide +kernel, rfl⟩
theorem d2_13 : DAt B2 13 (.newarray .int) 2 15 := ⟨by decide +kernel, rfl⟩
theorem d2_15 : DAt B2 15 (.putfield 13) 3 18 := ⟨by decide +kernel, rfl⟩
theorem d2_18 : DAt B2 18 (.aload_n 0) 1 19 := ⟨by decide +kernel, rfl⟩
theorem d2_19 : DAt B2 19 (.iconst 4) 1 20 := ⟨by decide +kernel, rfl⟩
theorem d2_20 : DAt B2 20 (.newarray .int) 2 22 := ⟨by decide +kernel, rfl⟩
theorem d2_22 : DAt B2 22 (.putfield 17) 3 25 := ⟨by decide +kernel, rfl⟩
theorem d2_25 : DAt B2 25 (.aload_n 0) 1 26 := ⟨by decide +kernel, rfl⟩
theorem d2_26 : DAt B2 26 (.iconst 4) 1 27 := ⟨by decide +kernel, rfl⟩
theorem d2_27 : DAt B2 27 (.newarray .int) 2 29 := ⟨by decide +kernel, rfl⟩
theorem d2_29 : DAt B2 29 (.putfield 20) 3 32 := ⟨by decide +kernel, rfl⟩
theorem d2_32 : DAt B2 32 (.aload_n 0) 1 33 := ⟨by decide +kernel, rfl⟩
theorem d2_33 : DAt B2 33 (.iconst 4) 1 34 := ⟨by decide +kernel, rfl⟩
theorem d2_34 : DAt B2 34 (.newarray .int) 2 36 := ⟨by decide +kernel, rfl⟩
theorem d2_36 : DAt B2 36 (.putfield 23) 3 39 := ⟨by decide +kernel, rfl⟩
theorem d2_39 : DAt B2 39 (.aload_n 0) 1 40 := ⟨by decide +kernel, rfl⟩
theorem d2_40 : DAt B2 40 (.iconst 4) 1 41 := ⟨by decide +kernel, rfl⟩
theorem d2_41 : DAt B2 41 (.newarray .int) 2 43 := ⟨by decide +kernel, rfl⟩
theorem d2_43 : DAt B2 43 (.putfield 26) 3 46 := ⟨by decide +kernel, rfl⟩
theorem d2_46 : DAt B2 46 (.aload_n 0) 1 47 := ⟨by decide +kernel, rfl⟩
theorem d2_47 : DAt B2 47 (.bipush 64) 2 49 := ⟨by decide +kernel, rfl⟩
theorem d2_49 : DAt B2 49 (.newarray .int) 2 51 := ⟨by decide +kernel, rfl⟩
theorem d2_51 : DAt B2 51 (.putfield 29) 3 54 := ⟨by decide +kernel, rfl⟩
theorem d2_54 : DAt B2 54 (.aload_n 0) 1 55 := ⟨by decide +kernel, rfl⟩
theorem d2_55 : DAt B2 55 (.bipush 64) 2 57 := ⟨by decide +kernel, rfl⟩
theorem d2_57 : DAt B2 57 (.newarray .int) 2 59 := ⟨by decide +kernel, rfl⟩
theorem d2_59 : DAt B2 59 (.putfield 32) 3 62 := ⟨by decide +kernel, rfl⟩
theorem d2_62 : DAt B2 62 (.aload_n 0) 1 63 := ⟨by decide +kernel, rfl⟩
theorem d2_63 : DAt B2 63 (.bipush 64) 2 65 := ⟨by decide +kernel, rfl⟩
theorem d2_65 : DAt B2 65 (.newarray .boolean) 2 67 := ⟨by decide +kernel, rfl⟩
theorem d2_67 : DAt B2 67 (.putfield 35) 3 70 := ⟨by decide +kernel, rfl⟩
theorem d2_70 : DAt B2 70 (.aload_n 0) 1 71 := ⟨by decide +kernel, rfl⟩
theorem d2_71 : DAt B2 71 (.bipush 64) 2 73 := ⟨by decide +kernel, rfl⟩
theorem d2_73 : DAt B2 73 (.newarray .int) 2 75 := ⟨by decide +kernel, rfl⟩
theorem d2_75 : DAt B2 75 (.putfield 38) 3 78 := ⟨by decide +kernel, rfl⟩
theorem d2_78 : DAt B2 78 (.aload_n 0) 1 79 := ⟨by decide +kernel, rfl⟩
theorem d2_79 : DAt B2 79 (.bipush 64) 2 81 := ⟨by decide +kernel, rfl⟩
theorem d2_81 : DAt B2 81 (.newarray .int) 2 83 := ⟨by decide +kernel, rfl⟩
theorem d2_83 : DAt B2 83 (.putfield 41) 3 86 := ⟨by decide +kernel, rfl⟩
theorem d2_86 : DAt B2 86 (.aload_n 0) 1 87 := ⟨by decide +kernel, rfl⟩
theorem d2_87 : DAt B2 87 (.bipush 64) 2 89 := ⟨by decide +kernel, rfl⟩
theorem d2_89 : DAt B2 89 (.newarray .int) 2 91 := ⟨by decide +kernel, rfl⟩
theorem d2_91 : DAt B2 91 (.putfield 44) 3 94 := ⟨by decide +kernel, rfl⟩
theorem d2_94 : DAt B2 94 (.aload_n 0) 1 95 := ⟨by decide +kernel, rfl⟩
theorem d2_95 : DAt B2 95 (.bipush 32) 2 97 := ⟨by decide +kernel, rfl⟩
theorem d2_97 : DAt B2 97 (.newarray .int) 2 99 := ⟨by decide +kernel, rfl⟩
theorem d2_99 : DAt B2 99 (.putfield 47) 3 102 := ⟨by decide +kernel, rfl⟩
theorem d2_102 : DAt B2 102 (.aload_n 0) 1 103 := ⟨by decide +kernel, rfl⟩
theorem d2_103 : DAt B2 103 (.bipush 32) 2 105 := ⟨by decide +kernel, rfl⟩
theorem d2_105 : DAt B2 105 (.newarray .boolean) 2 107 := ⟨by decide +kernel, rfl⟩
theorem d2_107 : DAt B2 107 (.putfield 50) 3 110 := ⟨by decide +kernel, rfl⟩
theorem d2_110 : DAt B2 110 (.aload_n 0) 1 111 := ⟨by decide +kernel, rfl⟩
theorem d2_111 : DAt B2 111 (.bipush 32) 2 113 := ⟨by decide +kernel, rfl⟩
theorem d2_113 : DAt B2 113 (.newarray .boolean) 2 115 := ⟨by decide +kernel, rfl⟩
theorem d2_115 : DAt B2 115 (.putfield 53) 3 118 := ⟨by decide +kernel, rfl⟩
theorem d2_118 : DAt B2 118 (.aload_n 0) 1 119 := ⟨by decide +kernel, rfl⟩
theorem d2_119 : DAt B2 119 (.sipush 128) 3 122 := ⟨by decide +kernel, rfl⟩
theorem d2_122 : DAt B2 122 (.newarray .int) 2 124 := ⟨by decide +kernel, rfl⟩
theorem d2_124 : DAt B2 124 (.putfield 56) 3 127 := ⟨by decide +kernel, rfl⟩
theorem d2_127 : DAt B2 127 (.aload_n 0) 1 128 := ⟨by decide +kernel, rfl⟩
theorem d2_128 : DAt B2 128 (.bipush 64) 2 130 := ⟨by decide +kernel, rfl⟩
theorem d2_130 : DAt B2 130 (.newarray .boolean) 2 132 := ⟨by decide +kernel, rfl⟩
theorem d2_132 : DAt B2 132 (.putfield 59) 3 135 := ⟨by decide +kernel, rfl⟩
theorem d2_135 : DAt B2 135 (.aload_n 0) 1 136 := ⟨by decide +kernel, rfl⟩
theorem d2_136 : DAt B2 136 (.sipush 256) 3 139 := ⟨by decide +kernel, rfl⟩
theorem d2_139 : DAt B2 139 (.newarray .int) 2 141 := ⟨by decide +kernel, rfl⟩
theorem d2_141 : DAt B2 141 (.putfield 62) 3 144 := ⟨by decide +kernel, rfl⟩
theorem d2_144 : DAt B2 144 (.aload_n 0) 1 145 := ⟨by decide +kernel, rfl⟩
theorem d2_145 : DAt B2 145 (.aload_n 0) 1 146 := ⟨by decide +kernel, rfl⟩
theorem d2_146 : DAt B2 146 (.iload_n 1) 1 147 := ⟨by decide +kernel, rfl⟩
theorem d2_147 : DAt B2 147 (.iconst 1) 1 148 := ⟨by decide +kernel, rfl⟩
theorem d2_148 : DAt B2 148 (.iconst 4) 1 149 := ⟨by decide +kernel, rfl⟩
theorem d2_149 : DAt B2 149 (.invokevirtual 65) 3 152 := ⟨by decide +kernel, rfl⟩
theorem d2_152 : DAt B2 152 (.putfield 69) 3 155 := ⟨by decide +kernel, rfl⟩
theorem d2_155 : DAt B2 155 (.aload_n 0) 1 156 := ⟨by decide +kernel, rfl⟩
theorem d2_156 : DAt B2 156 (.aload_n 0) 1 157 := ⟨by decide +kernel, rfl⟩
theorem d2_157 : DAt B2 157 (.iload_n 2) 1 158 := ⟨by decide +kernel, rfl⟩
theorem d2_158 : DAt B2 158 (.iconst 4) 1 159 := ⟨by decide +kernel, rfl⟩
theorem d2_159 : DAt B2 159 (.bipush 16) 2 161 := ⟨by decide +kernel, rfl⟩
theorem d2_161 : DAt B2 161 (.invokevirtual 65) 3 164 := ⟨by decide +kernel, rfl⟩
theorem d2_164 : DAt B2 164 (.putfield 73) 3 167 := ⟨by decide +kernel, rfl⟩
theorem d2_167 : DAt B2 167 (.aload_n 0) 1 168 := ⟨by decide +kernel, rfl⟩
theorem d2_168 : DAt B2 168 (.aload_n 0) 1 169 := ⟨by decide +kernel, rfl⟩
theorem d2_169 : DAt B2 169 (.iload_n 3) 1 170 := ⟨by decide +kernel, rfl⟩
theorem d2_170 : DAt B2 170 (.iconst 4) 1 171 := ⟨by decide +kernel, rfl⟩
theorem d2_171 : DAt B2 171 (.bipush 32) 2 173 := ⟨by decide +kernel, rfl⟩
theorem d2_173 : DAt B2 173 (.invokevirtual 65) 3 176 := ⟨by decide +kernel, rfl⟩
theorem d2_176 : DAt B2 176 (.putfield 76) 3 179 := ⟨by decide +kernel, rfl⟩
theorem d2_179 : DAt B2 179 (.aload_n 0) 1 180 := ⟨by decide +kernel, rfl⟩
theorem d2_180 : DAt B2 180 (.aload_n 0) 1 181 := ⟨by decide +kernel, rfl⟩
theorem d2_181 : DAt B2 181 (.iload 4) 2 183 := ⟨by decide +kernel, rfl⟩
theorem d2_183 : DAt B2 183 (.iconst 1) 1 184 := ⟨by decide +kernel, rfl⟩
theorem d2_184 : DAt B2 184 (.bipush 16) 2 186 := ⟨by decide +kernel, rfl⟩
theorem d2_186 : DAt B2 186 (.invokevirtual 65) 3 189 := ⟨by decide +kernel, rfl⟩
theorem d2_189 : DAt B2 189 (.putfield 79) 3 192 := ⟨by decide +kernel, rfl⟩
theorem d2_192 : DAt B2 192 (.aload_n 0) 1 193 := ⟨by decide +kernel, rfl⟩
theorem d2_193 : DAt B2 193 (.iconst 0) 1 194 := ⟨by decide +kernel, rfl⟩
theorem d2_194 : DAt B2 194 (.putfield 82) 3 197 := ⟨by decide +kernel, rfl⟩
theorem d2_197 : DAt B2 197 (.aload_n 0) 1 198 := ⟨by decide +kernel, rfl⟩
theorem d2_198 : DAt B2 198 (.iconst 0) 1 199 := ⟨by decide +kernel, rfl⟩
theorem d2_199 : DAt B2 199 (.putfield 85) 3 202 := ⟨by decide +kernel, rfl⟩
theorem d2_202 : DAt B2 202 (.aload_n 0) 1 203 := ⟨by decide +kernel, rfl⟩
theorem d2_203 : DAt B2 203 (.iconst 0) 1 204 := ⟨by decide +kernel, rfl⟩
theorem d2_204 : DAt B2 204 (.putfield 88) 3 207 := ⟨by decide +kernel, rfl⟩
theorem d2_207 : DAt B2 207 (.aload_n 0) 1 208 := ⟨by decide +kernel, rfl⟩
theorem d2_208 : DAt B2 208 (.iconst 0) 1 209 := ⟨by decide +kernel, rfl⟩
theorem d2_209 : DAt B2 209 (.putfield 91) 3 212 := ⟨by decide +kernel, rfl⟩
theorem d2_212 : DAt B2 212 (.iconst 0) 1 213 := ⟨by decide +kernel, rfl⟩
theorem d2_213 : DAt B2 213 (.istore 5) 2 215 := ⟨by decide +kernel, rfl⟩
theorem d2_215 : DAt B2 215 (.iload 5) 2 217 := ⟨by decide +kernel, rfl⟩
theorem d2_217 : DAt B2 217 (.bipush 64) 2 219 := ⟨by decide +kernel, rfl⟩
theorem d2_219 : DAt B2 219 (.if_icmp .ge 25) 3 222 := ⟨by decide +kernel, rfl⟩
theorem d2_222 : DAt B2 222 (.aload_n 0) 1 223 := ⟨by decide +kernel, rfl⟩
theorem d2_223 : DAt B2 223 (.getfield 38) 3 226 := ⟨by decide +kernel, rfl⟩
theorem d2_226 : DAt B2 226 (.iload 5) 2 228 := ⟨by decide +kernel, rfl⟩
theorem d2_228 : DAt B2 228 (.iconst (-1)) 1 229 := ⟨by decide +kernel, rfl⟩
theorem d2_229 : DAt B2 229 (.iastore) 1 230 := ⟨by decide +kernel, rfl⟩
theorem d2_230 : DAt B2 230 (.aload_n 0) 1 231 := ⟨by decide +kernel, rfl⟩
theorem d2_231 : DAt B2 231 (.getfield 41) 3 234 := ⟨by decide +kernel, rfl⟩
theorem d2_234 : DAt B2 234 (.iload 5) 2 236 := ⟨by decide +kernel, rfl⟩
theorem d2_236 : DAt B2 236 (.iconst (-1)) 1 237 := ⟨by decide +kernel, rfl⟩
theorem d2_237 : DAt B2 237 (.iastore) 1 238 := ⟨by decide +kernel, rfl⟩
theorem d2_238 : DAt B2 238 (.iinc 5 1) 3 241 := ⟨by decide +kernel, rfl⟩
theorem d2_241 : DAt B2 241 (.goto (-26)) 3 244 := ⟨by decide +kernel, rfl⟩
theorem d2_244 : DAt B2 244 (.iconst 0) 1 245 := ⟨by decide +kernel, rfl⟩
theorem d2_245 : DAt B2 245 (.istore 5) 2 247 := ⟨by decide +kernel, rfl⟩
theorem d2_247 : DAt B2 247 (.iload 5) 2 249 := ⟨by decide +kernel, rfl⟩
theorem d2_249 : DAt B2 249 (.bipush 32) 2 251 := ⟨by decide +kernel, rfl⟩
theorem d2_251 : DAt B2 251 (.if_icmp .ge 17) 3 254 := ⟨by decide +kernel, rfl⟩
theorem d2_254 : DAt B2 254 (.aload_n 0) 1 255 := ⟨by decide +kernel, rfl⟩
theorem d2_255 : DAt B2 255 (.getfield 47) 3 258 := ⟨by decide +kernel, rfl⟩
theorem d2_258 : DAt B2 258 (.iload 5) 2 260 := ⟨by decide +kernel, rfl⟩
theorem d2_260 : DAt B2 260 (.iconst (-1)) 1 261 := ⟨by decide +kernel, rfl⟩
theorem d2_261 : DAt B2 261 (.iastore) 1 262 := ⟨by decide +kernel, rfl⟩
theorem d2_262 : DAt B2 262 (.iinc 5 1) 3 265 := ⟨by decide +kernel, rfl⟩
theorem d2_265 : DAt B2 265 (.goto (-18)) 3 268 := ⟨by decide +kernel, rfl⟩
theorem d2_268 : DAt B2 268 (.return_) 1 269 := ⟨by decide +kernel, rfl⟩
def B6 : Bdy := ((⟨"WsClockPager", "validPid", "(I)Z"⟩ : MethodName), prog_1_method_17_code, 2, (some .boolean), ({ frames := 0, cells := 0, slots := 0, locals := 0 } : Room))
theorem d6_0 : DAt B6 0 (.iload_n 1) 1 1 := ⟨by decide +kernel, rfl⟩
theorem d6_1 : DAt B6 1 (.ifCond .lt 15) 3 4 := ⟨by decide +kernel, rfl⟩
theorem d6_4 : DAt B6 4 (.iload_n 1) 1 5 := ⟨by decide +kernel, rfl⟩
theorem d6_5 : DAt B6 5 (.aload_n 0) 1 6 := ⟨by decide +kernel, rfl⟩
theorem d6_6 : DAt B6 6 (.getfield 69) 3 9 := ⟨by decide +kernel, rfl⟩
theorem d6_9 : DAt B6 9 (.if_icmp .ge 7) 3 12 := ⟨by decide +kernel, rfl⟩
theorem d6_12 : DAt B6 12 (.iconst 1) 1 13 := ⟨by decide +kernel, rfl⟩
theorem d6_13 : DAt B6 13 (.goto 4) 3 16 := ⟨by decide +kernel, rfl⟩
theorem d6_16 : DAt B6 16 (.iconst 0) 1 17 := ⟨by decide +kernel, rfl⟩
theorem d6_17 : DAt B6 17 (.ireturn) 1 18 := ⟨by decide +kernel, rfl⟩
def B5 : Bdy := ((⟨"WsClockPager", "check", "(II)I"⟩ : MethodName), prog_1_method_18_code, 3, (some .int), ({ frames := 1, cells := 0, slots := 0, locals := 13 } : Room))
theorem d5_0 : DAt B5 0 (.aload_n 0) 1 1 := ⟨by decide +kernel, rfl⟩
theorem d5_1 : DAt B5 1 (.iload_n 1) 1 2 := ⟨by decide +kernel, rfl⟩
theorem d5_2 : DAt B5 2 (.invokevirtual 111) 3 5 := ⟨by decide +kernel, rfl⟩
theorem d5_5 : DAt B5 5 (.ifCond .ne 5) 3 8 := ⟨by decide +kernel, rfl⟩
theorem d5_8 : DAt B5 8 (.iconst 1) 1 9 := ⟨by decide +kernel, rfl⟩
theorem d5_9 : DAt B5 9 (.ireturn) 1 10 := ⟨by decide +kernel, rfl⟩
theorem d5_10 : DAt B5 10 (.iload_n 2) 1 11 := ⟨by decide +kernel, rfl⟩
theorem d5_11 : DAt B5 11 (.ifCond .lt 13) 3 14 := ⟨by decide +kernel, rfl⟩
theorem d5_14 : DAt B5 14 (.iload_n 2) 1 15 := ⟨by decide +kernel, rfl⟩
theorem d5_15 : DAt B5 15 (.aload_n 0) 1 16 := ⟨by decide +kernel, rfl⟩
theorem d5_16 : DAt B5 16 (.getfield 73) 3 19 := ⟨by decide +kernel, rfl⟩
theorem d5_19 : DAt B5 19 (.iconst 4) 1 20 := ⟨by decide +kernel, rfl⟩
theorem d5_20 : DAt B5 20 (.imul) 1 21 := ⟨by decide +kernel, rfl⟩
theorem d5_21 : DAt B5 21 (.if_icmp .lt 5) 3 24 := ⟨by decide +kernel, rfl⟩
theorem d5_24 : DAt B5 24 (.iconst 2) 1 25 := ⟨by decide +kernel, rfl⟩
theorem d5_25 : DAt B5 25 (.ireturn) 1 26 := ⟨by decide +kernel, rfl⟩
theorem d5_26 : DAt B5 26 (.aload_n 0) 1 27 := ⟨by decide +kernel, rfl⟩
theorem d5_27 : DAt B5 27 (.getfield 7) 3 30 := ⟨by decide +kernel, rfl⟩
theorem d5_30 : DAt B5 30 (.iload_n 1) 1 31 := ⟨by decide +kernel, rfl⟩
theorem d5_31 : DAt B5 31 (.baload) 1 32 := ⟨by decide +kernel, rfl⟩
theorem d5_32 : DAt B5 32 (.ifCond .eq 5) 3 35 := ⟨by decide +kernel, rfl⟩
theorem d5_35 : DAt B5 35 (.iconst 3) 1 36 := ⟨by decide +kernel, rfl⟩
theorem d5_36 : DAt B5 36 (.ireturn) 1 37 := ⟨by decide +kernel, rfl⟩
theorem d5_37 : DAt B5 37 (.iconst 0) 1 38 := ⟨by decide +kernel, rfl⟩
theorem d5_38 : DAt B5 38 (.ireturn) 1 39 := ⟨by decide +kernel, rfl⟩
def B8 : Bdy := ((⟨"WsClockPager", "findFreeFrame", "()I"⟩ : MethodName), prog_1_method_26_code, 2, (some .int), ({ frames := 0, cells := 0, slots := 0, locals := 0 } : Room))
theorem d8_0 : DAt B8 0 (.iconst 0) 1 1 := ⟨by decide +kernel, rfl⟩
theorem d8_1 : DAt B8 1 (.istore_n 1) 1 2 := ⟨by decide +kernel, rfl⟩
theorem d8_2 : DAt B8 2 (.iload_n 1) 1 3 := ⟨by decide +kernel, rfl⟩
theorem d8_3 : DAt B8 3 (.aload_n 0) 1 4 := ⟨by decide +kernel, rfl⟩
theorem d8_4 : DAt B8 4 (.getfield 76) 3 7 := ⟨by decide +kernel, rfl⟩
theorem d8_7 : DAt B8 7 (.if_icmp .ge 20) 3 10 := ⟨by decide +kernel, rfl⟩
theorem d8_10 : DAt B8 10 (.aload_n 0) 1 11 := ⟨by decide +kernel, rfl⟩
theorem d8_11 : DAt B8 11 (.getfield 47) 3 14 := ⟨by decide +kernel, rfl⟩
theorem d8_14 : DAt B8 14 (.iload_n 1) 1 15 := ⟨by decide +kernel, rfl⟩
theorem d8_15 : DAt B8 15 (.iaload) 1 16 := ⟨by decide +kernel, rfl⟩
theorem d8_16 : DAt B8 16 (.ifCond .ge 5) 3 19 := ⟨by decide +kernel, rfl⟩
theorem d8_19 : DAt B8 19 (.iload_n 1) 1 20 := ⟨by decide +kernel, rfl⟩
theorem d8_20 : DAt B8 20 (.ireturn) 1 21 := ⟨by decide +kernel, rfl⟩
theorem d8_21 : DAt B8 21 (.iinc 1 1) 3 24 := ⟨by decide +kernel, rfl⟩
theorem d8_24 : DAt B8 24 (.goto (-22)) 3 27 := ⟨by decide +kernel, rfl⟩
theorem d8_27 : DAt B8 27 (.iconst (-1)) 1 28 := ⟨by decide +kernel, rfl⟩
theorem d8_28 : DAt B8 28 (.ireturn) 1 29 := ⟨by decide +kernel, rfl⟩
def B22 : Bdy := ((⟨"WsClockPager", "allocSlot", "()I"⟩ : MethodName), prog_1_method_31_code, 3, (some .int), ({ frames := 0, cells := 0, slots := 0, locals := 0 } : Room))
theorem d22_0 : DAt B22 0 (.aload_n 0) 1 1 := ⟨by decide +kernel, rfl⟩
theorem d22_1 : DAt B22 1 (.getfield 69) 3 4 := ⟨by decide +kernel, rfl⟩
theorem d22_4 : DAt B22 4 (.aload_n 0) 1 5 := ⟨by decide +kernel, rfl⟩
theorem d22_5 : DAt B22 5 (.getfield 73) 3 8 := ⟨by decide +kernel, rfl⟩
theorem d22_8 : DAt B22 8 (.imul) 1 9 := ⟨by decide +kernel, rfl⟩
theorem d22_9 : DAt B22 9 (.istore_n 1) 1 10 := ⟨by decide +kernel, rfl⟩
theorem d22_10 : DAt B22 10 (.iconst 0) 1 11 := ⟨by decide +kernel, rfl⟩
theorem d22_11 : DAt B22 11 (.istore_n 2) 1 12 := ⟨by decide +kernel, rfl⟩
theorem d22_12 : DAt B22 12 (.iload_n 2) 1 13 := ⟨by decide +kernel, rfl⟩
theorem d22_13 : DAt B22 13 (.iload_n 1) 1 14 := ⟨by decide +kernel, rfl⟩
theorem d22_14 : DAt B22 14 (.if_icmp .ge 20) 3 17 := ⟨by decide +kernel, rfl⟩
theorem d22_17 : DAt B22 17 (.aload_n 0) 1 18 := ⟨by decide +kernel, rfl⟩
theorem d22_18 : DAt B22 18 (.getfield 59) 3 21 := ⟨by decide +kernel, rfl⟩
theorem d22_21 : DAt B22 21 (.iload_n 2) 1 22 := ⟨by decide +kernel, rfl⟩
theorem d22_22 : DAt B22 22 (.baload) 1 23 := ⟨by decide +kernel, rfl⟩
theorem d22_23 : DAt B22 23 (.ifCond .ne 5) 3 26 := ⟨by decide +kernel, rfl⟩
theorem d22_26 : DAt B22 26 (.iload_n 2) 1 27 := ⟨by decide +kernel, rfl⟩
theorem d22_27 : DAt B22 27 (.ireturn) 1 28 := ⟨by decide +kernel, rfl⟩
theorem d22_28 : DAt B22 28 (.iinc 2 1) 3 31 := ⟨by decide +kernel, rfl⟩
theorem d22_31 : DAt B22 31 (.goto (-19)) 3 34 := ⟨by decide +kernel, rfl⟩
theorem d22_34 : DAt B22 34 (.iconst (-1)) 1 35 := ⟨by decide +kernel, rfl⟩
theorem d22_35 : DAt B22 35 (.ireturn) 1 36 := ⟨by decide +kernel, rfl⟩
def B21 : Bdy := ((⟨"WsClockPager", "writeBack", "(I)V"⟩ : MethodName), prog_1_method_30_code, 5, none, ({ frames := 1, cells := 0, slots := 0, locals := 14 } : Room))
theorem d21_0 : DAt B21 0 (.aload_n 0) 1 1 := ⟨by decide +kernel, rfl⟩
theorem d21_1 : DAt B21 1 (.getfield 47) 3 4 := ⟨by decide +kernel, rfl⟩
theorem d21_4 : DAt B21 4 (.iload_n 1) 1 5 := ⟨by decide +kernel, rfl⟩
theorem d21_5 : DAt B21 5 (.iaload) 1 6 := ⟨by decide +kernel, rfl⟩
theorem d21_6 : DAt B21 6 (.istore_n 2) 1 7 := ⟨by decide +kernel, rfl⟩
theorem d21_7 : DAt B21 7 (.iload_n 2) 1 8 := ⟨by decide +kernel, rfl⟩
theorem d21_8 : DAt B21 8 (.ifCond .ge 4) 3 11 := ⟨by decide +kernel, rfl⟩
theorem d21_11 : DAt B21 11 (.return_) 1 12 := ⟨by decide +kernel, rfl⟩
theorem d21_12 : DAt B21 12 (.aload_n 0) 1 13 := ⟨by decide +kernel, rfl⟩
theorem d21_13 : DAt B21 13 (.getfield 41) 3 16 := ⟨by decide +kernel, rfl⟩
theorem d21_16 : DAt B21 16 (.iload_n 2) 1 17 := ⟨by decide +kernel, rfl⟩
theorem d21_17 : DAt B21 17 (.iaload) 1 18 := ⟨by decide +kernel, rfl⟩
theorem d21_18 : DAt B21 18 (.istore_n 3) 1 19 := ⟨by decide +kernel, rfl⟩
theorem d21_19 : DAt B21 19 (.iload_n 3) 1 20 := ⟨by decide +kernel, rfl⟩
theorem d21_20 : DAt B21 20 (.ifCond .ge 27) 3 23 := ⟨by decide +kernel, rfl⟩
theorem d21_23 : DAt B21 23 (.aload_n 0) 1 24 := ⟨by decide +kernel, rfl⟩
theorem d21_24 : DAt B21 24 (.invokevirtual 147) 3 27 := ⟨by decide +kernel, rfl⟩
theorem d21_27 : DAt B21 27 (.istore_n 3) 1 28 := ⟨by decide +kernel, rfl⟩
theorem d21_28 : DAt B21 28 (.iload_n 3) 1 29 := ⟨by decide +kernel, rfl⟩
theorem d21_29 : DAt B21 29 (.ifCond .ge 4) 3 32 := ⟨by decide +kernel, rfl⟩
theorem d21_32 : DAt B21 32 (.return_) 1 33 := ⟨by decide +kernel, rfl⟩
theorem d21_33 : DAt B21 33 (.aload_n 0) 1 34 := ⟨by decide +kernel, rfl⟩
theorem d21_34 : DAt B21 34 (.getfield 59) 3 37 := ⟨by decide +kernel, rfl⟩
theorem d21_37 : DAt B21 37 (.iload_n 3) 1 38 := ⟨by decide +kernel, rfl⟩
theorem d21_38 : DAt B21 38 (.iconst 1) 1 39 := ⟨by decide +kernel, rfl⟩
theorem d21_39 : DAt B21 39 (.bastore) 1 40 := ⟨by decide +kernel, rfl⟩
theorem d21_40 : DAt B21 40 (.aload_n 0) 1 41 := ⟨by decide +kernel, rfl⟩
theorem d21_41 : DAt B21 41 (.getfield 41) 3 44 := ⟨by decide +kernel, rfl⟩
theorem d21_44 : DAt B21 44 (.iload_n 2) 1 45 := ⟨by decide +kernel, rfl⟩
theorem d21_45 : DAt B21 45 (.iload_n 3) 1 46 := ⟨by decide +kernel, rfl⟩
theorem d21_46 : DAt B21 46 (.iastore) 1 47 := ⟨by decide +kernel, rfl⟩
theorem d21_47 : DAt B21 47 (.iconst 0) 1 48 := ⟨by decide +kernel, rfl⟩
theorem d21_48 : DAt B21 48 (.istore 4) 2 50 := ⟨by decide +kernel, rfl⟩
theorem d21_50 : DAt B21 50 (.iload 4) 2 52 := ⟨by decide +kernel, rfl⟩
theorem d21_52 : DAt B21 52 (.iconst 4) 1 53 := ⟨by decide +kernel, rfl⟩
theorem d21_53 : DAt B21 53 (.if_icmp .ge 31) 3 56 := ⟨by decide +kernel, rfl⟩
theorem d21_56 : DAt B21 56 (.aload_n 0) 1 57 := ⟨by decide +kernel, rfl⟩
theorem d21_57 : DAt B21 57 (.getfield 62) 3 60 := ⟨by decide +kernel, rfl⟩
theorem d21_60 : DAt B21 60 (.iload_n 3) 1 61 := ⟨by decide +kernel, rfl⟩
theorem d21_61 : DAt B21 61 (.iconst 4) 1 62 := ⟨by decide +kernel, rfl⟩
theorem d21_62 : DAt B21 62 (.imul) 1 63 := ⟨by decide +kernel, rfl⟩
theorem d21_63 : DAt B21 63 (.iload 4) 2 65 := ⟨by decide +kernel, rfl⟩
theorem d21_65 : DAt B21 65 (.iadd) 1 66 := ⟨by decide +kernel, rfl⟩
theorem d21_66 : DAt B21 66 (.aload_n 0) 1 67 := ⟨by decide +kernel, rfl⟩
theorem d21_67 : DAt B21 67 (.getfield 56) 3 70 := ⟨by decide +kernel, rfl⟩
theorem d21_70 : DAt B21 70 (.iload_n 1) 1 71 := ⟨by decide +kernel, rfl⟩
theorem d21_71 : DAt B21 71 (.iconst 4) 1 72 := ⟨by decide +kernel, rfl⟩
theorem d21_72 : DAt B21 72 (.imul) 1 73 := ⟨by decide +kernel, rfl⟩
theorem d21_73 : DAt B21 73 (.iload 4) 2 75 := ⟨by decide +kernel, rfl⟩
theorem d21_75 : DAt B21 75 (.iadd) 1 76 := ⟨by decide +kernel, rfl⟩
theorem d21_76 : DAt B21 76 (.iaload) 1 77 := ⟨by decide +kernel, rfl⟩
theorem d21_77 : DAt B21 77 (.iastore) 1 78 := ⟨by decide +kernel, rfl⟩
theorem d21_78 : DAt B21 78 (.iinc 4 1) 3 81 := ⟨by decide +kernel, rfl⟩
theorem d21_81 : DAt B21 81 (.goto (-31)) 3 84 := ⟨by decide +kernel, rfl⟩
theorem d21_84 : DAt B21 84 (.aload_n 0) 1 85 := ⟨by decide +kernel, rfl⟩
theorem d21_85 : DAt B21 85 (.getfield 53) 3 88 := ⟨by decide +kernel, rfl⟩
theorem d21_88 : DAt B21 88 (.iload_n 1) 1 89 := ⟨by decide +kernel, rfl⟩
theorem d21_89 : DAt B21 89 (.iconst 0) 1 90 := ⟨by decide +kernel, rfl⟩
theorem d21_90 : DAt B21 90 (.bastore) 1 91 := ⟨by decide +kernel, rfl⟩
theorem d21_91 : DAt B21 91 (.return_) 1 92 := ⟨by decide +kernel, rfl⟩
def B18 : Bdy := ((⟨"WsClockPager", "chooseVictim", "()I"⟩ : MethodName), prog_1_method_28_code, 7, (some .int), ({ frames := 2, cells := 0, slots := 0, locals := 30 } : Room))
theorem d18_0 : DAt B18 0 (.iconst (-1)) 1 1 := ⟨by decide +kernel, rfl⟩
theorem d18_1 : DAt B18 1 (.istore_n 1) 1 2 := ⟨by decide +kernel, rfl⟩
theorem d18_2 : DAt B18 2 (.iconst 0) 1 3 := ⟨by decide +kernel, rfl⟩
theorem d18_3 : DAt B18 3 (.istore_n 2) 1 4 := ⟨by decide +kernel, rfl⟩
theorem d18_4 : DAt B18 4 (.iload_n 2) 1 5 := ⟨by decide +kernel, rfl⟩
theorem d18_5 : DAt B18 5 (.iconst 2) 1 6 := ⟨by decide +kernel, rfl⟩
theorem d18_6 : DAt B18 6 (.aload_n 0) 1 7 := ⟨by decide +kernel, rfl⟩
theorem d18_7 : DAt B18 7 (.getfield 76) 3 10 := ⟨by decide +kernel, rfl⟩
theorem d18_10 : DAt B18 10 (.imul) 1 11 := ⟨by decide +kernel, rfl⟩
theorem d18_11 : DAt B18 11 (.if_icmp .ge 162) 3 14 := ⟨by decide +kernel, rfl⟩
theorem d18_14 : DAt B18 14 (.aload_n 0) 1 15 := ⟨by decide +kernel, rfl⟩
theorem d18_15 : DAt B18 15 (.getfield 91) 3 18 := ⟨by decide +kernel, rfl⟩
theorem d18_18 : DAt B18 18 (.istore_n 3) 1 19 := ⟨by decide +kernel, rfl⟩
theorem d18_19 : DAt B18 19 (.aload_n 0) 1 20 := ⟨by decide +kernel, rfl⟩
theorem d18_20 : DAt B18 20 (.aload_n 0) 1 21 := ⟨by decide +kernel, rfl⟩
theorem d18_21 : DAt B18 21 (.getfield 91) 3 24 := ⟨by decide +kernel, rfl⟩
theorem d18_24 : DAt B18 24 (.iconst 1) 1 25 := ⟨by decide +kernel, rfl⟩
theorem d18_25 : DAt B18 25 (.iadd) 1 26 := ⟨by decide +kernel, rfl⟩
theorem d18_26 : DAt B18 26 (.aload_n 0) 1 27 := ⟨by decide +kernel, rfl⟩
theorem d18_27 : DAt B18 27 (.getfield 76) 3 30 := ⟨by decide +kernel, rfl⟩
theorem d18_30 : DAt B18 30 (.irem) 1 31 := ⟨by decide +kernel, rfl⟩
theorem d18_31 : DAt B18 31 (.putfield 91) 3 34 := ⟨by decide +kernel, rfl⟩
theorem d18_34 : DAt B18 34 (.aload_n 0) 1 35 := ⟨by decide +kernel, rfl⟩
theorem d18_35 : DAt B18 35 (.getfield 47) 3 38 := ⟨by decide +kernel, rfl⟩
theorem d18_38 : DAt B18 38 (.iload_n 3) 1 39 := ⟨by decide +kernel, rfl⟩
theorem d18_39 : DAt B18 39 (.iaload) 1 40 := ⟨by decide +kernel, rfl⟩
theorem d18_40 : DAt B18 40 (.istore 4) 2 42 := ⟨by decide +kernel, rfl⟩
theorem d18_42 : DAt B18 42 (.iload 4) 2 44 := ⟨by decide +kernel, rfl⟩
theorem d18_44 : DAt B18 44 (.ifCond .ge 5) 3 47 := ⟨by decide +kernel, rfl⟩
theorem d18_47 : DAt B18 47 (.iload_n 3) 1 48 := ⟨by decide +kernel, rfl⟩
theorem d18_48 : DAt B18 48 (.ireturn) 1 49 := ⟨by decide +kernel, rfl⟩
theorem d18_49 : DAt B18 49 (.iload 4) 2 51 := ⟨by decide +kernel, rfl⟩
theorem d18_51 : DAt B18 51 (.bipush 16) 2 53 := ⟨by decide +kernel, rfl⟩
theorem d18_53 : DAt B18 53 (.idiv) 1 54 := ⟨by decide +kernel, rfl⟩
theorem d18_54 : DAt B18 54 (.istore 5) 2 56 := ⟨by decide +kernel, rfl⟩
theorem d18_56 : DAt B18 56 (.aload_n 0) 1 57 := ⟨by decide +kernel, rfl⟩
theorem d18_57 : DAt B18 57 (.getfield 50) 3 60 := ⟨by decide +kernel, rfl⟩
theorem d18_60 : DAt B18 60 (.iload_n 3) 1 61 := ⟨by decide +kernel, rfl⟩
theorem d18_61 : DAt B18 61 (.baload) 1 62 := ⟨by decide +kernel, rfl⟩
theorem d18_62 : DAt B18 62 (.ifCond .eq 27) 3 65 := ⟨by decide +kernel, rfl⟩
theorem d18_65 : DAt B18 65 (.aload_n 0) 1 66 := ⟨by decide +kernel, rfl⟩
theorem d18_66 : DAt B18 66 (.getfield 50) 3 69 := ⟨by decide +kernel, rfl⟩
theorem d18_69 : DAt B18 69 (.iload_n 3) 1 70 := ⟨by decide +kernel, rfl⟩
theorem d18_70 : DAt B18 70 (.iconst 0) 1 71 := ⟨by decide +kernel, rfl⟩
theorem d18_71 : DAt B18 71 (.bastore) 1 72 := ⟨by decide +kernel, rfl⟩
theorem d18_72 : DAt B18 72 (.aload_n 0) 1 73 := ⟨by decide +kernel, rfl⟩
theorem d18_73 : DAt B18 73 (.getfield 44) 3 76 := ⟨by decide +kernel, rfl⟩
theorem d18_76 : DAt B18 76 (.iload 4) 2 78 := ⟨by decide +kernel, rfl⟩
theorem d18_78 : DAt B18 78 (.aload_n 0) 1 79 := ⟨by decide +kernel, rfl⟩
theorem d18_79 : DAt B18 79 (.getfield 13) 3 82 := ⟨by decide +kernel, rfl⟩
theorem d18_82 : DAt B18 82 (.iload 5) 2 84 := ⟨by decide +kernel, rfl⟩
theorem d18_84 : DAt B18 84 (.iaload) 1 85 := ⟨by decide +kernel, rfl⟩
theorem d18_85 : DAt B18 85 (.iastore) 1 86 := ⟨by decide +kernel, rfl⟩
theorem d18_86 : DAt B18 86 (.goto 81) 3 89 := ⟨by decide +kernel, rfl⟩
theorem d18_89 : DAt B18 89 (.aload_n 0) 1 90 := ⟨by decide +kernel, rfl⟩
theorem d18_90 : DAt B18 90 (.getfield 7) 3 93 := ⟨by decide +kernel, rfl⟩
theorem d18_93 : DAt B18 93 (.iload 5) 2 95 := ⟨by decide +kernel, rfl⟩
theorem d18_95 : DAt B18 95 (.baload) 1 96 := ⟨by decide +kernel, rfl⟩
theorem d18_96 : DAt B18 96 (.ifCond .ne 25) 3 99 := ⟨by decide +kernel, rfl⟩
theorem d18_99 : DAt B18 99 (.aload_n 0) 1 100 := ⟨by decide +kernel, rfl⟩
theorem d18_100 : DAt B18 100 (.getfield 13) 3 103 := ⟨by decide +kernel, rfl⟩
theorem d18_103 : DAt B18 103 (.iload 5) 2 105 := ⟨by decide +kernel, rfl⟩
theorem d18_105 : DAt B18 105 (.iaload) 1 106 := ⟨by decide +kernel, rfl⟩
theorem d18_106 : DAt B18 106 (.aload_n 0) 1 107 := ⟨by decide +kernel, rfl⟩
theorem d18_107 : DAt B18 107 (.getfield 44) 3 110 := ⟨by decide +kernel, rfl⟩
theorem d18_110 : DAt B18 110 (.iload 4) 2 112 := ⟨by decide +kernel, rfl⟩
theorem d18_112 : DAt B18 112 (.iaload) 1 113 := ⟨by decide +kernel, rfl⟩
theorem d18_113 : DAt B18 113 (.isub) 1 114 := ⟨by decide +kernel, rfl⟩
theorem d18_114 : DAt B18 114 (.aload_n 0) 1 115 := ⟨by decide +kernel, rfl⟩
theorem d18_115 : DAt B18 115 (.getfield 79) 3 118 := ⟨by decide +kernel, rfl⟩
theorem d18_118 : DAt B18 118 (.if_icmp .lt 7) 3 121 := ⟨by decide +kernel, rfl⟩
theorem d18_121 : DAt B18 121 (.iconst 1) 1 122 := ⟨by decide +kernel, rfl⟩
theorem d18_122 : DAt B18 122 (.goto 4) 3 125 := ⟨by decide +kernel, rfl⟩
theorem d18_125 : DAt B18 125 (.iconst 0) 1 126 := ⟨by decide +kernel, rfl⟩
theorem d18_126 : DAt B18 126 (.istore 6) 2 128 := ⟨by decide +kernel, rfl⟩
theorem d18_128 : DAt B18 128 (.iload 6) 2 130 := ⟨by decide +kernel, rfl⟩
theorem d18_130 : DAt B18 130 (.ifCond .ne 21) 3 133 := ⟨by decide +kernel, rfl⟩
theorem d18_133 : DAt B18 133 (.iload_n 1) 1 134 := ⟨by decide +kernel, rfl⟩
theorem d18_134 : DAt B18 134 (.ifCond .ge 33) 3 137 := ⟨by decide +kernel, rfl⟩
theorem d18_137 : DAt B18 137 (.aload_n 0) 1 138 := ⟨by decide +kernel, rfl⟩
theorem d18_138 : DAt B18 138 (.getfield 53) 3 141 := ⟨by decide +kernel, rfl⟩
theorem d18_141 : DAt B18 141 (.iload_n 3) 1 142 := ⟨by decide +kernel, rfl⟩
theorem d18_142 : DAt B18 142 (.baload) 1 143 := ⟨by decide +kernel, rfl⟩
theorem d18_143 : DAt B18 143 (.ifCond .ne 24) 3 146 := ⟨by decide +kernel, rfl⟩
theorem d18_146 : DAt B18 146 (.iload_n 3) 1 147 := ⟨by decide +kernel, rfl⟩
theorem d18_147 : DAt B18 147 (.istore_n 1) 1 148 := ⟨by decide +kernel, rfl⟩
theorem d18_148 : DAt B18 148 (.goto 19) 3 151 := ⟨by decide +kernel, rfl⟩
theorem d18_151 : DAt B18 151 (.aload_n 0) 1 152 := ⟨by decide +kernel, rfl⟩
theorem d18_152 : DAt B18 152 (.getfield 53) 3 155 := ⟨by decide +kernel, rfl⟩
theorem d18_155 : DAt B18 155 (.iload_n 3) 1 156 := ⟨by decide +kernel, rfl⟩
theorem d18_156 : DAt B18 156 (.baload) 1 157 := ⟨by decide +kernel, rfl⟩
theorem d18_157 : DAt B18 157 (.ifCond .ne 5) 3 160 := ⟨by decide +kernel, rfl⟩
theorem d18_160 : DAt B18 160 (.iload_n 3) 1 161 := ⟨by decide +kernel, rfl⟩
theorem d18_161 : DAt B18 161 (.ireturn) 1 162 := ⟨by decide +kernel, rfl⟩
theorem d18_162 : DAt B18 162 (.aload_n 0) 1 163 := ⟨by decide +kernel, rfl⟩
theorem d18_163 : DAt B18 163 (.iload_n 3) 1 164 := ⟨by decide +kernel, rfl⟩
theorem d18_164 : DAt B18 164 (.invokevirtual 144) 3 167 := ⟨by decide +kernel, rfl⟩
theorem d18_167 : DAt B18 167 (.iinc 2 1) 3 170 := ⟨by decide +kernel, rfl⟩
theorem d18_170 : DAt B18 170 (.goto (-166)) 3 173 := ⟨by decide +kernel, rfl⟩
theorem d18_173 : DAt B18 173 (.iload_n 1) 1 174 := ⟨by decide +kernel, rfl⟩
theorem d18_174 : DAt B18 174 (.ifCond .lt 5) 3 177 := ⟨by decide +kernel, rfl⟩
theorem d18_177 : DAt B18 177 (.iload_n 1) 1 178 := ⟨by decide +kernel, rfl⟩
theorem d18_178 : DAt B18 178 (.ireturn) 1 179 := ⟨by decide +kernel, rfl⟩
theorem d18_179 : DAt B18 179 (.aload_n 0) 1 180 := ⟨by decide +kernel, rfl⟩
theorem d18_180 : DAt B18 180 (.getfield 91) 3 183 := ⟨by decide +kernel, rfl⟩
theorem d18_183 : DAt B18 183 (.istore_n 2) 1 184 := ⟨by decide +kernel, rfl⟩
theorem d18_184 : DAt B18 184 (.aload_n 0) 1 185 := ⟨by decide +kernel, rfl⟩
theorem d18_185 : DAt B18 185 (.aload_n 0) 1 186 := ⟨by decide +kernel, rfl⟩
theorem d18_186 : DAt B18 186 (.getfield 91) 3 189 := ⟨by decide +kernel, rfl⟩
theorem d18_189 : DAt B18 189 (.iconst 1) 1 190 := ⟨by decide +kernel, rfl⟩
theorem d18_190 : DAt B18 190 (.iadd) 1 191 := ⟨by decide +kernel, rfl⟩
theorem d18_191 : DAt B18 191 (.aload_n 0) 1 192 := ⟨by decide +kernel, rfl⟩
theorem d18_192 : DAt B18 192 (.getfield 76) 3 195 := ⟨by decide +kernel, rfl⟩
theorem d18_195 : DAt B18 195 (.irem) 1 196 := ⟨by decide +kernel, rfl⟩
theorem d18_196 : DAt B18 196 (.putfield 91) 3 199 := ⟨by decide +kernel, rfl⟩
theorem d18_199 : DAt B18 199 (.iload_n 2) 1 200 := ⟨by decide +kernel, rfl⟩
theorem d18_200 : DAt B18 200 (.ireturn) 1 201 := ⟨by decide +kernel, rfl⟩
def B19 : Bdy := ((⟨"WsClockPager", "evictFrame", "(I)V"⟩ : MethodName), prog_1_method_29_code, 3, none, ({ frames := 2, cells := 0, slots := 0, locals := 30 } : Room))
theorem d19_0 : DAt B19 0 (.aload_n 0) 1 1 := ⟨by decide +kernel, rfl⟩
theorem d19_1 : DAt B19 1 (.getfield 47) 3 4 := ⟨by decide +kernel, rfl⟩
theorem d19_4 : DAt B19 4 (.iload_n 1) 1 5 := ⟨by decide +kernel, rfl⟩
theorem d19_5 : DAt B19 5 (.iaload) 1 6 := ⟨by decide +kernel, rfl⟩
theorem d19_6 : DAt B19 6 (.istore_n 2) 1 7 := ⟨by decide +kernel, rfl⟩
theorem d19_7 : DAt B19 7 (.iload_n 2) 1 8 := ⟨by decide +kernel, rfl⟩
theorem d19_8 : DAt B19 8 (.ifCond .ge 4) 3 11 := ⟨by decide +kernel, rfl⟩
theorem d19_11 : DAt B19 11 (.return_) 1 12 := ⟨by decide +kernel, rfl⟩
theorem d19_12 : DAt B19 12 (.aload_n 0) 1 13 := ⟨by decide +kernel, rfl⟩
theorem d19_13 : DAt B19 13 (.getfield 53) 3 16 := ⟨by decide +kernel, rfl⟩
theorem d19_16 : DAt B19 16 (.iload_n 1) 1 17 := ⟨by decide +kernel, rfl⟩
theorem d19_17 : DAt B19 17 (.baload) 1 18 := ⟨by decide +kernel, rfl⟩
theorem d19_18 : DAt B19 18 (.ifCond .eq 8) 3 21 := ⟨by decide +kernel, rfl⟩
theorem d19_21 : DAt B19 21 (.aload_n 0) 1 22 := ⟨by decide +kernel, rfl⟩
theorem d19_22 : DAt B19 22 (.iload_n 1) 1 23 := ⟨by decide +kernel, rfl⟩
theorem d19_23 : DAt B19 23 (.invokevirtual 144) 3 26 := ⟨by decide +kernel, rfl⟩
theorem d19_26 : DAt B19 26 (.aload_n 0) 1 27 := ⟨by decide +kernel, rfl⟩
theorem d19_27 : DAt B19 27 (.getfield 38) 3 30 := ⟨by decide +kernel, rfl⟩
theorem d19_30 : DAt B19 30 (.iload_n 2) 1 31 := ⟨by decide +kernel, rfl⟩
theorem d19_31 : DAt B19 31 (.iconst (-1)) 1 32 := ⟨by decide +kernel, rfl⟩
theorem d19_32 : DAt B19 32 (.iastore) 1 33 := ⟨by decide +kernel, rfl⟩
theorem d19_33 : DAt B19 33 (.aload_n 0) 1 34 := ⟨by decide +kernel, rfl⟩
theorem d19_34 : DAt B19 34 (.getfield 47) 3 37 := ⟨by decide +kernel, rfl⟩
theorem d19_37 : DAt B19 37 (.iload_n 1) 1 38 := ⟨by decide +kernel, rfl⟩
theorem d19_38 : DAt B19 38 (.iconst (-1)) 1 39 := ⟨by decide +kernel, rfl⟩
theorem d19_39 : DAt B19 39 (.iastore) 1 40 := ⟨by decide +kernel, rfl⟩
theorem d19_40 : DAt B19 40 (.aload_n 0) 1 41 := ⟨by decide +kernel, rfl⟩
theorem d19_41 : DAt B19 41 (.getfield 50) 3 44 := ⟨by decide +kernel, rfl⟩
theorem d19_44 : DAt B19 44 (.iload_n 1) 1 45 := ⟨by decide +kernel, rfl⟩
theorem d19_45 : DAt B19 45 (.iconst 0) 1 46 := ⟨by decide +kernel, rfl⟩
theorem d19_46 : DAt B19 46 (.bastore) 1 47 := ⟨by decide +kernel, rfl⟩
theorem d19_47 : DAt B19 47 (.aload_n 0) 1 48 := ⟨by decide +kernel, rfl⟩
theorem d19_48 : DAt B19 48 (.getfield 53) 3 51 := ⟨by decide +kernel, rfl⟩
theorem d19_51 : DAt B19 51 (.iload_n 1) 1 52 := ⟨by decide +kernel, rfl⟩
theorem d19_52 : DAt B19 52 (.iconst 0) 1 53 := ⟨by decide +kernel, rfl⟩
theorem d19_53 : DAt B19 53 (.bastore) 1 54 := ⟨by decide +kernel, rfl⟩
theorem d19_54 : DAt B19 54 (.return_) 1 55 := ⟨by decide +kernel, rfl⟩
def B9 : Bdy := ((⟨"WsClockPager", "fillFrame", "(II)V"⟩ : MethodName), prog_1_method_27_code, 6, none, ({ frames := 0, cells := 0, slots := 0, locals := 0 } : Room))
theorem d9_0 : DAt B9 0 (.aload_n 0) 1 1 := ⟨by decide +kernel, rfl⟩
theorem d9_1 : DAt B9 1 (.getfield 41) 3 4 := ⟨by decide +kernel, rfl⟩
theorem d9_4 : DAt B9 4 (.iload_n 2) 1 5 := ⟨by decide +kernel, rfl⟩
theorem d9_5 : DAt B9 5 (.iaload) 1 6 := ⟨by decide +kernel, rfl⟩
theorem d9_6 : DAt B9 6 (.istore_n 3) 1 7 := ⟨by decide +kernel, rfl⟩
theorem d9_7 : DAt B9 7 (.iload_n 1) 1 8 := ⟨by decide +kernel, rfl⟩
theorem d9_8 : DAt B9 8 (.iconst 4) 1 9 := ⟨by decide +kernel, rfl⟩
theorem d9_9 : DAt B9 9 (.imul) 1 10 := ⟨by decide +kernel, rfl⟩
theorem d9_10 : DAt B9 10 (.istore 4) 2 12 := ⟨by decide +kernel, rfl⟩
theorem d9_12 : DAt B9 12 (.iconst 0) 1 13 := ⟨by decide +kernel, rfl⟩
theorem d9_13 : DAt B9 13 (.istore 5) 2 15 := ⟨by decide +kernel, rfl⟩
theorem d9_15 : DAt B9 15 (.iload 5) 2 17 := ⟨by decide +kernel, rfl⟩
theorem d9_17 : DAt B9 17 (.iconst 4) 1 18 := ⟨by decide +kernel, rfl⟩
theorem d9_18 : DAt B9 18 (.if_icmp .ge 48) 3 21 := ⟨by decide +kernel, rfl⟩
theorem d9_21 : DAt B9 21 (.iload_n 3) 1 22 := ⟨by decide +kernel, rfl⟩
theorem d9_22 : DAt B9 22 (.ifCond .lt 27) 3 25 := ⟨by decide +kernel, rfl⟩
theorem d9_25 : DAt B9 25 (.aload_n 0) 1 26 := ⟨by decide +kernel, rfl⟩
theorem d9_26 : DAt B9 26 (.getfield 56) 3 29 := ⟨by decide +kernel, rfl⟩
theorem d9_29 : DAt B9 29 (.iload 4) 2 31 := ⟨by decide +kernel, rfl⟩
theorem d9_31 : DAt B9 31 (.iload 5) 2 33 := ⟨by decide +kernel, rfl⟩
theorem d9_33 : DAt B9 33 (.iadd) 1 34 := ⟨by decide +kernel, rfl⟩
theorem d9_34 : DAt B9 34 (.aload_n 0) 1 35 := ⟨by decide +kernel, rfl⟩
theorem d9_35 : DAt B9 35 (.getfield 62) 3 38 := ⟨by decide +kernel, rfl⟩
theorem d9_38 : DAt B9 38 (.iload_n 3) 1 39 := ⟨by decide +kernel, rfl⟩
theorem d9_39 : DAt B9 39 (.iconst 4) 1 40 := ⟨by decide +kernel, rfl⟩
theorem d9_40 : DAt B9 40 (.imul) 1 41 := ⟨by decide +kernel, rfl⟩
theorem d9_41 : DAt B9 41 (.iload 5) 2 43 := ⟨by decide +kernel, rfl⟩
theorem d9_43 : DAt B9 43 (.iadd) 1 44 := ⟨by decide +kernel, rfl⟩
theorem d9_44 : DAt B9 44 (.iaload) 1 45 := ⟨by decide +kernel, rfl⟩
theorem d9_45 : DAt B9 45 (.iastore) 1 46 := ⟨by decide +kernel, rfl⟩
theorem d9_46 : DAt B9 46 (.goto 14) 3 49 := ⟨by decide +kernel, rfl⟩
theorem d9_49 : DAt B9 49 (.aload_n 0) 1 50 := ⟨by decide +kernel, rfl⟩
theorem d9_50 : DAt B9 50 (.getfield 56) 3 53 := ⟨by decide +kernel, rfl⟩
theorem d9_53 : DAt B9 53 (.iload 4) 2 55 := ⟨by decide +kernel, rfl⟩
theorem d9_55 : DAt B9 55 (.iload 5) 2 57 := ⟨by decide +kernel, rfl⟩
theorem d9_57 : DAt B9 57 (.iadd) 1 58 := ⟨by decide +kernel, rfl⟩
theorem d9_58 : DAt B9 58 (.iconst 0) 1 59 := ⟨by decide +kernel, rfl⟩
theorem d9_59 : DAt B9 59 (.iastore) 1 60 := ⟨by decide +kernel, rfl⟩
theorem d9_60 : DAt B9 60 (.iinc 5 1) 3 63 := ⟨by decide +kernel, rfl⟩
theorem d9_63 : DAt B9 63 (.goto (-48)) 3 66 := ⟨by decide +kernel, rfl⟩
theorem d9_66 : DAt B9 66 (.aload_n 0) 1 67 := ⟨by decide +kernel, rfl⟩
theorem d9_67 : DAt B9 67 (.getfield 47) 3 70 := ⟨by decide +kernel, rfl⟩
theorem d9_70 : DAt B9 70 (.iload_n 1) 1 71 := ⟨by decide +kernel, rfl⟩
theorem d9_71 : DAt B9 71 (.iload_n 2) 1 72 := ⟨by decide +kernel, rfl⟩
theorem d9_72 : DAt B9 72 (.iastore) 1 73 := ⟨by decide +kernel, rfl⟩
theorem d9_73 : DAt B9 73 (.aload_n 0) 1 74 := ⟨by decide +kernel, rfl⟩
theorem d9_74 : DAt B9 74 (.getfield 50) 3 77 := ⟨by decide +kernel, rfl⟩
theorem d9_77 : DAt B9 77 (.iload_n 1) 1 78 := ⟨by decide +kernel, rfl⟩
theorem d9_78 : DAt B9 78 (.iconst 0) 1 79 := ⟨by decide +kernel, rfl⟩
theorem d9_79 : DAt B9 79 (.bastore) 1 80 := ⟨by decide +kernel, rfl⟩
theorem d9_80 : DAt B9 80 (.aload_n 0) 1 81 := ⟨by decide +kernel, rfl⟩
theorem d9_81 : DAt B9 81 (.getfield 53) 3 84 := ⟨by decide +kernel, rfl⟩
theorem d9_84 : DAt B9 84 (.iload_n 1) 1 85 := ⟨by decide +kernel, rfl⟩
theorem d9_85 : DAt B9 85 (.iconst 0) 1 86 := ⟨by decide +kernel, rfl⟩
theorem d9_86 : DAt B9 86 (.bastore) 1 87 := ⟨by decide +kernel, rfl⟩
theorem d9_87 : DAt B9 87 (.aload_n 0) 1 88 := ⟨by decide +kernel, rfl⟩
theorem d9_88 : DAt B9 88 (.getfield 38) 3 91 := ⟨by decide +kernel, rfl⟩
theorem d9_91 : DAt B9 91 (.iload_n 2) 1 92 := ⟨by decide +kernel, rfl⟩
theorem d9_92 : DAt B9 92 (.iload_n 1) 1 93 := ⟨by decide +kernel, rfl⟩
theorem d9_93 : DAt B9 93 (.iastore) 1 94 := ⟨by decide +kernel, rfl⟩
theorem d9_94 : DAt B9 94 (.aload_n 0) 1 95 := ⟨by decide +kernel, rfl⟩
theorem d9_95 : DAt B9 95 (.getfield 44) 3 98 := ⟨by decide +kernel, rfl⟩
theorem d9_98 : DAt B9 98 (.iload_n 2) 1 99 := ⟨by decide +kernel, rfl⟩
theorem d9_99 : DAt B9 99 (.aload_n 0) 1 100 := ⟨by decide +kernel, rfl⟩
theorem d9_100 : DAt B9 100 (.getfield 13) 3 103 := ⟨by decide +kernel, rfl⟩
theorem d9_103 : DAt B9 103 (.iload_n 2) 1 104 := ⟨by decide +kernel, rfl⟩
theorem d9_104 : DAt B9 104 (.bipush 16) 2 106 := ⟨by decide +kernel, rfl⟩
theorem d9_106 : DAt B9 106 (.idiv) 1 107 := ⟨by decide +kernel, rfl⟩
theorem d9_107 : DAt B9 107 (.iaload) 1 108 := ⟨by decide +kernel, rfl⟩
theorem d9_108 : DAt B9 108 (.iastore) 1 109 := ⟨by decide +kernel, rfl⟩
theorem d9_109 : DAt B9 109 (.return_) 1 110 := ⟨by decide +kernel, rfl⟩
def B7 : Bdy := ((⟨"WsClockPager", "ensureResident", "(II)I"⟩ : MethodName), prog_1_method_25_code, 5, (some .int), ({ frames := 3, cells := 0, slots := 0, locals := 48 } : Room))
theorem d7_0 : DAt B7 0 (.iload_n 1) 1 1 := ⟨by decide +kernel, rfl⟩
theorem d7_1 : DAt B7 1 (.bipush 16) 2 3 := ⟨by decide +kernel, rfl⟩
theorem d7_3 : DAt B7 3 (.imul) 1 4 := ⟨by decide +kernel, rfl⟩
theorem d7_4 : DAt B7 4 (.iload_n 2) 1 5 := ⟨by decide +kernel, rfl⟩
theorem d7_5 : DAt B7 5 (.iadd) 1 6 := ⟨by decide +kernel, rfl⟩
theorem d7_6 : DAt B7 6 (.istore_n 3) 1 7 := ⟨by decide +kernel, rfl⟩
theorem d7_7 : DAt B7 7 (.aload_n 0) 1 8 := ⟨by decide +kernel, rfl⟩
theorem d7_8 : DAt B7 8 (.getfield 38) 3 11 := ⟨by decide +kernel, rfl⟩
theorem d7_11 : DAt B7 11 (.iload_n 3) 1 12 := ⟨by decide +kernel, rfl⟩
theorem d7_12 : DAt B7 12 (.iaload) 1 13 := ⟨by decide +kernel, rfl⟩
theorem d7_13 : DAt B7 13 (.istore 4) 2 15 := ⟨by decide +kernel, rfl⟩
theorem d7_15 : DAt B7 15 (.iload 4) 2 17 := ⟨by decide +kernel, rfl⟩
theorem d7_17 : DAt B7 17 (.ifCond .lt 6) 3 20 := ⟨by decide +kernel, rfl⟩
theorem d7_20 : DAt B7 20 (.iload 4) 2 22 := ⟨by decide +kernel, rfl⟩
theorem d7_22 : DAt B7 22 (.ireturn) 1 23 := ⟨by decide +kernel, rfl⟩
theorem d7_23 : DAt B7 23 (.aload_n 0) 1 24 := ⟨by decide +kernel, rfl⟩
theorem d7_24 : DAt B7 24 (.invokevirtual 132) 3 27 := ⟨by decide +kernel, rfl⟩
theorem d7_27 : DAt B7 27 (.istore 4) 2 29 := ⟨by decide +kernel, rfl⟩
theorem d7_29 : DAt B7 29 (.iload 4) 2 31 := ⟨by decide +kernel, rfl⟩
theorem d7_31 : DAt B7 31 (.ifCond .ge 15) 3 34 := ⟨by decide +kernel, rfl⟩
theorem d7_34 : DAt B7 34 (.aload_n 0) 1 35 := ⟨by decide +kernel, rfl⟩
theorem d7_35 : DAt B7 35 (.invokevirtual 135) 3 38 := ⟨by decide +kernel, rfl⟩
theorem d7_38 : DAt B7 38 (.istore 4) 2 40 := ⟨by decide +kernel, rfl⟩
theorem d7_40 : DAt B7 40 (.aload_n 0) 1 41 := ⟨by decide +kernel, rfl⟩
theorem d7_41 : DAt B7 41 (.iload 4) 2 43 := ⟨by decide +kernel, rfl⟩
theorem d7_43 : DAt B7 43 (.invokevirtual 138) 3 46 := ⟨by decide +kernel, rfl⟩
theorem d7_46 : DAt B7 46 (.aload_n 0) 1 47 := ⟨by decide +kernel, rfl⟩
theorem d7_47 : DAt B7 47 (.iload 4) 2 49 := ⟨by decide +kernel, rfl⟩
theorem d7_49 : DAt B7 49 (.iload_n 3) 1 50 := ⟨by decide +kernel, rfl⟩
theorem d7_50 : DAt B7 50 (.invokevirtual 141) 3 53 := ⟨by decide +kernel, rfl⟩
theorem d7_53 : DAt B7 53 (.iload 4) 2 55 := ⟨by decide +kernel, rfl⟩
theorem d7_55 : DAt B7 55 (.ireturn) 1 56 := ⟨by decide +kernel, rfl⟩
def B11 : Bdy := ((⟨"WsClockPager", "pushWindow", "(II)V"⟩ : MethodName), prog_1_method_22_code, 6, none, ({ frames := 0, cells := 0, slots := 0, locals := 0 } : Room))
theorem d11_0 : DAt B11 0 (.iload_n 1) 1 1 := ⟨by decide +kernel, rfl⟩
theorem d11_1 : DAt B11 1 (.bipush 16) 2 3 := ⟨by decide +kernel, rfl⟩
theorem d11_3 : DAt B11 3 (.imul) 1 4 := ⟨by decide +kernel, rfl⟩
theorem d11_4 : DAt B11 4 (.istore_n 3) 1 5 := ⟨by decide +kernel, rfl⟩
theorem d11_5 : DAt B11 5 (.aload_n 0) 1 6 := ⟨by decide +kernel, rfl⟩
theorem d11_6 : DAt B11 6 (.getfield 20) 3 9 := ⟨by decide +kernel, rfl⟩
theorem d11_9 : DAt B11 9 (.iload_n 1) 1 10 := ⟨by decide +kernel, rfl⟩
theorem d11_10 : DAt B11 10 (.iaload) 1 11 := ⟨by decide +kernel, rfl⟩
theorem d11_11 : DAt B11 11 (.istore 4) 2 13 := ⟨by decide +kernel, rfl⟩
theorem d11_13 : DAt B11 13 (.aload_n 0) 1 14 := ⟨by decide +kernel, rfl⟩
theorem d11_14 : DAt B11 14 (.getfield 17) 3 17 := ⟨by decide +kernel, rfl⟩
theorem d11_17 : DAt B11 17 (.iload_n 1) 1 18 := ⟨by decide +kernel, rfl⟩
theorem d11_18 : DAt B11 18 (.iaload) 1 19 := ⟨by decide +kernel, rfl⟩
theorem d11_19 : DAt B11 19 (.aload_n 0) 1 20 := ⟨by decide +kernel, rfl⟩
theorem d11_20 : DAt B11 20 (.getfield 79) 3 23 := ⟨by decide +kernel, rfl⟩
theorem d11_23 : DAt B11 23 (.if_icmp .lt 63) 3 26 := ⟨by decide +kernel, rfl⟩
theorem d11_26 : DAt B11 26 (.aload_n 0) 1 27 := ⟨by decide +kernel, rfl⟩
theorem d11_27 : DAt B11 27 (.getfield 29) 3 30 := ⟨by decide +kernel, rfl⟩
theorem d11_30 : DAt B11 30 (.iload_n 3) 1 31 := ⟨by decide +kernel, rfl⟩
theorem d11_31 : DAt B11 31 (.iload 4) 2 33 := ⟨by decide +kernel, rfl⟩
theorem d11_33 : DAt B11 33 (.iadd) 1 34 := ⟨by decide +kernel, rfl⟩
theorem d11_34 : DAt B11 34 (.iaload) 1 35 := ⟨by decide +kernel, rfl⟩
theorem d11_35 : DAt B11 35 (.istore 5) 2 37 := ⟨by decide +kernel, rfl⟩
theorem d11_37 : DAt B11 37 (.aload_n 0) 1 38 := ⟨by decide +kernel, rfl⟩
theorem d11_38 : DAt B11 38 (.getfield 32) 3 41 := ⟨by decide +kernel, rfl⟩
theorem d11_41 : DAt B11 41 (.iload_n 3) 1 42 := ⟨by decide +kernel, rfl⟩
theorem d11_42 : DAt B11 42 (.iload 5) 2 44 := ⟨by decide +kernel, rfl⟩
theorem d11_44 : DAt B11 44 (.iadd) 1 45 := ⟨by decide +kernel, rfl⟩
theorem d11_45 : DAt B11 45 (.aload_n 0) 1 46 := ⟨by decide +kernel, rfl⟩
theorem d11_46 : DAt B11 46 (.getfield 32) 3 49 := ⟨by decide +kernel, rfl⟩
theorem d11_49 : DAt B11 49 (.iload_n 3) 1 50 := ⟨by decide +kernel, rfl⟩
theorem d11_50 : DAt B11 50 (.iload 5) 2 52 := ⟨by decide +kernel, rfl⟩
theorem d11_52 : DAt B11 52 (.iadd) 1 53 := ⟨by decide +kernel, rfl⟩
theorem d11_53 : DAt B11 53 (.iaload) 1 54 := ⟨by decide +kernel, rfl⟩
theorem d11_54 : DAt B11 54 (.iconst 1) 1 55 := ⟨by decide +kernel, rfl⟩
theorem d11_55 : DAt B11 55 (.isub) 1 56 := ⟨by decide +kernel, rfl⟩
theorem d11_56 : DAt B11 56 (.iastore) 1 57 := ⟨by decide +kernel, rfl⟩
theorem d11_57 : DAt B11 57 (.aload_n 0) 1 58 := ⟨by decide +kernel, rfl⟩
theorem d11_58 : DAt B11 58 (.getfield 32) 3 61 := ⟨by decide +kernel, rfl⟩
theorem d11_61 : DAt B11 61 (.iload_n 3) 1 62 := ⟨by decide +kernel, rfl⟩
theorem d11_62 : DAt B11 62 (.iload 5) 2 64 := ⟨by decide +kernel, rfl⟩
theorem d11_64 : DAt B11 64 (.iadd) 1 65 := ⟨by decide +kernel, rfl⟩
theorem d11_65 : DAt B11 65 (.iaload) 1 66 := ⟨by decide +kernel, rfl⟩
theorem d11_66 : DAt B11 66 (.ifCond .ne 17) 3 69 := ⟨by decide +kernel, rfl⟩
theorem d11_69 : DAt B11 69 (.aload_n 0) 1 70 := ⟨by decide +kernel, rfl⟩
theorem d11_70 : DAt B11 70 (.getfield 23) 3 73 := ⟨by decide +kernel, rfl⟩
theorem d11_73 : DAt B11 73 (.iload_n 1) 1 74 := ⟨by decide +kernel, rfl⟩
theorem d11_74 : DAt B11 74 (.aload_n 0) 1 75 := ⟨by decide +kernel, rfl⟩
theorem d11_75 : DAt B11 75 (.getfield 23) 3 78 := ⟨by decide +kernel, rfl⟩
theorem d11_78 : DAt B11 78 (.iload_n 1) 1 79 := ⟨by decide +kernel, rfl⟩
theorem d11_79 : DAt B11 79 (.iaload) 1 80 := ⟨by decide +kernel, rfl⟩
theorem d11_80 : DAt B11 80 (.iconst 1) 1 81 := ⟨by decide +kernel, rfl⟩
theorem d11_81 : DAt B11 81 (.isub) 1 82 := ⟨by decide +kernel, rfl⟩
theorem d11_82 : DAt B11 82 (.iastore) 1 83 := ⟨by decide +kernel, rfl⟩
theorem d11_83 : DAt B11 83 (.goto 17) 3 86 := ⟨by decide +kernel, rfl⟩
theorem d11_86 : DAt B11 86 (.aload_n 0) 1 87 := ⟨by decide +kernel, rfl⟩
theorem d11_87 : DAt B11 87 (.getfield 17) 3 90 := ⟨by decide +kernel, rfl⟩
theorem d11_90 : DAt B11 90 (.iload_n 1) 1 91 := ⟨by decide +kernel, rfl⟩
theorem d11_91 : DAt B11 91 (.aload_n 0) 1 92 := ⟨by decide +kernel, rfl⟩
theorem d11_92 : DAt B11 92 (.getfield 17) 3 95 := ⟨by decide +kernel, rfl⟩
theorem d11_95 : DAt B11 95 (.iload_n 1) 1 96 := ⟨by decide +kernel, rfl⟩
theorem d11_96 : DAt B11 96 (.iaload) 1 97 := ⟨by decide +kernel, rfl⟩
theorem d11_97 : DAt B11 97 (.iconst 1) 1 98 := ⟨by decide +kernel, rfl⟩
theorem d11_98 : DAt B11 98 (.iadd) 1 99 := ⟨by decide +kernel, rfl⟩
theorem d11_99 : DAt B11 99 (.iastore) 1 100 := ⟨by decide +kernel, rfl⟩
theorem d11_100 : DAt B11 100 (.aload_n 0) 1 101 := ⟨by decide +kernel, rfl⟩
theorem d11_101 : DAt B11 101 (.getfield 29) 3 104 := ⟨by decide +kernel, rfl⟩
theorem d11_104 : DAt B11 104 (.iload_n 3) 1 105 := ⟨by decide +kernel, rfl⟩
theorem d11_105 : DAt B11 105 (.iload 4) 2 107 := ⟨by decide +kernel, rfl⟩
theorem d11_107 : DAt B11 107 (.iadd) 1 108 := ⟨by decide +kernel, rfl⟩
theorem d11_108 : DAt B11 108 (.iload_n 2) 1 109 := ⟨by decide +kernel, rfl⟩
theorem d11_109 : DAt B11 109 (.iastore) 1 110 := ⟨by decide +kernel, rfl⟩
theorem d11_110 : DAt B11 110 (.aload_n 0) 1 111 := ⟨by decide +kernel, rfl⟩
theorem d11_111 : DAt B11 111 (.getfield 32) 3 114 := ⟨by decide +kernel, rfl⟩
theorem d11_114 : DAt B11 114 (.iload_n 3) 1 115 := ⟨by decide +kernel, rfl⟩
theorem d11_115 : DAt B11 115 (.iload_n 2) 1 116 := ⟨by decide +kernel, rfl⟩
theorem d11_116 : DAt B11 116 (.iadd) 1 117 := ⟨by decide +kernel, rfl⟩
theorem d11_117 : DAt B11 117 (.iaload) 1 118 := ⟨by decide +kernel, rfl⟩
theorem d11_118 : DAt B11 118 (.ifCond .ne 17) 3 121 := ⟨by decide +kernel, rfl⟩
theorem d11_121 : DAt B11 121 (.aload_n 0) 1 122 := ⟨by decide +kernel, rfl⟩
theorem d11_122 : DAt B11 122 (.getfield 23) 3 125 := ⟨by decide +kernel, rfl⟩
theorem d11_125 : DAt B11 125 (.iload_n 1) 1 126 := ⟨by decide +kernel, rfl⟩
theorem d11_126 : DAt B11 126 (.aload_n 0) 1 127 := ⟨by decide +kernel, rfl⟩
theorem d11_127 : DAt B11 127 (.getfield 23) 3 130 := ⟨by decide +kernel, rfl⟩
theorem d11_130 : DAt B11 130 (.iload_n 1) 1 131 := ⟨by decide +kernel, rfl⟩
theorem d11_131 : DAt B11 131 (.iaload) 1 132 := ⟨by decide +kernel, rfl⟩
theorem d11_132 : DAt B11 132 (.iconst 1) 1 133 := ⟨by decide +kernel, rfl⟩
theorem d11_133 : DAt B11 133 (.iadd) 1 134 := ⟨by decide +kernel, rfl⟩
theorem d11_134 : DAt B11 134 (.iastore) 1 135 := ⟨by decide +kernel, rfl⟩
theorem d11_135 : DAt B11 135 (.aload_n 0) 1 136 := ⟨by decide +kernel, rfl⟩
theorem d11_136 : DAt B11 136 (.getfield 32) 3 139 := ⟨by decide +kernel, rfl⟩
theorem d11_139 : DAt B11 139 (.iload_n 3) 1 140 := ⟨by decide +kernel, rfl⟩
theorem d11_140 : DAt B11 140 (.iload_n 2) 1 141 := ⟨by decide +kernel, rfl⟩
theorem d11_141 : DAt B11 141 (.iadd) 1 142 := ⟨by decide +kernel, rfl⟩
theorem d11_142 : DAt B11 142 (.aload_n 0) 1 143 := ⟨by decide +kernel, rfl⟩
theorem d11_143 : DAt B11 143 (.getfield 32) 3 146 := ⟨by decide +kernel, rfl⟩
theorem d11_146 : DAt B11 146 (.iload_n 3) 1 147 := ⟨by decide +kernel, rfl⟩
theorem d11_147 : DAt B11 147 (.iload_n 2) 1 148 := ⟨by decide +kernel, rfl⟩
theorem d11_148 : DAt B11 148 (.iadd) 1 149 := ⟨by decide +kernel, rfl⟩
theorem d11_149 : DAt B11 149 (.iaload) 1 150 := ⟨by decide +kernel, rfl⟩
theorem d11_150 : DAt B11 150 (.iconst 1) 1 151 := ⟨by decide +kernel, rfl⟩
theorem d11_151 : DAt B11 151 (.iadd) 1 152 := ⟨by decide +kernel, rfl⟩
theorem d11_152 : DAt B11 152 (.iastore) 1 153 := ⟨by decide +kernel, rfl⟩
theorem d11_153 : DAt B11 153 (.aload_n 0) 1 154 := ⟨by decide +kernel, rfl⟩
theorem d11_154 : DAt B11 154 (.getfield 20) 3 157 := ⟨by decide +kernel, rfl⟩
theorem d11_157 : DAt B11 157 (.iload_n 1) 1 158 := ⟨by decide +kernel, rfl⟩
theorem d11_158 : DAt B11 158 (.iload 4) 2 160 := ⟨by decide +kernel, rfl⟩
theorem d11_160 : DAt B11 160 (.iconst 1) 1 161 := ⟨by decide +kernel, rfl⟩
theorem d11_161 : DAt B11 161 (.iadd) 1 162 := ⟨by decide +kernel, rfl⟩
theorem d11_162 : DAt B11 162 (.aload_n 0) 1 163 := ⟨by decide +kernel, rfl⟩
theorem d11_163 : DAt B11 163 (.getfield 79) 3 166 := ⟨by decide +kernel, rfl⟩
theorem d11_166 : DAt B11 166 (.irem) 1 167 := ⟨by decide +kernel, rfl⟩
theorem d11_167 : DAt B11 167 (.iastore) 1 168 := ⟨by decide +kernel, rfl⟩
theorem d11_168 : DAt B11 168 (.return_) 1 169 := ⟨by decide +kernel, rfl⟩
def B10 : Bdy := ((⟨"WsClockPager", "recordReference", "(II)V"⟩ : MethodName), prog_1_method_21_code, 5, none, ({ frames := 1, cells := 0, slots := 0, locals := 17 } : Room))
theorem d10_0 : DAt B10 0 (.iload_n 1) 1 1 := ⟨by decide +kernel, rfl⟩
theorem d10_1 : DAt B10 1 (.bipush 16) 2 3 := ⟨by decide +kernel, rfl⟩
theorem d10_3 : DAt B10 3 (.imul) 1 4 := ⟨by decide +kernel, rfl⟩
theorem d10_4 : DAt B10 4 (.iload_n 2) 1 5 := ⟨by decide +kernel, rfl⟩
theorem d10_5 : DAt B10 5 (.iadd) 1 6 := ⟨by decide +kernel, rfl⟩
theorem d10_6 : DAt B10 6 (.istore_n 3) 1 7 := ⟨by decide +kernel, rfl⟩
theorem d10_7 : DAt B10 7 (.aload_n 0) 1 8 := ⟨by decide +kernel, rfl⟩
theorem d10_8 : DAt B10 8 (.getfield 38) 3 11 := ⟨by decide +kernel, rfl⟩
theorem d10_11 : DAt B10 11 (.iload_n 3) 1 12 := ⟨by decide +kernel, rfl⟩
theorem d10_12 : DAt B10 12 (.iaload) 1 13 := ⟨by decide +kernel, rfl⟩
theorem d10_13 : DAt B10 13 (.istore 4) 2 15 := ⟨by decide +kernel, rfl⟩
theorem d10_15 : DAt B10 15 (.iload 4) 2 17 := ⟨by decide +kernel, rfl⟩
theorem d10_17 : DAt B10 17 (.ifCond .lt 11) 3 20 := ⟨by decide +kernel, rfl⟩
theorem d10_20 : DAt B10 20 (.aload_n 0) 1 21 := ⟨by decide +kernel, rfl⟩
theorem d10_21 : DAt B10 21 (.getfield 50) 3 24 := ⟨by decide +kernel, rfl⟩
theorem d10_24 : DAt B10 24 (.iload 4) 2 26 := ⟨by decide +kernel, rfl⟩
theorem d10_26 : DAt B10 26 (.iconst 1) 1 27 := ⟨by decide +kernel, rfl⟩
theorem d10_27 : DAt B10 27 (.bastore) 1 28 := ⟨by decide +kernel, rfl⟩
theorem d10_28 : DAt B10 28 (.aload_n 0) 1 29 := ⟨by decide +kernel, rfl⟩
theorem d10_29 : DAt B10 29 (.getfield 13) 3 32 := ⟨by decide +kernel, rfl⟩
theorem d10_32 : DAt B10 32 (.iload_n 1) 1 33 := ⟨by decide +kernel, rfl⟩
theorem d10_33 : DAt B10 33 (.aload_n 0) 1 34 := ⟨by decide +kernel, rfl⟩
theorem d10_34 : DAt B10 34 (.getfield 13) 3 37 := ⟨by decide +kernel, rfl⟩
theorem d10_37 : DAt B10 37 (.iload_n 1) 1 38 := ⟨by decide +kernel, rfl⟩
theorem d10_38 : DAt B10 38 (.iaload) 1 39 := ⟨by decide +kernel, rfl⟩
theorem d10_39 : DAt B10 39 (.iconst 1) 1 40 := ⟨by decide +kernel, rfl⟩
theorem d10_40 : DAt B10 40 (.iadd) 1 41 := ⟨by decide +kernel, rfl⟩
theorem d10_41 : DAt B10 41 (.iastore) 1 42 := ⟨by decide +kernel, rfl⟩
theorem d10_42 : DAt B10 42 (.aload_n 0) 1 43 := ⟨by decide +kernel, rfl⟩
theorem d10_43 : DAt B10 43 (.getfield 44) 3 46 := ⟨by decide +kernel, rfl⟩
theorem d10_46 : DAt B10 46 (.iload_n 3) 1 47 := ⟨by decide +kernel, rfl⟩
theorem d10_47 : DAt B10 47 (.aload_n 0) 1 48 := ⟨by decide +kernel, rfl⟩
theorem d10_48 : DAt B10 48 (.getfield 13) 3 51 := ⟨by decide +kernel, rfl⟩
theorem d10_51 : DAt B10 51 (.iload_n 1) 1 52 := ⟨by decide +kernel, rfl⟩
theorem d10_52 : DAt B10 52 (.iaload) 1 53 := ⟨by decide +kernel, rfl⟩
theorem d10_53 : DAt B10 53 (.iastore) 1 54 := ⟨by decide +kernel, rfl⟩
theorem d10_54 : DAt B10 54 (.aload_n 0) 1 55 := ⟨by decide +kernel, rfl⟩
theorem d10_55 : DAt B10 55 (.iload_n 1) 1 56 := ⟨by decide +kernel, rfl⟩
theorem d10_56 : DAt B10 56 (.iload_n 2) 1 57 := ⟨by decide +kernel, rfl⟩
theorem d10_57 : DAt B10 57 (.invokevirtual 121) 3 60 := ⟨by decide +kernel, rfl⟩
theorem d10_60 : DAt B10 60 (.aload_n 0) 1 61 := ⟨by decide +kernel, rfl⟩
theorem d10_61 : DAt B10 61 (.getfield 35) 3 64 := ⟨by decide +kernel, rfl⟩
theorem d10_64 : DAt B10 64 (.iload_n 3) 1 65 := ⟨by decide +kernel, rfl⟩
theorem d10_65 : DAt B10 65 (.baload) 1 66 := ⟨by decide +kernel, rfl⟩
theorem d10_66 : DAt B10 66 (.ifCond .ne 24) 3 69 := ⟨by decide +kernel, rfl⟩
theorem d10_69 : DAt B10 69 (.aload_n 0) 1 70 := ⟨by decide +kernel, rfl⟩
theorem d10_70 : DAt B10 70 (.getfield 35) 3 73 := ⟨by decide +kernel, rfl⟩
theorem d10_73 : DAt B10 73 (.iload_n 3) 1 74 := ⟨by decide +kernel, rfl⟩
theorem d10_74 : DAt B10 74 (.iconst 1) 1 75 := ⟨by decide +kernel, rfl⟩
theorem d10_75 : DAt B10 75 (.bastore) 1 76 := ⟨by decide +kernel, rfl⟩
theorem d10_76 : DAt B10 76 (.aload_n 0) 1 77 := ⟨by decide +kernel, rfl⟩
theorem d10_77 : DAt B10 77 (.getfield 26) 3 80 := ⟨by decide +kernel, rfl⟩
theorem d10_80 : DAt B10 80 (.iload_n 1) 1 81 := ⟨by decide +kernel, rfl⟩
theorem d10_81 : DAt B10 81 (.aload_n 0) 1 82 := ⟨by decide +kernel, rfl⟩
theorem d10_82 : DAt B10 82 (.getfield 26) 3 85 := ⟨by decide +kernel, rfl⟩
theorem d10_85 : DAt B10 85 (.iload_n 1) 1 86 := ⟨by decide +kernel, rfl⟩
theorem d10_86 : DAt B10 86 (.iaload) 1 87 := ⟨by decide +kernel, rfl⟩
theorem d10_87 : DAt B10 87 (.iconst 1) 1 88 := ⟨by decide +kernel, rfl⟩
theorem d10_88 : DAt B10 88 (.iadd) 1 89 := ⟨by decide +kernel, rfl⟩
theorem d10_89 : DAt B10 89 (.iastore) 1 90 := ⟨by decide +kernel, rfl⟩
theorem d10_90 : DAt B10 90 (.return_) 1 91 := ⟨by decide +kernel, rfl⟩
def B13 : Bdy := ((⟨"WsClockPager", "activeTotal", "()I"⟩ : MethodName), prog_1_method_10_code, 3, (some .int), ({ frames := 0, cells := 0, slots := 0, locals := 0 } : Room))
theorem d13_0 : DAt B13 0 (.iconst 0) 1 1 := ⟨by decide +kernel, rfl⟩
theorem d13_1 : DAt B13 1 (.istore_n 1) 1 2 := ⟨by decide +kernel, rfl⟩
theorem d13_2 : DAt B13 2 (.iconst 0) 1 3 := ⟨by decide +kernel, rfl⟩
theorem d13_3 : DAt B13 3 (.istore_n 2) 1 4 := ⟨by decide +kernel, rfl⟩
theorem d13_4 : DAt B13 4 (.iload_n 2) 1 5 := ⟨by decide +kernel, rfl⟩
theorem d13_5 : DAt B13 5 (.aload_n 0) 1 6 := ⟨by decide +kernel, rfl⟩
theorem d13_6 : DAt B13 6 (.getfield 69) 3 9 := ⟨by decide +kernel, rfl⟩
theorem d13_9 : DAt B13 9 (.if_icmp .ge 27) 3 12 := ⟨by decide +kernel, rfl⟩
theorem d13_12 : DAt B13 12 (.aload_n 0) 1 13 := ⟨by decide +kernel, rfl⟩
theorem d13_13 : DAt B13 13 (.getfield 7) 3 16 := ⟨by decide +kernel, rfl⟩
theorem d13_16 : DAt B13 16 (.iload_n 2) 1 17 := ⟨by decide +kernel, rfl⟩
theorem d13_17 : DAt B13 17 (.baload) 1 18 := ⟨by decide +kernel, rfl⟩
theorem d13_18 : DAt B13 18 (.ifCond .ne 12) 3 21 := ⟨by decide +kernel, rfl⟩
theorem d13_21 : DAt B13 21 (.iload_n 1) 1 22 := ⟨by decide +kernel, rfl⟩
theorem d13_22 : DAt B13 22 (.aload_n 0) 1 23 := ⟨by decide +kernel, rfl⟩
theorem d13_23 : DAt B13 23 (.getfield 23) 3 26 := ⟨by decide +kernel, rfl⟩
theorem d13_26 : DAt B13 26 (.iload_n 2) 1 27 := ⟨by decide +kernel, rfl⟩
theorem d13_27 : DAt B13 27 (.iaload) 1 28 := ⟨by decide +kernel, rfl⟩
theorem d13_28 : DAt B13 28 (.iadd) 1 29 := ⟨by decide +kernel, rfl⟩
theorem d13_29 : DAt B13 29 (.istore_n 1) 1 30 := ⟨by decide +kernel, rfl⟩
theorem d13_30 : DAt B13 30 (.iinc 2 1) 3 33 := ⟨by decide +kernel, rfl⟩
theorem d13_33 : DAt B13 33 (.goto (-29)) 3 36 := ⟨by decide +kernel, rfl⟩
theorem d13_36 : DAt B13 36 (.iload_n 1) 1 37 := ⟨by decide +kernel, rfl⟩
theorem d13_37 : DAt B13 37 (.ireturn) 1 38 := ⟨by decide +kernel, rfl⟩
def B20 : Bdy := ((⟨"WsClockPager", "pickProcessToSuspend", "(I)I"⟩ : MethodName), prog_1_method_24_code, 3, (some .int), ({ frames := 0, cells := 0, slots := 0, locals := 0 } : Room))
theorem d20_0 : DAt B20 0 (.aload_n 0) 1 1 := ⟨by decide +kernel, rfl⟩
theorem d20_1 : DAt B20 1 (.getfield 69) 3 4 := ⟨by decide +kernel, rfl⟩
theorem d20_4 : DAt B20 4 (.iconst 1) 1 5 := ⟨by decide +kernel, rfl⟩
theorem d20_5 : DAt B20 5 (.isub) 1 6 := ⟨by decide +kernel, rfl⟩
theorem d20_6 : DAt B20 6 (.istore_n 2) 1 7 := ⟨by decide +kernel, rfl⟩
theorem d20_7 : DAt B20 7 (.iload_n 2) 1 8 := ⟨by decide +kernel, rfl⟩
theorem d20_8 : DAt B20 8 (.ifCond .lt 34) 3 11 := ⟨by decide +kernel, rfl⟩
theorem d20_11 : DAt B20 11 (.iload_n 2) 1 12 := ⟨by decide +kernel, rfl⟩
theorem d20_12 : DAt B20 12 (.iload_n 1) 1 13 := ⟨by decide +kernel, rfl⟩
theorem d20_13 : DAt B20 13 (.if_icmp .eq 23) 3 16 := ⟨by decide +kernel, rfl⟩
theorem d20_16 : DAt B20 16 (.aload_n 0) 1 17 := ⟨by decide +kernel, rfl⟩
theorem d20_17 : DAt B20 17 (.getfield 7) 3 20 := ⟨by decide +kernel, rfl⟩
theorem d20_20 : DAt B20 20 (.iload_n 2) 1 21 := ⟨by decide +kernel, rfl⟩
theorem d20_21 : DAt B20 21 (.baload) 1 22 := ⟨by decide +kernel, rfl⟩
theorem d20_22 : DAt B20 22 (.ifCond .ne 14) 3 25 := ⟨by decide +kernel, rfl⟩
theorem d20_25 : DAt B20 25 (.aload_n 0) 1 26 := ⟨by decide +kernel, rfl⟩
theorem d20_26 : DAt B20 26 (.getfield 23) 3 29 := ⟨by decide +kernel, rfl⟩
theorem d20_29 : DAt B20 29 (.iload_n 2) 1 30 := ⟨by decide +kernel, rfl⟩
theorem d20_30 : DAt B20 30 (.iaload) 1 31 := ⟨by decide +kernel, rfl⟩
theorem d20_31 : DAt B20 31 (.ifCond .le 5) 3 34 := ⟨by decide +kernel, rfl⟩
theorem d20_34 : DAt B20 34 (.iload_n 2) 1 35 := ⟨by decide +kernel, rfl⟩
theorem d20_35 : DAt B20 35 (.ireturn) 1 36 := ⟨by decide +kernel, rfl⟩
theorem d20_36 : DAt B20 36 (.iinc 2 (-1)) 3 39 := ⟨by decide +kernel, rfl⟩
theorem d20_39 : DAt B20 39 (.goto (-32)) 3 42 := ⟨by decide +kernel, rfl⟩
theorem d20_42 : DAt B20 42 (.iconst (-1)) 1 43 := ⟨by decide +kernel, rfl⟩
theorem d20_43 : DAt B20 43 (.ireturn) 1 44 := ⟨by decide +kernel, rfl⟩
def B12 : Bdy := ((⟨"WsClockPager", "loadControl", "(I)V"⟩ : MethodName), prog_1_method_23_code, 5, none, ({ frames := 1, cells := 0, slots := 0, locals := 14 } : Room))
theorem d12_0 : DAt B12 0 (.iconst 0) 1 1 := ⟨by decide +kernel, rfl⟩
theorem d12_1 : DAt B12 1 (.istore_n 2) 1 2 := ⟨by decide +kernel, rfl⟩
theorem d12_2 : DAt B12 2 (.iload_n 2) 1 3 := ⟨by decide +kernel, rfl⟩
theorem d12_3 : DAt B12 3 (.aload_n 0) 1 4 := ⟨by decide +kernel, rfl⟩
theorem d12_4 : DAt B12 4 (.getfield 69) 3 7 := ⟨by decide +kernel, rfl⟩
theorem d12_7 : DAt B12 7 (.if_icmp .ge 58) 3 10 := ⟨by decide +kernel, rfl⟩
theorem d12_10 : DAt B12 10 (.aload_n 0) 1 11 := ⟨by decide +kernel, rfl⟩
theorem d12_11 : DAt B12 11 (.invokevirtual 124) 3 14 := ⟨by decide +kernel, rfl⟩
theorem d12_14 : DAt B12 14 (.istore_n 3) 1 15 := ⟨by decide +kernel, rfl⟩
theorem d12_15 : DAt B12 15 (.iload_n 3) 1 16 := ⟨by decide +kernel, rfl⟩
theorem d12_16 : DAt B12 16 (.aload_n 0) 1 17 := ⟨by decide +kernel, rfl⟩
theorem d12_17 : DAt B12 17 (.getfield 76) 3 20 := ⟨by decide +kernel, rfl⟩
theorem d12_20 : DAt B12 20 (.if_icmp .gt 6) 3 23 := ⟨by decide +kernel, rfl⟩
theorem d12_23 : DAt B12 23 (.goto 42) 3 26 := ⟨by decide +kernel, rfl⟩
theorem d12_26 : DAt B12 26 (.aload_n 0) 1 27 := ⟨by decide +kernel, rfl⟩
theorem d12_27 : DAt B12 27 (.iload_n 1) 1 28 := ⟨by decide +kernel, rfl⟩
theorem d12_28 : DAt B12 28 (.invokevirtual 128) 3 31 := ⟨by decide +kernel, rfl⟩
theorem d12_31 : DAt B12 31 (.istore 4) 2 33 := ⟨by decide +kernel, rfl⟩
theorem d12_33 : DAt B12 33 (.iload 4) 2 35 := ⟨by decide +kernel, rfl⟩
theorem d12_35 : DAt B12 35 (.ifCond .ge 6) 3 38 := ⟨by decide +kernel, rfl⟩
theorem d12_38 : DAt B12 38 (.goto 27) 3 41 := ⟨by decide +kernel, rfl⟩
theorem d12_41 : DAt B12 41 (.aload_n 0) 1 42 := ⟨by decide +kernel, rfl⟩
theorem d12_42 : DAt B12 42 (.getfield 7) 3 45 := ⟨by decide +kernel, rfl⟩
theorem d12_45 : DAt B12 45 (.iload 4) 2 47 := ⟨by decide +kernel, rfl⟩
theorem d12_47 : DAt B12 47 (.iconst 1) 1 48 := ⟨by decide +kernel, rfl⟩
theorem d12_48 : DAt B12 48 (.bastore) 1 49 := ⟨by decide +kernel, rfl⟩
theorem d12_49 : DAt B12 49 (.aload_n 0) 1 50 := ⟨by decide +kernel, rfl⟩
theorem d12_50 : DAt B12 50 (.dup) 1 51 := ⟨by decide +kernel, rfl⟩
theorem d12_51 : DAt B12 51 (.getfield 85) 3 54 := ⟨by decide +kernel, rfl⟩
theorem d12_54 : DAt B12 54 (.iconst 1) 1 55 := ⟨by decide +kernel, rfl⟩
theorem d12_55 : DAt B12 55 (.iadd) 1 56 := ⟨by decide +kernel, rfl⟩
theorem d12_56 : DAt B12 56 (.putfield 85) 3 59 := ⟨by decide +kernel, rfl⟩
theorem d12_59 : DAt B12 59 (.iinc 2 1) 3 62 := ⟨by decide +kernel, rfl⟩
theorem d12_62 : DAt B12 62 (.goto (-60)) 3 65 := ⟨by decide +kernel, rfl⟩
theorem d12_65 : DAt B12 65 (.iconst 0) 1 66 := ⟨by decide +kernel, rfl⟩
theorem d12_66 : DAt B12 66 (.istore_n 2) 1 67 := ⟨by decide +kernel, rfl⟩
theorem d12_67 : DAt B12 67 (.iload_n 2) 1 68 := ⟨by decide +kernel, rfl⟩
theorem d12_68 : DAt B12 68 (.aload_n 0) 1 69 := ⟨by decide +kernel, rfl⟩
theorem d12_69 : DAt B12 69 (.getfield 69) 3 72 := ⟨by decide +kernel, rfl⟩
theorem d12_72 : DAt B12 72 (.if_icmp .ge 55) 3 75 := ⟨by decide +kernel, rfl⟩
theorem d12_75 : DAt B12 75 (.aload_n 0) 1 76 := ⟨by decide +kernel, rfl⟩
theorem d12_76 : DAt B12 76 (.getfield 7) 3 79 := ⟨by decide +kernel, rfl⟩
theorem d12_79 : DAt B12 79 (.iload_n 2) 1 80 := ⟨by decide +kernel, rfl⟩
theorem d12_80 : DAt B12 80 (.baload) 1 81 := ⟨by decide +kernel, rfl⟩
theorem d12_81 : DAt B12 81 (.ifCond .eq 40) 3 84 := ⟨by decide +kernel, rfl⟩
theorem d12_84 : DAt B12 84 (.aload_n 0) 1 85 := ⟨by decide +kernel, rfl⟩
theorem d12_85 : DAt B12 85 (.invokevirtual 124) 3 88 := ⟨by decide +kernel, rfl⟩
theorem d12_88 : DAt B12 88 (.istore_n 3) 1 89 := ⟨by decide +kernel, rfl⟩
theorem d12_89 : DAt B12 89 (.iload_n 3) 1 90 := ⟨by decide +kernel, rfl⟩
theorem d12_90 : DAt B12 90 (.aload_n 0) 1 91 := ⟨by decide +kernel, rfl⟩
theorem d12_91 : DAt B12 91 (.getfield 23) 3 94 := ⟨by decide +kernel, rfl⟩
theorem d12_94 : DAt B12 94 (.iload_n 2) 1 95 := ⟨by decide +kernel, rfl⟩
theorem d12_95 : DAt B12 95 (.iaload) 1 96 := ⟨by decide +kernel, rfl⟩
theorem d12_96 : DAt B12 96 (.iadd) 1 97 := ⟨by decide +kernel, rfl⟩
theorem d12_97 : DAt B12 97 (.aload_n 0) 1 98 := ⟨by decide +kernel, rfl⟩
theorem d12_98 : DAt B12 98 (.getfield 76) 3 101 := ⟨by decide +kernel, rfl⟩
theorem d12_101 : DAt B12 101 (.if_icmp .gt 20) 3 104 := ⟨by decide +kernel, rfl⟩
theorem d12_104 : DAt B12 104 (.aload_n 0) 1 105 := ⟨by decide +kernel, rfl⟩
theorem d12_105 : DAt B12 105 (.getfield 7) 3 108 := ⟨by decide +kernel, rfl⟩
theorem d12_108 : DAt B12 108 (.iload_n 2) 1 109 := ⟨by decide +kernel, rfl⟩
theorem d12_109 : DAt B12 109 (.iconst 0) 1 110 := ⟨by decide +kernel, rfl⟩
theorem d12_110 : DAt B12 110 (.bastore) 1 111 := ⟨by decide +kernel, rfl⟩
theorem d12_111 : DAt B12 111 (.aload_n 0) 1 112 := ⟨by decide +kernel, rfl⟩
theorem d12_112 : DAt B12 112 (.dup) 1 113 := ⟨by decide +kernel, rfl⟩
theorem d12_113 : DAt B12 113 (.getfield 88) 3 116 := ⟨by decide +kernel, rfl⟩
theorem d12_116 : DAt B12 116 (.iconst 1) 1 117 := ⟨by decide +kernel, rfl⟩
theorem d12_117 : DAt B12 117 (.iadd) 1 118 := ⟨by decide +kernel, rfl⟩
theorem d12_118 : DAt B12 118 (.putfield 88) 3 121 := ⟨by decide +kernel, rfl⟩
theorem d12_121 : DAt B12 121 (.iinc 2 1) 3 124 := ⟨by decide +kernel, rfl⟩
theorem d12_124 : DAt B12 124 (.goto (-57)) 3 127 := ⟨by decide +kernel, rfl⟩
theorem d12_127 : DAt B12 127 (.return_) 1 128 := ⟨by decide +kernel, rfl⟩
def B4 : Bdy := ((⟨"WsClockPager", "store", "(III)I"⟩ : MethodName), prog_1_method_3_code, 7, (some .int), ({ frames := 4, cells := 0, slots := 0, locals := 64 } : Room))
theorem d4_0 : DAt B4 0 (.aload_n 0) 1 1 := ⟨by decide +kernel, rfl⟩
theorem d4_1 : DAt B4 1 (.iload_n 1) 1 2 := ⟨by decide +kernel, rfl⟩
theorem d4_2 : DAt B4 2 (.iload_n 2) 1 3 := ⟨by decide +kernel, rfl⟩
theorem d4_3 : DAt B4 3 (.invokevirtual 94) 3 6 := ⟨by decide +kernel, rfl⟩
theorem d4_6 : DAt B4 6 (.istore 4) 2 8 := ⟨by decide +kernel, rfl⟩
theorem d4_8 : DAt B4 8 (.iload 4) 2 10 := ⟨by decide +kernel, rfl⟩
theorem d4_10 : DAt B4 10 (.ifCond .eq 12) 3 13 := ⟨by decide +kernel, rfl⟩
theorem d4_13 : DAt B4 13 (.aload_n 0) 1 14 := ⟨by decide +kernel, rfl⟩
theorem d4_14 : DAt B4 14 (.iload 4) 2 16 := ⟨by decide +kernel, rfl⟩
theorem d4_16 : DAt B4 16 (.putfield 82) 3 19 := ⟨by decide +kernel, rfl⟩
theorem d4_19 : DAt B4 19 (.iload 4) 2 21 := ⟨by decide +kernel, rfl⟩
theorem d4_21 : DAt B4 21 (.ireturn) 1 22 := ⟨by decide +kernel, rfl⟩
theorem d4_22 : DAt B4 22 (.iload_n 2) 1 23 := ⟨by decide +kernel, rfl⟩
theorem d4_23 : DAt B4 23 (.iconst 4) 1 24 := ⟨by decide +kernel, rfl⟩
theorem d4_24 : DAt B4 24 (.idiv) 1 25 := ⟨by decide +kernel, rfl⟩
theorem d4_25 : DAt B4 25 (.istore 5) 2 27 := ⟨by decide +kernel, rfl⟩
theorem d4_27 : DAt B4 27 (.aload_n 0) 1 28 := ⟨by decide +kernel, rfl⟩
theorem d4_28 : DAt B4 28 (.iload_n 1) 1 29 := ⟨by decide +kernel, rfl⟩
theorem d4_29 : DAt B4 29 (.iload 5) 2 31 := ⟨by decide +kernel, rfl⟩
theorem d4_31 : DAt B4 31 (.invokevirtual 100) 3 34 := ⟨by decide +kernel, rfl⟩
theorem d4_34 : DAt B4 34 (.istore 6) 2 36 := ⟨by decide +kernel, rfl⟩
theorem d4_36 : DAt B4 36 (.aload_n 0) 1 37 := ⟨by decide +kernel, rfl⟩
theorem d4_37 : DAt B4 37 (.getfield 56) 3 40 := ⟨by decide +kernel, rfl⟩
theorem d4_40 : DAt B4 40 (.iload 6) 2 42 := ⟨by decide +kernel, rfl⟩
theorem d4_42 : DAt B4 42 (.iconst 4) 1 43 := ⟨by decide +kernel, rfl⟩
theorem d4_43 : DAt B4 43 (.imul) 1 44 := ⟨by decide +kernel, rfl⟩
theorem d4_44 : DAt B4 44 (.iload_n 2) 1 45 := ⟨by decide +kernel, rfl⟩
theorem d4_45 : DAt B4 45 (.iconst 4) 1 46 := ⟨by decide +kernel, rfl⟩
theorem d4_46 : DAt B4 46 (.irem) 1 47 := ⟨by decide +kernel, rfl⟩
theorem d4_47 : DAt B4 47 (.iadd) 1 48 := ⟨by decide +kernel, rfl⟩
theorem d4_48 : DAt B4 48 (.iload_n 3) 1 49 := ⟨by decide +kernel, rfl⟩
theorem d4_49 : DAt B4 49 (.iastore) 1 50 := ⟨by decide +kernel, rfl⟩
theorem d4_50 : DAt B4 50 (.aload_n 0) 1 51 := ⟨by decide +kernel, rfl⟩
theorem d4_51 : DAt B4 51 (.getfield 53) 3 54 := ⟨by decide +kernel, rfl⟩
theorem d4_54 : DAt B4 54 (.iload 6) 2 56 := ⟨by decide +kernel, rfl⟩
theorem d4_56 : DAt B4 56 (.iconst 1) 1 57 := ⟨by decide +kernel, rfl⟩
theorem d4_57 : DAt B4 57 (.bastore) 1 58 := ⟨by decide +kernel, rfl⟩
theorem d4_58 : DAt B4 58 (.aload_n 0) 1 59 := ⟨by decide +kernel, rfl⟩
theorem d4_59 : DAt B4 59 (.iload_n 1) 1 60 := ⟨by decide +kernel, rfl⟩
theorem d4_60 : DAt B4 60 (.iload 5) 2 62 := ⟨by decide +kernel, rfl⟩
theorem d4_62 : DAt B4 62 (.invokevirtual 103) 3 65 := ⟨by decide +kernel, rfl⟩
theorem d4_65 : DAt B4 65 (.aload_n 0) 1 66 := ⟨by decide +kernel, rfl⟩
theorem d4_66 : DAt B4 66 (.iload_n 1) 1 67 := ⟨by decide +kernel, rfl⟩
theorem d4_67 : DAt B4 67 (.invokevirtual 107) 3 70 := ⟨by decide +kernel, rfl⟩
theorem d4_70 : DAt B4 70 (.aload_n 0) 1 71 := ⟨by decide +kernel, rfl⟩
theorem d4_71 : DAt B4 71 (.iconst 0) 1 72 := ⟨by decide +kernel, rfl⟩
theorem d4_72 : DAt B4 72 (.putfield 82) 3 75 := ⟨by decide +kernel, rfl⟩
theorem d4_75 : DAt B4 75 (.iconst 0) 1 76 := ⟨by decide +kernel, rfl⟩
theorem d4_76 : DAt B4 76 (.ireturn) 1 77 := ⟨by decide +kernel, rfl⟩
def B14 : Bdy := ((⟨"WsClockPager", "load", "(II)J"⟩ : MethodName), prog_1_method_2_code, 7, (some .long), ({ frames := 4, cells := 0, slots := 0, locals := 64 } : Room))
theorem d14_0 : DAt B14 0 (.aload_n 0) 1 1 := ⟨by decide +kernel, rfl⟩
theorem d14_1 : DAt B14 1 (.iload_n 1) 1 2 := ⟨by decide +kernel, rfl⟩
theorem d14_2 : DAt B14 2 (.iload_n 2) 1 3 := ⟨by decide +kernel, rfl⟩
theorem d14_3 : DAt B14 3 (.invokevirtual 94) 3 6 := ⟨by decide +kernel, rfl⟩
theorem d14_6 : DAt B14 6 (.istore_n 3) 1 7 := ⟨by decide +kernel, rfl⟩
theorem d14_7 : DAt B14 7 (.iload_n 3) 1 8 := ⟨by decide +kernel, rfl⟩
theorem d14_8 : DAt B14 8 (.ifCond .eq 12) 3 11 := ⟨by decide +kernel, rfl⟩
theorem d14_11 : DAt B14 11 (.aload_n 0) 1 12 := ⟨by decide +kernel, rfl⟩
theorem d14_12 : DAt B14 12 (.iload_n 3) 1 13 := ⟨by decide +kernel, rfl⟩
theorem d14_13 : DAt B14 13 (.putfield 82) 3 16 := ⟨by decide +kernel, rfl⟩
theorem d14_16 : DAt B14 16 (.ldc2_w 98) 3 19 := ⟨by decide +kernel, rfl⟩
theorem d14_19 : DAt B14 19 (.lreturn) 1 20 := ⟨by decide +kernel, rfl⟩
theorem d14_20 : DAt B14 20 (.iload_n 2) 1 21 := ⟨by decide +kernel, rfl⟩
theorem d14_21 : DAt B14 21 (.iconst 4) 1 22 := ⟨by decide +kernel, rfl⟩
theorem d14_22 : DAt B14 22 (.idiv) 1 23 := ⟨by decide +kernel, rfl⟩
theorem d14_23 : DAt B14 23 (.istore 4) 2 25 := ⟨by decide +kernel, rfl⟩
theorem d14_25 : DAt B14 25 (.aload_n 0) 1 26 := ⟨by decide +kernel, rfl⟩
theorem d14_26 : DAt B14 26 (.iload_n 1) 1 27 := ⟨by decide +kernel, rfl⟩
theorem d14_27 : DAt B14 27 (.iload 4) 2 29 := ⟨by decide +kernel, rfl⟩
theorem d14_29 : DAt B14 29 (.invokevirtual 100) 3 32 := ⟨by decide +kernel, rfl⟩
theorem d14_32 : DAt B14 32 (.istore 5) 2 34 := ⟨by decide +kernel, rfl⟩
theorem d14_34 : DAt B14 34 (.aload_n 0) 1 35 := ⟨by decide +kernel, rfl⟩
theorem d14_35 : DAt B14 35 (.getfield 56) 3 38 := ⟨by decide +kernel, rfl⟩
theorem d14_38 : DAt B14 38 (.iload 5) 2 40 := ⟨by decide +kernel, rfl⟩
theorem d14_40 : DAt B14 40 (.iconst 4) 1 41 := ⟨by decide +kernel, rfl⟩
theorem d14_41 : DAt B14 41 (.imul) 1 42 := ⟨by decide +kernel, rfl⟩
theorem d14_42 : DAt B14 42 (.iload_n 2) 1 43 := ⟨by decide +kernel, rfl⟩
theorem d14_43 : DAt B14 43 (.iconst 4) 1 44 := ⟨by decide +kernel, rfl⟩
theorem d14_44 : DAt B14 44 (.irem) 1 45 := ⟨by decide +kernel, rfl⟩
theorem d14_45 : DAt B14 45 (.iadd) 1 46 := ⟨by decide +kernel, rfl⟩
theorem d14_46 : DAt B14 46 (.iaload) 1 47 := ⟨by decide +kernel, rfl⟩
theorem d14_47 : DAt B14 47 (.istore 6) 2 49 := ⟨by decide +kernel, rfl⟩
theorem d14_49 : DAt B14 49 (.aload_n 0) 1 50 := ⟨by decide +kernel, rfl⟩
theorem d14_50 : DAt B14 50 (.iload_n 1) 1 51 := ⟨by decide +kernel, rfl⟩
theorem d14_51 : DAt B14 51 (.iload 4) 2 53 := ⟨by decide +kernel, rfl⟩
theorem d14_53 : DAt B14 53 (.invokevirtual 103) 3 56 := ⟨by decide +kernel, rfl⟩
theorem d14_56 : DAt B14 56 (.aload_n 0) 1 57 := ⟨by decide +kernel, rfl⟩
theorem d14_57 : DAt B14 57 (.iload_n 1) 1 58 := ⟨by decide +kernel, rfl⟩
theorem d14_58 : DAt B14 58 (.invokevirtual 107) 3 61 := ⟨by decide +kernel, rfl⟩
theorem d14_61 : DAt B14 61 (.aload_n 0) 1 62 := ⟨by decide +kernel, rfl⟩
theorem d14_62 : DAt B14 62 (.iconst 0) 1 63 := ⟨by decide +kernel, rfl⟩
theorem d14_63 : DAt B14 63 (.putfield 82) 3 66 := ⟨by decide +kernel, rfl⟩
theorem d14_66 : DAt B14 66 (.iload 6) 2 68 := ⟨by decide +kernel, rfl⟩
theorem d14_68 : DAt B14 68 (.i2l) 1 69 := ⟨by decide +kernel, rfl⟩
theorem d14_69 : DAt B14 69 (.lreturn) 1 70 := ⟨by decide +kernel, rfl⟩
def B15 : Bdy := ((⟨"WsClockPager", "lastStatus", "()I"⟩ : MethodName), prog_1_method_5_code, 1, (some .int), ({ frames := 0, cells := 0, slots := 0, locals := 0 } : Room))
theorem d15_0 : DAt B15 0 (.aload_n 0) 1 1 := ⟨by decide +kernel, rfl⟩
theorem d15_1 : DAt B15 1 (.getfield 82) 3 4 := ⟨by decide +kernel, rfl⟩
theorem d15_4 : DAt B15 4 (.ireturn) 1 5 := ⟨by decide +kernel, rfl⟩
def B17 : Bdy := ((⟨"WsClockPager", "discardPage", "(I)V"⟩ : MethodName), prog_1_method_20_code, 4, none, ({ frames := 0, cells := 0, slots := 0, locals := 0 } : Room))
theorem d17_0 : DAt B17 0 (.aload_n 0) 1 1 := ⟨by decide +kernel, rfl⟩
theorem d17_1 : DAt B17 1 (.getfield 38) 3 4 := ⟨by decide +kernel, rfl⟩
theorem d17_4 : DAt B17 4 (.iload_n 1) 1 5 := ⟨by decide +kernel, rfl⟩
theorem d17_5 : DAt B17 5 (.iaload) 1 6 := ⟨by decide +kernel, rfl⟩
theorem d17_6 : DAt B17 6 (.istore_n 2) 1 7 := ⟨by decide +kernel, rfl⟩
theorem d17_7 : DAt B17 7 (.iload_n 2) 1 8 := ⟨by decide +kernel, rfl⟩
theorem d17_8 : DAt B17 8 (.ifCond .lt 31) 3 11 := ⟨by decide +kernel, rfl⟩
theorem d17_11 : DAt B17 11 (.aload_n 0) 1 12 := ⟨by decide +kernel, rfl⟩
theorem d17_12 : DAt B17 12 (.getfield 47) 3 15 := ⟨by decide +kernel, rfl⟩
theorem d17_15 : DAt B17 15 (.iload_n 2) 1 16 := ⟨by decide +kernel, rfl⟩
theorem d17_16 : DAt B17 16 (.iconst (-1)) 1 17 := ⟨by decide +kernel, rfl⟩
theorem d17_17 : DAt B17 17 (.iastore) 1 18 := ⟨by decide +kernel, rfl⟩
theorem d17_18 : DAt B17 18 (.aload_n 0) 1 19 := ⟨by decide +kernel, rfl⟩
theorem d17_19 : DAt B17 19 (.getfield 50) 3 22 := ⟨by decide +kernel, rfl⟩
theorem d17_22 : DAt B17 22 (.iload_n 2) 1 23 := ⟨by decide +kernel, rfl⟩
theorem d17_23 : DAt B17 23 (.iconst 0) 1 24 := ⟨by decide +kernel, rfl⟩
theorem d17_24 : DAt B17 24 (.bastore) 1 25 := ⟨by decide +kernel, rfl⟩
theorem d17_25 : DAt B17 25 (.aload_n 0) 1 26 := ⟨by decide +kernel, rfl⟩
theorem d17_26 : DAt B17 26 (.getfield 53) 3 29 := ⟨by decide +kernel, rfl⟩
theorem d17_29 : DAt B17 29 (.iload_n 2) 1 30 := ⟨by decide +kernel, rfl⟩
theorem d17_30 : DAt B17 30 (.iconst 0) 1 31 := ⟨by decide +kernel, rfl⟩
theorem d17_31 : DAt B17 31 (.bastore) 1 32 := ⟨by decide +kernel, rfl⟩
theorem d17_32 : DAt B17 32 (.aload_n 0) 1 33 := ⟨by decide +kernel, rfl⟩
theorem d17_33 : DAt B17 33 (.getfield 38) 3 36 := ⟨by decide +kernel, rfl⟩
theorem d17_36 : DAt B17 36 (.iload_n 1) 1 37 := ⟨by decide +kernel, rfl⟩
theorem d17_37 : DAt B17 37 (.iconst (-1)) 1 38 := ⟨by decide +kernel, rfl⟩
theorem d17_38 : DAt B17 38 (.iastore) 1 39 := ⟨by decide +kernel, rfl⟩
theorem d17_39 : DAt B17 39 (.aload_n 0) 1 40 := ⟨by decide +kernel, rfl⟩
theorem d17_40 : DAt B17 40 (.getfield 41) 3 43 := ⟨by decide +kernel, rfl⟩
theorem d17_43 : DAt B17 43 (.iload_n 1) 1 44 := ⟨by decide +kernel, rfl⟩
theorem d17_44 : DAt B17 44 (.iaload) 1 45 := ⟨by decide +kernel, rfl⟩
theorem d17_45 : DAt B17 45 (.istore_n 3) 1 46 := ⟨by decide +kernel, rfl⟩
theorem d17_46 : DAt B17 46 (.iload_n 3) 1 47 := ⟨by decide +kernel, rfl⟩
theorem d17_47 : DAt B17 47 (.ifCond .lt 17) 3 50 := ⟨by decide +kernel, rfl⟩
theorem d17_50 : DAt B17 50 (.aload_n 0) 1 51 := ⟨by decide +kernel, rfl⟩
theorem d17_51 : DAt B17 51 (.getfield 59) 3 54 := ⟨by decide +kernel, rfl⟩
theorem d17_54 : DAt B17 54 (.iload_n 3) 1 55 := ⟨by decide +kernel, rfl⟩
theorem d17_55 : DAt B17 55 (.iconst 0) 1 56 := ⟨by decide +kernel, rfl⟩
theorem d17_56 : DAt B17 56 (.bastore) 1 57 := ⟨by decide +kernel, rfl⟩
theorem d17_57 : DAt B17 57 (.aload_n 0) 1 58 := ⟨by decide +kernel, rfl⟩
theorem d17_58 : DAt B17 58 (.getfield 41) 3 61 := ⟨by decide +kernel, rfl⟩
theorem d17_61 : DAt B17 61 (.iload_n 1) 1 62 := ⟨by decide +kernel, rfl⟩
theorem d17_62 : DAt B17 62 (.iconst (-1)) 1 63 := ⟨by decide +kernel, rfl⟩
theorem d17_63 : DAt B17 63 (.iastore) 1 64 := ⟨by decide +kernel, rfl⟩
theorem d17_64 : DAt B17 64 (.aload_n 0) 1 65 := ⟨by decide +kernel, rfl⟩
theorem d17_65 : DAt B17 65 (.getfield 32) 3 68 := ⟨by decide +kernel, rfl⟩
theorem d17_68 : DAt B17 68 (.iload_n 1) 1 69 := ⟨by decide +kernel, rfl⟩
theorem d17_69 : DAt B17 69 (.iconst 0) 1 70 := ⟨by decide +kernel, rfl⟩
theorem d17_70 : DAt B17 70 (.iastore) 1 71 := ⟨by decide +kernel, rfl⟩
theorem d17_71 : DAt B17 71 (.aload_n 0) 1 72 := ⟨by decide +kernel, rfl⟩
theorem d17_72 : DAt B17 72 (.getfield 35) 3 75 := ⟨by decide +kernel, rfl⟩
theorem d17_75 : DAt B17 75 (.iload_n 1) 1 76 := ⟨by decide +kernel, rfl⟩
theorem d17_76 : DAt B17 76 (.iconst 0) 1 77 := ⟨by decide +kernel, rfl⟩
theorem d17_77 : DAt B17 77 (.bastore) 1 78 := ⟨by decide +kernel, rfl⟩
theorem d17_78 : DAt B17 78 (.aload_n 0) 1 79 := ⟨by decide +kernel, rfl⟩
theorem d17_79 : DAt B17 79 (.getfield 44) 3 82 := ⟨by decide +kernel, rfl⟩
theorem d17_82 : DAt B17 82 (.iload_n 1) 1 83 := ⟨by decide +kernel, rfl⟩
theorem d17_83 : DAt B17 83 (.iconst 0) 1 84 := ⟨by decide +kernel, rfl⟩
theorem d17_84 : DAt B17 84 (.iastore) 1 85 := ⟨by decide +kernel, rfl⟩
theorem d17_85 : DAt B17 85 (.return_) 1 86 := ⟨by decide +kernel, rfl⟩
def B16 : Bdy := ((⟨"WsClockPager", "release", "(I)I"⟩ : MethodName), prog_1_method_4_code, 3, (some .int), ({ frames := 2, cells := 0, slots := 0, locals := 30 } : Room))
theorem d16_0 : DAt B16 0 (.aload_n 0) 1 1 := ⟨by decide +kernel, rfl⟩
theorem d16_1 : DAt B16 1 (.iload_n 1) 1 2 := ⟨by decide +kernel, rfl⟩
theorem d16_2 : DAt B16 2 (.invokevirtual 111) 3 5 := ⟨by decide +kernel, rfl⟩
theorem d16_5 : DAt B16 5 (.ifCond .ne 10) 3 8 := ⟨by decide +kernel, rfl⟩
theorem d16_8 : DAt B16 8 (.aload_n 0) 1 9 := ⟨by decide +kernel, rfl⟩
theorem d16_9 : DAt B16 9 (.iconst 1) 1 10 := ⟨by decide +kernel, rfl⟩
theorem d16_10 : DAt B16 10 (.putfield 82) 3 13 := ⟨by decide +kernel, rfl⟩
theorem d16_13 : DAt B16 13 (.iconst 1) 1 14 := ⟨by decide +kernel, rfl⟩
theorem d16_14 : DAt B16 14 (.ireturn) 1 15 := ⟨by decide +kernel, rfl⟩
theorem d16_15 : DAt B16 15 (.iconst 0) 1 16 := ⟨by decide +kernel, rfl⟩
theorem d16_16 : DAt B16 16 (.istore_n 2) 1 17 := ⟨by decide +kernel, rfl⟩
theorem d16_17 : DAt B16 17 (.iload_n 2) 1 18 := ⟨by decide +kernel, rfl⟩
theorem d16_18 : DAt B16 18 (.aload_n 0) 1 19 := ⟨by decide +kernel, rfl⟩
theorem d16_19 : DAt B16 19 (.getfield 73) 3 22 := ⟨by decide +kernel, rfl⟩
theorem d16_22 : DAt B16 22 (.if_icmp .ge 19) 3 25 := ⟨by decide +kernel, rfl⟩
theorem d16_25 : DAt B16 25 (.aload_n 0) 1 26 := ⟨by decide +kernel, rfl⟩
theorem d16_26 : DAt B16 26 (.iload_n 1) 1 27 := ⟨by decide +kernel, rfl⟩
theorem d16_27 : DAt B16 27 (.bipush 16) 2 29 := ⟨by decide +kernel, rfl⟩
theorem d16_29 : DAt B16 29 (.imul) 1 30 := ⟨by decide +kernel, rfl⟩
theorem d16_30 : DAt B16 30 (.iload_n 2) 1 31 := ⟨by decide +kernel, rfl⟩
theorem d16_31 : DAt B16 31 (.iadd) 1 32 := ⟨by decide +kernel, rfl⟩
theorem d16_32 : DAt B16 32 (.invokevirtual 115) 3 35 := ⟨by decide +kernel, rfl⟩
theorem d16_35 : DAt B16 35 (.iinc 2 1) 3 38 := ⟨by decide +kernel, rfl⟩
theorem d16_38 : DAt B16 38 (.goto (-21)) 3 41 := ⟨by decide +kernel, rfl⟩
theorem d16_41 : DAt B16 41 (.aload_n 0) 1 42 := ⟨by decide +kernel, rfl⟩
theorem d16_42 : DAt B16 42 (.getfield 13) 3 45 := ⟨by decide +kernel, rfl⟩
theorem d16_45 : DAt B16 45 (.iload_n 1) 1 46 := ⟨by decide +kernel, rfl⟩
theorem d16_46 : DAt B16 46 (.iconst 0) 1 47 := ⟨by decide +kernel, rfl⟩
theorem d16_47 : DAt B16 47 (.iastore) 1 48 := ⟨by decide +kernel, rfl⟩
theorem d16_48 : DAt B16 48 (.aload_n 0) 1 49 := ⟨by decide +kernel, rfl⟩
theorem d16_49 : DAt B16 49 (.getfield 17) 3 52 := ⟨by decide +kernel, rfl⟩
theorem d16_52 : DAt B16 52 (.iload_n 1) 1 53 := ⟨by decide +kernel, rfl⟩
theorem d16_53 : DAt B16 53 (.iconst 0) 1 54 := ⟨by decide +kernel, rfl⟩
theorem d16_54 : DAt B16 54 (.iastore) 1 55 := ⟨by decide +kernel, rfl⟩
theorem d16_55 : DAt B16 55 (.aload_n 0) 1 56 := ⟨by decide +kernel, rfl⟩
theorem d16_56 : DAt B16 56 (.getfield 20) 3 59 := ⟨by decide +kernel, rfl⟩
theorem d16_59 : DAt B16 59 (.iload_n 1) 1 60 := ⟨by decide +kernel, rfl⟩
theorem d16_60 : DAt B16 60 (.iconst 0) 1 61 := ⟨by decide +kernel, rfl⟩
theorem d16_61 : DAt B16 61 (.iastore) 1 62 := ⟨by decide +kernel, rfl⟩
theorem d16_62 : DAt B16 62 (.aload_n 0) 1 63 := ⟨by decide +kernel, rfl⟩
theorem d16_63 : DAt B16 63 (.getfield 23) 3 66 := ⟨by decide +kernel, rfl⟩
theorem d16_66 : DAt B16 66 (.iload_n 1) 1 67 := ⟨by decide +kernel, rfl⟩
theorem d16_67 : DAt B16 67 (.iconst 0) 1 68 := ⟨by decide +kernel, rfl⟩
theorem d16_68 : DAt B16 68 (.iastore) 1 69 := ⟨by decide +kernel, rfl⟩
theorem d16_69 : DAt B16 69 (.aload_n 0) 1 70 := ⟨by decide +kernel, rfl⟩
theorem d16_70 : DAt B16 70 (.getfield 26) 3 73 := ⟨by decide +kernel, rfl⟩
theorem d16_73 : DAt B16 73 (.iload_n 1) 1 74 := ⟨by decide +kernel, rfl⟩
theorem d16_74 : DAt B16 74 (.iconst 0) 1 75 := ⟨by decide +kernel, rfl⟩
theorem d16_75 : DAt B16 75 (.iastore) 1 76 := ⟨by decide +kernel, rfl⟩
theorem d16_76 : DAt B16 76 (.aload_n 0) 1 77 := ⟨by decide +kernel, rfl⟩
theorem d16_77 : DAt B16 77 (.getfield 7) 3 80 := ⟨by decide +kernel, rfl⟩
theorem d16_80 : DAt B16 80 (.iload_n 1) 1 81 := ⟨by decide +kernel, rfl⟩
theorem d16_81 : DAt B16 81 (.iconst 0) 1 82 := ⟨by decide +kernel, rfl⟩
theorem d16_82 : DAt B16 82 (.bastore) 1 83 := ⟨by decide +kernel, rfl⟩
theorem d16_83 : DAt B16 83 (.aload_n 0) 1 84 := ⟨by decide +kernel, rfl⟩
theorem d16_84 : DAt B16 84 (.iload_n 1) 1 85 := ⟨by decide +kernel, rfl⟩
theorem d16_85 : DAt B16 85 (.invokevirtual 107) 3 88 := ⟨by decide +kernel, rfl⟩
theorem d16_88 : DAt B16 88 (.aload_n 0) 1 89 := ⟨by decide +kernel, rfl⟩
theorem d16_89 : DAt B16 89 (.iconst 0) 1 90 := ⟨by decide +kernel, rfl⟩
theorem d16_90 : DAt B16 90 (.putfield 82) 3 93 := ⟨by decide +kernel, rfl⟩
theorem d16_93 : DAt B16 93 (.iconst 0) 1 94 := ⟨by decide +kernel, rfl⟩
theorem d16_94 : DAt B16 94 (.ireturn) 1 95 := ⟨by decide +kernel, rfl⟩
def B0 : Bdy := (x, code, maxLocals, ret, room_1)
theorem d0_0 : DAt B0 0 (.iconst 4) 1 1 := ⟨at_0, rfl⟩
theorem d0_1 : DAt B0 1 (.aload_n 0) 1 2 := ⟨at_1, rfl⟩
theorem d0_2 : DAt B0 2 (.iconst 0) 1 3 := ⟨at_2, rfl⟩
theorem d0_3 : DAt B0 3 (.invokestatic 7) 3 6 := ⟨at_3, rfl⟩
theorem d0_6 : DAt B0 6 (.iconst 3) 1 7 := ⟨at_6, rfl⟩
theorem d0_7 : DAt B0 7 (.iand) 1 8 := ⟨at_7, rfl⟩
theorem d0_8 : DAt B0 8 (.iadd) 1 9 := ⟨at_8, rfl⟩
theorem d0_9 : DAt B0 9 (.istore_n 1) 1 10 := ⟨at_9, rfl⟩
theorem d0_10 : DAt B0 10 (.iconst 1) 1 11 := ⟨at_10, rfl⟩
theorem d0_11 : DAt B0 11 (.aload_n 0) 1 12 := ⟨at_11, rfl⟩
theorem d0_12 : DAt B0 12 (.iconst 1) 1 13 := ⟨at_12, rfl⟩
theorem d0_13 : DAt B0 13 (.invokestatic 7) 3 16 := ⟨at_13, rfl⟩
theorem d0_16 : DAt B0 16 (.bipush 7) 2 18 := ⟨at_16, rfl⟩
theorem d0_18 : DAt B0 18 (.iand) 1 19 := ⟨at_18, rfl⟩
theorem d0_19 : DAt B0 19 (.iadd) 1 20 := ⟨at_19, rfl⟩
theorem d0_20 : DAt B0 20 (.istore_n 2) 1 21 := ⟨at_20, rfl⟩
theorem d0_21 : DAt B0 21 (.new 13) 3 24 := ⟨at_21, rfl⟩
theorem d0_24 : DAt B0 24 (.dup) 1 25 := ⟨at_24, rfl⟩
theorem d0_25 : DAt B0 25 (.iconst 4) 1 26 := ⟨at_25, rfl⟩
theorem d0_26 : DAt B0 26 (.iconst 4) 1 27 := ⟨at_26, rfl⟩
theorem d0_27 : DAt B0 27 (.iload_n 1) 1 28 := ⟨at_27, rfl⟩
theorem d0_28 : DAt B0 28 (.iload_n 2) 1 29 := ⟨at_28, rfl⟩
theorem d0_29 : DAt B0 29 (.invokespecial 15) 3 32 := ⟨at_29, rfl⟩
theorem d0_32 : DAt B0 32 (.astore_n 3) 1 33 := ⟨at_32, rfl⟩
theorem d0_33 : DAt B0 33 (.new 13) 3 36 := ⟨at_33, rfl⟩
theorem d0_36 : DAt B0 36 (.dup) 1 37 := ⟨at_36, rfl⟩
theorem d0_37 : DAt B0 37 (.iconst 1) 1 38 := ⟨at_37, rfl⟩
theorem d0_38 : DAt B0 38 (.bipush 16) 2 40 := ⟨at_38, rfl⟩
theorem d0_40 : DAt B0 40 (.bipush 32) 2 42 := ⟨at_40, rfl⟩
theorem d0_42 : DAt B0 42 (.bipush 16) 2 44 := ⟨at_42, rfl⟩
theorem d0_44 : DAt B0 44 (.invokespecial 15) 3 47 := ⟨at_44, rfl⟩
theorem d0_47 : DAt B0 47 (.astore 4) 2 49 := ⟨at_47, rfl⟩
theorem d0_49 : DAt B0 49 (.iconst 2) 1 50 := ⟨at_49, rfl⟩
theorem d0_50 : DAt B0 50 (.istore 5) 2 52 := ⟨at_50, rfl⟩
theorem d0_52 : DAt B0 52 (.iload 5) 2 54 := ⟨at_52, rfl⟩
theorem d0_54 : DAt B0 54 (.aload_n 0) 1 55 := ⟨at_54, rfl⟩
theorem d0_55 : DAt B0 55 (.arraylength) 1 56 := ⟨at_55, rfl⟩
theorem d0_56 : DAt B0 56 (.if_icmp .ge 206) 3 59 := ⟨at_56, rfl⟩
theorem d0_59 : DAt B0 59 (.aload_n 0) 1 60 := ⟨at_59, rfl⟩
theorem d0_60 : DAt B0 60 (.iload 5) 2 62 := ⟨at_60, rfl⟩
theorem d0_62 : DAt B0 62 (.invokestatic 7) 3 65 := ⟨at_62, rfl⟩
theorem d0_65 : DAt B0 65 (.istore 6) 2 67 := ⟨at_65, rfl⟩
theorem d0_67 : DAt B0 67 (.iload 6) 2 69 := ⟨at_67, rfl⟩
theorem d0_69 : DAt B0 69 (.bipush 15) 2 71 := ⟨at_69, rfl⟩
theorem d0_71 : DAt B0 71 (.iand) 1 72 := ⟨at_71, rfl⟩
theorem d0_72 : DAt B0 72 (.istore 7) 2 74 := ⟨at_72, rfl⟩
theorem d0_74 : DAt B0 74 (.iload 6) 2 76 := ⟨at_74, rfl⟩
theorem d0_76 : DAt B0 76 (.iconst 4) 1 77 := ⟨at_76, rfl⟩
theorem d0_77 : DAt B0 77 (.iushr) 1 78 := ⟨at_77, rfl⟩
theorem d0_78 : DAt B0 78 (.iconst 3) 1 79 := ⟨at_78, rfl⟩
theorem d0_79 : DAt B0 79 (.iand) 1 80 := ⟨at_79, rfl⟩
theorem d0_80 : DAt B0 80 (.istore 8) 2 82 := ⟨at_80, rfl⟩
theorem d0_82 : DAt B0 82 (.iload 6) 2 84 := ⟨at_82, rfl⟩
theorem d0_84 : DAt B0 84 (.bipush 6) 2 86 := ⟨at_84, rfl⟩
theorem d0_86 : DAt B0 86 (.iushr) 1 87 := ⟨at_86, rfl⟩
theorem d0_87 : DAt B0 87 (.bipush 15) 2 89 := ⟨at_87, rfl⟩
theorem d0_89 : DAt B0 89 (.iand) 1 90 := ⟨at_89, rfl⟩
theorem d0_90 : DAt B0 90 (.istore 9) 2 92 := ⟨at_90, rfl⟩
theorem d0_92 : DAt B0 92 (.iload 7) 2 94 := ⟨at_92, rfl⟩
theorem d0_94 : DAt B0 94 (.bipush 7) 2 96 := ⟨at_94, rfl⟩
theorem d0_96 : DAt B0 96 (.if_icmp .ge 53) 3 99 := ⟨at_96, rfl⟩
theorem d0_99 : DAt B0 99 (.iload 6) 2 101 := ⟨at_99, rfl⟩
theorem d0_101 : DAt B0 101 (.bipush 10) 2 103 := ⟨at_101, rfl⟩
theorem d0_103 : DAt B0 103 (.ishr) 1 104 := ⟨at_103, rfl⟩
theorem d0_104 : DAt B0 104 (.iload 5) 2 106 := ⟨at_104, rfl⟩
theorem d0_106 : DAt B0 106 (.ldc 18) 2 108 := ⟨at_106, rfl⟩
theorem d0_108 : DAt B0 108 (.imul) 1 109 := ⟨at_108, rfl⟩
theorem d0_109 : DAt B0 109 (.ixor) 1 110 := ⟨at_109, rfl⟩
theorem d0_110 : DAt B0 110 (.istore 10) 2 112 := ⟨at_110, rfl⟩
theorem d0_112 : DAt B0 112 (.aload_n 3) 1 113 := ⟨at_112, rfl⟩
theorem d0_113 : DAt B0 113 (.iload 8) 2 115 := ⟨at_113, rfl⟩
theorem d0_115 : DAt B0 115 (.iload 9) 2 117 := ⟨at_115, rfl⟩
theorem d0_117 : DAt B0 117 (.iload 10) 2 119 := ⟨at_117, rfl⟩
theorem d0_119 : DAt B0 119 (.invokevirtual 19) 3 122 := ⟨at_119, rfl⟩
theorem d0_122 : DAt B0 122 (.istore 11) 2 124 := ⟨at_122, rfl⟩
theorem d0_124 : DAt B0 124 (.iload 11) 2 126 := ⟨at_124, rfl⟩
theorem d0_126 : DAt B0 126 (.ifCond .ne 20) 3 129 := ⟨at_126, rfl⟩
theorem d0_129 : DAt B0 129 (.aload 4) 2 131 := ⟨at_129, rfl⟩
theorem d0_131 : DAt B0 131 (.iconst 0) 1 132 := ⟨at_131, rfl⟩
theorem d0_132 : DAt B0 132 (.iload 8) 2 134 := ⟨at_132, rfl⟩
theorem d0_134 : DAt B0 134 (.bipush 16) 2 136 := ⟨at_134, rfl⟩
theorem d0_136 : DAt B0 136 (.imul) 1 137 := ⟨at_136, rfl⟩
theorem d0_137 : DAt B0 137 (.iload 9) 2 139 := ⟨at_137, rfl⟩
theorem d0_139 : DAt B0 139 (.iadd) 1 140 := ⟨at_139, rfl⟩
theorem d0_140 : DAt B0 140 (.iload 10) 2 142 := ⟨at_140, rfl⟩
theorem d0_142 : DAt B0 142 (.invokevirtual 19) 3 145 := ⟨at_142, rfl⟩
theorem d0_145 : DAt B0 145 (.pop) 1 146 := ⟨at_145, rfl⟩
theorem d0_146 : DAt B0 146 (.goto 110) 3 149 := ⟨at_146, rfl⟩
theorem d0_149 : DAt B0 149 (.iload 7) 2 151 := ⟨at_149, rfl⟩
theorem d0_151 : DAt B0 151 (.bipush 14) 2 153 := ⟨at_151, rfl⟩
theorem d0_153 : DAt B0 153 (.if_icmp .ge 58) 3 156 := ⟨at_153, rfl⟩
theorem d0_156 : DAt B0 156 (.aload_n 3) 1 157 := ⟨at_156, rfl⟩
theorem d0_157 : DAt B0 157 (.iload 8) 2 159 := ⟨at_157, rfl⟩
theorem d0_159 : DAt B0 159 (.iload 9) 2 161 := ⟨at_159, rfl⟩
theorem d0_161 : DAt B0 161 (.invokevirtual 23) 3 164 := ⟨at_161, rfl⟩
theorem d0_164 : DAt B0 164 (.lstore 10) 2 166 := ⟨at_164, rfl⟩
theorem d0_166 : DAt B0 166 (.lload 10) 2 168 := ⟨at_166, rfl⟩
theorem d0_168 : DAt B0 168 (.ldc2_w 27) 3 171 := ⟨at_168, rfl⟩
theorem d0_171 : DAt B0 171 (.lcmp) 1 172 := ⟨at_171, rfl⟩
theorem d0_172 : DAt B0 172 (.ifCond .eq 36) 3 175 := ⟨at_172, rfl⟩
theorem d0_175 : DAt B0 175 (.aload_n 3) 1 176 := ⟨at_175, rfl⟩
theorem d0_176 : DAt B0 176 (.invokevirtual 29) 3 179 := ⟨at_176, rfl⟩
theorem d0_179 : DAt B0 179 (.ifCond .ne 29) 3 182 := ⟨at_179, rfl⟩
theorem d0_182 : DAt B0 182 (.aload 4) 2 184 := ⟨at_182, rfl⟩
theorem d0_184 : DAt B0 184 (.iconst 0) 1 185 := ⟨at_184, rfl⟩
theorem d0_185 : DAt B0 185 (.iload 8) 2 187 := ⟨at_185, rfl⟩
theorem d0_187 : DAt B0 187 (.bipush 16) 2 189 := ⟨at_187, rfl⟩
theorem d0_189 : DAt B0 189 (.imul) 1 190 := ⟨at_189, rfl⟩
theorem d0_190 : DAt B0 190 (.iload 9) 2 192 := ⟨at_190, rfl⟩
theorem d0_192 : DAt B0 192 (.iadd) 1 193 := ⟨at_192, rfl⟩
theorem d0_193 : DAt B0 193 (.invokevirtual 23) 3 196 := ⟨at_193, rfl⟩
theorem d0_196 : DAt B0 196 (.lstore 12) 2 198 := ⟨at_196, rfl⟩
theorem d0_198 : DAt B0 198 (.lload 10) 2 200 := ⟨at_198, rfl⟩
theorem d0_200 : DAt B0 200 (.lload 12) 2 202 := ⟨at_200, rfl⟩
theorem d0_202 : DAt B0 202 (.lcmp) 1 203 := ⟨at_202, rfl⟩
theorem d0_203 : DAt B0 203 (.ifCond .eq 5) 3 206 := ⟨at_203, rfl⟩
theorem d0_206 : DAt B0 206 (.iconst 0) 1 207 := ⟨at_206, rfl⟩
theorem d0_207 : DAt B0 207 (.ireturn) 1 208 := ⟨at_207, rfl⟩
theorem d0_208 : DAt B0 208 (.goto 48) 3 211 := ⟨at_208, rfl⟩
theorem d0_211 : DAt B0 211 (.aload_n 3) 1 212 := ⟨at_211, rfl⟩
theorem d0_212 : DAt B0 212 (.iload 8) 2 214 := ⟨at_212, rfl⟩
theorem d0_214 : DAt B0 214 (.invokevirtual 33) 3 217 := ⟨at_214, rfl⟩
theorem d0_217 : DAt B0 217 (.istore 10) 2 219 := ⟨at_217, rfl⟩
theorem d0_219 : DAt B0 219 (.iload 10) 2 221 := ⟨at_219, rfl⟩
theorem d0_221 : DAt B0 221 (.ifCond .ne 35) 3 224 := ⟨at_221, rfl⟩
theorem d0_224 : DAt B0 224 (.iconst 0) 1 225 := ⟨at_224, rfl⟩
theorem d0_225 : DAt B0 225 (.istore 11) 2 227 := ⟨at_225, rfl⟩
theorem d0_227 : DAt B0 227 (.iload 11) 2 229 := ⟨at_227, rfl⟩
theorem d0_229 : DAt B0 229 (.bipush 16) 2 231 := ⟨at_229, rfl⟩
theorem d0_231 : DAt B0 231 (.if_icmp .ge 25) 3 234 := ⟨at_231, rfl⟩
theorem d0_234 : DAt B0 234 (.aload 4) 2 236 := ⟨at_234, rfl⟩
theorem d0_236 : DAt B0 236 (.iconst 0) 1 237 := ⟨at_236, rfl⟩
theorem d0_237 : DAt B0 237 (.iload 8) 2 239 := ⟨at_237, rfl⟩
theorem d0_239 : DAt B0 239 (.bipush 16) 2 241 := ⟨at_239, rfl⟩
theorem d0_241 : DAt B0 241 (.imul) 1 242 := ⟨at_241, rfl⟩
theorem d0_242 : DAt B0 242 (.iload 11) 2 244 := ⟨at_242, rfl⟩
theorem d0_244 : DAt B0 244 (.iadd) 1 245 := ⟨at_244, rfl⟩
theorem d0_245 : DAt B0 245 (.iconst 0) 1 246 := ⟨at_245, rfl⟩
theorem d0_246 : DAt B0 246 (.invokevirtual 19) 3 249 := ⟨at_246, rfl⟩
theorem d0_249 : DAt B0 249 (.pop) 1 250 := ⟨at_249, rfl⟩
theorem d0_250 : DAt B0 250 (.iinc 11 1) 3 253 := ⟨at_250, rfl⟩
theorem d0_253 : DAt B0 253 (.goto (-26)) 3 256 := ⟨at_253, rfl⟩
theorem d0_256 : DAt B0 256 (.iinc 5 1) 3 259 := ⟨at_256, rfl⟩
theorem d0_259 : DAt B0 259 (.goto (-207)) 3 262 := ⟨at_259, rfl⟩
theorem d0_262 : DAt B0 262 (.iconst 1) 1 263 := ⟨at_262, rfl⟩
theorem d0_263 : DAt B0 263 (.ireturn) 1 264 := ⟨at_263, rfl⟩
theorem ar1 : arity B1 2 := ⟨[(.array .int), .int], some .int, by decide +kernel, rfl⟩
theorem ar2 : arity B2 4 := ⟨[.int, .int, .int, .int], none, by decide +kernel, rfl⟩
theorem ar3 : arity B3 3 := ⟨[.int, .int, .int], some .int, by decide +kernel, rfl⟩
theorem ar4 : arity B4 3 := ⟨[.int, .int, .int], some .int, by decide +kernel, rfl⟩
theorem ar5 : arity B5 2 := ⟨[.int, .int], some .int, by decide +kernel, rfl⟩
theorem ar6 : arity B6 1 := ⟨[.int], some .boolean, by decide +kernel, rfl⟩
theorem ar7 : arity B7 2 := ⟨[.int, .int], some .int, by decide +kernel, rfl⟩
theorem ar8 : arity B8 0 := ⟨[], some .int, by decide +kernel, rfl⟩
theorem ar9 : arity B9 2 := ⟨[.int, .int], none, by decide +kernel, rfl⟩
theorem ar10 : arity B10 2 := ⟨[.int, .int], none, by decide +kernel, rfl⟩
theorem ar11 : arity B11 2 := ⟨[.int, .int], none, by decide +kernel, rfl⟩
theorem ar12 : arity B12 1 := ⟨[.int], none, by decide +kernel, rfl⟩
theorem ar13 : arity B13 0 := ⟨[], some .int, by decide +kernel, rfl⟩
theorem ar14 : arity B14 2 := ⟨[.int, .int], some .long, by decide +kernel, rfl⟩
theorem ar15 : arity B15 0 := ⟨[], some .int, by decide +kernel, rfl⟩
theorem ar16 : arity B16 1 := ⟨[.int], some .int, by decide +kernel, rfl⟩
theorem ar17 : arity B17 1 := ⟨[.int], none, by decide +kernel, rfl⟩
theorem ar18 : arity B18 0 := ⟨[], some .int, by decide +kernel, rfl⟩
theorem ar19 : arity B19 1 := ⟨[.int], none, by decide +kernel, rfl⟩
theorem ar20 : arity B20 1 := ⟨[.int], some .int, by decide +kernel, rfl⟩
theorem ar21 : arity B21 1 := ⟨[.int], none, by decide +kernel, rfl⟩
theorem ar22 : arity B22 0 := ⟨[], some .int, by decide +kernel, rfl⟩
theorem cw1 : code_w B1 := ⟨mem1 3 rfl, mem1 2 rfl, by decide⟩
theorem cw2 : code_w B2 := ⟨mem1 9 rfl, mem1 6 rfl, by decide⟩
theorem cw3 : code_w B3 := ⟨mem1 54 rfl, mem1 6 rfl, by decide⟩
theorem cw4 : code_w B4 := ⟨mem1 76 rfl, mem1 6 rfl, by decide⟩
theorem cw5 : code_w B5 := ⟨mem1 80 rfl, mem1 6 rfl, by decide⟩
theorem cw6 : code_w B6 := ⟨mem1 84 rfl, mem1 6 rfl, by decide⟩
theorem cw7 : code_w B7 := ⟨mem1 88 rfl, mem1 6 rfl, by decide⟩
theorem cw8 : code_w B8 := ⟨mem1 92 rfl, mem1 6 rfl, by decide⟩
theorem cw9 : code_w B9 := ⟨mem1 96 rfl, mem1 6 rfl, by decide⟩
theorem cw10 : code_w B10 := ⟨mem1 100 rfl, mem1 6 rfl, by decide⟩
theorem cw11 : code_w B11 := ⟨mem1 104 rfl, mem1 6 rfl, by decide⟩
theorem cw12 : code_w B12 := ⟨mem1 108 rfl, mem1 6 rfl, by decide⟩
theorem cw13 : code_w B13 := ⟨mem1 113 rfl, mem1 6 rfl, by decide⟩
theorem cw14 : code_w B14 := ⟨mem1 118 rfl, mem1 6 rfl, by decide⟩
theorem cw15 : code_w B15 := ⟨mem1 124 rfl, mem1 6 rfl, by decide⟩
theorem cw16 : code_w B16 := ⟨mem1 129 rfl, mem1 6 rfl, by decide⟩
theorem cw17 : code_w B17 := ⟨mem1 133 rfl, mem1 6 rfl, by decide⟩
theorem cw18 : code_w B18 := ⟨mem1 137 rfl, mem1 6 rfl, by decide⟩
theorem cw19 : code_w B19 := ⟨mem1 141 rfl, mem1 6 rfl, by decide⟩
theorem cw20 : code_w B20 := ⟨mem1 145 rfl, mem1 6 rfl, by decide⟩
theorem cw21 : code_w B21 := ⟨mem1 149 rfl, mem1 6 rfl, by decide⟩
theorem cw22 : code_w B22 := ⟨mem1 153 rfl, mem1 6 rfl, by decide⟩
theorem rk0_1_0 : room_ok B0 B1 0 := by decide
theorem rk0_1_1 : room_ok B0 B1 1 := by decide
theorem rk0_4_0 : room_ok B0 B4 0 := by decide
theorem rk0_14_0 : room_ok B0 B14 0 := by decide
theorem rk0_15_0 : room_ok B0 B15 0 := by decide
theorem rk0_16_0 : room_ok B0 B16 0 := by decide
theorem rk2_3_1 : room_ok B2 B3 1 := by decide
theorem rk4_5_0 : room_ok B4 B5 0 := by decide
theorem rk4_7_0 : room_ok B4 B7 0 := by decide
theorem rk4_10_0 : room_ok B4 B10 0 := by decide
theorem rk4_12_0 : room_ok B4 B12 0 := by decide
theorem rk5_6_0 : room_ok B5 B6 0 := by decide
theorem rk7_8_0 : room_ok B7 B8 0 := by decide
theorem rk7_9_0 : room_ok B7 B9 0 := by decide
theorem rk7_18_0 : room_ok B7 B18 0 := by decide
theorem rk7_19_0 : room_ok B7 B19 0 := by decide
theorem rk10_11_0 : room_ok B10 B11 0 := by decide
theorem rk12_13_0 : room_ok B12 B13 0 := by decide
theorem rk12_20_0 : room_ok B12 B20 0 := by decide
theorem rk14_5_0 : room_ok B14 B5 0 := by decide
theorem rk14_7_0 : room_ok B14 B7 0 := by decide
theorem rk14_10_0 : room_ok B14 B10 0 := by decide
theorem rk14_12_0 : room_ok B14 B12 0 := by decide
theorem rk16_6_0 : room_ok B16 B6 0 := by decide
theorem rk16_12_0 : room_ok B16 B12 0 := by decide
theorem rk16_17_0 : room_ok B16 B17 0 := by decide
theorem rk18_21_0 : room_ok B18 B21 0 := by decide
theorem rk19_21_0 : room_ok B19 B21 0 := by decide
theorem rk21_22_0 : room_ok B21 B22 0 := by decide
def L_cell (z : Int32) (f : Int32 → Int32) (i1 : Int32) : Option (Int32) :=
  if i1 < z then
    chk z i1 <|
    some (f i1)
  else
    some (0 : Int32)
set_option maxRecDepth 65536 in
set_option maxHeartbeats 4000000 in
theorem L_cell_p {C : Ctx} {G : AH} {sa : Nat} {z : Int32} {f : Int32 → Int32} (hs : ScrF C sa z f) {res : Int32} (i1 : Int32) (hf : L_cell z f i1 = some res) : Runs C B1 0 0 0 [vr sa, vi i1] [] G (Ans (some (.int res)) G) := by
  delta L_cell at hf
  refine Runs.iloadN d1_0 rfl <| Runs.aloadN d1_1 rfl <| Runs.lenS hs d1_2 <| ?_
  refine ite_el hf (fun hc1 hf => ?_) (fun hc1 hf => ?_)
  · refine Runs.icN d1_3 (tlt hc1).2.1 <| ?_
    refine Runs.aloadN d1_6 rfl <| Runs.iloadN d1_7 rfl <| ?_
    refine chk_el hf fun hi2 hf => ?_
    obtain rfl := Option.some.inj hf
    exact Runs.ialoadS hs d1_8 hi2 <| Runs.goto (pc' := 13) d1_9 (by decide) <| Runs.retI d1_13 rfl ⟨by decide, by decide⟩ ⟨rfl, rfl⟩
  · refine Runs.icY (pc' := 12) d1_3 (flt hc1).2.1 (by decide) <| ?_
    obtain rfl := Option.some.inj hf
    exact Runs.iconst d1_12 ci_0 <| Runs.retI d1_13 rfl ⟨by decide, by decide⟩ ⟨rfl, rfl⟩
theorem L_cell_pay {C : Ctx} {G : AH} {sa : Nat} {z : Int32} {f : Int32 → Int32} (hs : ScrF C sa z f) {res : Int32} {i1 : Int32} (hf : L_cell z f i1 = some res) : Pays C B1 [.ref sa, .int i1] G (Ans (some (.int res)) G) :=
  Pays.of pnL (Nat.le_of_ble_eq_true rfl) (P := [vr sa, vi i1]) 0 rfl (L_cell_p hs i1 hf)
def X_clamp (ob : Rec) (i1 : Int32) (i2 : Int32) (i3 : Int32) : Option (Int32) :=
  if i1 < i2 then
    some i2
  else
    if i3 < i1 then
      some i3
    else
      some i1
set_option maxRecDepth 65536 in
set_option maxHeartbeats 4000000 in
theorem X_clamp_p {C : Ctx} {top : Nat} {a : Nat} {H : List (Nat × Nat × Rec)} {ob : Rec} {res : Int32} (i1 : Int32) (i2 : Int32) (i3 : Int32) (hf : X_clamp ob i1 i2 i3 = some res) : Runs C B3 0 0 0 [vr a, vi i1, vi i2, vi i3] [] (top, (a, 18, ob) :: H) (Ans (some (.int res)) (top, (a, 18, ob) :: H)) := by
  delta X_clamp at hf
  refine Runs.iloadN d3_0 rfl <| Runs.iloadN d3_1 rfl <| ?_
  refine ite_el hf (fun hc1 hf => ?_) (fun hc1 hf => ?_)
  · refine Runs.icN d3_2 (tlt hc1).2.1 <| ?_
    obtain rfl := Option.some.inj hf
    exact Runs.iloadN d3_5 rfl <| Runs.retI d3_6 rfl ⟨by decide, by decide⟩ ⟨rfl, rfl⟩
  · refine Runs.icY (pc' := 7) d3_2 (flt hc1).2.1 (by decide) <| ?_
    refine Runs.iloadN d3_7 rfl <| Runs.iloadN d3_8 rfl <| ?_
    refine ite_el hf (fun hc2 hf => ?_) (fun hc2 hf => ?_)
    · refine Runs.icN d3_9 (tlt hc2).2.2.2 <| ?_
      obtain rfl := Option.some.inj hf
      exact Runs.iloadN d3_12 rfl <| Runs.retI d3_13 rfl ⟨by decide, by decide⟩ ⟨rfl, rfl⟩
    · refine Runs.icY (pc' := 14) d3_9 (flt hc2).2.2.2 (by decide) <| ?_
      obtain rfl := Option.some.inj hf
      exact Runs.iloadN d3_14 rfl <| Runs.retI d3_15 rfl ⟨by decide, by decide⟩ ⟨rfl, rfl⟩
theorem X_clamp_pay {C : Ctx} {top : Nat} {a : Nat} {H : List (Nat × Nat × Rec)} {ob : Rec} {res : Int32} {i1 : Int32} {i2 : Int32} {i3 : Int32} (hf : X_clamp ob i1 i2 i3 = some res) : Pays C B3 [.ref a, .int i1, .int i2, .int i3] (top, (a, 18, ob) :: H) (Ans (some (.int res)) (top, (a, 18, ob) :: H)) :=
  Pays.of pnK (Nat.le_of_ble_eq_true rfl) (P := [vr a, vi i1, vi i2, vi i3]) 0 rfl (X_clamp_p i1 i2 i3 hf)
def X_init_w247 (NF : Nat) (k247 : Rec → Int32 → Option (Rec)) (ob : Rec) (i5 : Int32) : Option (Rec) :=
  if i5 < (32 : Int32) then
    chk (32 : Int32) i5 <|
    k247 (sA ob 12 i5 (-1 : Int32)) (i5 + (1 : Int32))
  else
    some ob
def X_init_l247 (NF : Nat) : Nat → Rec → Int32 → Option (Rec)
  | 0, _, _ => none
  | n + 1, ob, i5 => X_init_w247 NF (X_init_l247 NF n) ob i5
set_option maxRecDepth 65536 in
set_option maxHeartbeats 4000000 in
theorem X_init_w247_p {C : Ctx} {a : Nat} {H : List (Nat × Nat × Rec)} {res : Rec} {NF : Nat} (k247 : Rec → Int32 → Option (Rec)) (hk247 : ∀ (ob : Rec) (i5 : Int32), k247 ob i5 = some res → Runs C B2 18 952 247 [vr a, vn, vn, vn, vn, vi i5] [] (a + 1 + 18, (a, 18, ob) :: H) (Ans none (a + 1 + 18, (a, 18, res) :: H))) (ob : Rec) (i5 : Int32) (hf : X_init_w247 NF k247 ob i5 = some res) : Runs C B2 18 952 247 [vr a, vn, vn, vn, vn, vi i5] [] (a + 1 + 18, (a, 18, ob) :: H) (Ans none (a + 1 + 18, (a, 18, res) :: H)) := by
  delta X_init_w247 at hf
  refine Runs.iload d2_247 rfl <| Runs.bipush d2_249 cb_32 <| ?_
  refine ite_el hf (fun hc4 hf => ?_) (fun hc4 hf => ?_)
  · refine Runs.icN d2_251 (tlt hc4).2.1 <| ?_
    refine Runs.aloadN d2_254 rfl <| Runs.getA d2_255 fA_12 w39 (by decide) <| Runs.iload d2_258 rfl <| Runs.iconst d2_260 ci_m1 <| ?_
    refine chk_el hf fun hi5 hf => ?_
    exact Runs.iastoreA d2_261 fA_12 (by decide) hi5 <| Runs.iinc (P' := [vr a, vn, vn, vn, vn, vi (i5 + (1 : Int32))]) d2_262 ci_1 rfl (by decide) rfl <| Runs.goto (pc' := 247) d2_265 (by decide) <| hk247 (sA ob 12 i5 (-1 : Int32)) (i5 + (1 : Int32)) hf
  · refine Runs.icY (pc' := 268) d2_251 (flt hc4).2.1 (by decide) <| ?_
    obtain rfl := Option.some.inj hf
    exact Runs.retV d2_268 rfl ⟨by decide, by decide⟩ ⟨rfl, rfl⟩
theorem X_init_l247_p {C : Ctx} {a : Nat} {H : List (Nat × Nat × Rec)} {res : Rec} {NF : Nat} (n : Nat) (ob : Rec) (i5 : Int32) (hf : X_init_l247 NF n ob i5 = some res) : Runs C B2 18 952 247 [vr a, vn, vn, vn, vn, vi i5] [] (a + 1 + 18, (a, 18, ob) :: H) (Ans none (a + 1 + 18, (a, 18, res) :: H)) := by
  induction n generalizing ob i5 with
  | zero => cases (show (none : Option (Rec)) = some res from hf)
  | succ n ih => exact X_init_w247_p (X_init_l247 NF n) (fun ob i5 h => ih _ _ h) ob i5 hf
def X_init_w215 (NF : Nat) (k215 : Rec → Int32 → Option (Rec)) (ob : Rec) (i5 : Int32) : Option (Rec) :=
  if i5 < (64 : Int32) then
    chk (64 : Int32) i5 <|
    chk (64 : Int32) i5 <|
    k215 (sA (sA ob 9 i5 (-1 : Int32)) 10 i5 (-1 : Int32)) (i5 + (1 : Int32))
  else
    X_init_l247 NF NF ob (0 : Int32)
def X_init_l215 (NF : Nat) : Nat → Rec → Int32 → Option (Rec)
  | 0, _, _ => none
  | n + 1, ob, i5 => X_init_w215 NF (X_init_l215 NF n) ob i5
set_option maxRecDepth 65536 in
set_option maxHeartbeats 4000000 in
theorem X_init_w215_p {C : Ctx} {a : Nat} {H : List (Nat × Nat × Rec)} {res : Rec} {NF : Nat} (k215 : Rec → Int32 → Option (Rec)) (hk215 : ∀ (ob : Rec) (i5 : Int32), k215 ob i5 = some res → Runs C B2 18 952 215 [vr a, vn, vn, vn, vn, vi i5] [] (a + 1 + 18, (a, 18, ob) :: H) (Ans none (a + 1 + 18, (a, 18, res) :: H))) (ob : Rec) (i5 : Int32) (hf : X_init_w215 NF k215 ob i5 = some res) : Runs C B2 18 952 215 [vr a, vn, vn, vn, vn, vi i5] [] (a + 1 + 18, (a, 18, ob) :: H) (Ans none (a + 1 + 18, (a, 18, res) :: H)) := by
  delta X_init_w215 at hf
  refine Runs.iload d2_215 rfl <| Runs.bipush d2_217 cb_64 <| ?_
  refine ite_el hf (fun hc1 hf => ?_) (fun hc1 hf => ?_)
  · refine Runs.icN d2_219 (tlt hc1).2.1 <| ?_
    refine Runs.aloadN d2_222 rfl <| Runs.getA d2_223 fA_9 w33 (by decide) <| Runs.iload d2_226 rfl <| Runs.iconst d2_228 ci_m1 <| ?_
    refine chk_el hf fun hi2 hf => ?_
    refine Runs.iastoreA d2_229 fA_9 (by decide) hi2 <| Runs.aloadN d2_230 rfl <| Runs.getA d2_231 fA_10 w35 (by decide) <| Runs.iload d2_234 rfl <| Runs.iconst d2_236 ci_m1 <| ?_
    refine chk_el hf fun hi3 hf => ?_
    exact Runs.iastoreA d2_237 fA_10 (by decide) hi3 <| Runs.iinc (P' := [vr a, vn, vn, vn, vn, vi (i5 + (1 : Int32))]) d2_238 ci_1 rfl (by decide) rfl <| Runs.goto (pc' := 215) d2_241 (by decide) <| hk215 (sA (sA ob 9 i5 (-1 : Int32)) 10 i5 (-1 : Int32)) (i5 + (1 : Int32)) hf
  · refine Runs.icY (pc' := 244) d2_219 (flt hc1).2.1 (by decide) <| ?_
    exact Runs.iconst d2_244 ci_0 <| Runs.istore (P' := [vr a, vn, vn, vn, vn, vi (0 : Int32)]) d2_245 (by decide) rfl <| X_init_l247_p NF ob (0 : Int32) hf
theorem X_init_l215_p {C : Ctx} {a : Nat} {H : List (Nat × Nat × Rec)} {res : Rec} {NF : Nat} (n : Nat) (ob : Rec) (i5 : Int32) (hf : X_init_l215 NF n ob i5 = some res) : Runs C B2 18 952 215 [vr a, vn, vn, vn, vn, vi i5] [] (a + 1 + 18, (a, 18, ob) :: H) (Ans none (a + 1 + 18, (a, 18, res) :: H)) := by
  induction n generalizing ob i5 with
  | zero => cases (show (none : Option (Rec)) = some res from hf)
  | succ n ih => exact X_init_w215_p (X_init_l215 NF n) (fun ob i5 h => ih _ _ h) ob i5 hf
def X_init (NF : Nat) (i1 : Int32) (i2 : Int32) (i3 : Int32) (i4 : Int32) : Option (Rec) :=
  (X_clamp zrec i1 (1 : Int32) (4 : Int32)).bind fun r6 =>
  (X_clamp (sI zrec 0 r6) i2 (4 : Int32) (16 : Int32)).bind fun r8 =>
  (X_clamp (sI (sI zrec 0 r6) 1 r8) i3 (4 : Int32) (32 : Int32)).bind fun r10 =>
  (X_clamp (sI (sI (sI zrec 0 r6) 1 r8) 2 r10) i4 (1 : Int32) (16 : Int32)).bind fun r12 =>
  X_init_l215 NF NF (sI (sI (sI (sI (sI (sI (sI (sI zrec 0 r6) 1 r8) 2 r10) 3 r12) 4 (0 : Int32)) 5 (0 : Int32)) 6 (0 : Int32)) 7 (0 : Int32)) (0 : Int32)
set_option maxRecDepth 65536 in
set_option maxHeartbeats 4000000 in
theorem X_init_p {C : Ctx} {a : Nat} {H : List (Nat × Nat × Rec)} {res : Rec} {NF : Nat} (i1 : Int32) (i2 : Int32) (i3 : Int32) (i4 : Int32) (hf : X_init NF i1 i2 i3 i4 = some res) : Runs C B2 0 0 0 [vr a, vi i1, vi i2, vi i3, vi i4, vn] [] (a + 1, (a, 0, zrec) :: H) (Ans none (a + 1 + 18, (a, 18, res) :: H)) := by
  delta X_init at hf
  refine Runs.aloadN d2_0 rfl <| Runs.initO (W := 0) d2_1 w10 w11 w12 rfl (by decide) <| Runs.aloadN d2_4 rfl <| Runs.iconst d2_5 ci_4 <| Runs.newArr (j' := 1) (top' := a + 1 + 1) (k' := 1) (n' := 4) d2_6 d2_8 fA_0 w14 rfl w13 (Or.inl w15) rfl (by decide) ⟨by decide, by decide⟩ ⟨fun _ => rfl, fun _ => rfl⟩ rfl rfl rfl (by decide) <| Runs.aloadN d2_11 rfl <| Runs.iconst d2_12 ci_4 <| Runs.newArr (j' := 2) (top' := a + 1 + 2) (k' := 2) (n' := 8) d2_13 d2_15 fA_1 w17 rfl w16 (Or.inl w18) rfl (by decide) ⟨by decide, by decide⟩ ⟨fun _ => rfl, fun _ => rfl⟩ rfl rfl rfl (by decide) <| Runs.aloadN d2_18 rfl <| Runs.iconst d2_19 ci_4 <| Runs.newArr (j' := 3) (top' := a + 1 + 3) (k' := 3) (n' := 12) d2_20 d2_22 fA_2 w19 rfl w16 (Or.inl w20) rfl (by decide) ⟨by decide, by decide⟩ ⟨fun _ => rfl, fun _ => rfl⟩ rfl rfl rfl (by decide) <| Runs.aloadN d2_25 rfl <| ?_
  refine Runs.iconst d2_26 ci_4 <| Runs.newArr (j' := 4) (top' := a + 1 + 4) (k' := 4) (n' := 16) d2_27 d2_29 fA_3 w21 rfl w16 (Or.inl w22) rfl (by decide) ⟨by decide, by decide⟩ ⟨fun _ => rfl, fun _ => rfl⟩ rfl rfl rfl (by decide) <| Runs.aloadN d2_32 rfl <| Runs.iconst d2_33 ci_4 <| Runs.newArr (j' := 5) (top' := a + 1 + 5) (k' := 5) (n' := 20) d2_34 d2_36 fA_4 w23 rfl w16 (Or.inl w24) rfl (by decide) ⟨by decide, by decide⟩ ⟨fun _ => rfl, fun _ => rfl⟩ rfl rfl rfl (by decide) <| Runs.aloadN d2_39 rfl <| Runs.iconst d2_40 ci_4 <| Runs.newArr (j' := 6) (top' := a + 1 + 6) (k' := 6) (n' := 24) d2_41 d2_43 fA_5 w25 rfl w16 (Or.inl w26) rfl (by decide) ⟨by decide, by decide⟩ ⟨fun _ => rfl, fun _ => rfl⟩ rfl rfl rfl (by decide) <| Runs.aloadN d2_46 rfl <| Runs.bipush d2_47 cb_64 <| Runs.newArr (j' := 7) (top' := a + 1 + 7) (k' := 7) (n' := 88) d2_49 d2_51 fA_6 w27 rfl w16 (Or.inl w28) rfl (by decide) ⟨by decide, by decide⟩ ⟨fun _ => rfl, fun _ => rfl⟩ rfl rfl rfl (by decide) <| Runs.aloadN d2_54 rfl <| ?_
  refine Runs.bipush d2_55 cb_64 <| Runs.newArr (j' := 8) (top' := a + 1 + 8) (k' := 8) (n' := 152) d2_57 d2_59 fA_7 w29 rfl w16 (Or.inl w30) rfl (by decide) ⟨by decide, by decide⟩ ⟨fun _ => rfl, fun _ => rfl⟩ rfl rfl rfl (by decide) <| Runs.aloadN d2_62 rfl <| Runs.bipush d2_63 cb_64 <| Runs.newArr (j' := 9) (top' := a + 1 + 9) (k' := 9) (n' := 216) d2_65 d2_67 fA_8 w31 rfl w13 (Or.inl w32) rfl (by decide) ⟨by decide, by decide⟩ ⟨fun _ => rfl, fun _ => rfl⟩ rfl rfl rfl (by decide) <| Runs.aloadN d2_70 rfl <| Runs.bipush d2_71 cb_64 <| Runs.newArr (j' := 10) (top' := a + 1 + 10) (k' := 10) (n' := 280) d2_73 d2_75 fA_9 w33 rfl w16 (Or.inl w34) rfl (by decide) ⟨by decide, by decide⟩ ⟨fun _ => rfl, fun _ => rfl⟩ rfl rfl rfl (by decide) <| Runs.aloadN d2_78 rfl <| Runs.bipush d2_79 cb_64 <| Runs.newArr (j' := 11) (top' := a + 1 + 11) (k' := 11) (n' := 344) d2_81 d2_83 fA_10 w35 rfl w16 (Or.inl w36) rfl (by decide) ⟨by decide, by decide⟩ ⟨fun _ => rfl, fun _ => rfl⟩ rfl rfl rfl (by decide) <| Runs.aloadN d2_86 rfl <| ?_
  refine Runs.bipush d2_87 cb_64 <| Runs.newArr (j' := 12) (top' := a + 1 + 12) (k' := 12) (n' := 408) d2_89 d2_91 fA_11 w37 rfl w16 (Or.inl w38) rfl (by decide) ⟨by decide, by decide⟩ ⟨fun _ => rfl, fun _ => rfl⟩ rfl rfl rfl (by decide) <| Runs.aloadN d2_94 rfl <| Runs.bipush d2_95 cb_32 <| Runs.newArr (j' := 13) (top' := a + 1 + 13) (k' := 13) (n' := 440) d2_97 d2_99 fA_12 w39 rfl w16 (Or.inl w40) rfl (by decide) ⟨by decide, by decide⟩ ⟨fun _ => rfl, fun _ => rfl⟩ rfl rfl rfl (by decide) <| Runs.aloadN d2_102 rfl <| Runs.bipush d2_103 cb_32 <| Runs.newArr (j' := 14) (top' := a + 1 + 14) (k' := 14) (n' := 472) d2_105 d2_107 fA_13 w41 rfl w13 (Or.inl w42) rfl (by decide) ⟨by decide, by decide⟩ ⟨fun _ => rfl, fun _ => rfl⟩ rfl rfl rfl (by decide) <| Runs.aloadN d2_110 rfl <| Runs.bipush d2_111 cb_32 <| Runs.newArr (j' := 15) (top' := a + 1 + 15) (k' := 15) (n' := 504) d2_113 d2_115 fA_14 w43 rfl w13 (Or.inl w44) rfl (by decide) ⟨by decide, by decide⟩ ⟨fun _ => rfl, fun _ => rfl⟩ rfl rfl rfl (by decide) <| Runs.aloadN d2_118 rfl <| ?_
  refine Runs.sipush d2_119 cs_128 <| Runs.newArr (j' := 16) (top' := a + 1 + 16) (k' := 16) (n' := 632) d2_122 d2_124 fA_15 w45 rfl w16 (Or.inl w46) rfl (by decide) ⟨by decide, by decide⟩ ⟨fun _ => rfl, fun _ => rfl⟩ rfl rfl rfl (by decide) <| Runs.aloadN d2_127 rfl <| Runs.bipush d2_128 cb_64 <| Runs.newArr (j' := 17) (top' := a + 1 + 17) (k' := 17) (n' := 696) d2_130 d2_132 fA_16 w47 rfl w13 (Or.inl w48) rfl (by decide) ⟨by decide, by decide⟩ ⟨fun _ => rfl, fun _ => rfl⟩ rfl rfl rfl (by decide) <| Runs.aloadN d2_135 rfl <| Runs.sipush d2_136 cs_256 <| Runs.newArr (j' := 18) (top' := a + 1 + 18) (k' := 18) (n' := 952) d2_139 d2_141 fA_17 w49 rfl w16 (Or.inl w50) rfl (by decide) ⟨by decide, by decide⟩ ⟨fun _ => rfl, fun _ => rfl⟩ rfl rfl rfl (by decide) <| Runs.aloadN d2_144 rfl <| Runs.aloadN d2_145 rfl <| Runs.iloadN d2_146 rfl <| Runs.iconst d2_147 ci_1 <| ?_
  refine Runs.iconst d2_148 ci_4 <| ?_
  refine bind_el hf fun r6 hg7 hf => ?_
  refine Runs.callP (N := B3) (W := 1) (as := [.int i1, .int (1 : Int32), .int (4 : Int32)]) (S' := [.ref a]) d2_149 w51 w52 w53 rfl cw3 ar3 rk2_3_1 (by decide) rfl rfl (X_clamp_pay hg7) <| ans1 <| Runs.putI d2_152 w55 fS_0 (Or.inl w56) <| Runs.aloadN d2_155 rfl <| Runs.aloadN d2_156 rfl <| Runs.iloadN d2_157 rfl <| Runs.iconst d2_158 ci_4 <| Runs.bipush d2_159 cb_16 <| ?_
  refine bind_el hf fun r8 hg9 hf => ?_
  refine Runs.callP (N := B3) (W := 1) (as := [.int i2, .int (4 : Int32), .int (16 : Int32)]) (S' := [.ref a]) d2_161 w51 w52 w53 rfl cw3 ar3 rk2_3_1 (by decide) rfl rfl (X_clamp_pay hg9) <| ans1 <| Runs.putI d2_164 w57 fS_1 (Or.inl w58) <| Runs.aloadN d2_167 rfl <| Runs.aloadN d2_168 rfl <| Runs.iloadN d2_169 rfl <| Runs.iconst d2_170 ci_4 <| Runs.bipush d2_171 cb_32 <| ?_
  refine bind_el hf fun r10 hg11 hf => ?_
  refine Runs.callP (N := B3) (W := 1) (as := [.int i3, .int (4 : Int32), .int (32 : Int32)]) (S' := [.ref a]) d2_173 w51 w52 w53 rfl cw3 ar3 rk2_3_1 (by decide) rfl rfl (X_clamp_pay hg11) <| ans1 <| Runs.putI d2_176 w59 fS_2 (Or.inl w60) <| Runs.aloadN d2_179 rfl <| Runs.aloadN d2_180 rfl <| Runs.iload d2_181 rfl <| Runs.iconst d2_183 ci_1 <| Runs.bipush d2_184 cb_16 <| ?_
  refine bind_el hf fun r12 hg13 hf => ?_
  refine Runs.callP (N := B3) (W := 1) (as := [.int i4, .int (1 : Int32), .int (16 : Int32)]) (S' := [.ref a]) d2_186 w51 w52 w53 rfl cw3 ar3 rk2_3_1 (by decide) rfl rfl (X_clamp_pay hg13) <| ans1 <| Runs.putI d2_189 w61 fS_3 (Or.inl w62) <| Runs.aloadN d2_192 rfl <| Runs.iconst d2_193 ci_0 <| Runs.putI d2_194 w63 fS_4 (Or.inl w64) <| Runs.aloadN d2_197 rfl <| Runs.iconst d2_198 ci_0 <| Runs.putI d2_199 w65 fS_5 (Or.inl w66) <| Runs.aloadN d2_202 rfl <| Runs.iconst d2_203 ci_0 <| Runs.putI d2_204 w67 fS_6 (Or.inl w68) <| Runs.aloadN d2_207 rfl <| ?_
  exact Runs.iconst d2_208 ci_0 <| Runs.putI d2_209 w69 fS_7 (Or.inl w70) <| Runs.iconst d2_212 ci_0 <| Runs.istore (P' := [vr a, vi i1, vi i2, vi i3, vi i4, vi (0 : Int32)]) d2_213 (by decide) rfl <| Runs.forget [true, false, false, false, false, true] rfl <| X_init_l215_p NF (sI (sI (sI (sI (sI (sI (sI (sI zrec 0 r6) 1 r8) 2 r10) 3 r12) 4 (0 : Int32)) 5 (0 : Int32)) 6 (0 : Int32)) 7 (0 : Int32)) (0 : Int32) hf
theorem X_init_pay {C : Ctx} {a : Nat} {H : List (Nat × Nat × Rec)} {res : Rec} {NF : Nat} {i1 : Int32} {i2 : Int32} {i3 : Int32} {i4 : Int32} (hf : X_init NF i1 i2 i3 i4 = some res) : Pays C B2 [.ref a, .int i1, .int i2, .int i3, .int i4] (a + 1, (a, 0, zrec) :: H) (Ans none (a + 1 + 18, (a, 18, res) :: H)) :=
  Pays.of pnK (Nat.le_of_ble_eq_true rfl) (P := [vr a, vi i1, vi i2, vi i3, vi i4, vn]) 1 rfl (X_init_p i1 i2 i3 i4 hf)
def X_validPid (ob : Rec) (i1 : Int32) : Option (Int32) :=
  if i1 < (0 : Int32) then
    some (0 : Int32)
  else
    if i1 < (gI ob 0) then
      some (1 : Int32)
    else
      some (0 : Int32)
set_option maxRecDepth 65536 in
set_option maxHeartbeats 4000000 in
theorem X_validPid_p {C : Ctx} {top : Nat} {a : Nat} {H : List (Nat × Nat × Rec)} {ob : Rec} {res : Int32} (i1 : Int32) (hf : X_validPid ob i1 = some res) : Runs C B6 0 0 0 [vr a, vi i1] [] (top, (a, 18, ob) :: H) (Ans (some (.int res)) (top, (a, 18, ob) :: H)) := by
  delta X_validPid at hf
  refine Runs.iloadN d6_0 rfl <| ?_
  refine ite_el hf (fun hc1 hf => ?_) (fun hc1 hf => ?_)
  · refine Runs.ifY (pc' := 16) d6_1 (tlt hc1).1 (by decide) <| ?_
    obtain rfl := Option.some.inj hf
    exact Runs.iconst d6_16 ci_0 <| Runs.retZ (y := (0 : Int32)) d6_17 rfl ⟨by decide, by decide⟩ rfl ⟨rfl, rfl⟩
  · refine Runs.ifN d6_1 (flt hc1).1 <| ?_
    refine Runs.iloadN d6_4 rfl <| Runs.aloadN d6_5 rfl <| Runs.getI d6_6 w55 fS_0 <| ?_
    refine ite_el hf (fun hc2 hf => ?_) (fun hc2 hf => ?_)
    · refine Runs.icN d6_9 (tlt hc2).2.1 <| ?_
      obtain rfl := Option.some.inj hf
      exact Runs.iconst d6_12 ci_1 <| Runs.goto (pc' := 17) d6_13 (by decide) <| Runs.retZ (y := (1 : Int32)) d6_17 rfl ⟨by decide, by decide⟩ rfl ⟨rfl, rfl⟩
    · refine Runs.icY (pc' := 16) d6_9 (flt hc2).2.1 (by decide) <| ?_
      obtain rfl := Option.some.inj hf
      exact Runs.iconst d6_16 ci_0 <| Runs.retZ (y := (0 : Int32)) d6_17 rfl ⟨by decide, by decide⟩ rfl ⟨rfl, rfl⟩
theorem X_validPid_pay {C : Ctx} {top : Nat} {a : Nat} {H : List (Nat × Nat × Rec)} {ob : Rec} {res : Int32} {i1 : Int32} (hf : X_validPid ob i1 = some res) : Pays C B6 [.ref a, .int i1] (top, (a, 18, ob) :: H) (Ans (some (.int res)) (top, (a, 18, ob) :: H)) :=
  Pays.of pnK (Nat.le_of_ble_eq_true rfl) (P := [vr a, vi i1]) 0 rfl (X_validPid_p i1 hf)
def X_check (ob : Rec) (i1 : Int32) (i2 : Int32) : Option (Int32) :=
  (X_validPid ob i1).bind fun r1 =>
  if r1 = (0 : Int32) then
    some (1 : Int32)
  else
    if i2 < (0 : Int32) then
      some (2 : Int32)
    else
      if i2 < ((gI ob 1) * (4 : Int32)) then
        chk (4 : Int32) i1 <|
        if (gA ob 0 i1) = (0 : Int32) then
          some (0 : Int32)
        else
          some (3 : Int32)
      else
        some (2 : Int32)
set_option maxRecDepth 65536 in
set_option maxHeartbeats 4000000 in
theorem X_check_p {C : Ctx} {top : Nat} {a : Nat} {H : List (Nat × Nat × Rec)} {ob : Rec} {res : Int32} (i1 : Int32) (i2 : Int32) (hf : X_check ob i1 i2 = some res) : Runs C B5 0 0 0 [vr a, vi i1, vi i2] [] (top, (a, 18, ob) :: H) (Ans (some (.int res)) (top, (a, 18, ob) :: H)) := by
  delta X_check at hf
  refine Runs.aloadN d5_0 rfl <| Runs.iloadN d5_1 rfl <| ?_
  refine bind_el hf fun r1 hg2 hf => ?_
  refine Runs.callP (N := B6) (W := 0) (as := [.int i1]) (S' := []) d5_2 w81 w82 w83 rfl cw6 ar6 rk5_6_0 (by decide) rfl rfl (X_validPid_pay hg2) <| ans1 <| ?_
  refine ite_el hf (fun hc3 hf => ?_) (fun hc3 hf => ?_)
  · refine Runs.ifN d5_5 (teq hc3).2 <| ?_
    obtain rfl := Option.some.inj hf
    exact Runs.iconst d5_8 ci_1 <| Runs.retI d5_9 rfl ⟨by decide, by decide⟩ ⟨rfl, rfl⟩
  · refine Runs.ifY (pc' := 10) d5_5 (feq hc3).2 (by decide) <| ?_
    refine Runs.iloadN d5_10 rfl <| ?_
    refine ite_el hf (fun hc4 hf => ?_) (fun hc4 hf => ?_)
    · refine Runs.ifY (pc' := 24) d5_11 (tlt hc4).1 (by decide) <| ?_
      obtain rfl := Option.some.inj hf
      exact Runs.iconst d5_24 ci_2 <| Runs.retI d5_25 rfl ⟨by decide, by decide⟩ ⟨rfl, rfl⟩
    · refine Runs.ifN d5_11 (flt hc4).1 <| ?_
      refine Runs.iloadN d5_14 rfl <| Runs.aloadN d5_15 rfl <| Runs.getI d5_16 w57 fS_1 <| Runs.iconst d5_19 ci_4 <| Runs.imul d5_20 <| ?_
      refine ite_el hf (fun hc5 hf => ?_) (fun hc5 hf => ?_)
      · refine Runs.icY (pc' := 26) d5_21 (tlt hc5).1 (by decide) <| ?_
        refine Runs.aloadN d5_26 rfl <| Runs.getA d5_27 fA_0 w14 (by decide) <| Runs.iloadN d5_30 rfl <| ?_
        refine chk_el hf fun hi6 hf => ?_
        refine Runs.baloadA d5_31 fA_0 (by decide) hi6 <| ?_
        refine ite_el hf (fun hc7 hf => ?_) (fun hc7 hf => ?_)
        · refine Runs.ifY (pc' := 37) d5_32 (teq hc7).1 (by decide) <| ?_
          obtain rfl := Option.some.inj hf
          exact Runs.iconst d5_37 ci_0 <| Runs.retI d5_38 rfl ⟨by decide, by decide⟩ ⟨rfl, rfl⟩
        · refine Runs.ifN d5_32 (feq hc7).1 <| ?_
          obtain rfl := Option.some.inj hf
          exact Runs.iconst d5_35 ci_3 <| Runs.retI d5_36 rfl ⟨by decide, by decide⟩ ⟨rfl, rfl⟩
      · refine Runs.icN d5_21 (flt hc5).1 <| ?_
        obtain rfl := Option.some.inj hf
        exact Runs.iconst d5_24 ci_2 <| Runs.retI d5_25 rfl ⟨by decide, by decide⟩ ⟨rfl, rfl⟩
theorem X_check_pay {C : Ctx} {top : Nat} {a : Nat} {H : List (Nat × Nat × Rec)} {ob : Rec} {res : Int32} {i1 : Int32} {i2 : Int32} (hf : X_check ob i1 i2 = some res) : Pays C B5 [.ref a, .int i1, .int i2] (top, (a, 18, ob) :: H) (Ans (some (.int res)) (top, (a, 18, ob) :: H)) :=
  Pays.of pnK (Nat.le_of_ble_eq_true rfl) (P := [vr a, vi i1, vi i2]) 0 rfl (X_check_p i1 i2 hf)
def X_findFreeFrame_w2 (NF : Nat) (ob : Rec) (k2 : Int32 → Option (Int32)) (i1 : Int32) : Option (Int32) :=
  if i1 < (gI ob 2) then
    chk (32 : Int32) i1 <|
    if (gA ob 12 i1) < (0 : Int32) then
      some i1
    else
      k2 (i1 + (1 : Int32))
  else
    some (-1 : Int32)
def X_findFreeFrame_l2 (NF : Nat) (ob : Rec) : Nat → Int32 → Option (Int32)
  | 0, _ => none
  | n + 1, i1 => X_findFreeFrame_w2 NF ob (X_findFreeFrame_l2 NF ob n) i1
set_option maxRecDepth 65536 in
set_option maxHeartbeats 4000000 in
theorem X_findFreeFrame_w2_p {C : Ctx} {top : Nat} {a : Nat} {H : List (Nat × Nat × Rec)} {ob : Rec} {res : Int32} {NF : Nat} (k2 : Int32 → Option (Int32)) (hk2 : ∀ (i1 : Int32), k2 i1 = some res → Runs C B8 0 0 2 [vr a, vi i1] [] (top, (a, 18, ob) :: H) (Ans (some (.int res)) (top, (a, 18, ob) :: H))) (i1 : Int32) (hf : X_findFreeFrame_w2 NF ob k2 i1 = some res) : Runs C B8 0 0 2 [vr a, vi i1] [] (top, (a, 18, ob) :: H) (Ans (some (.int res)) (top, (a, 18, ob) :: H)) := by
  delta X_findFreeFrame_w2 at hf
  refine Runs.iloadN d8_2 rfl <| Runs.aloadN d8_3 rfl <| Runs.getI d8_4 w59 fS_2 <| ?_
  refine ite_el hf (fun hc1 hf => ?_) (fun hc1 hf => ?_)
  · refine Runs.icN d8_7 (tlt hc1).2.1 <| ?_
    refine Runs.aloadN d8_10 rfl <| Runs.getA d8_11 fA_12 w39 (by decide) <| Runs.iloadN d8_14 rfl <| ?_
    refine chk_el hf fun hi2 hf => ?_
    refine Runs.ialoadA d8_15 fA_12 (by decide) hi2 <| ?_
    refine ite_el hf (fun hc3 hf => ?_) (fun hc3 hf => ?_)
    · refine Runs.ifN d8_16 (tlt hc3).2.1 <| ?_
      obtain rfl := Option.some.inj hf
      exact Runs.iloadN d8_19 rfl <| Runs.retI d8_20 rfl ⟨by decide, by decide⟩ ⟨rfl, rfl⟩
    · refine Runs.ifY (pc' := 21) d8_16 (flt hc3).2.1 (by decide) <| ?_
      exact Runs.iinc (P' := [vr a, vi (i1 + (1 : Int32))]) d8_21 ci_1 rfl (by decide) rfl <| Runs.goto (pc' := 2) d8_24 (by decide) <| hk2 (i1 + (1 : Int32)) hf
  · refine Runs.icY (pc' := 27) d8_7 (flt hc1).2.1 (by decide) <| ?_
    obtain rfl := Option.some.inj hf
    exact Runs.iconst d8_27 ci_m1 <| Runs.retI d8_28 rfl ⟨by decide, by decide⟩ ⟨rfl, rfl⟩
theorem X_findFreeFrame_l2_p {C : Ctx} {top : Nat} {a : Nat} {H : List (Nat × Nat × Rec)} {ob : Rec} {res : Int32} {NF : Nat} (n : Nat) (i1 : Int32) (hf : X_findFreeFrame_l2 NF ob n i1 = some res) : Runs C B8 0 0 2 [vr a, vi i1] [] (top, (a, 18, ob) :: H) (Ans (some (.int res)) (top, (a, 18, ob) :: H)) := by
  induction n generalizing i1 with
  | zero => cases (show (none : Option (Int32)) = some res from hf)
  | succ n ih => exact X_findFreeFrame_w2_p (X_findFreeFrame_l2 NF ob n) (fun i1 h => ih _ h) i1 hf
def X_findFreeFrame (NF : Nat) (ob : Rec) : Option (Int32) :=
  X_findFreeFrame_l2 NF ob NF (0 : Int32)
set_option maxRecDepth 65536 in
set_option maxHeartbeats 4000000 in
theorem X_findFreeFrame_p {C : Ctx} {top : Nat} {a : Nat} {H : List (Nat × Nat × Rec)} {ob : Rec} {res : Int32} {NF : Nat} (hf : X_findFreeFrame NF ob = some res) : Runs C B8 0 0 0 [vr a, vn] [] (top, (a, 18, ob) :: H) (Ans (some (.int res)) (top, (a, 18, ob) :: H)) := by
  delta X_findFreeFrame at hf
  exact Runs.iconst d8_0 ci_0 <| Runs.istoreN (P' := [vr a, vi (0 : Int32)]) d8_1 (by decide) rfl <| X_findFreeFrame_l2_p NF (0 : Int32) hf
theorem X_findFreeFrame_pay {C : Ctx} {top : Nat} {a : Nat} {H : List (Nat × Nat × Rec)} {ob : Rec} {res : Int32} {NF : Nat} (hf : X_findFreeFrame NF ob = some res) : Pays C B8 [.ref a] (top, (a, 18, ob) :: H) (Ans (some (.int res)) (top, (a, 18, ob) :: H)) :=
  Pays.of pnK (Nat.le_of_ble_eq_true rfl) (P := [vr a, vn]) 1 rfl (X_findFreeFrame_p hf)
def X_allocSlot_w12 (NF : Nat) (ob : Rec) (k12 : Int32 → Int32 → Option (Int32)) (i1 : Int32) (i2 : Int32) : Option (Int32) :=
  if i2 < i1 then
    chk (64 : Int32) i2 <|
    if (gA ob 16 i2) = (0 : Int32) then
      some i2
    else
      k12 i1 (i2 + (1 : Int32))
  else
    some (-1 : Int32)
def X_allocSlot_l12 (NF : Nat) (ob : Rec) : Nat → Int32 → Int32 → Option (Int32)
  | 0, _, _ => none
  | n + 1, i1, i2 => X_allocSlot_w12 NF ob (X_allocSlot_l12 NF ob n) i1 i2
set_option maxRecDepth 65536 in
set_option maxHeartbeats 4000000 in
theorem X_allocSlot_w12_p {C : Ctx} {top : Nat} {a : Nat} {H : List (Nat × Nat × Rec)} {ob : Rec} {res : Int32} {NF : Nat} (k12 : Int32 → Int32 → Option (Int32)) (hk12 : ∀ (i1 : Int32) (i2 : Int32), k12 i1 i2 = some res → Runs C B22 0 0 12 [vr a, vi i1, vi i2] [] (top, (a, 18, ob) :: H) (Ans (some (.int res)) (top, (a, 18, ob) :: H))) (i1 : Int32) (i2 : Int32) (hf : X_allocSlot_w12 NF ob k12 i1 i2 = some res) : Runs C B22 0 0 12 [vr a, vi i1, vi i2] [] (top, (a, 18, ob) :: H) (Ans (some (.int res)) (top, (a, 18, ob) :: H)) := by
  delta X_allocSlot_w12 at hf
  refine Runs.iloadN d22_12 rfl <| Runs.iloadN d22_13 rfl <| ?_
  refine ite_el hf (fun hc1 hf => ?_) (fun hc1 hf => ?_)
  · refine Runs.icN d22_14 (tlt hc1).2.1 <| ?_
    refine Runs.aloadN d22_17 rfl <| Runs.getA d22_18 fA_16 w47 (by decide) <| Runs.iloadN d22_21 rfl <| ?_
    refine chk_el hf fun hi2 hf => ?_
    refine Runs.baloadA d22_22 fA_16 (by decide) hi2 <| ?_
    refine ite_el hf (fun hc3 hf => ?_) (fun hc3 hf => ?_)
    · refine Runs.ifN d22_23 (teq hc3).2 <| ?_
      obtain rfl := Option.some.inj hf
      exact Runs.iloadN d22_26 rfl <| Runs.retI d22_27 rfl ⟨by decide, by decide⟩ ⟨rfl, rfl⟩
    · refine Runs.ifY (pc' := 28) d22_23 (feq hc3).2 (by decide) <| ?_
      exact Runs.iinc (P' := [vr a, vi i1, vi (i2 + (1 : Int32))]) d22_28 ci_1 rfl (by decide) rfl <| Runs.goto (pc' := 12) d22_31 (by decide) <| hk12 i1 (i2 + (1 : Int32)) hf
  · refine Runs.icY (pc' := 34) d22_14 (flt hc1).2.1 (by decide) <| ?_
    obtain rfl := Option.some.inj hf
    exact Runs.iconst d22_34 ci_m1 <| Runs.retI d22_35 rfl ⟨by decide, by decide⟩ ⟨rfl, rfl⟩
theorem X_allocSlot_l12_p {C : Ctx} {top : Nat} {a : Nat} {H : List (Nat × Nat × Rec)} {ob : Rec} {res : Int32} {NF : Nat} (n : Nat) (i1 : Int32) (i2 : Int32) (hf : X_allocSlot_l12 NF ob n i1 i2 = some res) : Runs C B22 0 0 12 [vr a, vi i1, vi i2] [] (top, (a, 18, ob) :: H) (Ans (some (.int res)) (top, (a, 18, ob) :: H)) := by
  induction n generalizing i1 i2 with
  | zero => cases (show (none : Option (Int32)) = some res from hf)
  | succ n ih => exact X_allocSlot_w12_p (X_allocSlot_l12 NF ob n) (fun i1 i2 h => ih _ _ h) i1 i2 hf
def X_allocSlot (NF : Nat) (ob : Rec) : Option (Int32) :=
  X_allocSlot_l12 NF ob NF ((gI ob 0) * (gI ob 1)) (0 : Int32)
set_option maxRecDepth 65536 in
set_option maxHeartbeats 4000000 in
theorem X_allocSlot_p {C : Ctx} {top : Nat} {a : Nat} {H : List (Nat × Nat × Rec)} {ob : Rec} {res : Int32} {NF : Nat} (hf : X_allocSlot NF ob = some res) : Runs C B22 0 0 0 [vr a, vn, vn] [] (top, (a, 18, ob) :: H) (Ans (some (.int res)) (top, (a, 18, ob) :: H)) := by
  delta X_allocSlot at hf
  exact Runs.aloadN d22_0 rfl <| Runs.getI d22_1 w55 fS_0 <| Runs.aloadN d22_4 rfl <| Runs.getI d22_5 w57 fS_1 <| Runs.imul d22_8 <| Runs.istoreN (P' := [vr a, vi ((gI ob 0) * (gI ob 1)), vn]) d22_9 (by decide) rfl <| Runs.iconst d22_10 ci_0 <| Runs.istoreN (P' := [vr a, vi ((gI ob 0) * (gI ob 1)), vi (0 : Int32)]) d22_11 (by decide) rfl <| X_allocSlot_l12_p NF ((gI ob 0) * (gI ob 1)) (0 : Int32) hf
theorem X_allocSlot_pay {C : Ctx} {top : Nat} {a : Nat} {H : List (Nat × Nat × Rec)} {ob : Rec} {res : Int32} {NF : Nat} (hf : X_allocSlot NF ob = some res) : Pays C B22 [.ref a] (top, (a, 18, ob) :: H) (Ans (some (.int res)) (top, (a, 18, ob) :: H)) :=
  Pays.of pnK (Nat.le_of_ble_eq_true rfl) (P := [vr a, vn, vn]) 2 rfl (X_allocSlot_p hf)
def X_writeBack_w50 (NF : Nat) (k50 : Rec → Int32 → Int32 → Int32 → Option (Rec)) (ob : Rec) (i1 : Int32) (i3 : Int32) (i4 : Int32) : Option (Rec) :=
  if i4 < (4 : Int32) then
    chk (128 : Int32) ((i1 * (4 : Int32)) + i4) <|
    chk (256 : Int32) ((i3 * (4 : Int32)) + i4) <|
    k50 (sA ob 17 ((i3 * (4 : Int32)) + i4) (gA ob 15 ((i1 * (4 : Int32)) + i4))) i1 i3 (i4 + (1 : Int32))
  else
    chk (32 : Int32) i1 <|
    some (sA ob 14 i1 (0 : Int32))
def X_writeBack_l50 (NF : Nat) : Nat → Rec → Int32 → Int32 → Int32 → Option (Rec)
  | 0, _, _, _, _ => none
  | n + 1, ob, i1, i3, i4 => X_writeBack_w50 NF (X_writeBack_l50 NF n) ob i1 i3 i4
set_option maxRecDepth 65536 in
set_option maxHeartbeats 4000000 in
theorem X_writeBack_w50_p {C : Ctx} {top : Nat} {a : Nat} {H : List (Nat × Nat × Rec)} {res : Rec} {NF : Nat} (k50 : Rec → Int32 → Int32 → Int32 → Option (Rec)) (hk50 : ∀ (ob : Rec) (i1 : Int32) (i3 : Int32) (i4 : Int32), k50 ob i1 i3 i4 = some res → Runs C B21 0 0 50 [vr a, vi i1, vn, vi i3, vi i4] [] (top, (a, 18, ob) :: H) (Ans none (top, (a, 18, res) :: H))) (ob : Rec) (i1 : Int32) (i3 : Int32) (i4 : Int32) (hf : X_writeBack_w50 NF k50 ob i1 i3 i4 = some res) : Runs C B21 0 0 50 [vr a, vi i1, vn, vi i3, vi i4] [] (top, (a, 18, ob) :: H) (Ans none (top, (a, 18, res) :: H)) := by
  delta X_writeBack_w50 at hf
  refine Runs.iload d21_50 rfl <| Runs.iconst d21_52 ci_4 <| ?_
  refine ite_el hf (fun hc1 hf => ?_) (fun hc1 hf => ?_)
  · refine Runs.icN d21_53 (tlt hc1).2.1 <| ?_
    refine Runs.aloadN d21_56 rfl <| Runs.getA d21_57 fA_17 w49 (by decide) <| Runs.iloadN d21_60 rfl <| Runs.iconst d21_61 ci_4 <| Runs.imul d21_62 <| Runs.iload d21_63 rfl <| Runs.iadd d21_65 <| Runs.aloadN d21_66 rfl <| Runs.getA d21_67 fA_15 w45 (by decide) <| Runs.iloadN d21_70 rfl <| Runs.iconst d21_71 ci_4 <| Runs.imul d21_72 <| ?_
    refine Runs.iload d21_73 rfl <| Runs.iadd d21_75 <| ?_
    refine chk_el hf fun hi2 hf => ?_
    refine Runs.ialoadA d21_76 fA_15 (by decide) hi2 <| ?_
    refine chk_el hf fun hi3 hf => ?_
    exact Runs.iastoreA d21_77 fA_17 (by decide) hi3 <| Runs.iinc (P' := [vr a, vi i1, vn, vi i3, vi (i4 + (1 : Int32))]) d21_78 ci_1 rfl (by decide) rfl <| Runs.goto (pc' := 50) d21_81 (by decide) <| hk50 (sA ob 17 ((i3 * (4 : Int32)) + i4) (gA ob 15 ((i1 * (4 : Int32)) + i4))) i1 i3 (i4 + (1 : Int32)) hf
  · refine Runs.icY (pc' := 84) d21_53 (flt hc1).2.1 (by decide) <| ?_
    refine Runs.aloadN d21_84 rfl <| Runs.getA d21_85 fA_14 w43 (by decide) <| Runs.iloadN d21_88 rfl <| Runs.iconst d21_89 ci_0 <| ?_
    refine chk_el hf fun hi4 hf => ?_
    obtain rfl := Option.some.inj hf
    exact Runs.bastoreA (y := (0 : Int32)) d21_90 fA_14 (by decide) hi4 rfl <| Runs.retV d21_91 rfl ⟨by decide, by decide⟩ ⟨rfl, rfl⟩
theorem X_writeBack_l50_p {C : Ctx} {top : Nat} {a : Nat} {H : List (Nat × Nat × Rec)} {res : Rec} {NF : Nat} (n : Nat) (ob : Rec) (i1 : Int32) (i3 : Int32) (i4 : Int32) (hf : X_writeBack_l50 NF n ob i1 i3 i4 = some res) : Runs C B21 0 0 50 [vr a, vi i1, vn, vi i3, vi i4] [] (top, (a, 18, ob) :: H) (Ans none (top, (a, 18, res) :: H)) := by
  induction n generalizing ob i1 i3 i4 with
  | zero => cases (show (none : Option (Rec)) = some res from hf)
  | succ n ih => exact X_writeBack_w50_p (X_writeBack_l50 NF n) (fun ob i1 i3 i4 h => ih _ _ _ _ h) ob i1 i3 i4 hf
def X_writeBack (NF : Nat) (ob : Rec) (i1 : Int32) : Option (Rec) :=
  chk (32 : Int32) i1 <|
  if (gA ob 12 i1) < (0 : Int32) then
    some ob
  else
    chk (64 : Int32) (gA ob 12 i1) <|
    if (gA ob 10 (gA ob 12 i1)) < (0 : Int32) then
      (X_allocSlot NF ob).bind fun r9 =>
      if r9 < (0 : Int32) then
        some ob
      else
        chk (64 : Int32) r9 <|
        chk (64 : Int32) (gA ob 12 i1) <|
        X_writeBack_l50 NF NF (sA (sA ob 16 r9 (1 : Int32)) 10 (gA ob 12 i1) r9) i1 r9 (0 : Int32)
    else
      X_writeBack_l50 NF NF ob i1 (gA ob 10 (gA ob 12 i1)) (0 : Int32)
set_option maxRecDepth 65536 in
set_option maxHeartbeats 4000000 in
theorem X_writeBack_p {C : Ctx} {top : Nat} {a : Nat} {H : List (Nat × Nat × Rec)} {res : Rec} {NF : Nat} (ob : Rec) (i1 : Int32) (hf : X_writeBack NF ob i1 = some res) : Runs C B21 0 0 0 [vr a, vi i1, vn, vn, vn] [] (top, (a, 18, ob) :: H) (Ans none (top, (a, 18, res) :: H)) := by
  delta X_writeBack at hf
  refine Runs.aloadN d21_0 rfl <| Runs.getA d21_1 fA_12 w39 (by decide) <| Runs.iloadN d21_4 rfl <| ?_
  refine chk_el hf fun hi5 hf => ?_
  refine Runs.ialoadA d21_5 fA_12 (by decide) hi5 <| Runs.istoreN (P' := [vr a, vi i1, vi (gA ob 12 i1), vn, vn]) d21_6 (by decide) rfl <| Runs.iloadN d21_7 rfl <| ?_
  refine ite_el hf (fun hc6 hf => ?_) (fun hc6 hf => ?_)
  · refine Runs.ifN d21_8 (tlt hc6).2.1 <| ?_
    obtain rfl := Option.some.inj hf
    exact Runs.retV d21_11 rfl ⟨by decide, by decide⟩ ⟨rfl, rfl⟩
  · refine Runs.ifY (pc' := 12) d21_8 (flt hc6).2.1 (by decide) <| ?_
    refine Runs.aloadN d21_12 rfl <| Runs.getA d21_13 fA_10 w35 (by decide) <| Runs.iloadN d21_16 rfl <| ?_
    refine chk_el hf fun hi7 hf => ?_
    refine Runs.ialoadA d21_17 fA_10 (by decide) hi7 <| Runs.istoreN (P' := [vr a, vi i1, vi (gA ob 12 i1), vi (gA ob 10 (gA ob 12 i1)), vn]) d21_18 (by decide) rfl <| Runs.iloadN d21_19 rfl <| ?_
    refine ite_el hf (fun hc8 hf => ?_) (fun hc8 hf => ?_)
    · refine Runs.ifN d21_20 (tlt hc8).2.1 <| ?_
      refine Runs.aloadN d21_23 rfl <| ?_
      refine bind_el hf fun r9 hg10 hf => ?_
      refine Runs.callP (N := B22) (W := 0) (as := []) (S' := []) d21_24 w150 w151 w152 rfl cw22 ar22 rk21_22_0 (by decide) rfl rfl (X_allocSlot_pay hg10) <| ans1 <| Runs.istoreN (P' := [vr a, vi i1, vi (gA ob 12 i1), vi r9, vn]) d21_27 (by decide) rfl <| Runs.iloadN d21_28 rfl <| ?_
      refine ite_el hf (fun hc11 hf => ?_) (fun hc11 hf => ?_)
      · refine Runs.ifN d21_29 (tlt hc11).2.1 <| ?_
        obtain rfl := Option.some.inj hf
        exact Runs.retV d21_32 rfl ⟨by decide, by decide⟩ ⟨rfl, rfl⟩
      · refine Runs.ifY (pc' := 33) d21_29 (flt hc11).2.1 (by decide) <| ?_
        refine Runs.aloadN d21_33 rfl <| Runs.getA d21_34 fA_16 w47 (by decide) <| Runs.iloadN d21_37 rfl <| Runs.iconst d21_38 ci_1 <| ?_
        refine chk_el hf fun hi12 hf => ?_
        refine Runs.bastoreA (y := (1 : Int32)) d21_39 fA_16 (by decide) hi12 rfl <| Runs.aloadN d21_40 rfl <| Runs.getA d21_41 fA_10 w35 (by decide) <| Runs.iloadN d21_44 rfl <| Runs.iloadN d21_45 rfl <| ?_
        refine chk_el hf fun hi13 hf => ?_
        exact Runs.iastoreA d21_46 fA_10 (by decide) hi13 <| Runs.iconst d21_47 ci_0 <| Runs.istore (P' := [vr a, vi i1, vi (gA ob 12 i1), vi r9, vi (0 : Int32)]) d21_48 (by decide) rfl <| Runs.forget [true, true, false, true, true] rfl <| X_writeBack_l50_p NF (sA (sA ob 16 r9 (1 : Int32)) 10 (gA ob 12 i1) r9) i1 r9 (0 : Int32) hf
    · refine Runs.ifY (pc' := 47) d21_20 (flt hc8).2.1 (by decide) <| ?_
      exact Runs.iconst d21_47 ci_0 <| Runs.istore (P' := [vr a, vi i1, vi (gA ob 12 i1), vi (gA ob 10 (gA ob 12 i1)), vi (0 : Int32)]) d21_48 (by decide) rfl <| Runs.forget [true, true, false, true, true] rfl <| X_writeBack_l50_p NF ob i1 (gA ob 10 (gA ob 12 i1)) (0 : Int32) hf
theorem X_writeBack_pay {C : Ctx} {top : Nat} {a : Nat} {H : List (Nat × Nat × Rec)} {res : Rec} {NF : Nat} {ob : Rec} {i1 : Int32} (hf : X_writeBack NF ob i1 = some res) : Pays C B21 [.ref a, .int i1] (top, (a, 18, ob) :: H) (Ans none (top, (a, 18, res) :: H)) :=
  Pays.of pnK (Nat.le_of_ble_eq_true rfl) (P := [vr a, vi i1, vn, vn, vn]) 3 rfl (X_writeBack_p ob i1 hf)
def X_chooseVictim_b126 (NF : Nat) (k4 : Rec → Int32 → Int32 → Option (Int32 × Rec)) (ob : Rec) (i1 : Int32) (i2 : Int32) (i3 : Int32) (t0 : Int32) : Option (Int32 × Rec) :=
  if t0 = (0 : Int32) then
    if i1 < (0 : Int32) then
      chk (32 : Int32) i3 <|
      if (gA ob 14 i3) = (0 : Int32) then
        k4 ob i3 (i2 + (1 : Int32))
      else
        k4 ob i1 (i2 + (1 : Int32))
    else
      k4 ob i1 (i2 + (1 : Int32))
  else
    chk (32 : Int32) i3 <|
    if (gA ob 14 i3) = (0 : Int32) then
      some (i3, ob)
    else
      (X_writeBack NF ob i3).bind fun q23 =>
      k4 q23 i1 (i2 + (1 : Int32))
set_option maxRecDepth 65536 in
set_option maxHeartbeats 4000000 in
theorem X_chooseVictim_b126_p {C : Ctx} {top : Nat} {a : Nat} {H : List (Nat × Nat × Rec)} {res : Int32 × Rec} {NF : Nat} (k4 : Rec → Int32 → Int32 → Option (Int32 × Rec)) (hk4 : ∀ (ob : Rec) (i1 : Int32) (i2 : Int32), k4 ob i1 i2 = some res → Runs C B18 0 0 4 [vr a, vi i1, vi i2, vn, vn, vn, vn] [] (top, (a, 18, ob) :: H) (Ans (some (.int res.1)) (top, (a, 18, res.2) :: H))) (ob : Rec) (i1 : Int32) (i2 : Int32) (i3 : Int32) (t0 : Int32) (hf : X_chooseVictim_b126 NF k4 ob i1 i2 i3 t0 = some res) : Runs C B18 0 0 126 [vr a, vi i1, vi i2, vi i3, vn, vn, vn] [.int t0] (top, (a, 18, ob) :: H) (Ans (some (.int res.1)) (top, (a, 18, res.2) :: H)) := by
  delta X_chooseVictim_b126 at hf
  refine Runs.istore (P' := [vr a, vi i1, vi i2, vi i3, vn, vn, vi t0]) d18_126 (by decide) rfl <| Runs.iload d18_128 rfl <| ?_
  refine ite_el hf (fun hc17 hf => ?_) (fun hc17 hf => ?_)
  · refine Runs.ifN d18_130 (teq hc17).2 <| ?_
    refine Runs.iloadN d18_133 rfl <| ?_
    refine ite_el hf (fun hc18 hf => ?_) (fun hc18 hf => ?_)
    · refine Runs.ifN d18_134 (tlt hc18).2.1 <| ?_
      refine Runs.aloadN d18_137 rfl <| Runs.getA d18_138 fA_14 w43 (by decide) <| Runs.iloadN d18_141 rfl <| ?_
      refine chk_el hf fun hi19 hf => ?_
      refine Runs.baloadA d18_142 fA_14 (by decide) hi19 <| ?_
      refine ite_el hf (fun hc20 hf => ?_) (fun hc20 hf => ?_)
      · refine Runs.ifN d18_143 (teq hc20).2 <| ?_
        exact Runs.iloadN d18_146 rfl <| Runs.istoreN (P' := [vr a, vi i3, vi i2, vi i3, vn, vn, vi t0]) d18_147 (by decide) rfl <| Runs.goto (pc' := 167) d18_148 (by decide) <| Runs.iinc (P' := [vr a, vi i3, vi (i2 + (1 : Int32)), vi i3, vn, vn, vi t0]) d18_167 ci_1 rfl (by decide) rfl <| Runs.goto (pc' := 4) d18_170 (by decide) <| Runs.forget [true, true, true, false, false, false, false] rfl <| hk4 ob i3 (i2 + (1 : Int32)) hf
      · refine Runs.ifY (pc' := 167) d18_143 (feq hc20).2 (by decide) <| ?_
        exact Runs.iinc (P' := [vr a, vi i1, vi (i2 + (1 : Int32)), vi i3, vn, vn, vi t0]) d18_167 ci_1 rfl (by decide) rfl <| Runs.goto (pc' := 4) d18_170 (by decide) <| Runs.forget [true, true, true, false, false, false, false] rfl <| hk4 ob i1 (i2 + (1 : Int32)) hf
    · refine Runs.ifY (pc' := 167) d18_134 (flt hc18).2.1 (by decide) <| ?_
      exact Runs.iinc (P' := [vr a, vi i1, vi (i2 + (1 : Int32)), vi i3, vn, vn, vi t0]) d18_167 ci_1 rfl (by decide) rfl <| Runs.goto (pc' := 4) d18_170 (by decide) <| Runs.forget [true, true, true, false, false, false, false] rfl <| hk4 ob i1 (i2 + (1 : Int32)) hf
  · refine Runs.ifY (pc' := 151) d18_130 (feq hc17).2 (by decide) <| ?_
    refine Runs.aloadN d18_151 rfl <| Runs.getA d18_152 fA_14 w43 (by decide) <| Runs.iloadN d18_155 rfl <| ?_
    refine chk_el hf fun hi21 hf => ?_
    refine Runs.baloadA d18_156 fA_14 (by decide) hi21 <| ?_
    refine ite_el hf (fun hc22 hf => ?_) (fun hc22 hf => ?_)
    · refine Runs.ifN d18_157 (teq hc22).2 <| ?_
      obtain rfl := Option.some.inj hf
      exact Runs.iloadN d18_160 rfl <| Runs.retI d18_161 rfl ⟨by decide, by decide⟩ ⟨rfl, rfl⟩
    · refine Runs.ifY (pc' := 162) d18_157 (feq hc22).2 (by decide) <| ?_
      refine Runs.aloadN d18_162 rfl <| Runs.iloadN d18_163 rfl <| ?_
      refine bind_el hf fun q23 hg24 hf => ?_
      exact Runs.callP (N := B21) (W := 0) (as := [.int i3]) (S' := []) d18_164 w146 w147 w148 rfl cw21 ar21 rk18_21_0 (by decide) rfl rfl (X_writeBack_pay hg24) <| ans0 <| Runs.iinc (P' := [vr a, vi i1, vi (i2 + (1 : Int32)), vi i3, vn, vn, vi t0]) d18_167 ci_1 rfl (by decide) rfl <| Runs.goto (pc' := 4) d18_170 (by decide) <| Runs.forget [true, true, true, false, false, false, false] rfl <| hk4 q23 i1 (i2 + (1 : Int32)) hf
def X_chooseVictim_w4 (NF : Nat) (k4 : Rec → Int32 → Int32 → Option (Int32 × Rec)) (ob : Rec) (i1 : Int32) (i2 : Int32) : Option (Int32 × Rec) :=
  if i2 < ((2 : Int32) * (gI ob 2)) then
    dvz (gI ob 2) <|
    chk (32 : Int32) (gI ob 7) <|
    if (gA ob 12 (gI ob 7)) < (0 : Int32) then
      some ((gI ob 7), (sI ob 7 (((gI ob 7) + (1 : Int32)) % (gI ob 2))))
    else
      chk (32 : Int32) (gI ob 7) <|
      if (gA ob 13 (gI ob 7)) = (0 : Int32) then
        chk (4 : Int32) ((gA ob 12 (gI ob 7)) / (16 : Int32)) <|
        if (gA ob 0 ((gA ob 12 (gI ob 7)) / (16 : Int32))) = (0 : Int32) then
          chk (4 : Int32) ((gA ob 12 (gI ob 7)) / (16 : Int32)) <|
          chk (64 : Int32) (gA ob 12 (gI ob 7)) <|
          if ((gA ob 1 ((gA ob 12 (gI ob 7)) / (16 : Int32))) - (gA ob 11 (gA ob 12 (gI ob 7)))) < (gI ob 3) then
            X_chooseVictim_b126 NF k4 (sI ob 7 (((gI ob 7) + (1 : Int32)) % (gI ob 2))) i1 i2 (gI ob 7) (0 : Int32)
          else
            X_chooseVictim_b126 NF k4 (sI ob 7 (((gI ob 7) + (1 : Int32)) % (gI ob 2))) i1 i2 (gI ob 7) (1 : Int32)
        else
          X_chooseVictim_b126 NF k4 (sI ob 7 (((gI ob 7) + (1 : Int32)) % (gI ob 2))) i1 i2 (gI ob 7) (1 : Int32)
      else
        chk (32 : Int32) (gI ob 7) <|
        chk (4 : Int32) ((gA ob 12 (gI ob 7)) / (16 : Int32)) <|
        chk (64 : Int32) (gA ob 12 (gI ob 7)) <|
        k4 (sA (sA (sI ob 7 (((gI ob 7) + (1 : Int32)) % (gI ob 2))) 13 (gI ob 7) (0 : Int32)) 11 (gA ob 12 (gI ob 7)) (gA ob 1 ((gA ob 12 (gI ob 7)) / (16 : Int32)))) i1 (i2 + (1 : Int32))
  else
    if i1 < (0 : Int32) then
      dvz (gI ob 2) <|
      some ((gI ob 7), (sI ob 7 (((gI ob 7) + (1 : Int32)) % (gI ob 2))))
    else
      some (i1, ob)
def X_chooseVictim_l4 (NF : Nat) : Nat → Rec → Int32 → Int32 → Option (Int32 × Rec)
  | 0, _, _, _ => none
  | n + 1, ob, i1, i2 => X_chooseVictim_w4 NF (X_chooseVictim_l4 NF n) ob i1 i2
set_option maxRecDepth 65536 in
set_option maxHeartbeats 4000000 in
theorem X_chooseVictim_w4_p {C : Ctx} {top : Nat} {a : Nat} {H : List (Nat × Nat × Rec)} {res : Int32 × Rec} {NF : Nat} (k4 : Rec → Int32 → Int32 → Option (Int32 × Rec)) (hk4 : ∀ (ob : Rec) (i1 : Int32) (i2 : Int32), k4 ob i1 i2 = some res → Runs C B18 0 0 4 [vr a, vi i1, vi i2, vn, vn, vn, vn] [] (top, (a, 18, ob) :: H) (Ans (some (.int res.1)) (top, (a, 18, res.2) :: H))) (ob : Rec) (i1 : Int32) (i2 : Int32) (hf : X_chooseVictim_w4 NF k4 ob i1 i2 = some res) : Runs C B18 0 0 4 [vr a, vi i1, vi i2, vn, vn, vn, vn] [] (top, (a, 18, ob) :: H) (Ans (some (.int res.1)) (top, (a, 18, res.2) :: H)) := by
  delta X_chooseVictim_w4 at hf
  refine Runs.iloadN d18_4 rfl <| Runs.iconst d18_5 ci_2 <| Runs.aloadN d18_6 rfl <| Runs.getI d18_7 w59 fS_2 <| Runs.imul d18_10 <| ?_
  refine ite_el hf (fun hc1 hf => ?_) (fun hc1 hf => ?_)
  · refine Runs.icN d18_11 (tlt hc1).2.1 <| ?_
    refine Runs.aloadN d18_14 rfl <| Runs.getI d18_15 w69 fS_7 <| Runs.istoreN (P' := [vr a, vi i1, vi i2, vi (gI ob 7), vn, vn, vn]) d18_18 (by decide) rfl <| Runs.aloadN d18_19 rfl <| Runs.aloadN d18_20 rfl <| Runs.getI d18_21 w69 fS_7 <| Runs.iconst d18_24 ci_1 <| Runs.iadd d18_25 <| Runs.aloadN d18_26 rfl <| Runs.getI d18_27 w59 fS_2 <| ?_
    refine dvz_el hf fun hz2 hf => ?_
    refine Runs.irem d18_30 hz2 <| Runs.putI d18_31 w69 fS_7 (Or.inl w70) <| Runs.aloadN d18_34 rfl <| Runs.getA d18_35 fA_12 w39 (by decide) <| Runs.iloadN d18_38 rfl <| ?_
    refine chk_el hf fun hi3 hf => ?_
    refine Runs.ialoadA d18_39 fA_12 (by decide) hi3 <| Runs.istore (P' := [vr a, vi i1, vi i2, vi (gI ob 7), vi (gA ob 12 (gI ob 7)), vn, vn]) d18_40 (by decide) rfl <| Runs.iload d18_42 rfl <| ?_
    refine ite_el hf (fun hc4 hf => ?_) (fun hc4 hf => ?_)
    · refine Runs.ifN d18_44 (tlt hc4).2.1 <| ?_
      obtain rfl := Option.some.inj hf
      exact Runs.iloadN d18_47 rfl <| Runs.retI d18_48 rfl ⟨by decide, by decide⟩ ⟨rfl, rfl⟩
    · refine Runs.ifY (pc' := 49) d18_44 (flt hc4).2.1 (by decide) <| ?_
      refine Runs.iload d18_49 rfl <| Runs.bipush d18_51 cb_16 <| Runs.idiv d18_53 (by decide) <| Runs.istore (P' := [vr a, vi i1, vi i2, vi (gI ob 7), vi (gA ob 12 (gI ob 7)), vi ((gA ob 12 (gI ob 7)) / (16 : Int32)), vn]) d18_54 (by decide) rfl <| Runs.aloadN d18_56 rfl <| Runs.getA d18_57 fA_13 w41 (by decide) <| Runs.iloadN d18_60 rfl <| ?_
      refine chk_el hf fun hi5 hf => ?_
      refine Runs.baloadA d18_61 fA_13 (by decide) hi5 <| ?_
      refine ite_el hf (fun hc6 hf => ?_) (fun hc6 hf => ?_)
      · refine Runs.ifY (pc' := 89) d18_62 (teq hc6).1 (by decide) <| ?_
        refine Runs.aloadN d18_89 rfl <| Runs.getA d18_90 fA_0 w14 (by decide) <| Runs.iload d18_93 rfl <| ?_
        refine chk_el hf fun hi7 hf => ?_
        refine Runs.baloadA d18_95 fA_0 (by decide) hi7 <| ?_
        refine ite_el hf (fun hc8 hf => ?_) (fun hc8 hf => ?_)
        · refine Runs.ifN d18_96 (teq hc8).2 <| ?_
          refine Runs.aloadN d18_99 rfl <| Runs.getA d18_100 fA_1 w17 (by decide) <| Runs.iload d18_103 rfl <| ?_
          refine chk_el hf fun hi9 hf => ?_
          refine Runs.ialoadA d18_105 fA_1 (by decide) hi9 <| Runs.aloadN d18_106 rfl <| Runs.getA d18_107 fA_11 w37 (by decide) <| Runs.iload d18_110 rfl <| ?_
          refine chk_el hf fun hi10 hf => ?_
          refine Runs.ialoadA d18_112 fA_11 (by decide) hi10 <| Runs.isub d18_113 <| Runs.aloadN d18_114 rfl <| Runs.getI d18_115 w61 fS_3 <| ?_
          refine ite_el hf (fun hc11 hf => ?_) (fun hc11 hf => ?_)
          · refine Runs.icY (pc' := 125) d18_118 (tlt hc11).1 (by decide) <| ?_
            exact Runs.iconst d18_125 ci_0 <| Runs.forget [true, true, true, true, false, false, false] rfl <| X_chooseVictim_b126_p k4 hk4 (sI ob 7 (((gI ob 7) + (1 : Int32)) % (gI ob 2))) i1 i2 (gI ob 7) (0 : Int32) hf
          · refine Runs.icN d18_118 (flt hc11).1 <| ?_
            exact Runs.iconst d18_121 ci_1 <| Runs.goto (pc' := 126) d18_122 (by decide) <| Runs.forget [true, true, true, true, false, false, false] rfl <| X_chooseVictim_b126_p k4 hk4 (sI ob 7 (((gI ob 7) + (1 : Int32)) % (gI ob 2))) i1 i2 (gI ob 7) (1 : Int32) hf
        · refine Runs.ifY (pc' := 121) d18_96 (feq hc8).2 (by decide) <| ?_
          exact Runs.iconst d18_121 ci_1 <| Runs.goto (pc' := 126) d18_122 (by decide) <| Runs.forget [true, true, true, true, false, false, false] rfl <| X_chooseVictim_b126_p k4 hk4 (sI ob 7 (((gI ob 7) + (1 : Int32)) % (gI ob 2))) i1 i2 (gI ob 7) (1 : Int32) hf
      · refine Runs.ifN d18_62 (feq hc6).1 <| ?_
        refine Runs.aloadN d18_65 rfl <| Runs.getA d18_66 fA_13 w41 (by decide) <| Runs.iloadN d18_69 rfl <| Runs.iconst d18_70 ci_0 <| ?_
        refine chk_el hf fun hi12 hf => ?_
        refine Runs.bastoreA (y := (0 : Int32)) d18_71 fA_13 (by decide) hi12 rfl <| Runs.aloadN d18_72 rfl <| Runs.getA d18_73 fA_11 w37 (by decide) <| Runs.iload d18_76 rfl <| Runs.aloadN d18_78 rfl <| Runs.getA d18_79 fA_1 w17 (by decide) <| Runs.iload d18_82 rfl <| ?_
        refine chk_el hf fun hi13 hf => ?_
        refine Runs.ialoadA d18_84 fA_1 (by decide) hi13 <| ?_
        refine chk_el hf fun hi14 hf => ?_
        exact Runs.iastoreA d18_85 fA_11 (by decide) hi14 <| Runs.goto (pc' := 167) d18_86 (by decide) <| Runs.iinc (P' := [vr a, vi i1, vi (i2 + (1 : Int32)), vi (gI ob 7), vi (gA ob 12 (gI ob 7)), vi ((gA ob 12 (gI ob 7)) / (16 : Int32)), vn]) d18_167 ci_1 rfl (by decide) rfl <| Runs.goto (pc' := 4) d18_170 (by decide) <| Runs.forget [true, true, true, false, false, false, false] rfl <| hk4 (sA (sA (sI ob 7 (((gI ob 7) + (1 : Int32)) % (gI ob 2))) 13 (gI ob 7) (0 : Int32)) 11 (gA ob 12 (gI ob 7)) (gA ob 1 ((gA ob 12 (gI ob 7)) / (16 : Int32)))) i1 (i2 + (1 : Int32)) hf
  · refine Runs.icY (pc' := 173) d18_11 (flt hc1).2.1 (by decide) <| ?_
    refine Runs.iloadN d18_173 rfl <| ?_
    refine ite_el hf (fun hc15 hf => ?_) (fun hc15 hf => ?_)
    · refine Runs.ifY (pc' := 179) d18_174 (tlt hc15).1 (by decide) <| ?_
      refine Runs.aloadN d18_179 rfl <| Runs.getI d18_180 w69 fS_7 <| Runs.istoreN (P' := [vr a, vi i1, vi (gI ob 7), vn, vn, vn, vn]) d18_183 (by decide) rfl <| Runs.aloadN d18_184 rfl <| Runs.aloadN d18_185 rfl <| Runs.getI d18_186 w69 fS_7 <| Runs.iconst d18_189 ci_1 <| Runs.iadd d18_190 <| Runs.aloadN d18_191 rfl <| Runs.getI d18_192 w59 fS_2 <| ?_
      refine dvz_el hf fun hz16 hf => ?_
      obtain rfl := Option.some.inj hf
      exact Runs.irem d18_195 hz16 <| Runs.putI d18_196 w69 fS_7 (Or.inl w70) <| Runs.iloadN d18_199 rfl <| Runs.retI d18_200 rfl ⟨by decide, by decide⟩ ⟨rfl, rfl⟩
    · refine Runs.ifN d18_174 (flt hc15).1 <| ?_
      obtain rfl := Option.some.inj hf
      exact Runs.iloadN d18_177 rfl <| Runs.retI d18_178 rfl ⟨by decide, by decide⟩ ⟨rfl, rfl⟩
theorem X_chooseVictim_l4_p {C : Ctx} {top : Nat} {a : Nat} {H : List (Nat × Nat × Rec)} {res : Int32 × Rec} {NF : Nat} (n : Nat) (ob : Rec) (i1 : Int32) (i2 : Int32) (hf : X_chooseVictim_l4 NF n ob i1 i2 = some res) : Runs C B18 0 0 4 [vr a, vi i1, vi i2, vn, vn, vn, vn] [] (top, (a, 18, ob) :: H) (Ans (some (.int res.1)) (top, (a, 18, res.2) :: H)) := by
  induction n generalizing ob i1 i2 with
  | zero => cases (show (none : Option (Int32 × Rec)) = some res from hf)
  | succ n ih => exact X_chooseVictim_w4_p (X_chooseVictim_l4 NF n) (fun ob i1 i2 h => ih _ _ _ h) ob i1 i2 hf
def X_chooseVictim (NF : Nat) (ob : Rec) : Option (Int32 × Rec) :=
  X_chooseVictim_l4 NF NF ob (-1 : Int32) (0 : Int32)
set_option maxRecDepth 65536 in
set_option maxHeartbeats 4000000 in
theorem X_chooseVictim_p {C : Ctx} {top : Nat} {a : Nat} {H : List (Nat × Nat × Rec)} {res : Int32 × Rec} {NF : Nat} (ob : Rec) (hf : X_chooseVictim NF ob = some res) : Runs C B18 0 0 0 [vr a, vn, vn, vn, vn, vn, vn] [] (top, (a, 18, ob) :: H) (Ans (some (.int res.1)) (top, (a, 18, res.2) :: H)) := by
  delta X_chooseVictim at hf
  exact Runs.iconst d18_0 ci_m1 <| Runs.istoreN (P' := [vr a, vi (-1 : Int32), vn, vn, vn, vn, vn]) d18_1 (by decide) rfl <| Runs.iconst d18_2 ci_0 <| Runs.istoreN (P' := [vr a, vi (-1 : Int32), vi (0 : Int32), vn, vn, vn, vn]) d18_3 (by decide) rfl <| X_chooseVictim_l4_p NF ob (-1 : Int32) (0 : Int32) hf
theorem X_chooseVictim_pay {C : Ctx} {top : Nat} {a : Nat} {H : List (Nat × Nat × Rec)} {res : Int32 × Rec} {NF : Nat} {ob : Rec} (hf : X_chooseVictim NF ob = some res) : Pays C B18 [.ref a] (top, (a, 18, ob) :: H) (Ans (some (.int res.1)) (top, (a, 18, res.2) :: H)) :=
  Pays.of pnK (Nat.le_of_ble_eq_true rfl) (P := [vr a, vn, vn, vn, vn, vn, vn]) 6 rfl (X_chooseVictim_p ob hf)
def X_evictFrame_b26 (NF : Nat) (ob : Rec) (i1 : Int32) (i2 : Int32) : Option (Rec) :=
  chk (64 : Int32) i2 <|
  chk (32 : Int32) i1 <|
  chk (32 : Int32) i1 <|
  chk (32 : Int32) i1 <|
  some (sA (sA (sA (sA ob 9 i2 (-1 : Int32)) 12 i1 (-1 : Int32)) 13 i1 (0 : Int32)) 14 i1 (0 : Int32))
set_option maxRecDepth 65536 in
set_option maxHeartbeats 4000000 in
theorem X_evictFrame_b26_p {C : Ctx} {top : Nat} {a : Nat} {H : List (Nat × Nat × Rec)} {res : Rec} {NF : Nat} (ob : Rec) (i1 : Int32) (i2 : Int32) (hf : X_evictFrame_b26 NF ob i1 i2 = some res) : Runs C B19 0 0 26 [vr a, vi i1, vi i2] [] (top, (a, 18, ob) :: H) (Ans none (top, (a, 18, res) :: H)) := by
  delta X_evictFrame_b26 at hf
  refine Runs.aloadN d19_26 rfl <| Runs.getA d19_27 fA_9 w33 (by decide) <| Runs.iloadN d19_30 rfl <| Runs.iconst d19_31 ci_m1 <| ?_
  refine chk_el hf fun hi1 hf => ?_
  refine Runs.iastoreA d19_32 fA_9 (by decide) hi1 <| Runs.aloadN d19_33 rfl <| Runs.getA d19_34 fA_12 w39 (by decide) <| Runs.iloadN d19_37 rfl <| Runs.iconst d19_38 ci_m1 <| ?_
  refine chk_el hf fun hi2 hf => ?_
  refine Runs.iastoreA d19_39 fA_12 (by decide) hi2 <| Runs.aloadN d19_40 rfl <| Runs.getA d19_41 fA_13 w41 (by decide) <| Runs.iloadN d19_44 rfl <| Runs.iconst d19_45 ci_0 <| ?_
  refine chk_el hf fun hi3 hf => ?_
  refine Runs.bastoreA (y := (0 : Int32)) d19_46 fA_13 (by decide) hi3 rfl <| Runs.aloadN d19_47 rfl <| Runs.getA d19_48 fA_14 w43 (by decide) <| Runs.iloadN d19_51 rfl <| Runs.iconst d19_52 ci_0 <| ?_
  refine chk_el hf fun hi4 hf => ?_
  obtain rfl := Option.some.inj hf
  exact Runs.bastoreA (y := (0 : Int32)) d19_53 fA_14 (by decide) hi4 rfl <| Runs.retV d19_54 rfl ⟨by decide, by decide⟩ ⟨rfl, rfl⟩
def X_evictFrame (NF : Nat) (ob : Rec) (i1 : Int32) : Option (Rec) :=
  chk (32 : Int32) i1 <|
  if (gA ob 12 i1) < (0 : Int32) then
    some ob
  else
    chk (32 : Int32) i1 <|
    if (gA ob 14 i1) = (0 : Int32) then
      X_evictFrame_b26 NF ob i1 (gA ob 12 i1)
    else
      (X_writeBack NF ob i1).bind fun q9 =>
      X_evictFrame_b26 NF q9 i1 (gA ob 12 i1)
set_option maxRecDepth 65536 in
set_option maxHeartbeats 4000000 in
theorem X_evictFrame_p {C : Ctx} {top : Nat} {a : Nat} {H : List (Nat × Nat × Rec)} {res : Rec} {NF : Nat} (ob : Rec) (i1 : Int32) (hf : X_evictFrame NF ob i1 = some res) : Runs C B19 0 0 0 [vr a, vi i1, vn] [] (top, (a, 18, ob) :: H) (Ans none (top, (a, 18, res) :: H)) := by
  delta X_evictFrame at hf
  refine Runs.aloadN d19_0 rfl <| Runs.getA d19_1 fA_12 w39 (by decide) <| Runs.iloadN d19_4 rfl <| ?_
  refine chk_el hf fun hi5 hf => ?_
  refine Runs.ialoadA d19_5 fA_12 (by decide) hi5 <| Runs.istoreN (P' := [vr a, vi i1, vi (gA ob 12 i1)]) d19_6 (by decide) rfl <| Runs.iloadN d19_7 rfl <| ?_
  refine ite_el hf (fun hc6 hf => ?_) (fun hc6 hf => ?_)
  · refine Runs.ifN d19_8 (tlt hc6).2.1 <| ?_
    obtain rfl := Option.some.inj hf
    exact Runs.retV d19_11 rfl ⟨by decide, by decide⟩ ⟨rfl, rfl⟩
  · refine Runs.ifY (pc' := 12) d19_8 (flt hc6).2.1 (by decide) <| ?_
    refine Runs.aloadN d19_12 rfl <| Runs.getA d19_13 fA_14 w43 (by decide) <| Runs.iloadN d19_16 rfl <| ?_
    refine chk_el hf fun hi7 hf => ?_
    refine Runs.baloadA d19_17 fA_14 (by decide) hi7 <| ?_
    refine ite_el hf (fun hc8 hf => ?_) (fun hc8 hf => ?_)
    · exact Runs.ifY (pc' := 26) d19_18 (teq hc8).1 (by decide) <| X_evictFrame_b26_p ob i1 (gA ob 12 i1) hf
    · refine Runs.ifN d19_18 (feq hc8).1 <| ?_
      refine Runs.aloadN d19_21 rfl <| Runs.iloadN d19_22 rfl <| ?_
      refine bind_el hf fun q9 hg10 hf => ?_
      exact Runs.callP (N := B21) (W := 0) (as := [.int i1]) (S' := []) d19_23 w146 w147 w148 rfl cw21 ar21 rk19_21_0 (by decide) rfl rfl (X_writeBack_pay hg10) <| ans0 <| X_evictFrame_b26_p q9 i1 (gA ob 12 i1) hf
theorem X_evictFrame_pay {C : Ctx} {top : Nat} {a : Nat} {H : List (Nat × Nat × Rec)} {res : Rec} {NF : Nat} {ob : Rec} {i1 : Int32} (hf : X_evictFrame NF ob i1 = some res) : Pays C B19 [.ref a, .int i1] (top, (a, 18, ob) :: H) (Ans none (top, (a, 18, res) :: H)) :=
  Pays.of pnK (Nat.le_of_ble_eq_true rfl) (P := [vr a, vi i1, vn]) 1 rfl (X_evictFrame_p ob i1 hf)
def X_fillFrame_w15 (NF : Nat) (k15 : Rec → Int32 → Int32 → Int32 → Int32 → Int32 → Option (Rec)) (ob : Rec) (i1 : Int32) (i2 : Int32) (i3 : Int32) (i4 : Int32) (i5 : Int32) : Option (Rec) :=
  if i5 < (4 : Int32) then
    if i3 < (0 : Int32) then
      chk (128 : Int32) (i4 + i5) <|
      k15 (sA ob 15 (i4 + i5) (0 : Int32)) i1 i2 i3 i4 (i5 + (1 : Int32))
    else
      chk (256 : Int32) ((i3 * (4 : Int32)) + i5) <|
      chk (128 : Int32) (i4 + i5) <|
      k15 (sA ob 15 (i4 + i5) (gA ob 17 ((i3 * (4 : Int32)) + i5))) i1 i2 i3 i4 (i5 + (1 : Int32))
  else
    chk (32 : Int32) i1 <|
    chk (32 : Int32) i1 <|
    chk (32 : Int32) i1 <|
    chk (64 : Int32) i2 <|
    chk (4 : Int32) (i2 / (16 : Int32)) <|
    chk (64 : Int32) i2 <|
    some (sA (sA (sA (sA (sA ob 12 i1 i2) 13 i1 (0 : Int32)) 14 i1 (0 : Int32)) 9 i2 i1) 11 i2 (gA ob 1 (i2 / (16 : Int32))))
def X_fillFrame_l15 (NF : Nat) : Nat → Rec → Int32 → Int32 → Int32 → Int32 → Int32 → Option (Rec)
  | 0, _, _, _, _, _, _ => none
  | n + 1, ob, i1, i2, i3, i4, i5 => X_fillFrame_w15 NF (X_fillFrame_l15 NF n) ob i1 i2 i3 i4 i5
set_option maxRecDepth 65536 in
set_option maxHeartbeats 4000000 in
theorem X_fillFrame_w15_p {C : Ctx} {top : Nat} {a : Nat} {H : List (Nat × Nat × Rec)} {res : Rec} {NF : Nat} (k15 : Rec → Int32 → Int32 → Int32 → Int32 → Int32 → Option (Rec)) (hk15 : ∀ (ob : Rec) (i1 : Int32) (i2 : Int32) (i3 : Int32) (i4 : Int32) (i5 : Int32), k15 ob i1 i2 i3 i4 i5 = some res → Runs C B9 0 0 15 [vr a, vi i1, vi i2, vi i3, vi i4, vi i5] [] (top, (a, 18, ob) :: H) (Ans none (top, (a, 18, res) :: H))) (ob : Rec) (i1 : Int32) (i2 : Int32) (i3 : Int32) (i4 : Int32) (i5 : Int32) (hf : X_fillFrame_w15 NF k15 ob i1 i2 i3 i4 i5 = some res) : Runs C B9 0 0 15 [vr a, vi i1, vi i2, vi i3, vi i4, vi i5] [] (top, (a, 18, ob) :: H) (Ans none (top, (a, 18, res) :: H)) := by
  delta X_fillFrame_w15 at hf
  refine Runs.iload d9_15 rfl <| Runs.iconst d9_17 ci_4 <| ?_
  refine ite_el hf (fun hc1 hf => ?_) (fun hc1 hf => ?_)
  · refine Runs.icN d9_18 (tlt hc1).2.1 <| ?_
    refine Runs.iloadN d9_21 rfl <| ?_
    refine ite_el hf (fun hc2 hf => ?_) (fun hc2 hf => ?_)
    · refine Runs.ifY (pc' := 49) d9_22 (tlt hc2).1 (by decide) <| ?_
      refine Runs.aloadN d9_49 rfl <| Runs.getA d9_50 fA_15 w45 (by decide) <| Runs.iload d9_53 rfl <| Runs.iload d9_55 rfl <| Runs.iadd d9_57 <| Runs.iconst d9_58 ci_0 <| ?_
      refine chk_el hf fun hi3 hf => ?_
      exact Runs.iastoreA d9_59 fA_15 (by decide) hi3 <| Runs.iinc (P' := [vr a, vi i1, vi i2, vi i3, vi i4, vi (i5 + (1 : Int32))]) d9_60 ci_1 rfl (by decide) rfl <| Runs.goto (pc' := 15) d9_63 (by decide) <| hk15 (sA ob 15 (i4 + i5) (0 : Int32)) i1 i2 i3 i4 (i5 + (1 : Int32)) hf
    · refine Runs.ifN d9_22 (flt hc2).1 <| ?_
      refine Runs.aloadN d9_25 rfl <| Runs.getA d9_26 fA_15 w45 (by decide) <| Runs.iload d9_29 rfl <| Runs.iload d9_31 rfl <| Runs.iadd d9_33 <| Runs.aloadN d9_34 rfl <| Runs.getA d9_35 fA_17 w49 (by decide) <| Runs.iloadN d9_38 rfl <| Runs.iconst d9_39 ci_4 <| Runs.imul d9_40 <| Runs.iload d9_41 rfl <| Runs.iadd d9_43 <| ?_
      refine chk_el hf fun hi4 hf => ?_
      refine Runs.ialoadA d9_44 fA_17 (by decide) hi4 <| ?_
      refine chk_el hf fun hi5 hf => ?_
      exact Runs.iastoreA d9_45 fA_15 (by decide) hi5 <| Runs.goto (pc' := 60) d9_46 (by decide) <| Runs.iinc (P' := [vr a, vi i1, vi i2, vi i3, vi i4, vi (i5 + (1 : Int32))]) d9_60 ci_1 rfl (by decide) rfl <| Runs.goto (pc' := 15) d9_63 (by decide) <| hk15 (sA ob 15 (i4 + i5) (gA ob 17 ((i3 * (4 : Int32)) + i5))) i1 i2 i3 i4 (i5 + (1 : Int32)) hf
  · refine Runs.icY (pc' := 66) d9_18 (flt hc1).2.1 (by decide) <| ?_
    refine Runs.aloadN d9_66 rfl <| Runs.getA d9_67 fA_12 w39 (by decide) <| Runs.iloadN d9_70 rfl <| Runs.iloadN d9_71 rfl <| ?_
    refine chk_el hf fun hi6 hf => ?_
    refine Runs.iastoreA d9_72 fA_12 (by decide) hi6 <| Runs.aloadN d9_73 rfl <| Runs.getA d9_74 fA_13 w41 (by decide) <| Runs.iloadN d9_77 rfl <| Runs.iconst d9_78 ci_0 <| ?_
    refine chk_el hf fun hi7 hf => ?_
    refine Runs.bastoreA (y := (0 : Int32)) d9_79 fA_13 (by decide) hi7 rfl <| Runs.aloadN d9_80 rfl <| Runs.getA d9_81 fA_14 w43 (by decide) <| Runs.iloadN d9_84 rfl <| Runs.iconst d9_85 ci_0 <| ?_
    refine chk_el hf fun hi8 hf => ?_
    refine Runs.bastoreA (y := (0 : Int32)) d9_86 fA_14 (by decide) hi8 rfl <| Runs.aloadN d9_87 rfl <| Runs.getA d9_88 fA_9 w33 (by decide) <| Runs.iloadN d9_91 rfl <| Runs.iloadN d9_92 rfl <| ?_
    refine chk_el hf fun hi9 hf => ?_
    refine Runs.iastoreA d9_93 fA_9 (by decide) hi9 <| Runs.aloadN d9_94 rfl <| Runs.getA d9_95 fA_11 w37 (by decide) <| Runs.iloadN d9_98 rfl <| Runs.aloadN d9_99 rfl <| Runs.getA d9_100 fA_1 w17 (by decide) <| Runs.iloadN d9_103 rfl <| Runs.bipush d9_104 cb_16 <| Runs.idiv d9_106 (by decide) <| ?_
    refine chk_el hf fun hi10 hf => ?_
    refine Runs.ialoadA d9_107 fA_1 (by decide) hi10 <| ?_
    refine chk_el hf fun hi11 hf => ?_
    obtain rfl := Option.some.inj hf
    exact Runs.iastoreA d9_108 fA_11 (by decide) hi11 <| Runs.retV d9_109 rfl ⟨by decide, by decide⟩ ⟨rfl, rfl⟩
theorem X_fillFrame_l15_p {C : Ctx} {top : Nat} {a : Nat} {H : List (Nat × Nat × Rec)} {res : Rec} {NF : Nat} (n : Nat) (ob : Rec) (i1 : Int32) (i2 : Int32) (i3 : Int32) (i4 : Int32) (i5 : Int32) (hf : X_fillFrame_l15 NF n ob i1 i2 i3 i4 i5 = some res) : Runs C B9 0 0 15 [vr a, vi i1, vi i2, vi i3, vi i4, vi i5] [] (top, (a, 18, ob) :: H) (Ans none (top, (a, 18, res) :: H)) := by
  induction n generalizing ob i1 i2 i3 i4 i5 with
  | zero => cases (show (none : Option (Rec)) = some res from hf)
  | succ n ih => exact X_fillFrame_w15_p (X_fillFrame_l15 NF n) (fun ob i1 i2 i3 i4 i5 h => ih _ _ _ _ _ _ h) ob i1 i2 i3 i4 i5 hf
def X_fillFrame (NF : Nat) (ob : Rec) (i1 : Int32) (i2 : Int32) : Option (Rec) :=
  chk (64 : Int32) i2 <|
  X_fillFrame_l15 NF NF ob i1 i2 (gA ob 10 i2) (i1 * (4 : Int32)) (0 : Int32)
set_option maxRecDepth 65536 in
set_option maxHeartbeats 4000000 in
theorem X_fillFrame_p {C : Ctx} {top : Nat} {a : Nat} {H : List (Nat × Nat × Rec)} {res : Rec} {NF : Nat} (ob : Rec) (i1 : Int32) (i2 : Int32) (hf : X_fillFrame NF ob i1 i2 = some res) : Runs C B9 0 0 0 [vr a, vi i1, vi i2, vn, vn, vn] [] (top, (a, 18, ob) :: H) (Ans none (top, (a, 18, res) :: H)) := by
  delta X_fillFrame at hf
  refine Runs.aloadN d9_0 rfl <| Runs.getA d9_1 fA_10 w35 (by decide) <| Runs.iloadN d9_4 rfl <| ?_
  refine chk_el hf fun hi12 hf => ?_
  exact Runs.ialoadA d9_5 fA_10 (by decide) hi12 <| Runs.istoreN (P' := [vr a, vi i1, vi i2, vi (gA ob 10 i2), vn, vn]) d9_6 (by decide) rfl <| Runs.iloadN d9_7 rfl <| Runs.iconst d9_8 ci_4 <| Runs.imul d9_9 <| Runs.istore (P' := [vr a, vi i1, vi i2, vi (gA ob 10 i2), vi (i1 * (4 : Int32)), vn]) d9_10 (by decide) rfl <| Runs.iconst d9_12 ci_0 <| Runs.istore (P' := [vr a, vi i1, vi i2, vi (gA ob 10 i2), vi (i1 * (4 : Int32)), vi (0 : Int32)]) d9_13 (by decide) rfl <| X_fillFrame_l15_p NF ob i1 i2 (gA ob 10 i2) (i1 * (4 : Int32)) (0 : Int32) hf
theorem X_fillFrame_pay {C : Ctx} {top : Nat} {a : Nat} {H : List (Nat × Nat × Rec)} {res : Rec} {NF : Nat} {ob : Rec} {i1 : Int32} {i2 : Int32} (hf : X_fillFrame NF ob i1 i2 = some res) : Pays C B9 [.ref a, .int i1, .int i2] (top, (a, 18, ob) :: H) (Ans none (top, (a, 18, res) :: H)) :=
  Pays.of pnK (Nat.le_of_ble_eq_true rfl) (P := [vr a, vi i1, vi i2, vn, vn, vn]) 3 rfl (X_fillFrame_p ob i1 i2 hf)
def X_ensureResident_b46 (NF : Nat) (ob : Rec) (i3 : Int32) (i4 : Int32) : Option (Int32 × Rec) :=
  (X_fillFrame NF ob i4 i3).bind fun q1 =>
  some (i4, q1)
set_option maxRecDepth 65536 in
set_option maxHeartbeats 4000000 in
theorem X_ensureResident_b46_p {C : Ctx} {top : Nat} {a : Nat} {H : List (Nat × Nat × Rec)} {res : Int32 × Rec} {NF : Nat} (ob : Rec) (i3 : Int32) (i4 : Int32) (hf : X_ensureResident_b46 NF ob i3 i4 = some res) : Runs C B7 0 0 46 [vr a, vn, vn, vi i3, vi i4] [] (top, (a, 18, ob) :: H) (Ans (some (.int res.1)) (top, (a, 18, res.2) :: H)) := by
  delta X_ensureResident_b46 at hf
  refine Runs.aloadN d7_46 rfl <| Runs.iload d7_47 rfl <| Runs.iloadN d7_49 rfl <| ?_
  refine bind_el hf fun q1 hg2 hf => ?_
  obtain rfl := Option.some.inj hf
  exact Runs.callP (N := B9) (W := 0) (as := [.int i4, .int i3]) (S' := []) d7_50 w93 w94 w95 rfl cw9 ar9 rk7_9_0 (by decide) rfl rfl (X_fillFrame_pay hg2) <| ans0 <| Runs.iload d7_53 rfl <| Runs.retI d7_55 rfl ⟨by decide, by decide⟩ ⟨rfl, rfl⟩
def X_ensureResident (NF : Nat) (ob : Rec) (i1 : Int32) (i2 : Int32) : Option (Int32 × Rec) :=
  chk (64 : Int32) ((i1 * (16 : Int32)) + i2) <|
  if (gA ob 9 ((i1 * (16 : Int32)) + i2)) < (0 : Int32) then
    (X_findFreeFrame NF ob).bind fun r5 =>
    if r5 < (0 : Int32) then
      bind2 (X_chooseVictim NF ob) fun r8 q9 =>
      (X_evictFrame NF q9 r8).bind fun q11 =>
      X_ensureResident_b46 NF q11 ((i1 * (16 : Int32)) + i2) r8
    else
      X_ensureResident_b46 NF ob ((i1 * (16 : Int32)) + i2) r5
  else
    some ((gA ob 9 ((i1 * (16 : Int32)) + i2)), ob)
set_option maxRecDepth 65536 in
set_option maxHeartbeats 4000000 in
theorem X_ensureResident_p {C : Ctx} {top : Nat} {a : Nat} {H : List (Nat × Nat × Rec)} {res : Int32 × Rec} {NF : Nat} (ob : Rec) (i1 : Int32) (i2 : Int32) (hf : X_ensureResident NF ob i1 i2 = some res) : Runs C B7 0 0 0 [vr a, vi i1, vi i2, vn, vn] [] (top, (a, 18, ob) :: H) (Ans (some (.int res.1)) (top, (a, 18, res.2) :: H)) := by
  delta X_ensureResident at hf
  refine Runs.iloadN d7_0 rfl <| Runs.bipush d7_1 cb_16 <| Runs.imul d7_3 <| Runs.iloadN d7_4 rfl <| Runs.iadd d7_5 <| Runs.istoreN (P' := [vr a, vi i1, vi i2, vi ((i1 * (16 : Int32)) + i2), vn]) d7_6 (by decide) rfl <| Runs.aloadN d7_7 rfl <| Runs.getA d7_8 fA_9 w33 (by decide) <| Runs.iloadN d7_11 rfl <| ?_
  refine chk_el hf fun hi3 hf => ?_
  refine Runs.ialoadA d7_12 fA_9 (by decide) hi3 <| Runs.istore (P' := [vr a, vi i1, vi i2, vi ((i1 * (16 : Int32)) + i2), vi (gA ob 9 ((i1 * (16 : Int32)) + i2))]) d7_13 (by decide) rfl <| Runs.iload d7_15 rfl <| ?_
  refine ite_el hf (fun hc4 hf => ?_) (fun hc4 hf => ?_)
  · refine Runs.ifY (pc' := 23) d7_17 (tlt hc4).1 (by decide) <| ?_
    refine Runs.aloadN d7_23 rfl <| ?_
    refine bind_el hf fun r5 hg6 hf => ?_
    refine Runs.callP (N := B8) (W := 0) (as := []) (S' := []) d7_24 w89 w90 w91 rfl cw8 ar8 rk7_8_0 (by decide) rfl rfl (X_findFreeFrame_pay hg6) <| ans1 <| Runs.istore (P' := [vr a, vi i1, vi i2, vi ((i1 * (16 : Int32)) + i2), vi r5]) d7_27 (by decide) rfl <| Runs.iload d7_29 rfl <| ?_
    refine ite_el hf (fun hc7 hf => ?_) (fun hc7 hf => ?_)
    · refine Runs.ifN d7_31 (tlt hc7).2.1 <| ?_
      refine Runs.aloadN d7_34 rfl <| ?_
      refine bind2_el hf fun r8 q9 hg10 hf => ?_
      refine Runs.callP (N := B18) (W := 0) (as := []) (S' := []) d7_35 w134 w135 w136 rfl cw18 ar18 rk7_18_0 (by decide) rfl rfl (X_chooseVictim_pay hg10) <| ans1 <| Runs.istore (P' := [vr a, vi i1, vi i2, vi ((i1 * (16 : Int32)) + i2), vi r8]) d7_38 (by decide) rfl <| Runs.aloadN d7_40 rfl <| Runs.iload d7_41 rfl <| ?_
      refine bind_el hf fun q11 hg12 hf => ?_
      exact Runs.callP (N := B19) (W := 0) (as := [.int r8]) (S' := []) d7_43 w138 w139 w140 rfl cw19 ar19 rk7_19_0 (by decide) rfl rfl (X_evictFrame_pay hg12) <| ans0 <| Runs.forget [true, false, false, true, true] rfl <| X_ensureResident_b46_p q11 ((i1 * (16 : Int32)) + i2) r8 hf
    · exact Runs.ifY (pc' := 46) d7_31 (flt hc7).2.1 (by decide) <| Runs.forget [true, false, false, true, true] rfl <| X_ensureResident_b46_p ob ((i1 * (16 : Int32)) + i2) r5 hf
  · refine Runs.ifN d7_17 (flt hc4).1 <| ?_
    obtain rfl := Option.some.inj hf
    exact Runs.iload d7_20 rfl <| Runs.retI d7_22 rfl ⟨by decide, by decide⟩ ⟨rfl, rfl⟩
theorem X_ensureResident_pay {C : Ctx} {top : Nat} {a : Nat} {H : List (Nat × Nat × Rec)} {res : Int32 × Rec} {NF : Nat} {ob : Rec} {i1 : Int32} {i2 : Int32} (hf : X_ensureResident NF ob i1 i2 = some res) : Pays C B7 [.ref a, .int i1, .int i2] (top, (a, 18, ob) :: H) (Ans (some (.int res.1)) (top, (a, 18, res.2) :: H)) :=
  Pays.of pnK (Nat.le_of_ble_eq_true rfl) (P := [vr a, vi i1, vi i2, vn, vn]) 2 rfl (X_ensureResident_p ob i1 i2 hf)
def X_pushWindow_b135 (ob : Rec) (i1 : Int32) (i2 : Int32) (i3 : Int32) (i4 : Int32) : Option (Rec) :=
  chk (64 : Int32) (i3 + i2) <|
  chk (64 : Int32) (i3 + i2) <|
  dvz (gI ob 3) <|
  chk (4 : Int32) i1 <|
  some (sA (sA ob 7 (i3 + i2) ((gA ob 7 (i3 + i2)) + (1 : Int32))) 3 i1 ((i4 + (1 : Int32)) % (gI ob 3)))
set_option maxRecDepth 65536 in
set_option maxHeartbeats 4000000 in
theorem X_pushWindow_b135_p {C : Ctx} {top : Nat} {a : Nat} {H : List (Nat × Nat × Rec)} {res : Rec} (ob : Rec) (i1 : Int32) (i2 : Int32) (i3 : Int32) (i4 : Int32) (hf : X_pushWindow_b135 ob i1 i2 i3 i4 = some res) : Runs C B11 0 0 135 [vr a, vi i1, vi i2, vi i3, vi i4, vn] [] (top, (a, 18, ob) :: H) (Ans none (top, (a, 18, res) :: H)) := by
  delta X_pushWindow_b135 at hf
  refine Runs.aloadN d11_135 rfl <| Runs.getA d11_136 fA_7 w29 (by decide) <| Runs.iloadN d11_139 rfl <| Runs.iloadN d11_140 rfl <| Runs.iadd d11_141 <| Runs.aloadN d11_142 rfl <| Runs.getA d11_143 fA_7 w29 (by decide) <| Runs.iloadN d11_146 rfl <| Runs.iloadN d11_147 rfl <| Runs.iadd d11_148 <| ?_
  refine chk_el hf fun hi6 hf => ?_
  refine Runs.ialoadA d11_149 fA_7 (by decide) hi6 <| Runs.iconst d11_150 ci_1 <| Runs.iadd d11_151 <| ?_
  refine chk_el hf fun hi7 hf => ?_
  refine Runs.iastoreA d11_152 fA_7 (by decide) hi7 <| Runs.aloadN d11_153 rfl <| Runs.getA d11_154 fA_3 w21 (by decide) <| Runs.iloadN d11_157 rfl <| Runs.iload d11_158 rfl <| Runs.iconst d11_160 ci_1 <| Runs.iadd d11_161 <| Runs.aloadN d11_162 rfl <| Runs.getI d11_163 w61 fS_3 <| ?_
  refine dvz_el hf fun hz8 hf => ?_
  refine Runs.irem d11_166 hz8 <| ?_
  refine chk_el hf fun hi9 hf => ?_
  obtain rfl := Option.some.inj hf
  exact Runs.iastoreA d11_167 fA_3 (by decide) hi9 <| Runs.retV d11_168 rfl ⟨by decide, by decide⟩ ⟨rfl, rfl⟩
def X_pushWindow_b100 (ob : Rec) (i1 : Int32) (i2 : Int32) (i3 : Int32) (i4 : Int32) : Option (Rec) :=
  chk (64 : Int32) (i3 + i4) <|
  chk (64 : Int32) (i3 + i2) <|
  if (gA ob 7 (i3 + i2)) = (0 : Int32) then
    chk (4 : Int32) i1 <|
    chk (4 : Int32) i1 <|
    X_pushWindow_b135 (sA (sA ob 6 (i3 + i4) i2) 4 i1 ((gA ob 4 i1) + (1 : Int32))) i1 i2 i3 i4
  else
    X_pushWindow_b135 (sA ob 6 (i3 + i4) i2) i1 i2 i3 i4
set_option maxRecDepth 65536 in
set_option maxHeartbeats 4000000 in
theorem X_pushWindow_b100_p {C : Ctx} {top : Nat} {a : Nat} {H : List (Nat × Nat × Rec)} {res : Rec} (ob : Rec) (i1 : Int32) (i2 : Int32) (i3 : Int32) (i4 : Int32) (hf : X_pushWindow_b100 ob i1 i2 i3 i4 = some res) : Runs C B11 0 0 100 [vr a, vi i1, vi i2, vi i3, vi i4, vn] [] (top, (a, 18, ob) :: H) (Ans none (top, (a, 18, res) :: H)) := by
  delta X_pushWindow_b100 at hf
  refine Runs.aloadN d11_100 rfl <| Runs.getA d11_101 fA_6 w27 (by decide) <| Runs.iloadN d11_104 rfl <| Runs.iload d11_105 rfl <| Runs.iadd d11_107 <| Runs.iloadN d11_108 rfl <| ?_
  refine chk_el hf fun hi1 hf => ?_
  refine Runs.iastoreA d11_109 fA_6 (by decide) hi1 <| Runs.aloadN d11_110 rfl <| Runs.getA d11_111 fA_7 w29 (by decide) <| Runs.iloadN d11_114 rfl <| Runs.iloadN d11_115 rfl <| Runs.iadd d11_116 <| ?_
  refine chk_el hf fun hi2 hf => ?_
  refine Runs.ialoadA d11_117 fA_7 (by decide) hi2 <| ?_
  refine ite_el hf (fun hc3 hf => ?_) (fun hc3 hf => ?_)
  · refine Runs.ifN d11_118 (teq hc3).2 <| ?_
    refine Runs.aloadN d11_121 rfl <| Runs.getA d11_122 fA_4 w23 (by decide) <| Runs.iloadN d11_125 rfl <| Runs.aloadN d11_126 rfl <| Runs.getA d11_127 fA_4 w23 (by decide) <| Runs.iloadN d11_130 rfl <| ?_
    refine chk_el hf fun hi4 hf => ?_
    refine Runs.ialoadA d11_131 fA_4 (by decide) hi4 <| Runs.iconst d11_132 ci_1 <| Runs.iadd d11_133 <| ?_
    refine chk_el hf fun hi5 hf => ?_
    exact Runs.iastoreA d11_134 fA_4 (by decide) hi5 <| X_pushWindow_b135_p (sA (sA ob 6 (i3 + i4) i2) 4 i1 ((gA ob 4 i1) + (1 : Int32))) i1 i2 i3 i4 hf
  · exact Runs.ifY (pc' := 135) d11_118 (feq hc3).2 (by decide) <| X_pushWindow_b135_p (sA ob 6 (i3 + i4) i2) i1 i2 i3 i4 hf
def X_pushWindow (ob : Rec) (i1 : Int32) (i2 : Int32) : Option (Rec) :=
  chk (4 : Int32) i1 <|
  chk (4 : Int32) i1 <|
  if (gA ob 2 i1) < (gI ob 3) then
    chk (4 : Int32) i1 <|
    chk (4 : Int32) i1 <|
    X_pushWindow_b100 (sA ob 2 i1 ((gA ob 2 i1) + (1 : Int32))) i1 i2 (i1 * (16 : Int32)) (gA ob 3 i1)
  else
    chk (64 : Int32) ((i1 * (16 : Int32)) + (gA ob 3 i1)) <|
    chk (64 : Int32) ((i1 * (16 : Int32)) + (gA ob 6 ((i1 * (16 : Int32)) + (gA ob 3 i1)))) <|
    chk (64 : Int32) ((i1 * (16 : Int32)) + (gA ob 6 ((i1 * (16 : Int32)) + (gA ob 3 i1)))) <|
    chk (64 : Int32) ((i1 * (16 : Int32)) + (gA ob 6 ((i1 * (16 : Int32)) + (gA ob 3 i1)))) <|
    if (gA (sA ob 7 ((i1 * (16 : Int32)) + (gA ob 6 ((i1 * (16 : Int32)) + (gA ob 3 i1)))) ((gA ob 7 ((i1 * (16 : Int32)) + (gA ob 6 ((i1 * (16 : Int32)) + (gA ob 3 i1))))) - (1 : Int32))) 7 ((i1 * (16 : Int32)) + (gA ob 6 ((i1 * (16 : Int32)) + (gA ob 3 i1))))) = (0 : Int32) then
      chk (4 : Int32) i1 <|
      chk (4 : Int32) i1 <|
      X_pushWindow_b100 (sA (sA ob 7 ((i1 * (16 : Int32)) + (gA ob 6 ((i1 * (16 : Int32)) + (gA ob 3 i1)))) ((gA ob 7 ((i1 * (16 : Int32)) + (gA ob 6 ((i1 * (16 : Int32)) + (gA ob 3 i1))))) - (1 : Int32))) 4 i1 ((gA ob 4 i1) - (1 : Int32))) i1 i2 (i1 * (16 : Int32)) (gA ob 3 i1)
    else
      X_pushWindow_b100 (sA ob 7 ((i1 * (16 : Int32)) + (gA ob 6 ((i1 * (16 : Int32)) + (gA ob 3 i1)))) ((gA ob 7 ((i1 * (16 : Int32)) + (gA ob 6 ((i1 * (16 : Int32)) + (gA ob 3 i1))))) - (1 : Int32))) i1 i2 (i1 * (16 : Int32)) (gA ob 3 i1)
set_option maxRecDepth 65536 in
set_option maxHeartbeats 4000000 in
theorem X_pushWindow_p {C : Ctx} {top : Nat} {a : Nat} {H : List (Nat × Nat × Rec)} {res : Rec} (ob : Rec) (i1 : Int32) (i2 : Int32) (hf : X_pushWindow ob i1 i2 = some res) : Runs C B11 0 0 0 [vr a, vi i1, vi i2, vn, vn, vn] [] (top, (a, 18, ob) :: H) (Ans none (top, (a, 18, res) :: H)) := by
  delta X_pushWindow at hf
  refine Runs.iloadN d11_0 rfl <| Runs.bipush d11_1 cb_16 <| Runs.imul d11_3 <| Runs.istoreN (P' := [vr a, vi i1, vi i2, vi (i1 * (16 : Int32)), vn, vn]) d11_4 (by decide) rfl <| Runs.aloadN d11_5 rfl <| Runs.getA d11_6 fA_3 w21 (by decide) <| Runs.iloadN d11_9 rfl <| ?_
  refine chk_el hf fun hi10 hf => ?_
  refine Runs.ialoadA d11_10 fA_3 (by decide) hi10 <| Runs.istore (P' := [vr a, vi i1, vi i2, vi (i1 * (16 : Int32)), vi (gA ob 3 i1), vn]) d11_11 (by decide) rfl <| Runs.aloadN d11_13 rfl <| Runs.getA d11_14 fA_2 w19 (by decide) <| Runs.iloadN d11_17 rfl <| ?_
  refine chk_el hf fun hi11 hf => ?_
  refine Runs.ialoadA d11_18 fA_2 (by decide) hi11 <| Runs.aloadN d11_19 rfl <| Runs.getI d11_20 w61 fS_3 <| ?_
  refine ite_el hf (fun hc12 hf => ?_) (fun hc12 hf => ?_)
  · refine Runs.icY (pc' := 86) d11_23 (tlt hc12).1 (by decide) <| ?_
    refine Runs.aloadN d11_86 rfl <| Runs.getA d11_87 fA_2 w19 (by decide) <| Runs.iloadN d11_90 rfl <| Runs.aloadN d11_91 rfl <| Runs.getA d11_92 fA_2 w19 (by decide) <| Runs.iloadN d11_95 rfl <| ?_
    refine chk_el hf fun hi13 hf => ?_
    refine Runs.ialoadA d11_96 fA_2 (by decide) hi13 <| Runs.iconst d11_97 ci_1 <| Runs.iadd d11_98 <| ?_
    refine chk_el hf fun hi14 hf => ?_
    exact Runs.iastoreA d11_99 fA_2 (by decide) hi14 <| X_pushWindow_b100_p (sA ob 2 i1 ((gA ob 2 i1) + (1 : Int32))) i1 i2 (i1 * (16 : Int32)) (gA ob 3 i1) hf
  · refine Runs.icN d11_23 (flt hc12).1 <| ?_
    refine Runs.aloadN d11_26 rfl <| Runs.getA d11_27 fA_6 w27 (by decide) <| Runs.iloadN d11_30 rfl <| Runs.iload d11_31 rfl <| Runs.iadd d11_33 <| ?_
    refine chk_el hf fun hi15 hf => ?_
    refine Runs.ialoadA d11_34 fA_6 (by decide) hi15 <| Runs.istore (P' := [vr a, vi i1, vi i2, vi (i1 * (16 : Int32)), vi (gA ob 3 i1), vi (gA ob 6 ((i1 * (16 : Int32)) + (gA ob 3 i1)))]) d11_35 (by decide) rfl <| Runs.aloadN d11_37 rfl <| Runs.getA d11_38 fA_7 w29 (by decide) <| Runs.iloadN d11_41 rfl <| Runs.iload d11_42 rfl <| Runs.iadd d11_44 <| Runs.aloadN d11_45 rfl <| Runs.getA d11_46 fA_7 w29 (by decide) <| Runs.iloadN d11_49 rfl <| Runs.iload d11_50 rfl <| Runs.iadd d11_52 <| ?_
    refine chk_el hf fun hi16 hf => ?_
    refine Runs.ialoadA d11_53 fA_7 (by decide) hi16 <| Runs.iconst d11_54 ci_1 <| Runs.isub d11_55 <| ?_
    refine chk_el hf fun hi17 hf => ?_
    refine Runs.iastoreA d11_56 fA_7 (by decide) hi17 <| Runs.aloadN d11_57 rfl <| Runs.getA d11_58 fA_7 w29 (by decide) <| Runs.iloadN d11_61 rfl <| Runs.iload d11_62 rfl <| Runs.iadd d11_64 <| ?_
    refine chk_el hf fun hi18 hf => ?_
    refine Runs.ialoadA d11_65 fA_7 (by decide) hi18 <| ?_
    refine ite_el hf (fun hc19 hf => ?_) (fun hc19 hf => ?_)
    · refine Runs.ifN d11_66 (teq hc19).2 <| ?_
      refine Runs.aloadN d11_69 rfl <| Runs.getA d11_70 fA_4 w23 (by decide) <| Runs.iloadN d11_73 rfl <| Runs.aloadN d11_74 rfl <| Runs.getA d11_75 fA_4 w23 (by decide) <| Runs.iloadN d11_78 rfl <| ?_
      refine chk_el hf fun hi20 hf => ?_
      refine Runs.ialoadA d11_79 fA_4 (by decide) hi20 <| Runs.iconst d11_80 ci_1 <| Runs.isub d11_81 <| ?_
      refine chk_el hf fun hi21 hf => ?_
      exact Runs.iastoreA d11_82 fA_4 (by decide) hi21 <| Runs.goto (pc' := 100) d11_83 (by decide) <| Runs.forget [true, true, true, true, true, false] rfl <| X_pushWindow_b100_p (sA (sA ob 7 ((i1 * (16 : Int32)) + (gA ob 6 ((i1 * (16 : Int32)) + (gA ob 3 i1)))) ((gA ob 7 ((i1 * (16 : Int32)) + (gA ob 6 ((i1 * (16 : Int32)) + (gA ob 3 i1))))) - (1 : Int32))) 4 i1 ((gA ob 4 i1) - (1 : Int32))) i1 i2 (i1 * (16 : Int32)) (gA ob 3 i1) hf
    · refine Runs.ifY (pc' := 83) d11_66 (feq hc19).2 (by decide) <| ?_
      exact Runs.goto (pc' := 100) d11_83 (by decide) <| Runs.forget [true, true, true, true, true, false] rfl <| X_pushWindow_b100_p (sA ob 7 ((i1 * (16 : Int32)) + (gA ob 6 ((i1 * (16 : Int32)) + (gA ob 3 i1)))) ((gA ob 7 ((i1 * (16 : Int32)) + (gA ob 6 ((i1 * (16 : Int32)) + (gA ob 3 i1))))) - (1 : Int32))) i1 i2 (i1 * (16 : Int32)) (gA ob 3 i1) hf
theorem X_pushWindow_pay {C : Ctx} {top : Nat} {a : Nat} {H : List (Nat × Nat × Rec)} {res : Rec} {ob : Rec} {i1 : Int32} {i2 : Int32} (hf : X_pushWindow ob i1 i2 = some res) : Pays C B11 [.ref a, .int i1, .int i2] (top, (a, 18, ob) :: H) (Ans none (top, (a, 18, res) :: H)) :=
  Pays.of pnK (Nat.le_of_ble_eq_true rfl) (P := [vr a, vi i1, vi i2, vn, vn, vn]) 3 rfl (X_pushWindow_p ob i1 i2 hf)
def X_recordReference_b28 (ob : Rec) (i1 : Int32) (i2 : Int32) (i3 : Int32) : Option (Rec) :=
  chk (4 : Int32) i1 <|
  chk (4 : Int32) i1 <|
  chk (4 : Int32) i1 <|
  chk (64 : Int32) i3 <|
  (X_pushWindow (sA (sA ob 1 i1 ((gA ob 1 i1) + (1 : Int32))) 11 i3 (gA (sA ob 1 i1 ((gA ob 1 i1) + (1 : Int32))) 1 i1)) i1 i2).bind fun q5 =>
  chk (64 : Int32) i3 <|
  if (gA q5 8 i3) = (0 : Int32) then
    chk (64 : Int32) i3 <|
    chk (4 : Int32) i1 <|
    chk (4 : Int32) i1 <|
    some (sA (sA q5 8 i3 (1 : Int32)) 5 i1 ((gA q5 5 i1) + (1 : Int32)))
  else
    some q5
set_option maxRecDepth 65536 in
set_option maxHeartbeats 4000000 in
theorem X_recordReference_b28_p {C : Ctx} {top : Nat} {a : Nat} {H : List (Nat × Nat × Rec)} {res : Rec} (ob : Rec) (i1 : Int32) (i2 : Int32) (i3 : Int32) (hf : X_recordReference_b28 ob i1 i2 i3 = some res) : Runs C B10 0 0 28 [vr a, vi i1, vi i2, vi i3, vn] [] (top, (a, 18, ob) :: H) (Ans none (top, (a, 18, res) :: H)) := by
  delta X_recordReference_b28 at hf
  refine Runs.aloadN d10_28 rfl <| Runs.getA d10_29 fA_1 w17 (by decide) <| Runs.iloadN d10_32 rfl <| Runs.aloadN d10_33 rfl <| Runs.getA d10_34 fA_1 w17 (by decide) <| Runs.iloadN d10_37 rfl <| ?_
  refine chk_el hf fun hi1 hf => ?_
  refine Runs.ialoadA d10_38 fA_1 (by decide) hi1 <| Runs.iconst d10_39 ci_1 <| Runs.iadd d10_40 <| ?_
  refine chk_el hf fun hi2 hf => ?_
  refine Runs.iastoreA d10_41 fA_1 (by decide) hi2 <| Runs.aloadN d10_42 rfl <| Runs.getA d10_43 fA_11 w37 (by decide) <| Runs.iloadN d10_46 rfl <| Runs.aloadN d10_47 rfl <| Runs.getA d10_48 fA_1 w17 (by decide) <| Runs.iloadN d10_51 rfl <| ?_
  refine chk_el hf fun hi3 hf => ?_
  refine Runs.ialoadA d10_52 fA_1 (by decide) hi3 <| ?_
  refine chk_el hf fun hi4 hf => ?_
  refine Runs.iastoreA d10_53 fA_11 (by decide) hi4 <| Runs.aloadN d10_54 rfl <| Runs.iloadN d10_55 rfl <| Runs.iloadN d10_56 rfl <| ?_
  refine bind_el hf fun q5 hg6 hf => ?_
  refine Runs.callP (N := B11) (W := 0) (as := [.int i1, .int i2]) (S' := []) d10_57 w101 w102 w103 rfl cw11 ar11 rk10_11_0 (by decide) rfl rfl (X_pushWindow_pay hg6) <| ans0 <| Runs.aloadN d10_60 rfl <| Runs.getA d10_61 fA_8 w31 (by decide) <| Runs.iloadN d10_64 rfl <| ?_
  refine chk_el hf fun hi7 hf => ?_
  refine Runs.baloadA d10_65 fA_8 (by decide) hi7 <| ?_
  refine ite_el hf (fun hc8 hf => ?_) (fun hc8 hf => ?_)
  · refine Runs.ifN d10_66 (teq hc8).2 <| ?_
    refine Runs.aloadN d10_69 rfl <| Runs.getA d10_70 fA_8 w31 (by decide) <| Runs.iloadN d10_73 rfl <| Runs.iconst d10_74 ci_1 <| ?_
    refine chk_el hf fun hi9 hf => ?_
    refine Runs.bastoreA (y := (1 : Int32)) d10_75 fA_8 (by decide) hi9 rfl <| Runs.aloadN d10_76 rfl <| Runs.getA d10_77 fA_5 w25 (by decide) <| Runs.iloadN d10_80 rfl <| Runs.aloadN d10_81 rfl <| Runs.getA d10_82 fA_5 w25 (by decide) <| Runs.iloadN d10_85 rfl <| ?_
    refine chk_el hf fun hi10 hf => ?_
    refine Runs.ialoadA d10_86 fA_5 (by decide) hi10 <| Runs.iconst d10_87 ci_1 <| Runs.iadd d10_88 <| ?_
    refine chk_el hf fun hi11 hf => ?_
    obtain rfl := Option.some.inj hf
    exact Runs.iastoreA d10_89 fA_5 (by decide) hi11 <| Runs.retV d10_90 rfl ⟨by decide, by decide⟩ ⟨rfl, rfl⟩
  · refine Runs.ifY (pc' := 90) d10_66 (feq hc8).2 (by decide) <| ?_
    obtain rfl := Option.some.inj hf
    exact Runs.retV d10_90 rfl ⟨by decide, by decide⟩ ⟨rfl, rfl⟩
def X_recordReference (ob : Rec) (i1 : Int32) (i2 : Int32) : Option (Rec) :=
  chk (64 : Int32) ((i1 * (16 : Int32)) + i2) <|
  if (gA ob 9 ((i1 * (16 : Int32)) + i2)) < (0 : Int32) then
    X_recordReference_b28 ob i1 i2 ((i1 * (16 : Int32)) + i2)
  else
    chk (32 : Int32) (gA ob 9 ((i1 * (16 : Int32)) + i2)) <|
    X_recordReference_b28 (sA ob 13 (gA ob 9 ((i1 * (16 : Int32)) + i2)) (1 : Int32)) i1 i2 ((i1 * (16 : Int32)) + i2)
set_option maxRecDepth 65536 in
set_option maxHeartbeats 4000000 in
theorem X_recordReference_p {C : Ctx} {top : Nat} {a : Nat} {H : List (Nat × Nat × Rec)} {res : Rec} (ob : Rec) (i1 : Int32) (i2 : Int32) (hf : X_recordReference ob i1 i2 = some res) : Runs C B10 0 0 0 [vr a, vi i1, vi i2, vn, vn] [] (top, (a, 18, ob) :: H) (Ans none (top, (a, 18, res) :: H)) := by
  delta X_recordReference at hf
  refine Runs.iloadN d10_0 rfl <| Runs.bipush d10_1 cb_16 <| Runs.imul d10_3 <| Runs.iloadN d10_4 rfl <| Runs.iadd d10_5 <| Runs.istoreN (P' := [vr a, vi i1, vi i2, vi ((i1 * (16 : Int32)) + i2), vn]) d10_6 (by decide) rfl <| Runs.aloadN d10_7 rfl <| Runs.getA d10_8 fA_9 w33 (by decide) <| Runs.iloadN d10_11 rfl <| ?_
  refine chk_el hf fun hi12 hf => ?_
  refine Runs.ialoadA d10_12 fA_9 (by decide) hi12 <| Runs.istore (P' := [vr a, vi i1, vi i2, vi ((i1 * (16 : Int32)) + i2), vi (gA ob 9 ((i1 * (16 : Int32)) + i2))]) d10_13 (by decide) rfl <| Runs.iload d10_15 rfl <| ?_
  refine ite_el hf (fun hc13 hf => ?_) (fun hc13 hf => ?_)
  · exact Runs.ifY (pc' := 28) d10_17 (tlt hc13).1 (by decide) <| Runs.forget [true, true, true, true, false] rfl <| X_recordReference_b28_p ob i1 i2 ((i1 * (16 : Int32)) + i2) hf
  · refine Runs.ifN d10_17 (flt hc13).1 <| ?_
    refine Runs.aloadN d10_20 rfl <| Runs.getA d10_21 fA_13 w41 (by decide) <| Runs.iload d10_24 rfl <| Runs.iconst d10_26 ci_1 <| ?_
    refine chk_el hf fun hi14 hf => ?_
    exact Runs.bastoreA (y := (1 : Int32)) d10_27 fA_13 (by decide) hi14 rfl <| Runs.forget [true, true, true, true, false] rfl <| X_recordReference_b28_p (sA ob 13 (gA ob 9 ((i1 * (16 : Int32)) + i2)) (1 : Int32)) i1 i2 ((i1 * (16 : Int32)) + i2) hf
theorem X_recordReference_pay {C : Ctx} {top : Nat} {a : Nat} {H : List (Nat × Nat × Rec)} {res : Rec} {ob : Rec} {i1 : Int32} {i2 : Int32} (hf : X_recordReference ob i1 i2 = some res) : Pays C B10 [.ref a, .int i1, .int i2] (top, (a, 18, ob) :: H) (Ans none (top, (a, 18, res) :: H)) :=
  Pays.of pnK (Nat.le_of_ble_eq_true rfl) (P := [vr a, vi i1, vi i2, vn, vn]) 2 rfl (X_recordReference_p ob i1 i2 hf)
def X_activeTotal_w4 (NF : Nat) (ob : Rec) (k4 : Int32 → Int32 → Option (Int32)) (i1 : Int32) (i2 : Int32) : Option (Int32) :=
  if i2 < (gI ob 0) then
    chk (4 : Int32) i2 <|
    if (gA ob 0 i2) = (0 : Int32) then
      chk (4 : Int32) i2 <|
      k4 (i1 + (gA ob 4 i2)) (i2 + (1 : Int32))
    else
      k4 i1 (i2 + (1 : Int32))
  else
    some i1
def X_activeTotal_l4 (NF : Nat) (ob : Rec) : Nat → Int32 → Int32 → Option (Int32)
  | 0, _, _ => none
  | n + 1, i1, i2 => X_activeTotal_w4 NF ob (X_activeTotal_l4 NF ob n) i1 i2
set_option maxRecDepth 65536 in
set_option maxHeartbeats 4000000 in
theorem X_activeTotal_w4_p {C : Ctx} {top : Nat} {a : Nat} {H : List (Nat × Nat × Rec)} {ob : Rec} {res : Int32} {NF : Nat} (k4 : Int32 → Int32 → Option (Int32)) (hk4 : ∀ (i1 : Int32) (i2 : Int32), k4 i1 i2 = some res → Runs C B13 0 0 4 [vr a, vi i1, vi i2] [] (top, (a, 18, ob) :: H) (Ans (some (.int res)) (top, (a, 18, ob) :: H))) (i1 : Int32) (i2 : Int32) (hf : X_activeTotal_w4 NF ob k4 i1 i2 = some res) : Runs C B13 0 0 4 [vr a, vi i1, vi i2] [] (top, (a, 18, ob) :: H) (Ans (some (.int res)) (top, (a, 18, ob) :: H)) := by
  delta X_activeTotal_w4 at hf
  refine Runs.iloadN d13_4 rfl <| Runs.aloadN d13_5 rfl <| Runs.getI d13_6 w55 fS_0 <| ?_
  refine ite_el hf (fun hc1 hf => ?_) (fun hc1 hf => ?_)
  · refine Runs.icN d13_9 (tlt hc1).2.1 <| ?_
    refine Runs.aloadN d13_12 rfl <| Runs.getA d13_13 fA_0 w14 (by decide) <| Runs.iloadN d13_16 rfl <| ?_
    refine chk_el hf fun hi2 hf => ?_
    refine Runs.baloadA d13_17 fA_0 (by decide) hi2 <| ?_
    refine ite_el hf (fun hc3 hf => ?_) (fun hc3 hf => ?_)
    · refine Runs.ifN d13_18 (teq hc3).2 <| ?_
      refine Runs.iloadN d13_21 rfl <| Runs.aloadN d13_22 rfl <| Runs.getA d13_23 fA_4 w23 (by decide) <| Runs.iloadN d13_26 rfl <| ?_
      refine chk_el hf fun hi4 hf => ?_
      exact Runs.ialoadA d13_27 fA_4 (by decide) hi4 <| Runs.iadd d13_28 <| Runs.istoreN (P' := [vr a, vi (i1 + (gA ob 4 i2)), vi i2]) d13_29 (by decide) rfl <| Runs.iinc (P' := [vr a, vi (i1 + (gA ob 4 i2)), vi (i2 + (1 : Int32))]) d13_30 ci_1 rfl (by decide) rfl <| Runs.goto (pc' := 4) d13_33 (by decide) <| hk4 (i1 + (gA ob 4 i2)) (i2 + (1 : Int32)) hf
    · refine Runs.ifY (pc' := 30) d13_18 (feq hc3).2 (by decide) <| ?_
      exact Runs.iinc (P' := [vr a, vi i1, vi (i2 + (1 : Int32))]) d13_30 ci_1 rfl (by decide) rfl <| Runs.goto (pc' := 4) d13_33 (by decide) <| hk4 i1 (i2 + (1 : Int32)) hf
  · refine Runs.icY (pc' := 36) d13_9 (flt hc1).2.1 (by decide) <| ?_
    obtain rfl := Option.some.inj hf
    exact Runs.iloadN d13_36 rfl <| Runs.retI d13_37 rfl ⟨by decide, by decide⟩ ⟨rfl, rfl⟩
theorem X_activeTotal_l4_p {C : Ctx} {top : Nat} {a : Nat} {H : List (Nat × Nat × Rec)} {ob : Rec} {res : Int32} {NF : Nat} (n : Nat) (i1 : Int32) (i2 : Int32) (hf : X_activeTotal_l4 NF ob n i1 i2 = some res) : Runs C B13 0 0 4 [vr a, vi i1, vi i2] [] (top, (a, 18, ob) :: H) (Ans (some (.int res)) (top, (a, 18, ob) :: H)) := by
  induction n generalizing i1 i2 with
  | zero => cases (show (none : Option (Int32)) = some res from hf)
  | succ n ih => exact X_activeTotal_w4_p (X_activeTotal_l4 NF ob n) (fun i1 i2 h => ih _ _ h) i1 i2 hf
def X_activeTotal (NF : Nat) (ob : Rec) : Option (Int32) :=
  X_activeTotal_l4 NF ob NF (0 : Int32) (0 : Int32)
set_option maxRecDepth 65536 in
set_option maxHeartbeats 4000000 in
theorem X_activeTotal_p {C : Ctx} {top : Nat} {a : Nat} {H : List (Nat × Nat × Rec)} {ob : Rec} {res : Int32} {NF : Nat} (hf : X_activeTotal NF ob = some res) : Runs C B13 0 0 0 [vr a, vn, vn] [] (top, (a, 18, ob) :: H) (Ans (some (.int res)) (top, (a, 18, ob) :: H)) := by
  delta X_activeTotal at hf
  exact Runs.iconst d13_0 ci_0 <| Runs.istoreN (P' := [vr a, vi (0 : Int32), vn]) d13_1 (by decide) rfl <| Runs.iconst d13_2 ci_0 <| Runs.istoreN (P' := [vr a, vi (0 : Int32), vi (0 : Int32)]) d13_3 (by decide) rfl <| X_activeTotal_l4_p NF (0 : Int32) (0 : Int32) hf
theorem X_activeTotal_pay {C : Ctx} {top : Nat} {a : Nat} {H : List (Nat × Nat × Rec)} {ob : Rec} {res : Int32} {NF : Nat} (hf : X_activeTotal NF ob = some res) : Pays C B13 [.ref a] (top, (a, 18, ob) :: H) (Ans (some (.int res)) (top, (a, 18, ob) :: H)) :=
  Pays.of pnK (Nat.le_of_ble_eq_true rfl) (P := [vr a, vn, vn]) 2 rfl (X_activeTotal_p hf)
def X_pickProcessToSuspend_w7 (NF : Nat) (ob : Rec) (k7 : Int32 → Int32 → Option (Int32)) (i1 : Int32) (i2 : Int32) : Option (Int32) :=
  if i2 < (0 : Int32) then
    some (-1 : Int32)
  else
    if i2 = i1 then
      k7 i1 (i2 + (-1 : Int32))
    else
      chk (4 : Int32) i2 <|
      if (gA ob 0 i2) = (0 : Int32) then
        chk (4 : Int32) i2 <|
        if (0 : Int32) < (gA ob 4 i2) then
          some i2
        else
          k7 i1 (i2 + (-1 : Int32))
      else
        k7 i1 (i2 + (-1 : Int32))
def X_pickProcessToSuspend_l7 (NF : Nat) (ob : Rec) : Nat → Int32 → Int32 → Option (Int32)
  | 0, _, _ => none
  | n + 1, i1, i2 => X_pickProcessToSuspend_w7 NF ob (X_pickProcessToSuspend_l7 NF ob n) i1 i2
set_option maxRecDepth 65536 in
set_option maxHeartbeats 4000000 in
theorem X_pickProcessToSuspend_w7_p {C : Ctx} {top : Nat} {a : Nat} {H : List (Nat × Nat × Rec)} {ob : Rec} {res : Int32} {NF : Nat} (k7 : Int32 → Int32 → Option (Int32)) (hk7 : ∀ (i1 : Int32) (i2 : Int32), k7 i1 i2 = some res → Runs C B20 0 0 7 [vr a, vi i1, vi i2] [] (top, (a, 18, ob) :: H) (Ans (some (.int res)) (top, (a, 18, ob) :: H))) (i1 : Int32) (i2 : Int32) (hf : X_pickProcessToSuspend_w7 NF ob k7 i1 i2 = some res) : Runs C B20 0 0 7 [vr a, vi i1, vi i2] [] (top, (a, 18, ob) :: H) (Ans (some (.int res)) (top, (a, 18, ob) :: H)) := by
  delta X_pickProcessToSuspend_w7 at hf
  refine Runs.iloadN d20_7 rfl <| ?_
  refine ite_el hf (fun hc1 hf => ?_) (fun hc1 hf => ?_)
  · refine Runs.ifY (pc' := 42) d20_8 (tlt hc1).1 (by decide) <| ?_
    obtain rfl := Option.some.inj hf
    exact Runs.iconst d20_42 ci_m1 <| Runs.retI d20_43 rfl ⟨by decide, by decide⟩ ⟨rfl, rfl⟩
  · refine Runs.ifN d20_8 (flt hc1).1 <| ?_
    refine Runs.iloadN d20_11 rfl <| Runs.iloadN d20_12 rfl <| ?_
    refine ite_el hf (fun hc2 hf => ?_) (fun hc2 hf => ?_)
    · refine Runs.icY (pc' := 36) d20_13 (teq hc2).1 (by decide) <| ?_
      exact Runs.iinc (P' := [vr a, vi i1, vi (i2 + (-1 : Int32))]) d20_36 ci_m1 rfl (by decide) rfl <| Runs.goto (pc' := 7) d20_39 (by decide) <| hk7 i1 (i2 + (-1 : Int32)) hf
    · refine Runs.icN d20_13 (feq hc2).1 <| ?_
      refine Runs.aloadN d20_16 rfl <| Runs.getA d20_17 fA_0 w14 (by decide) <| Runs.iloadN d20_20 rfl <| ?_
      refine chk_el hf fun hi3 hf => ?_
      refine Runs.baloadA d20_21 fA_0 (by decide) hi3 <| ?_
      refine ite_el hf (fun hc4 hf => ?_) (fun hc4 hf => ?_)
      · refine Runs.ifN d20_22 (teq hc4).2 <| ?_
        refine Runs.aloadN d20_25 rfl <| Runs.getA d20_26 fA_4 w23 (by decide) <| Runs.iloadN d20_29 rfl <| ?_
        refine chk_el hf fun hi5 hf => ?_
        refine Runs.ialoadA d20_30 fA_4 (by decide) hi5 <| ?_
        refine ite_el hf (fun hc6 hf => ?_) (fun hc6 hf => ?_)
        · refine Runs.ifN d20_31 (tlt hc6).2.2.2 <| ?_
          obtain rfl := Option.some.inj hf
          exact Runs.iloadN d20_34 rfl <| Runs.retI d20_35 rfl ⟨by decide, by decide⟩ ⟨rfl, rfl⟩
        · refine Runs.ifY (pc' := 36) d20_31 (flt hc6).2.2.2 (by decide) <| ?_
          exact Runs.iinc (P' := [vr a, vi i1, vi (i2 + (-1 : Int32))]) d20_36 ci_m1 rfl (by decide) rfl <| Runs.goto (pc' := 7) d20_39 (by decide) <| hk7 i1 (i2 + (-1 : Int32)) hf
      · refine Runs.ifY (pc' := 36) d20_22 (feq hc4).2 (by decide) <| ?_
        exact Runs.iinc (P' := [vr a, vi i1, vi (i2 + (-1 : Int32))]) d20_36 ci_m1 rfl (by decide) rfl <| Runs.goto (pc' := 7) d20_39 (by decide) <| hk7 i1 (i2 + (-1 : Int32)) hf
theorem X_pickProcessToSuspend_l7_p {C : Ctx} {top : Nat} {a : Nat} {H : List (Nat × Nat × Rec)} {ob : Rec} {res : Int32} {NF : Nat} (n : Nat) (i1 : Int32) (i2 : Int32) (hf : X_pickProcessToSuspend_l7 NF ob n i1 i2 = some res) : Runs C B20 0 0 7 [vr a, vi i1, vi i2] [] (top, (a, 18, ob) :: H) (Ans (some (.int res)) (top, (a, 18, ob) :: H)) := by
  induction n generalizing i1 i2 with
  | zero => cases (show (none : Option (Int32)) = some res from hf)
  | succ n ih => exact X_pickProcessToSuspend_w7_p (X_pickProcessToSuspend_l7 NF ob n) (fun i1 i2 h => ih _ _ h) i1 i2 hf
def X_pickProcessToSuspend (NF : Nat) (ob : Rec) (i1 : Int32) : Option (Int32) :=
  X_pickProcessToSuspend_l7 NF ob NF i1 ((gI ob 0) - (1 : Int32))
set_option maxRecDepth 65536 in
set_option maxHeartbeats 4000000 in
theorem X_pickProcessToSuspend_p {C : Ctx} {top : Nat} {a : Nat} {H : List (Nat × Nat × Rec)} {ob : Rec} {res : Int32} {NF : Nat} (i1 : Int32) (hf : X_pickProcessToSuspend NF ob i1 = some res) : Runs C B20 0 0 0 [vr a, vi i1, vn] [] (top, (a, 18, ob) :: H) (Ans (some (.int res)) (top, (a, 18, ob) :: H)) := by
  delta X_pickProcessToSuspend at hf
  exact Runs.aloadN d20_0 rfl <| Runs.getI d20_1 w55 fS_0 <| Runs.iconst d20_4 ci_1 <| Runs.isub d20_5 <| Runs.istoreN (P' := [vr a, vi i1, vi ((gI ob 0) - (1 : Int32))]) d20_6 (by decide) rfl <| X_pickProcessToSuspend_l7_p NF i1 ((gI ob 0) - (1 : Int32)) hf
theorem X_pickProcessToSuspend_pay {C : Ctx} {top : Nat} {a : Nat} {H : List (Nat × Nat × Rec)} {ob : Rec} {res : Int32} {NF : Nat} {i1 : Int32} (hf : X_pickProcessToSuspend NF ob i1 = some res) : Pays C B20 [.ref a, .int i1] (top, (a, 18, ob) :: H) (Ans (some (.int res)) (top, (a, 18, ob) :: H)) :=
  Pays.of pnK (Nat.le_of_ble_eq_true rfl) (P := [vr a, vi i1, vn]) 1 rfl (X_pickProcessToSuspend_p i1 hf)
def X_loadControl_w67 (NF : Nat) (k67 : Rec → Int32 → Option (Rec)) (ob : Rec) (i2 : Int32) : Option (Rec) :=
  if i2 < (gI ob 0) then
    chk (4 : Int32) i2 <|
    if (gA ob 0 i2) = (0 : Int32) then
      k67 ob (i2 + (1 : Int32))
    else
      (X_activeTotal NF ob).bind fun r12 =>
      chk (4 : Int32) i2 <|
      if (gI ob 2) < (r12 + (gA ob 4 i2)) then
        k67 ob (i2 + (1 : Int32))
      else
        chk (4 : Int32) i2 <|
        k67 (sI (sA ob 0 i2 (0 : Int32)) 6 ((gI ob 6) + (1 : Int32))) (i2 + (1 : Int32))
  else
    some ob
def X_loadControl_l67 (NF : Nat) : Nat → Rec → Int32 → Option (Rec)
  | 0, _, _ => none
  | n + 1, ob, i2 => X_loadControl_w67 NF (X_loadControl_l67 NF n) ob i2
set_option maxRecDepth 65536 in
set_option maxHeartbeats 4000000 in
theorem X_loadControl_w67_p {C : Ctx} {top : Nat} {a : Nat} {H : List (Nat × Nat × Rec)} {res : Rec} {NF : Nat} (k67 : Rec → Int32 → Option (Rec)) (hk67 : ∀ (ob : Rec) (i2 : Int32), k67 ob i2 = some res → Runs C B12 0 0 67 [vr a, vn, vi i2, vn, vn] [] (top, (a, 18, ob) :: H) (Ans none (top, (a, 18, res) :: H))) (ob : Rec) (i2 : Int32) (hf : X_loadControl_w67 NF k67 ob i2 = some res) : Runs C B12 0 0 67 [vr a, vn, vi i2, vn, vn] [] (top, (a, 18, ob) :: H) (Ans none (top, (a, 18, res) :: H)) := by
  delta X_loadControl_w67 at hf
  refine Runs.iloadN d12_67 rfl <| Runs.aloadN d12_68 rfl <| Runs.getI d12_69 w55 fS_0 <| ?_
  refine ite_el hf (fun hc9 hf => ?_) (fun hc9 hf => ?_)
  · refine Runs.icN d12_72 (tlt hc9).2.1 <| ?_
    refine Runs.aloadN d12_75 rfl <| Runs.getA d12_76 fA_0 w14 (by decide) <| Runs.iloadN d12_79 rfl <| ?_
    refine chk_el hf fun hi10 hf => ?_
    refine Runs.baloadA d12_80 fA_0 (by decide) hi10 <| ?_
    refine ite_el hf (fun hc11 hf => ?_) (fun hc11 hf => ?_)
    · refine Runs.ifY (pc' := 121) d12_81 (teq hc11).1 (by decide) <| ?_
      exact Runs.iinc (P' := [vr a, vn, vi (i2 + (1 : Int32)), vn, vn]) d12_121 ci_1 rfl (by decide) rfl <| Runs.goto (pc' := 67) d12_124 (by decide) <| hk67 ob (i2 + (1 : Int32)) hf
    · refine Runs.ifN d12_81 (feq hc11).1 <| ?_
      refine Runs.aloadN d12_84 rfl <| ?_
      refine bind_el hf fun r12 hg13 hf => ?_
      refine Runs.callV (N := B13) (W := 0) (as := []) (S' := []) d12_85 w109 w110 w111 w112 cw13 ar13 rk12_13_0 (by decide) rfl rfl (X_activeTotal_pay hg13) <| ans1 <| Runs.istoreN (P' := [vr a, vn, vi i2, vi r12, vn]) d12_88 (by decide) rfl <| Runs.iloadN d12_89 rfl <| Runs.aloadN d12_90 rfl <| Runs.getA d12_91 fA_4 w23 (by decide) <| Runs.iloadN d12_94 rfl <| ?_
      refine chk_el hf fun hi14 hf => ?_
      refine Runs.ialoadA d12_95 fA_4 (by decide) hi14 <| Runs.iadd d12_96 <| Runs.aloadN d12_97 rfl <| Runs.getI d12_98 w59 fS_2 <| ?_
      refine ite_el hf (fun hc15 hf => ?_) (fun hc15 hf => ?_)
      · refine Runs.icY (pc' := 121) d12_101 (tlt hc15).2.2.1 (by decide) <| ?_
        exact Runs.iinc (P' := [vr a, vn, vi (i2 + (1 : Int32)), vi r12, vn]) d12_121 ci_1 rfl (by decide) rfl <| Runs.goto (pc' := 67) d12_124 (by decide) <| Runs.forget [true, false, true, false, false] rfl <| hk67 ob (i2 + (1 : Int32)) hf
      · refine Runs.icN d12_101 (flt hc15).2.2.1 <| ?_
        refine Runs.aloadN d12_104 rfl <| Runs.getA d12_105 fA_0 w14 (by decide) <| Runs.iloadN d12_108 rfl <| Runs.iconst d12_109 ci_0 <| ?_
        refine chk_el hf fun hi16 hf => ?_
        exact Runs.bastoreA (y := (0 : Int32)) d12_110 fA_0 (by decide) hi16 rfl <| Runs.aloadN d12_111 rfl <| Runs.dup d12_112 rfl <| Runs.getI d12_113 w67 fS_6 <| Runs.iconst d12_116 ci_1 <| Runs.iadd d12_117 <| Runs.putI d12_118 w67 fS_6 (Or.inl w68) <| Runs.iinc (P' := [vr a, vn, vi (i2 + (1 : Int32)), vi r12, vn]) d12_121 ci_1 rfl (by decide) rfl <| Runs.goto (pc' := 67) d12_124 (by decide) <| Runs.forget [true, false, true, false, false] rfl <| hk67 (sI (sA ob 0 i2 (0 : Int32)) 6 ((gI ob 6) + (1 : Int32))) (i2 + (1 : Int32)) hf
  · refine Runs.icY (pc' := 127) d12_72 (flt hc9).2.1 (by decide) <| ?_
    obtain rfl := Option.some.inj hf
    exact Runs.retV d12_127 rfl ⟨by decide, by decide⟩ ⟨rfl, rfl⟩
theorem X_loadControl_l67_p {C : Ctx} {top : Nat} {a : Nat} {H : List (Nat × Nat × Rec)} {res : Rec} {NF : Nat} (n : Nat) (ob : Rec) (i2 : Int32) (hf : X_loadControl_l67 NF n ob i2 = some res) : Runs C B12 0 0 67 [vr a, vn, vi i2, vn, vn] [] (top, (a, 18, ob) :: H) (Ans none (top, (a, 18, res) :: H)) := by
  induction n generalizing ob i2 with
  | zero => cases (show (none : Option (Rec)) = some res from hf)
  | succ n ih => exact X_loadControl_w67_p (X_loadControl_l67 NF n) (fun ob i2 h => ih _ _ h) ob i2 hf
def X_loadControl_w2 (NF : Nat) (k2 : Rec → Int32 → Int32 → Option (Rec)) (ob : Rec) (i1 : Int32) (i2 : Int32) : Option (Rec) :=
  if i2 < (gI ob 0) then
    (X_activeTotal NF ob).bind fun r2 =>
    if (gI ob 2) < r2 then
      (X_pickProcessToSuspend NF ob i1).bind fun r5 =>
      if r5 < (0 : Int32) then
        X_loadControl_l67 NF NF ob (0 : Int32)
      else
        chk (4 : Int32) r5 <|
        k2 (sI (sA ob 0 r5 (1 : Int32)) 5 ((gI ob 5) + (1 : Int32))) i1 (i2 + (1 : Int32))
    else
      X_loadControl_l67 NF NF ob (0 : Int32)
  else
    X_loadControl_l67 NF NF ob (0 : Int32)
def X_loadControl_l2 (NF : Nat) : Nat → Rec → Int32 → Int32 → Option (Rec)
  | 0, _, _, _ => none
  | n + 1, ob, i1, i2 => X_loadControl_w2 NF (X_loadControl_l2 NF n) ob i1 i2
set_option maxRecDepth 65536 in
set_option maxHeartbeats 4000000 in
theorem X_loadControl_w2_p {C : Ctx} {top : Nat} {a : Nat} {H : List (Nat × Nat × Rec)} {res : Rec} {NF : Nat} (k2 : Rec → Int32 → Int32 → Option (Rec)) (hk2 : ∀ (ob : Rec) (i1 : Int32) (i2 : Int32), k2 ob i1 i2 = some res → Runs C B12 0 0 2 [vr a, vi i1, vi i2, vn, vn] [] (top, (a, 18, ob) :: H) (Ans none (top, (a, 18, res) :: H))) (ob : Rec) (i1 : Int32) (i2 : Int32) (hf : X_loadControl_w2 NF k2 ob i1 i2 = some res) : Runs C B12 0 0 2 [vr a, vi i1, vi i2, vn, vn] [] (top, (a, 18, ob) :: H) (Ans none (top, (a, 18, res) :: H)) := by
  delta X_loadControl_w2 at hf
  refine Runs.iloadN d12_2 rfl <| Runs.aloadN d12_3 rfl <| Runs.getI d12_4 w55 fS_0 <| ?_
  refine ite_el hf (fun hc1 hf => ?_) (fun hc1 hf => ?_)
  · refine Runs.icN d12_7 (tlt hc1).2.1 <| ?_
    refine Runs.aloadN d12_10 rfl <| ?_
    refine bind_el hf fun r2 hg3 hf => ?_
    refine Runs.callV (N := B13) (W := 0) (as := []) (S' := []) d12_11 w109 w110 w111 w112 cw13 ar13 rk12_13_0 (by decide) rfl rfl (X_activeTotal_pay hg3) <| ans1 <| Runs.istoreN (P' := [vr a, vi i1, vi i2, vi r2, vn]) d12_14 (by decide) rfl <| Runs.iloadN d12_15 rfl <| Runs.aloadN d12_16 rfl <| Runs.getI d12_17 w59 fS_2 <| ?_
    refine ite_el hf (fun hc4 hf => ?_) (fun hc4 hf => ?_)
    · refine Runs.icY (pc' := 26) d12_20 (tlt hc4).2.2.1 (by decide) <| ?_
      refine Runs.aloadN d12_26 rfl <| Runs.iloadN d12_27 rfl <| ?_
      refine bind_el hf fun r5 hg6 hf => ?_
      refine Runs.callP (N := B20) (W := 0) (as := [.int i1]) (S' := []) d12_28 w142 w143 w144 rfl cw20 ar20 rk12_20_0 (by decide) rfl rfl (X_pickProcessToSuspend_pay hg6) <| ans1 <| Runs.istore (P' := [vr a, vi i1, vi i2, vi r2, vi r5]) d12_31 (by decide) rfl <| Runs.iload d12_33 rfl <| ?_
      refine ite_el hf (fun hc7 hf => ?_) (fun hc7 hf => ?_)
      · refine Runs.ifN d12_35 (tlt hc7).2.1 <| ?_
        exact Runs.goto (pc' := 65) d12_38 (by decide) <| Runs.iconst d12_65 ci_0 <| Runs.istoreN (P' := [vr a, vi i1, vi (0 : Int32), vi r2, vi r5]) d12_66 (by decide) rfl <| Runs.forget [true, false, true, false, false] rfl <| X_loadControl_l67_p NF ob (0 : Int32) hf
      · refine Runs.ifY (pc' := 41) d12_35 (flt hc7).2.1 (by decide) <| ?_
        refine Runs.aloadN d12_41 rfl <| Runs.getA d12_42 fA_0 w14 (by decide) <| Runs.iload d12_45 rfl <| Runs.iconst d12_47 ci_1 <| ?_
        refine chk_el hf fun hi8 hf => ?_
        exact Runs.bastoreA (y := (1 : Int32)) d12_48 fA_0 (by decide) hi8 rfl <| Runs.aloadN d12_49 rfl <| Runs.dup d12_50 rfl <| Runs.getI d12_51 w65 fS_5 <| Runs.iconst d12_54 ci_1 <| Runs.iadd d12_55 <| Runs.putI d12_56 w65 fS_5 (Or.inl w66) <| Runs.iinc (P' := [vr a, vi i1, vi (i2 + (1 : Int32)), vi r2, vi r5]) d12_59 ci_1 rfl (by decide) rfl <| Runs.goto (pc' := 2) d12_62 (by decide) <| Runs.forget [true, true, true, false, false] rfl <| hk2 (sI (sA ob 0 r5 (1 : Int32)) 5 ((gI ob 5) + (1 : Int32))) i1 (i2 + (1 : Int32)) hf
    · refine Runs.icN d12_20 (flt hc4).2.2.1 <| ?_
      exact Runs.goto (pc' := 65) d12_23 (by decide) <| Runs.iconst d12_65 ci_0 <| Runs.istoreN (P' := [vr a, vi i1, vi (0 : Int32), vi r2, vn]) d12_66 (by decide) rfl <| Runs.forget [true, false, true, false, false] rfl <| X_loadControl_l67_p NF ob (0 : Int32) hf
  · refine Runs.icY (pc' := 65) d12_7 (flt hc1).2.1 (by decide) <| ?_
    exact Runs.iconst d12_65 ci_0 <| Runs.istoreN (P' := [vr a, vi i1, vi (0 : Int32), vn, vn]) d12_66 (by decide) rfl <| Runs.forget [true, false, true, false, false] rfl <| X_loadControl_l67_p NF ob (0 : Int32) hf
theorem X_loadControl_l2_p {C : Ctx} {top : Nat} {a : Nat} {H : List (Nat × Nat × Rec)} {res : Rec} {NF : Nat} (n : Nat) (ob : Rec) (i1 : Int32) (i2 : Int32) (hf : X_loadControl_l2 NF n ob i1 i2 = some res) : Runs C B12 0 0 2 [vr a, vi i1, vi i2, vn, vn] [] (top, (a, 18, ob) :: H) (Ans none (top, (a, 18, res) :: H)) := by
  induction n generalizing ob i1 i2 with
  | zero => cases (show (none : Option (Rec)) = some res from hf)
  | succ n ih => exact X_loadControl_w2_p (X_loadControl_l2 NF n) (fun ob i1 i2 h => ih _ _ _ h) ob i1 i2 hf
def X_loadControl (NF : Nat) (ob : Rec) (i1 : Int32) : Option (Rec) :=
  X_loadControl_l2 NF NF ob i1 (0 : Int32)
set_option maxRecDepth 65536 in
set_option maxHeartbeats 4000000 in
theorem X_loadControl_p {C : Ctx} {top : Nat} {a : Nat} {H : List (Nat × Nat × Rec)} {res : Rec} {NF : Nat} (ob : Rec) (i1 : Int32) (hf : X_loadControl NF ob i1 = some res) : Runs C B12 0 0 0 [vr a, vi i1, vn, vn, vn] [] (top, (a, 18, ob) :: H) (Ans none (top, (a, 18, res) :: H)) := by
  delta X_loadControl at hf
  exact Runs.iconst d12_0 ci_0 <| Runs.istoreN (P' := [vr a, vi i1, vi (0 : Int32), vn, vn]) d12_1 (by decide) rfl <| X_loadControl_l2_p NF ob i1 (0 : Int32) hf
theorem X_loadControl_pay {C : Ctx} {top : Nat} {a : Nat} {H : List (Nat × Nat × Rec)} {res : Rec} {NF : Nat} {ob : Rec} {i1 : Int32} (hf : X_loadControl NF ob i1 = some res) : Pays C B12 [.ref a, .int i1] (top, (a, 18, ob) :: H) (Ans none (top, (a, 18, res) :: H)) :=
  Pays.of pnK (Nat.le_of_ble_eq_true rfl) (P := [vr a, vi i1, vn, vn, vn]) 3 rfl (X_loadControl_p ob i1 hf)
def X_store (NF : Nat) (ob : Rec) (i1 : Int32) (i2 : Int32) (i3 : Int32) : Option (Int32 × Rec) :=
  (X_check ob i1 i2).bind fun r1 =>
  if r1 = (0 : Int32) then
    bind2 (X_ensureResident NF ob i1 (i2 / (4 : Int32))) fun r4 q5 =>
    chk (128 : Int32) ((r4 * (4 : Int32)) + (i2 % (4 : Int32))) <|
    chk (32 : Int32) r4 <|
    (X_recordReference (sA (sA q5 15 ((r4 * (4 : Int32)) + (i2 % (4 : Int32))) i3) 14 r4 (1 : Int32)) i1 (i2 / (4 : Int32))).bind fun q9 =>
    (X_loadControl NF q9 i1).bind fun q11 =>
    some ((0 : Int32), (sI q11 4 (0 : Int32)))
  else
    some (r1, (sI ob 4 r1))
set_option maxRecDepth 65536 in
set_option maxHeartbeats 4000000 in
theorem X_store_p {C : Ctx} {top : Nat} {a : Nat} {H : List (Nat × Nat × Rec)} {res : Int32 × Rec} {NF : Nat} (ob : Rec) (i1 : Int32) (i2 : Int32) (i3 : Int32) (hf : X_store NF ob i1 i2 i3 = some res) : Runs C B4 0 0 0 [vr a, vi i1, vi i2, vi i3, vn, vn, vn] [] (top, (a, 18, ob) :: H) (Ans (some (.int res.1)) (top, (a, 18, res.2) :: H)) := by
  delta X_store at hf
  refine Runs.aloadN d4_0 rfl <| Runs.iloadN d4_1 rfl <| Runs.iloadN d4_2 rfl <| ?_
  refine bind_el hf fun r1 hg2 hf => ?_
  refine Runs.callP (N := B5) (W := 0) (as := [.int i1, .int i2]) (S' := []) d4_3 w77 w78 w79 rfl cw5 ar5 rk4_5_0 (by decide) rfl rfl (X_check_pay hg2) <| ans1 <| Runs.istore (P' := [vr a, vi i1, vi i2, vi i3, vi r1, vn, vn]) d4_6 (by decide) rfl <| Runs.iload d4_8 rfl <| ?_
  refine ite_el hf (fun hc3 hf => ?_) (fun hc3 hf => ?_)
  · refine Runs.ifY (pc' := 22) d4_10 (teq hc3).1 (by decide) <| ?_
    refine Runs.iloadN d4_22 rfl <| Runs.iconst d4_23 ci_4 <| Runs.idiv d4_24 (by decide) <| Runs.istore (P' := [vr a, vi i1, vi i2, vi i3, vi r1, vi (i2 / (4 : Int32)), vn]) d4_25 (by decide) rfl <| Runs.aloadN d4_27 rfl <| Runs.iloadN d4_28 rfl <| Runs.iload d4_29 rfl <| ?_
    refine bind2_el hf fun r4 q5 hg6 hf => ?_
    refine Runs.callP (N := B7) (W := 0) (as := [.int i1, .int (i2 / (4 : Int32))]) (S' := []) d4_31 w85 w86 w87 rfl cw7 ar7 rk4_7_0 (by decide) rfl rfl (X_ensureResident_pay hg6) <| ans1 <| Runs.istore (P' := [vr a, vi i1, vi i2, vi i3, vi r1, vi (i2 / (4 : Int32)), vi r4]) d4_34 (by decide) rfl <| Runs.aloadN d4_36 rfl <| Runs.getA d4_37 fA_15 w45 (by decide) <| Runs.iload d4_40 rfl <| Runs.iconst d4_42 ci_4 <| Runs.imul d4_43 <| Runs.iloadN d4_44 rfl <| Runs.iconst d4_45 ci_4 <| Runs.irem d4_46 (by decide) <| Runs.iadd d4_47 <| Runs.iloadN d4_48 rfl <| ?_
    refine chk_el hf fun hi7 hf => ?_
    refine Runs.iastoreA d4_49 fA_15 (by decide) hi7 <| Runs.aloadN d4_50 rfl <| Runs.getA d4_51 fA_14 w43 (by decide) <| Runs.iload d4_54 rfl <| Runs.iconst d4_56 ci_1 <| ?_
    refine chk_el hf fun hi8 hf => ?_
    refine Runs.bastoreA (y := (1 : Int32)) d4_57 fA_14 (by decide) hi8 rfl <| Runs.aloadN d4_58 rfl <| Runs.iloadN d4_59 rfl <| Runs.iload d4_60 rfl <| ?_
    refine bind_el hf fun q9 hg10 hf => ?_
    refine Runs.callP (N := B10) (W := 0) (as := [.int i1, .int (i2 / (4 : Int32))]) (S' := []) d4_62 w97 w98 w99 rfl cw10 ar10 rk4_10_0 (by decide) rfl rfl (X_recordReference_pay hg10) <| ans0 <| Runs.aloadN d4_65 rfl <| Runs.iloadN d4_66 rfl <| ?_
    refine bind_el hf fun q11 hg12 hf => ?_
    obtain rfl := Option.some.inj hf
    exact Runs.callP (N := B12) (W := 0) (as := [.int i1]) (S' := []) d4_67 w105 w106 w107 rfl cw12 ar12 rk4_12_0 (by decide) rfl rfl (X_loadControl_pay hg12) <| ans0 <| Runs.aloadN d4_70 rfl <| Runs.iconst d4_71 ci_0 <| Runs.putI d4_72 w63 fS_4 (Or.inl w64) <| Runs.iconst d4_75 ci_0 <| Runs.retI d4_76 rfl ⟨by decide, by decide⟩ ⟨rfl, rfl⟩
  · refine Runs.ifN d4_10 (feq hc3).1 <| ?_
    obtain rfl := Option.some.inj hf
    exact Runs.aloadN d4_13 rfl <| Runs.iload d4_14 rfl <| Runs.putI d4_16 w63 fS_4 (Or.inl w64) <| Runs.iload d4_19 rfl <| Runs.retI d4_21 rfl ⟨by decide, by decide⟩ ⟨rfl, rfl⟩
theorem X_store_pay {C : Ctx} {top : Nat} {a : Nat} {H : List (Nat × Nat × Rec)} {res : Int32 × Rec} {NF : Nat} {ob : Rec} {i1 : Int32} {i2 : Int32} {i3 : Int32} (hf : X_store NF ob i1 i2 i3 = some res) : Pays C B4 [.ref a, .int i1, .int i2, .int i3] (top, (a, 18, ob) :: H) (Ans (some (.int res.1)) (top, (a, 18, res.2) :: H)) :=
  Pays.of pnK (Nat.le_of_ble_eq_true rfl) (P := [vr a, vi i1, vi i2, vi i3, vn, vn, vn]) 3 rfl (X_store_p ob i1 i2 i3 hf)
def X_load (NF : Nat) (ob : Rec) (i1 : Int32) (i2 : Int32) : Option (Int64 × Rec) :=
  (X_check ob i1 i2).bind fun r1 =>
  if r1 = (0 : Int32) then
    bind2 (X_ensureResident NF ob i1 (i2 / (4 : Int32))) fun r4 q5 =>
    chk (128 : Int32) ((r4 * (4 : Int32)) + (i2 % (4 : Int32))) <|
    (X_recordReference q5 i1 (i2 / (4 : Int32))).bind fun q8 =>
    (X_loadControl NF q8 i1).bind fun q10 =>
    some ((gA q5 15 ((r4 * (4 : Int32)) + (i2 % (4 : Int32)))).toInt64, (sI q10 4 (0 : Int32)))
  else
    some ((-9223372036854775808 : Int64), (sI ob 4 r1))
set_option maxRecDepth 65536 in
set_option maxHeartbeats 4000000 in
theorem X_load_p {C : Ctx} {top : Nat} {a : Nat} {H : List (Nat × Nat × Rec)} {res : Int64 × Rec} {NF : Nat} (ob : Rec) (i1 : Int32) (i2 : Int32) (hf : X_load NF ob i1 i2 = some res) : Runs C B14 0 0 0 [vr a, vi i1, vi i2, vn, vn, vn, vn] [] (top, (a, 18, ob) :: H) (Ans (some (.long res.1)) (top, (a, 18, res.2) :: H)) := by
  delta X_load at hf
  refine Runs.aloadN d14_0 rfl <| Runs.iloadN d14_1 rfl <| Runs.iloadN d14_2 rfl <| ?_
  refine bind_el hf fun r1 hg2 hf => ?_
  refine Runs.callP (N := B5) (W := 0) (as := [.int i1, .int i2]) (S' := []) d14_3 w77 w78 w79 rfl cw5 ar5 rk14_5_0 (by decide) rfl rfl (X_check_pay hg2) <| ans1 <| Runs.istoreN (P' := [vr a, vi i1, vi i2, vi r1, vn, vn, vn]) d14_6 (by decide) rfl <| Runs.iloadN d14_7 rfl <| ?_
  refine ite_el hf (fun hc3 hf => ?_) (fun hc3 hf => ?_)
  · refine Runs.ifY (pc' := 20) d14_8 (teq hc3).1 (by decide) <| ?_
    refine Runs.iloadN d14_20 rfl <| Runs.iconst d14_21 ci_4 <| Runs.idiv d14_22 (by decide) <| Runs.istore (P' := [vr a, vi i1, vi i2, vi r1, vi (i2 / (4 : Int32)), vn, vn]) d14_23 (by decide) rfl <| Runs.aloadN d14_25 rfl <| Runs.iloadN d14_26 rfl <| Runs.iload d14_27 rfl <| ?_
    refine bind2_el hf fun r4 q5 hg6 hf => ?_
    refine Runs.callP (N := B7) (W := 0) (as := [.int i1, .int (i2 / (4 : Int32))]) (S' := []) d14_29 w85 w86 w87 rfl cw7 ar7 rk14_7_0 (by decide) rfl rfl (X_ensureResident_pay hg6) <| ans1 <| Runs.istore (P' := [vr a, vi i1, vi i2, vi r1, vi (i2 / (4 : Int32)), vi r4, vn]) d14_32 (by decide) rfl <| Runs.aloadN d14_34 rfl <| Runs.getA d14_35 fA_15 w45 (by decide) <| Runs.iload d14_38 rfl <| Runs.iconst d14_40 ci_4 <| Runs.imul d14_41 <| Runs.iloadN d14_42 rfl <| Runs.iconst d14_43 ci_4 <| Runs.irem d14_44 (by decide) <| Runs.iadd d14_45 <| ?_
    refine chk_el hf fun hi7 hf => ?_
    refine Runs.ialoadA d14_46 fA_15 (by decide) hi7 <| Runs.istore (P' := [vr a, vi i1, vi i2, vi r1, vi (i2 / (4 : Int32)), vi r4, vi (gA q5 15 ((r4 * (4 : Int32)) + (i2 % (4 : Int32))))]) d14_47 (by decide) rfl <| Runs.aloadN d14_49 rfl <| Runs.iloadN d14_50 rfl <| Runs.iload d14_51 rfl <| ?_
    refine bind_el hf fun q8 hg9 hf => ?_
    refine Runs.callP (N := B10) (W := 0) (as := [.int i1, .int (i2 / (4 : Int32))]) (S' := []) d14_53 w97 w98 w99 rfl cw10 ar10 rk14_10_0 (by decide) rfl rfl (X_recordReference_pay hg9) <| ans0 <| Runs.aloadN d14_56 rfl <| Runs.iloadN d14_57 rfl <| ?_
    refine bind_el hf fun q10 hg11 hf => ?_
    obtain rfl := Option.some.inj hf
    exact Runs.callP (N := B12) (W := 0) (as := [.int i1]) (S' := []) d14_58 w105 w106 w107 rfl cw12 ar12 rk14_12_0 (by decide) rfl rfl (X_loadControl_pay hg11) <| ans0 <| Runs.aloadN d14_61 rfl <| Runs.iconst d14_62 ci_0 <| Runs.putI d14_63 w63 fS_4 (Or.inl w64) <| Runs.iload d14_66 rfl <| Runs.i2l d14_68 <| Runs.retJ d14_69 rfl ⟨by decide, by decide⟩ ⟨rfl, rfl⟩
  · refine Runs.ifN d14_8 (feq hc3).1 <| ?_
    obtain rfl := Option.some.inj hf
    exact Runs.aloadN d14_11 rfl <| Runs.iloadN d14_12 rfl <| Runs.putI d14_13 w63 fS_4 (Or.inl w64) <| Runs.ldc2 d14_16 w154 <| Runs.retJ d14_19 rfl ⟨by decide, by decide⟩ ⟨rfl, rfl⟩
theorem X_load_pay {C : Ctx} {top : Nat} {a : Nat} {H : List (Nat × Nat × Rec)} {res : Int64 × Rec} {NF : Nat} {ob : Rec} {i1 : Int32} {i2 : Int32} (hf : X_load NF ob i1 i2 = some res) : Pays C B14 [.ref a, .int i1, .int i2] (top, (a, 18, ob) :: H) (Ans (some (.long res.1)) (top, (a, 18, res.2) :: H)) :=
  Pays.of pnK (Nat.le_of_ble_eq_true rfl) (P := [vr a, vi i1, vi i2, vn, vn, vn, vn]) 4 rfl (X_load_p ob i1 i2 hf)
def X_lastStatus (ob : Rec) : Option (Int32) :=
  some (gI ob 4)
set_option maxRecDepth 65536 in
set_option maxHeartbeats 4000000 in
theorem X_lastStatus_p {C : Ctx} {top : Nat} {a : Nat} {H : List (Nat × Nat × Rec)} {ob : Rec} {res : Int32} (hf : X_lastStatus ob = some res) : Runs C B15 0 0 0 [vr a] [] (top, (a, 18, ob) :: H) (Ans (some (.int res)) (top, (a, 18, ob) :: H)) := by
  delta X_lastStatus at hf
  obtain rfl := Option.some.inj hf
  exact Runs.aloadN d15_0 rfl <| Runs.getI d15_1 w63 fS_4 <| Runs.retI d15_4 rfl ⟨by decide, by decide⟩ ⟨rfl, rfl⟩
theorem X_lastStatus_pay {C : Ctx} {top : Nat} {a : Nat} {H : List (Nat × Nat × Rec)} {ob : Rec} {res : Int32} (hf : X_lastStatus ob = some res) : Pays C B15 [.ref a] (top, (a, 18, ob) :: H) (Ans (some (.int res)) (top, (a, 18, ob) :: H)) :=
  Pays.of pnK (Nat.le_of_ble_eq_true rfl) (P := [vr a]) 0 rfl (X_lastStatus_p hf)
def X_discardPage_b64 (ob : Rec) (i1 : Int32) : Option (Rec) :=
  chk (64 : Int32) i1 <|
  chk (64 : Int32) i1 <|
  chk (64 : Int32) i1 <|
  some (sA (sA (sA ob 7 i1 (0 : Int32)) 8 i1 (0 : Int32)) 11 i1 (0 : Int32))
set_option maxRecDepth 65536 in
set_option maxHeartbeats 4000000 in
theorem X_discardPage_b64_p {C : Ctx} {top : Nat} {a : Nat} {H : List (Nat × Nat × Rec)} {res : Rec} (ob : Rec) (i1 : Int32) (hf : X_discardPage_b64 ob i1 = some res) : Runs C B17 0 0 64 [vr a, vi i1, vn, vn] [] (top, (a, 18, ob) :: H) (Ans none (top, (a, 18, res) :: H)) := by
  delta X_discardPage_b64 at hf
  refine Runs.aloadN d17_64 rfl <| Runs.getA d17_65 fA_7 w29 (by decide) <| Runs.iloadN d17_68 rfl <| Runs.iconst d17_69 ci_0 <| ?_
  refine chk_el hf fun hi5 hf => ?_
  refine Runs.iastoreA d17_70 fA_7 (by decide) hi5 <| Runs.aloadN d17_71 rfl <| Runs.getA d17_72 fA_8 w31 (by decide) <| Runs.iloadN d17_75 rfl <| Runs.iconst d17_76 ci_0 <| ?_
  refine chk_el hf fun hi6 hf => ?_
  refine Runs.bastoreA (y := (0 : Int32)) d17_77 fA_8 (by decide) hi6 rfl <| Runs.aloadN d17_78 rfl <| Runs.getA d17_79 fA_11 w37 (by decide) <| Runs.iloadN d17_82 rfl <| Runs.iconst d17_83 ci_0 <| ?_
  refine chk_el hf fun hi7 hf => ?_
  obtain rfl := Option.some.inj hf
  exact Runs.iastoreA d17_84 fA_11 (by decide) hi7 <| Runs.retV d17_85 rfl ⟨by decide, by decide⟩ ⟨rfl, rfl⟩
def X_discardPage_b39 (ob : Rec) (i1 : Int32) : Option (Rec) :=
  chk (64 : Int32) i1 <|
  if (gA ob 10 i1) < (0 : Int32) then
    X_discardPage_b64 ob i1
  else
    chk (64 : Int32) (gA ob 10 i1) <|
    chk (64 : Int32) i1 <|
    X_discardPage_b64 (sA (sA ob 16 (gA ob 10 i1) (0 : Int32)) 10 i1 (-1 : Int32)) i1
set_option maxRecDepth 65536 in
set_option maxHeartbeats 4000000 in
theorem X_discardPage_b39_p {C : Ctx} {top : Nat} {a : Nat} {H : List (Nat × Nat × Rec)} {res : Rec} (ob : Rec) (i1 : Int32) (hf : X_discardPage_b39 ob i1 = some res) : Runs C B17 0 0 39 [vr a, vi i1, vn, vn] [] (top, (a, 18, ob) :: H) (Ans none (top, (a, 18, res) :: H)) := by
  delta X_discardPage_b39 at hf
  refine Runs.aloadN d17_39 rfl <| Runs.getA d17_40 fA_10 w35 (by decide) <| Runs.iloadN d17_43 rfl <| ?_
  refine chk_el hf fun hi1 hf => ?_
  refine Runs.ialoadA d17_44 fA_10 (by decide) hi1 <| Runs.istoreN (P' := [vr a, vi i1, vn, vi (gA ob 10 i1)]) d17_45 (by decide) rfl <| Runs.iloadN d17_46 rfl <| ?_
  refine ite_el hf (fun hc2 hf => ?_) (fun hc2 hf => ?_)
  · exact Runs.ifY (pc' := 64) d17_47 (tlt hc2).1 (by decide) <| Runs.forget [true, true, false, false] rfl <| X_discardPage_b64_p ob i1 hf
  · refine Runs.ifN d17_47 (flt hc2).1 <| ?_
    refine Runs.aloadN d17_50 rfl <| Runs.getA d17_51 fA_16 w47 (by decide) <| Runs.iloadN d17_54 rfl <| Runs.iconst d17_55 ci_0 <| ?_
    refine chk_el hf fun hi3 hf => ?_
    refine Runs.bastoreA (y := (0 : Int32)) d17_56 fA_16 (by decide) hi3 rfl <| Runs.aloadN d17_57 rfl <| Runs.getA d17_58 fA_10 w35 (by decide) <| Runs.iloadN d17_61 rfl <| Runs.iconst d17_62 ci_m1 <| ?_
    refine chk_el hf fun hi4 hf => ?_
    exact Runs.iastoreA d17_63 fA_10 (by decide) hi4 <| Runs.forget [true, true, false, false] rfl <| X_discardPage_b64_p (sA (sA ob 16 (gA ob 10 i1) (0 : Int32)) 10 i1 (-1 : Int32)) i1 hf
def X_discardPage (ob : Rec) (i1 : Int32) : Option (Rec) :=
  chk (64 : Int32) i1 <|
  if (gA ob 9 i1) < (0 : Int32) then
    X_discardPage_b39 ob i1
  else
    chk (32 : Int32) (gA ob 9 i1) <|
    chk (32 : Int32) (gA ob 9 i1) <|
    chk (32 : Int32) (gA ob 9 i1) <|
    chk (64 : Int32) i1 <|
    X_discardPage_b39 (sA (sA (sA (sA ob 12 (gA ob 9 i1) (-1 : Int32)) 13 (gA ob 9 i1) (0 : Int32)) 14 (gA ob 9 i1) (0 : Int32)) 9 i1 (-1 : Int32)) i1
set_option maxRecDepth 65536 in
set_option maxHeartbeats 4000000 in
theorem X_discardPage_p {C : Ctx} {top : Nat} {a : Nat} {H : List (Nat × Nat × Rec)} {res : Rec} (ob : Rec) (i1 : Int32) (hf : X_discardPage ob i1 = some res) : Runs C B17 0 0 0 [vr a, vi i1, vn, vn] [] (top, (a, 18, ob) :: H) (Ans none (top, (a, 18, res) :: H)) := by
  delta X_discardPage at hf
  refine Runs.aloadN d17_0 rfl <| Runs.getA d17_1 fA_9 w33 (by decide) <| Runs.iloadN d17_4 rfl <| ?_
  refine chk_el hf fun hi8 hf => ?_
  refine Runs.ialoadA d17_5 fA_9 (by decide) hi8 <| Runs.istoreN (P' := [vr a, vi i1, vi (gA ob 9 i1), vn]) d17_6 (by decide) rfl <| Runs.iloadN d17_7 rfl <| ?_
  refine ite_el hf (fun hc9 hf => ?_) (fun hc9 hf => ?_)
  · exact Runs.ifY (pc' := 39) d17_8 (tlt hc9).1 (by decide) <| Runs.forget [true, true, false, false] rfl <| X_discardPage_b39_p ob i1 hf
  · refine Runs.ifN d17_8 (flt hc9).1 <| ?_
    refine Runs.aloadN d17_11 rfl <| Runs.getA d17_12 fA_12 w39 (by decide) <| Runs.iloadN d17_15 rfl <| Runs.iconst d17_16 ci_m1 <| ?_
    refine chk_el hf fun hi10 hf => ?_
    refine Runs.iastoreA d17_17 fA_12 (by decide) hi10 <| Runs.aloadN d17_18 rfl <| Runs.getA d17_19 fA_13 w41 (by decide) <| Runs.iloadN d17_22 rfl <| Runs.iconst d17_23 ci_0 <| ?_
    refine chk_el hf fun hi11 hf => ?_
    refine Runs.bastoreA (y := (0 : Int32)) d17_24 fA_13 (by decide) hi11 rfl <| Runs.aloadN d17_25 rfl <| Runs.getA d17_26 fA_14 w43 (by decide) <| Runs.iloadN d17_29 rfl <| Runs.iconst d17_30 ci_0 <| ?_
    refine chk_el hf fun hi12 hf => ?_
    refine Runs.bastoreA (y := (0 : Int32)) d17_31 fA_14 (by decide) hi12 rfl <| Runs.aloadN d17_32 rfl <| Runs.getA d17_33 fA_9 w33 (by decide) <| Runs.iloadN d17_36 rfl <| Runs.iconst d17_37 ci_m1 <| ?_
    refine chk_el hf fun hi13 hf => ?_
    exact Runs.iastoreA d17_38 fA_9 (by decide) hi13 <| Runs.forget [true, true, false, false] rfl <| X_discardPage_b39_p (sA (sA (sA (sA ob 12 (gA ob 9 i1) (-1 : Int32)) 13 (gA ob 9 i1) (0 : Int32)) 14 (gA ob 9 i1) (0 : Int32)) 9 i1 (-1 : Int32)) i1 hf
theorem X_discardPage_pay {C : Ctx} {top : Nat} {a : Nat} {H : List (Nat × Nat × Rec)} {res : Rec} {ob : Rec} {i1 : Int32} (hf : X_discardPage ob i1 = some res) : Pays C B17 [.ref a, .int i1] (top, (a, 18, ob) :: H) (Ans none (top, (a, 18, res) :: H)) :=
  Pays.of pnK (Nat.le_of_ble_eq_true rfl) (P := [vr a, vi i1, vn, vn]) 2 rfl (X_discardPage_p ob i1 hf)
def X_release_w17 (NF : Nat) (k17 : Rec → Int32 → Int32 → Option (Int32 × Rec)) (ob : Rec) (i1 : Int32) (i2 : Int32) : Option (Int32 × Rec) :=
  if i2 < (gI ob 1) then
    (X_discardPage ob ((i1 * (16 : Int32)) + i2)).bind fun q2 =>
    k17 q2 i1 (i2 + (1 : Int32))
  else
    chk (4 : Int32) i1 <|
    chk (4 : Int32) i1 <|
    chk (4 : Int32) i1 <|
    chk (4 : Int32) i1 <|
    chk (4 : Int32) i1 <|
    chk (4 : Int32) i1 <|
    (X_loadControl NF (sA (sA (sA (sA (sA (sA ob 1 i1 (0 : Int32)) 2 i1 (0 : Int32)) 3 i1 (0 : Int32)) 4 i1 (0 : Int32)) 5 i1 (0 : Int32)) 0 i1 (0 : Int32)) i1).bind fun q10 =>
    some ((0 : Int32), (sI q10 4 (0 : Int32)))
def X_release_l17 (NF : Nat) : Nat → Rec → Int32 → Int32 → Option (Int32 × Rec)
  | 0, _, _, _ => none
  | n + 1, ob, i1, i2 => X_release_w17 NF (X_release_l17 NF n) ob i1 i2
set_option maxRecDepth 65536 in
set_option maxHeartbeats 4000000 in
theorem X_release_w17_p {C : Ctx} {top : Nat} {a : Nat} {H : List (Nat × Nat × Rec)} {res : Int32 × Rec} {NF : Nat} (k17 : Rec → Int32 → Int32 → Option (Int32 × Rec)) (hk17 : ∀ (ob : Rec) (i1 : Int32) (i2 : Int32), k17 ob i1 i2 = some res → Runs C B16 0 0 17 [vr a, vi i1, vi i2] [] (top, (a, 18, ob) :: H) (Ans (some (.int res.1)) (top, (a, 18, res.2) :: H))) (ob : Rec) (i1 : Int32) (i2 : Int32) (hf : X_release_w17 NF k17 ob i1 i2 = some res) : Runs C B16 0 0 17 [vr a, vi i1, vi i2] [] (top, (a, 18, ob) :: H) (Ans (some (.int res.1)) (top, (a, 18, res.2) :: H)) := by
  delta X_release_w17 at hf
  refine Runs.iloadN d16_17 rfl <| Runs.aloadN d16_18 rfl <| Runs.getI d16_19 w57 fS_1 <| ?_
  refine ite_el hf (fun hc1 hf => ?_) (fun hc1 hf => ?_)
  · refine Runs.icN d16_22 (tlt hc1).2.1 <| ?_
    refine Runs.aloadN d16_25 rfl <| Runs.iloadN d16_26 rfl <| Runs.bipush d16_27 cb_16 <| Runs.imul d16_29 <| Runs.iloadN d16_30 rfl <| Runs.iadd d16_31 <| ?_
    refine bind_el hf fun q2 hg3 hf => ?_
    exact Runs.callP (N := B17) (W := 0) (as := [.int ((i1 * (16 : Int32)) + i2)]) (S' := []) d16_32 w130 w131 w132 rfl cw17 ar17 rk16_17_0 (by decide) rfl rfl (X_discardPage_pay hg3) <| ans0 <| Runs.iinc (P' := [vr a, vi i1, vi (i2 + (1 : Int32))]) d16_35 ci_1 rfl (by decide) rfl <| Runs.goto (pc' := 17) d16_38 (by decide) <| hk17 q2 i1 (i2 + (1 : Int32)) hf
  · refine Runs.icY (pc' := 41) d16_22 (flt hc1).2.1 (by decide) <| ?_
    refine Runs.aloadN d16_41 rfl <| Runs.getA d16_42 fA_1 w17 (by decide) <| Runs.iloadN d16_45 rfl <| Runs.iconst d16_46 ci_0 <| ?_
    refine chk_el hf fun hi4 hf => ?_
    refine Runs.iastoreA d16_47 fA_1 (by decide) hi4 <| Runs.aloadN d16_48 rfl <| Runs.getA d16_49 fA_2 w19 (by decide) <| Runs.iloadN d16_52 rfl <| Runs.iconst d16_53 ci_0 <| ?_
    refine chk_el hf fun hi5 hf => ?_
    refine Runs.iastoreA d16_54 fA_2 (by decide) hi5 <| Runs.aloadN d16_55 rfl <| Runs.getA d16_56 fA_3 w21 (by decide) <| Runs.iloadN d16_59 rfl <| Runs.iconst d16_60 ci_0 <| ?_
    refine chk_el hf fun hi6 hf => ?_
    refine Runs.iastoreA d16_61 fA_3 (by decide) hi6 <| Runs.aloadN d16_62 rfl <| Runs.getA d16_63 fA_4 w23 (by decide) <| Runs.iloadN d16_66 rfl <| Runs.iconst d16_67 ci_0 <| ?_
    refine chk_el hf fun hi7 hf => ?_
    refine Runs.iastoreA d16_68 fA_4 (by decide) hi7 <| Runs.aloadN d16_69 rfl <| Runs.getA d16_70 fA_5 w25 (by decide) <| Runs.iloadN d16_73 rfl <| Runs.iconst d16_74 ci_0 <| ?_
    refine chk_el hf fun hi8 hf => ?_
    refine Runs.iastoreA d16_75 fA_5 (by decide) hi8 <| Runs.aloadN d16_76 rfl <| Runs.getA d16_77 fA_0 w14 (by decide) <| Runs.iloadN d16_80 rfl <| Runs.iconst d16_81 ci_0 <| ?_
    refine chk_el hf fun hi9 hf => ?_
    refine Runs.bastoreA (y := (0 : Int32)) d16_82 fA_0 (by decide) hi9 rfl <| Runs.aloadN d16_83 rfl <| Runs.iloadN d16_84 rfl <| ?_
    refine bind_el hf fun q10 hg11 hf => ?_
    obtain rfl := Option.some.inj hf
    exact Runs.callP (N := B12) (W := 0) (as := [.int i1]) (S' := []) d16_85 w105 w106 w107 rfl cw12 ar12 rk16_12_0 (by decide) rfl rfl (X_loadControl_pay hg11) <| ans0 <| Runs.aloadN d16_88 rfl <| Runs.iconst d16_89 ci_0 <| Runs.putI d16_90 w63 fS_4 (Or.inl w64) <| Runs.iconst d16_93 ci_0 <| Runs.retI d16_94 rfl ⟨by decide, by decide⟩ ⟨rfl, rfl⟩
theorem X_release_l17_p {C : Ctx} {top : Nat} {a : Nat} {H : List (Nat × Nat × Rec)} {res : Int32 × Rec} {NF : Nat} (n : Nat) (ob : Rec) (i1 : Int32) (i2 : Int32) (hf : X_release_l17 NF n ob i1 i2 = some res) : Runs C B16 0 0 17 [vr a, vi i1, vi i2] [] (top, (a, 18, ob) :: H) (Ans (some (.int res.1)) (top, (a, 18, res.2) :: H)) := by
  induction n generalizing ob i1 i2 with
  | zero => cases (show (none : Option (Int32 × Rec)) = some res from hf)
  | succ n ih => exact X_release_w17_p (X_release_l17 NF n) (fun ob i1 i2 h => ih _ _ _ h) ob i1 i2 hf
def X_release (NF : Nat) (ob : Rec) (i1 : Int32) : Option (Int32 × Rec) :=
  (X_validPid ob i1).bind fun r12 =>
  if r12 = (0 : Int32) then
    some ((1 : Int32), (sI ob 4 (1 : Int32)))
  else
    X_release_l17 NF NF ob i1 (0 : Int32)
set_option maxRecDepth 65536 in
set_option maxHeartbeats 4000000 in
theorem X_release_p {C : Ctx} {top : Nat} {a : Nat} {H : List (Nat × Nat × Rec)} {res : Int32 × Rec} {NF : Nat} (ob : Rec) (i1 : Int32) (hf : X_release NF ob i1 = some res) : Runs C B16 0 0 0 [vr a, vi i1, vn] [] (top, (a, 18, ob) :: H) (Ans (some (.int res.1)) (top, (a, 18, res.2) :: H)) := by
  delta X_release at hf
  refine Runs.aloadN d16_0 rfl <| Runs.iloadN d16_1 rfl <| ?_
  refine bind_el hf fun r12 hg13 hf => ?_
  refine Runs.callP (N := B6) (W := 0) (as := [.int i1]) (S' := []) d16_2 w81 w82 w83 rfl cw6 ar6 rk16_6_0 (by decide) rfl rfl (X_validPid_pay hg13) <| ans1 <| ?_
  refine ite_el hf (fun hc14 hf => ?_) (fun hc14 hf => ?_)
  · refine Runs.ifN d16_5 (teq hc14).2 <| ?_
    obtain rfl := Option.some.inj hf
    exact Runs.aloadN d16_8 rfl <| Runs.iconst d16_9 ci_1 <| Runs.putI d16_10 w63 fS_4 (Or.inl w64) <| Runs.iconst d16_13 ci_1 <| Runs.retI d16_14 rfl ⟨by decide, by decide⟩ ⟨rfl, rfl⟩
  · refine Runs.ifY (pc' := 15) d16_5 (feq hc14).2 (by decide) <| ?_
    exact Runs.iconst d16_15 ci_0 <| Runs.istoreN (P' := [vr a, vi i1, vi (0 : Int32)]) d16_16 (by decide) rfl <| X_release_l17_p NF ob i1 (0 : Int32) hf
theorem X_release_pay {C : Ctx} {top : Nat} {a : Nat} {H : List (Nat × Nat × Rec)} {res : Int32 × Rec} {NF : Nat} {ob : Rec} {i1 : Int32} (hf : X_release NF ob i1 = some res) : Pays C B16 [.ref a, .int i1] (top, (a, 18, ob) :: H) (Ans (some (.int res.1)) (top, (a, 18, res.2) :: H)) :=
  Pays.of pnK (Nat.le_of_ble_eq_true rfl) (P := [vr a, vi i1, vn]) 1 rfl (X_release_p ob i1 hf)
def L_law_w227 (NF : Nat) (z : Int32) (f : Int32 → Int32) (k52 : Rec → Rec → Int32 → Option (Int32)) (k227 : Rec → Rec → Int32 → Int32 → Int32 → Option (Int32)) (o0 : Rec) (o1 : Rec) (i5 : Int32) (i8 : Int32) (i11 : Int32) : Option (Int32) :=
  if i11 < (16 : Int32) then
    bind2 (X_store NF o1 (0 : Int32) ((i8 * (16 : Int32)) + i11) (0 : Int32)) fun r29 q30 =>
    k227 o0 q30 i5 i8 (i11 + (1 : Int32))
  else
    k52 o0 o1 (i5 + (1 : Int32))
def L_law_l227 (NF : Nat) (z : Int32) (f : Int32 → Int32) (k52 : Rec → Rec → Int32 → Option (Int32)) : Nat → Rec → Rec → Int32 → Int32 → Int32 → Option (Int32)
  | 0, _, _, _, _, _ => none
  | n + 1, o0, o1, i5, i8, i11 => L_law_w227 NF z f k52 (L_law_l227 NF z f k52 n) o0 o1 i5 i8 i11
set_option maxRecDepth 65536 in
set_option maxHeartbeats 4000000 in
theorem L_law_w227_p {C : Ctx} {sa : Nat} {z : Int32} {f : Int32 → Int32} (hs : ScrF C sa z f) {res : Int32} {NF : Nat} (k52 : Rec → Rec → Int32 → Option (Int32)) (hk52 : ∀ (o0 : Rec) (o1 : Rec) (i5 : Int32), k52 o0 o1 i5 = some res → Runs C B0 38 1956 52 [vr sa, vn, vn, vr C.2.2.1, vr (C.2.2.1 + 1 + 18), vi i5, vn, vn, vn, vn, vn, vn, vn, vn] [] (C.2.2.1 + 1 + 18 + 1 + 18, (C.2.2.1, 18, o0) :: (C.2.2.1 + 1 + 18, 18, o1) :: []) (fun v _ => v = (some (.int res)))) (k227 : Rec → Rec → Int32 → Int32 → Int32 → Option (Int32)) (hk227 : ∀ (o0 : Rec) (o1 : Rec) (i5 : Int32) (i8 : Int32) (i11 : Int32), k227 o0 o1 i5 i8 i11 = some res → Runs C B0 38 1956 227 [vr sa, vn, vn, vr C.2.2.1, vr (C.2.2.1 + 1 + 18), vi i5, vn, vn, vi i8, vn, vn, vi i11, vn, vn] [] (C.2.2.1 + 1 + 18 + 1 + 18, (C.2.2.1, 18, o0) :: (C.2.2.1 + 1 + 18, 18, o1) :: []) (fun v _ => v = (some (.int res)))) (o0 : Rec) (o1 : Rec) (i5 : Int32) (i8 : Int32) (i11 : Int32) (hf : L_law_w227 NF z f k52 k227 o0 o1 i5 i8 i11 = some res) : Runs C B0 38 1956 227 [vr sa, vn, vn, vr C.2.2.1, vr (C.2.2.1 + 1 + 18), vi i5, vn, vn, vi i8, vn, vn, vi i11, vn, vn] [] (C.2.2.1 + 1 + 18 + 1 + 18, (C.2.2.1, 18, o0) :: (C.2.2.1 + 1 + 18, 18, o1) :: []) (fun v _ => v = (some (.int res))) := by
  delta L_law_w227 at hf
  refine Runs.iload d0_227 rfl <| Runs.bipush d0_229 cb_16 <| ?_
  refine ite_el hf (fun hc28 hf => ?_) (fun hc28 hf => ?_)
  · refine Runs.icN d0_231 (tlt hc28).2.1 <| ?_
    refine Runs.aload d0_234 rfl <| Runs.iconst d0_236 ci_0 <| Runs.iload d0_237 rfl <| Runs.bipush d0_239 cb_16 <| Runs.imul d0_241 <| Runs.iload d0_242 rfl <| Runs.iadd d0_244 <| Runs.iconst d0_245 ci_0 <| ?_
    refine bind2_el hf fun r29 q30 hg31 hf => ?_
    exact Runs.swap <| Runs.callV (N := B4) (W := 0) (as := [.int (0 : Int32), .int ((i8 * (16 : Int32)) + i11), .int (0 : Int32)]) (S' := []) d0_246 w72 w73 w74 w75 cw4 ar4 rk0_4_0 (by decide) rfl rfl (X_store_pay hg31) <| ans1 <| Runs.swap <| Runs.pop d0_249 rfl <| Runs.iinc (P' := [vr sa, vn, vn, vr C.2.2.1, vr (C.2.2.1 + 1 + 18), vi i5, vn, vn, vi i8, vn, vn, vi (i11 + (1 : Int32)), vn, vn]) d0_250 ci_1 rfl (by decide) rfl <| Runs.goto (pc' := 227) d0_253 (by decide) <| hk227 o0 q30 i5 i8 (i11 + (1 : Int32)) hf
  · refine Runs.icY (pc' := 256) d0_231 (flt hc28).2.1 (by decide) <| ?_
    exact Runs.iinc (P' := [vr sa, vn, vn, vr C.2.2.1, vr (C.2.2.1 + 1 + 18), vi (i5 + (1 : Int32)), vn, vn, vi i8, vn, vn, vi i11, vn, vn]) d0_256 ci_1 rfl (by decide) rfl <| Runs.goto (pc' := 52) d0_259 (by decide) <| Runs.forget [true, false, false, true, true, true, false, false, false, false, false, false, false, false] rfl <| hk52 o0 o1 (i5 + (1 : Int32)) hf
theorem L_law_l227_p {C : Ctx} {sa : Nat} {z : Int32} {f : Int32 → Int32} (hs : ScrF C sa z f) {res : Int32} {NF : Nat} (k52 : Rec → Rec → Int32 → Option (Int32)) (hk52 : ∀ (o0 : Rec) (o1 : Rec) (i5 : Int32), k52 o0 o1 i5 = some res → Runs C B0 38 1956 52 [vr sa, vn, vn, vr C.2.2.1, vr (C.2.2.1 + 1 + 18), vi i5, vn, vn, vn, vn, vn, vn, vn, vn] [] (C.2.2.1 + 1 + 18 + 1 + 18, (C.2.2.1, 18, o0) :: (C.2.2.1 + 1 + 18, 18, o1) :: []) (fun v _ => v = (some (.int res)))) (n : Nat) (o0 : Rec) (o1 : Rec) (i5 : Int32) (i8 : Int32) (i11 : Int32) (hf : L_law_l227 NF z f k52 n o0 o1 i5 i8 i11 = some res) : Runs C B0 38 1956 227 [vr sa, vn, vn, vr C.2.2.1, vr (C.2.2.1 + 1 + 18), vi i5, vn, vn, vi i8, vn, vn, vi i11, vn, vn] [] (C.2.2.1 + 1 + 18 + 1 + 18, (C.2.2.1, 18, o0) :: (C.2.2.1 + 1 + 18, 18, o1) :: []) (fun v _ => v = (some (.int res))) := by
  induction n generalizing o0 o1 i5 i8 i11 with
  | zero => cases (show (none : Option (Int32)) = some res from hf)
  | succ n ih => exact L_law_w227_p hs k52 hk52 (L_law_l227 NF z f k52 n) (fun o0 o1 i5 i8 i11 h => ih _ _ _ _ _ h) o0 o1 i5 i8 i11 hf
def L_law_w52 (NF : Nat) (z : Int32) (f : Int32 → Int32) (k52 : Rec → Rec → Int32 → Option (Int32)) (o0 : Rec) (o1 : Rec) (i5 : Int32) : Option (Int32) :=
  if i5 < z then
    (L_cell z f i5).bind fun r2 =>
    if (r2 &&& (15 : Int32)) < (7 : Int32) then
      bind2 (X_store NF o0 (((r2.toUInt32 >>> ((4 : Int32) &&& 31).toUInt32).toInt32) &&& (3 : Int32)) (((r2.toUInt32 >>> ((6 : Int32) &&& 31).toUInt32).toInt32) &&& (15 : Int32)) ((r2 >>> ((10 : Int32) &&& 31)) ^^^ (i5 * (-1640531535 : Int32)))) fun r5 q6 =>
      if r5 = (0 : Int32) then
        bind2 (X_store NF o1 (0 : Int32) (((((r2.toUInt32 >>> ((4 : Int32) &&& 31).toUInt32).toInt32) &&& (3 : Int32)) * (16 : Int32)) + (((r2.toUInt32 >>> ((6 : Int32) &&& 31).toUInt32).toInt32) &&& (15 : Int32))) ((r2 >>> ((10 : Int32) &&& 31)) ^^^ (i5 * (-1640531535 : Int32)))) fun r9 q10 =>
        k52 q6 q10 (i5 + (1 : Int32))
      else
        k52 q6 o1 (i5 + (1 : Int32))
    else
      if (r2 &&& (15 : Int32)) < (14 : Int32) then
        bind2 (X_load NF o0 (((r2.toUInt32 >>> ((4 : Int32) &&& 31).toUInt32).toInt32) &&& (3 : Int32)) (((r2.toUInt32 >>> ((6 : Int32) &&& 31).toUInt32).toInt32) &&& (15 : Int32))) fun r13 q14 =>
        if r13 = (-9223372036854775808 : Int64) then
          k52 q14 o1 (i5 + (1 : Int32))
        else
          (X_lastStatus q14).bind fun r17 =>
          if r17 = (0 : Int32) then
            bind2 (X_load NF o1 (0 : Int32) (((((r2.toUInt32 >>> ((4 : Int32) &&& 31).toUInt32).toInt32) &&& (3 : Int32)) * (16 : Int32)) + (((r2.toUInt32 >>> ((6 : Int32) &&& 31).toUInt32).toInt32) &&& (15 : Int32)))) fun r20 q21 =>
            if r13 = r20 then
              k52 q14 q21 (i5 + (1 : Int32))
            else
              some (0 : Int32)
          else
            k52 q14 o1 (i5 + (1 : Int32))
      else
        bind2 (X_release NF o0 (((r2.toUInt32 >>> ((4 : Int32) &&& 31).toUInt32).toInt32) &&& (3 : Int32))) fun r24 q25 =>
        if r24 = (0 : Int32) then
          L_law_l227 NF z f k52 NF q25 o1 i5 (((r2.toUInt32 >>> ((4 : Int32) &&& 31).toUInt32).toInt32) &&& (3 : Int32)) (0 : Int32)
        else
          k52 q25 o1 (i5 + (1 : Int32))
  else
    some (1 : Int32)
def L_law_l52 (NF : Nat) (z : Int32) (f : Int32 → Int32) : Nat → Rec → Rec → Int32 → Option (Int32)
  | 0, _, _, _ => none
  | n + 1, o0, o1, i5 => L_law_w52 NF z f (L_law_l52 NF z f n) o0 o1 i5
set_option maxRecDepth 65536 in
set_option maxHeartbeats 4000000 in
theorem L_law_w52_p {C : Ctx} {sa : Nat} {z : Int32} {f : Int32 → Int32} (hs : ScrF C sa z f) {res : Int32} {NF : Nat} (k52 : Rec → Rec → Int32 → Option (Int32)) (hk52 : ∀ (o0 : Rec) (o1 : Rec) (i5 : Int32), k52 o0 o1 i5 = some res → Runs C B0 38 1956 52 [vr sa, vn, vn, vr C.2.2.1, vr (C.2.2.1 + 1 + 18), vi i5, vn, vn, vn, vn, vn, vn, vn, vn] [] (C.2.2.1 + 1 + 18 + 1 + 18, (C.2.2.1, 18, o0) :: (C.2.2.1 + 1 + 18, 18, o1) :: []) (fun v _ => v = (some (.int res)))) (o0 : Rec) (o1 : Rec) (i5 : Int32) (hf : L_law_w52 NF z f k52 o0 o1 i5 = some res) : Runs C B0 38 1956 52 [vr sa, vn, vn, vr C.2.2.1, vr (C.2.2.1 + 1 + 18), vi i5, vn, vn, vn, vn, vn, vn, vn, vn] [] (C.2.2.1 + 1 + 18 + 1 + 18, (C.2.2.1, 18, o0) :: (C.2.2.1 + 1 + 18, 18, o1) :: []) (fun v _ => v = (some (.int res))) := by
  delta L_law_w52 at hf
  refine Runs.iload d0_52 rfl <| Runs.aloadN d0_54 rfl <| Runs.lenS hs d0_55 <| ?_
  refine ite_el hf (fun hc1 hf => ?_) (fun hc1 hf => ?_)
  · refine Runs.icN d0_56 (tlt hc1).2.1 <| ?_
    refine Runs.aloadN d0_59 rfl <| Runs.iload d0_60 rfl <| ?_
    refine bind_el hf fun r2 hg3 hf => ?_
    refine Runs.callS (N := B1) (W := 0) (as := [.ref sa, .int i5]) (S' := []) d0_62 w0 w1 cw1 ar1 rk0_1_0 (by decide) rfl rfl (L_cell_pay hs hg3) <| ans1 <| Runs.istore (P' := [vr sa, vn, vn, vr C.2.2.1, vr (C.2.2.1 + 1 + 18), vi i5, vi r2, vn, vn, vn, vn, vn, vn, vn]) d0_65 (by decide) rfl <| Runs.iload d0_67 rfl <| Runs.bipush d0_69 cb_15 <| Runs.iand d0_71 <| Runs.istore (P' := [vr sa, vn, vn, vr C.2.2.1, vr (C.2.2.1 + 1 + 18), vi i5, vi r2, vi (r2 &&& (15 : Int32)), vn, vn, vn, vn, vn, vn]) d0_72 (by decide) rfl <| Runs.iload d0_74 rfl <| Runs.iconst d0_76 ci_4 <| Runs.iushr d0_77 <| Runs.iconst d0_78 ci_3 <| Runs.iand d0_79 <| Runs.istore (P' := [vr sa, vn, vn, vr C.2.2.1, vr (C.2.2.1 + 1 + 18), vi i5, vi r2, vi (r2 &&& (15 : Int32)), vi (((r2.toUInt32 >>> ((4 : Int32) &&& 31).toUInt32).toInt32) &&& (3 : Int32)), vn, vn, vn, vn, vn]) d0_80 (by decide) rfl <| ?_
    refine Runs.iload d0_82 rfl <| Runs.bipush d0_84 cb_6 <| Runs.iushr d0_86 <| Runs.bipush d0_87 cb_15 <| Runs.iand d0_89 <| Runs.istore (P' := [vr sa, vn, vn, vr C.2.2.1, vr (C.2.2.1 + 1 + 18), vi i5, vi r2, vi (r2 &&& (15 : Int32)), vi (((r2.toUInt32 >>> ((4 : Int32) &&& 31).toUInt32).toInt32) &&& (3 : Int32)), vi (((r2.toUInt32 >>> ((6 : Int32) &&& 31).toUInt32).toInt32) &&& (15 : Int32)), vn, vn, vn, vn]) d0_90 (by decide) rfl <| Runs.iload d0_92 rfl <| Runs.bipush d0_94 cb_7 <| ?_
    refine ite_el hf (fun hc4 hf => ?_) (fun hc4 hf => ?_)
    · refine Runs.icN d0_96 (tlt hc4).2.1 <| ?_
      refine Runs.iload d0_99 rfl <| Runs.bipush d0_101 cb_10 <| Runs.ishr d0_103 <| Runs.iload d0_104 rfl <| Runs.ldc d0_106 w71 <| Runs.imul d0_108 <| Runs.ixor d0_109 <| Runs.istore (P' := [vr sa, vn, vn, vr C.2.2.1, vr (C.2.2.1 + 1 + 18), vi i5, vi r2, vi (r2 &&& (15 : Int32)), vi (((r2.toUInt32 >>> ((4 : Int32) &&& 31).toUInt32).toInt32) &&& (3 : Int32)), vi (((r2.toUInt32 >>> ((6 : Int32) &&& 31).toUInt32).toInt32) &&& (15 : Int32)), vi ((r2 >>> ((10 : Int32) &&& 31)) ^^^ (i5 * (-1640531535 : Int32))), vn, vn, vn]) d0_110 (by decide) rfl <| Runs.aloadN d0_112 rfl <| Runs.iload d0_113 rfl <| Runs.iload d0_115 rfl <| Runs.iload d0_117 rfl <| ?_
      refine bind2_el hf fun r5 q6 hg7 hf => ?_
      refine Runs.callV (N := B4) (W := 0) (as := [.int (((r2.toUInt32 >>> ((4 : Int32) &&& 31).toUInt32).toInt32) &&& (3 : Int32)), .int (((r2.toUInt32 >>> ((6 : Int32) &&& 31).toUInt32).toInt32) &&& (15 : Int32)), .int ((r2 >>> ((10 : Int32) &&& 31)) ^^^ (i5 * (-1640531535 : Int32)))]) (S' := []) d0_119 w72 w73 w74 w75 cw4 ar4 rk0_4_0 (by decide) rfl rfl (X_store_pay hg7) <| ans1 <| Runs.istore (P' := [vr sa, vn, vn, vr C.2.2.1, vr (C.2.2.1 + 1 + 18), vi i5, vi r2, vi (r2 &&& (15 : Int32)), vi (((r2.toUInt32 >>> ((4 : Int32) &&& 31).toUInt32).toInt32) &&& (3 : Int32)), vi (((r2.toUInt32 >>> ((6 : Int32) &&& 31).toUInt32).toInt32) &&& (15 : Int32)), vi ((r2 >>> ((10 : Int32) &&& 31)) ^^^ (i5 * (-1640531535 : Int32))), vi r5, vn, vn]) d0_122 (by decide) rfl <| Runs.iload d0_124 rfl <| ?_
      refine ite_el hf (fun hc8 hf => ?_) (fun hc8 hf => ?_)
      · refine Runs.ifN d0_126 (teq hc8).2 <| ?_
        refine Runs.aload d0_129 rfl <| Runs.iconst d0_131 ci_0 <| Runs.iload d0_132 rfl <| Runs.bipush d0_134 cb_16 <| Runs.imul d0_136 <| Runs.iload d0_137 rfl <| Runs.iadd d0_139 <| Runs.iload d0_140 rfl <| ?_
        refine bind2_el hf fun r9 q10 hg11 hf => ?_
        exact Runs.swap <| Runs.callV (N := B4) (W := 0) (as := [.int (0 : Int32), .int (((((r2.toUInt32 >>> ((4 : Int32) &&& 31).toUInt32).toInt32) &&& (3 : Int32)) * (16 : Int32)) + (((r2.toUInt32 >>> ((6 : Int32) &&& 31).toUInt32).toInt32) &&& (15 : Int32))), .int ((r2 >>> ((10 : Int32) &&& 31)) ^^^ (i5 * (-1640531535 : Int32)))]) (S' := []) d0_142 w72 w73 w74 w75 cw4 ar4 rk0_4_0 (by decide) rfl rfl (X_store_pay hg11) <| ans1 <| Runs.swap <| Runs.pop d0_145 rfl <| Runs.goto (pc' := 256) d0_146 (by decide) <| Runs.iinc (P' := [vr sa, vn, vn, vr C.2.2.1, vr (C.2.2.1 + 1 + 18), vi (i5 + (1 : Int32)), vi r2, vi (r2 &&& (15 : Int32)), vi (((r2.toUInt32 >>> ((4 : Int32) &&& 31).toUInt32).toInt32) &&& (3 : Int32)), vi (((r2.toUInt32 >>> ((6 : Int32) &&& 31).toUInt32).toInt32) &&& (15 : Int32)), vi ((r2 >>> ((10 : Int32) &&& 31)) ^^^ (i5 * (-1640531535 : Int32))), vi r5, vn, vn]) d0_256 ci_1 rfl (by decide) rfl <| Runs.goto (pc' := 52) d0_259 (by decide) <| Runs.forget [true, false, false, true, true, true, false, false, false, false, false, false, false, false] rfl <| hk52 q6 q10 (i5 + (1 : Int32)) hf
      · refine Runs.ifY (pc' := 146) d0_126 (feq hc8).2 (by decide) <| ?_
        exact Runs.goto (pc' := 256) d0_146 (by decide) <| Runs.iinc (P' := [vr sa, vn, vn, vr C.2.2.1, vr (C.2.2.1 + 1 + 18), vi (i5 + (1 : Int32)), vi r2, vi (r2 &&& (15 : Int32)), vi (((r2.toUInt32 >>> ((4 : Int32) &&& 31).toUInt32).toInt32) &&& (3 : Int32)), vi (((r2.toUInt32 >>> ((6 : Int32) &&& 31).toUInt32).toInt32) &&& (15 : Int32)), vi ((r2 >>> ((10 : Int32) &&& 31)) ^^^ (i5 * (-1640531535 : Int32))), vi r5, vn, vn]) d0_256 ci_1 rfl (by decide) rfl <| Runs.goto (pc' := 52) d0_259 (by decide) <| Runs.forget [true, false, false, true, true, true, false, false, false, false, false, false, false, false] rfl <| hk52 q6 o1 (i5 + (1 : Int32)) hf
    · refine Runs.icY (pc' := 149) d0_96 (flt hc4).2.1 (by decide) <| ?_
      refine Runs.iload d0_149 rfl <| Runs.bipush d0_151 cb_14 <| ?_
      refine ite_el hf (fun hc12 hf => ?_) (fun hc12 hf => ?_)
      · refine Runs.icN d0_153 (tlt hc12).2.1 <| ?_
        refine Runs.aloadN d0_156 rfl <| Runs.iload d0_157 rfl <| Runs.iload d0_159 rfl <| ?_
        refine bind2_el hf fun r13 q14 hg15 hf => ?_
        refine Runs.callV (N := B14) (W := 0) (as := [.int (((r2.toUInt32 >>> ((4 : Int32) &&& 31).toUInt32).toInt32) &&& (3 : Int32)), .int (((r2.toUInt32 >>> ((6 : Int32) &&& 31).toUInt32).toInt32) &&& (15 : Int32))]) (S' := []) d0_161 w114 w115 w116 w117 cw14 ar14 rk0_14_0 (by decide) rfl rfl (X_load_pay hg15) <| ans1 <| Runs.lstore (P' := [vr sa, vn, vn, vr C.2.2.1, vr (C.2.2.1 + 1 + 18), vi i5, vi r2, vi (r2 &&& (15 : Int32)), vi (((r2.toUInt32 >>> ((4 : Int32) &&& 31).toUInt32).toInt32) &&& (3 : Int32)), vi (((r2.toUInt32 >>> ((6 : Int32) &&& 31).toUInt32).toInt32) &&& (15 : Int32)), vl r13, v2, vn, vn]) d0_164 (by decide) rfl <| Runs.lload d0_166 rfl <| Runs.ldc2 d0_168 w119 <| Runs.lcmp d0_171 <| ?_
        refine ite_el hf (fun hc16 hf => ?_) (fun hc16 hf => ?_)
        · refine Runs.ifY (pc' := 208) d0_172 (teq ((lw_eq _ _).mpr hc16)).1 (by decide) <| ?_
          exact Runs.goto (pc' := 256) d0_208 (by decide) <| Runs.iinc (P' := [vr sa, vn, vn, vr C.2.2.1, vr (C.2.2.1 + 1 + 18), vi (i5 + (1 : Int32)), vi r2, vi (r2 &&& (15 : Int32)), vi (((r2.toUInt32 >>> ((4 : Int32) &&& 31).toUInt32).toInt32) &&& (3 : Int32)), vi (((r2.toUInt32 >>> ((6 : Int32) &&& 31).toUInt32).toInt32) &&& (15 : Int32)), vl r13, v2, vn, vn]) d0_256 ci_1 rfl (by decide) rfl <| Runs.goto (pc' := 52) d0_259 (by decide) <| Runs.forget [true, false, false, true, true, true, false, false, false, false, false, false, false, false] rfl <| hk52 q14 o1 (i5 + (1 : Int32)) hf
        · refine Runs.ifN d0_172 (feq (fun u => hc16 ((lw_eq _ _).mp u))).1 <| ?_
          refine Runs.aloadN d0_175 rfl <| ?_
          refine bind_el hf fun r17 hg18 hf => ?_
          refine Runs.callV (N := B15) (W := 0) (as := []) (S' := []) d0_176 w120 w121 w122 w123 cw15 ar15 rk0_15_0 (by decide) rfl rfl (X_lastStatus_pay hg18) <| ans1 <| ?_
          refine ite_el hf (fun hc19 hf => ?_) (fun hc19 hf => ?_)
          · refine Runs.ifN d0_179 (teq hc19).2 <| ?_
            refine Runs.aload d0_182 rfl <| Runs.iconst d0_184 ci_0 <| Runs.iload d0_185 rfl <| Runs.bipush d0_187 cb_16 <| Runs.imul d0_189 <| Runs.iload d0_190 rfl <| Runs.iadd d0_192 <| ?_
            refine bind2_el hf fun r20 q21 hg22 hf => ?_
            refine Runs.swap <| Runs.callV (N := B14) (W := 0) (as := [.int (0 : Int32), .int (((((r2.toUInt32 >>> ((4 : Int32) &&& 31).toUInt32).toInt32) &&& (3 : Int32)) * (16 : Int32)) + (((r2.toUInt32 >>> ((6 : Int32) &&& 31).toUInt32).toInt32) &&& (15 : Int32)))]) (S' := []) d0_193 w114 w115 w116 w117 cw14 ar14 rk0_14_0 (by decide) rfl rfl (X_load_pay hg22) <| ans1 <| Runs.swap <| Runs.lstore (P' := [vr sa, vn, vn, vr C.2.2.1, vr (C.2.2.1 + 1 + 18), vi i5, vi r2, vi (r2 &&& (15 : Int32)), vi (((r2.toUInt32 >>> ((4 : Int32) &&& 31).toUInt32).toInt32) &&& (3 : Int32)), vi (((r2.toUInt32 >>> ((6 : Int32) &&& 31).toUInt32).toInt32) &&& (15 : Int32)), vl r13, v2, vl r20, v2]) d0_196 (by decide) rfl <| Runs.lload d0_198 rfl <| Runs.lload d0_200 rfl <| Runs.lcmp d0_202 <| ?_
            refine ite_el hf (fun hc23 hf => ?_) (fun hc23 hf => ?_)
            · refine Runs.ifY (pc' := 208) d0_203 (teq ((lw_eq _ _).mpr hc23)).1 (by decide) <| ?_
              exact Runs.goto (pc' := 256) d0_208 (by decide) <| Runs.iinc (P' := [vr sa, vn, vn, vr C.2.2.1, vr (C.2.2.1 + 1 + 18), vi (i5 + (1 : Int32)), vi r2, vi (r2 &&& (15 : Int32)), vi (((r2.toUInt32 >>> ((4 : Int32) &&& 31).toUInt32).toInt32) &&& (3 : Int32)), vi (((r2.toUInt32 >>> ((6 : Int32) &&& 31).toUInt32).toInt32) &&& (15 : Int32)), vl r13, v2, vl r20, v2]) d0_256 ci_1 rfl (by decide) rfl <| Runs.goto (pc' := 52) d0_259 (by decide) <| Runs.forget [true, false, false, true, true, true, false, false, false, false, false, false, false, false] rfl <| hk52 q14 q21 (i5 + (1 : Int32)) hf
            · refine Runs.ifN d0_203 (feq (fun u => hc23 ((lw_eq _ _).mp u))).1 <| ?_
              obtain rfl := Option.some.inj hf
              exact Runs.iconst d0_206 ci_0 <| Runs.retZ (y := (0 : Int32)) d0_207 rfl ⟨by decide, by decide⟩ rfl rfl
          · refine Runs.ifY (pc' := 208) d0_179 (feq hc19).2 (by decide) <| ?_
            exact Runs.goto (pc' := 256) d0_208 (by decide) <| Runs.iinc (P' := [vr sa, vn, vn, vr C.2.2.1, vr (C.2.2.1 + 1 + 18), vi (i5 + (1 : Int32)), vi r2, vi (r2 &&& (15 : Int32)), vi (((r2.toUInt32 >>> ((4 : Int32) &&& 31).toUInt32).toInt32) &&& (3 : Int32)), vi (((r2.toUInt32 >>> ((6 : Int32) &&& 31).toUInt32).toInt32) &&& (15 : Int32)), vl r13, v2, vn, vn]) d0_256 ci_1 rfl (by decide) rfl <| Runs.goto (pc' := 52) d0_259 (by decide) <| Runs.forget [true, false, false, true, true, true, false, false, false, false, false, false, false, false] rfl <| hk52 q14 o1 (i5 + (1 : Int32)) hf
      · refine Runs.icY (pc' := 211) d0_153 (flt hc12).2.1 (by decide) <| ?_
        refine Runs.aloadN d0_211 rfl <| Runs.iload d0_212 rfl <| ?_
        refine bind2_el hf fun r24 q25 hg26 hf => ?_
        refine Runs.callV (N := B16) (W := 0) (as := [.int (((r2.toUInt32 >>> ((4 : Int32) &&& 31).toUInt32).toInt32) &&& (3 : Int32))]) (S' := []) d0_214 w125 w126 w127 w128 cw16 ar16 rk0_16_0 (by decide) rfl rfl (X_release_pay hg26) <| ans1 <| Runs.istore (P' := [vr sa, vn, vn, vr C.2.2.1, vr (C.2.2.1 + 1 + 18), vi i5, vi r2, vi (r2 &&& (15 : Int32)), vi (((r2.toUInt32 >>> ((4 : Int32) &&& 31).toUInt32).toInt32) &&& (3 : Int32)), vi (((r2.toUInt32 >>> ((6 : Int32) &&& 31).toUInt32).toInt32) &&& (15 : Int32)), vi r24, vn, vn, vn]) d0_217 (by decide) rfl <| Runs.iload d0_219 rfl <| ?_
        refine ite_el hf (fun hc27 hf => ?_) (fun hc27 hf => ?_)
        · refine Runs.ifN d0_221 (teq hc27).2 <| ?_
          exact Runs.iconst d0_224 ci_0 <| Runs.istore (P' := [vr sa, vn, vn, vr C.2.2.1, vr (C.2.2.1 + 1 + 18), vi i5, vi r2, vi (r2 &&& (15 : Int32)), vi (((r2.toUInt32 >>> ((4 : Int32) &&& 31).toUInt32).toInt32) &&& (3 : Int32)), vi (((r2.toUInt32 >>> ((6 : Int32) &&& 31).toUInt32).toInt32) &&& (15 : Int32)), vi r24, vi (0 : Int32), vn, vn]) d0_225 (by decide) rfl <| Runs.forget [true, false, false, true, true, true, false, false, true, false, false, true, false, false] rfl <| L_law_l227_p hs k52 hk52 NF q25 o1 i5 (((r2.toUInt32 >>> ((4 : Int32) &&& 31).toUInt32).toInt32) &&& (3 : Int32)) (0 : Int32) hf
        · refine Runs.ifY (pc' := 256) d0_221 (feq hc27).2 (by decide) <| ?_
          exact Runs.iinc (P' := [vr sa, vn, vn, vr C.2.2.1, vr (C.2.2.1 + 1 + 18), vi (i5 + (1 : Int32)), vi r2, vi (r2 &&& (15 : Int32)), vi (((r2.toUInt32 >>> ((4 : Int32) &&& 31).toUInt32).toInt32) &&& (3 : Int32)), vi (((r2.toUInt32 >>> ((6 : Int32) &&& 31).toUInt32).toInt32) &&& (15 : Int32)), vi r24, vn, vn, vn]) d0_256 ci_1 rfl (by decide) rfl <| Runs.goto (pc' := 52) d0_259 (by decide) <| Runs.forget [true, false, false, true, true, true, false, false, false, false, false, false, false, false] rfl <| hk52 q25 o1 (i5 + (1 : Int32)) hf
  · refine Runs.icY (pc' := 262) d0_56 (flt hc1).2.1 (by decide) <| ?_
    obtain rfl := Option.some.inj hf
    exact Runs.iconst d0_262 ci_1 <| Runs.retZ (y := (1 : Int32)) d0_263 rfl ⟨by decide, by decide⟩ rfl rfl
theorem L_law_l52_p {C : Ctx} {sa : Nat} {z : Int32} {f : Int32 → Int32} (hs : ScrF C sa z f) {res : Int32} {NF : Nat} (n : Nat) (o0 : Rec) (o1 : Rec) (i5 : Int32) (hf : L_law_l52 NF z f n o0 o1 i5 = some res) : Runs C B0 38 1956 52 [vr sa, vn, vn, vr C.2.2.1, vr (C.2.2.1 + 1 + 18), vi i5, vn, vn, vn, vn, vn, vn, vn, vn] [] (C.2.2.1 + 1 + 18 + 1 + 18, (C.2.2.1, 18, o0) :: (C.2.2.1 + 1 + 18, 18, o1) :: []) (fun v _ => v = (some (.int res))) := by
  induction n generalizing o0 o1 i5 with
  | zero => cases (show (none : Option (Int32)) = some res from hf)
  | succ n ih => exact L_law_w52_p hs (L_law_l52 NF z f n) (fun o0 o1 i5 h => ih _ _ _ h) o0 o1 i5 hf
def L_law (NF : Nat) (z : Int32) (f : Int32 → Int32) : Option (Int32) :=
  (L_cell z f (0 : Int32)).bind fun r32 =>
  (L_cell z f (1 : Int32)).bind fun r34 =>
  (X_init NF (4 : Int32) (4 : Int32) ((4 : Int32) + (r32 &&& (3 : Int32))) ((1 : Int32) + (r34 &&& (7 : Int32)))).bind fun q36 =>
  (X_init NF (1 : Int32) (16 : Int32) (32 : Int32) (16 : Int32)).bind fun q38 =>
  L_law_l52 NF z f NF q36 q38 (2 : Int32)
set_option maxRecDepth 65536 in
set_option maxHeartbeats 4000000 in
theorem L_law_p {C : Ctx} {sa : Nat} {z : Int32} {f : Int32 → Int32} (hs : ScrF C sa z f) {res : Int32} {NF : Nat} (hf : L_law NF z f = some res) : Runs C B0 0 0 0 [vr sa, vn, vn, vn, vn, vn, vn, vn, vn, vn, vn, vn, vn, vn] [] (C.2.2.1, []) (fun v _ => v = (some (.int res))) := by
  delta L_law at hf
  refine Runs.iconst d0_0 ci_4 <| Runs.aloadN d0_1 rfl <| Runs.iconst d0_2 ci_0 <| ?_
  refine bind_el hf fun r32 hg33 hf => ?_
  refine Runs.callS (N := B1) (W := 1) (as := [.ref sa, .int (0 : Int32)]) (S' := [.int (4 : Int32)]) d0_3 w0 w1 cw1 ar1 rk0_1_1 (by decide) rfl rfl (L_cell_pay hs hg33) <| ans1 <| Runs.iconst d0_6 ci_3 <| Runs.iand d0_7 <| Runs.iadd d0_8 <| Runs.istoreN (P' := [vr sa, vi ((4 : Int32) + (r32 &&& (3 : Int32))), vn, vn, vn, vn, vn, vn, vn, vn, vn, vn, vn, vn]) d0_9 (by decide) rfl <| Runs.iconst d0_10 ci_1 <| Runs.aloadN d0_11 rfl <| Runs.iconst d0_12 ci_1 <| ?_
  refine bind_el hf fun r34 hg35 hf => ?_
  refine Runs.callS (N := B1) (W := 1) (as := [.ref sa, .int (1 : Int32)]) (S' := [.int (1 : Int32)]) d0_13 w0 w1 cw1 ar1 rk0_1_1 (by decide) rfl rfl (L_cell_pay hs hg35) <| ans1 <| Runs.bipush d0_16 cb_7 <| Runs.iand d0_18 <| Runs.iadd d0_19 <| Runs.istoreN (P' := [vr sa, vi ((4 : Int32) + (r32 &&& (3 : Int32))), vi ((1 : Int32) + (r34 &&& (7 : Int32))), vn, vn, vn, vn, vn, vn, vn, vn, vn, vn, vn]) d0_20 (by decide) rfl <| Runs.newK (k' := 1) (n' := 26) d0_21 w4 ⟨by decide, by decide⟩ rfl rfl (by intro x hx; cases hx) <| Runs.dup d0_24 rfl <| Runs.iconst d0_25 ci_4 <| Runs.iconst d0_26 ci_4 <| Runs.iloadN d0_27 rfl <| Runs.iloadN d0_28 rfl <| ?_
  refine bind_el hf fun q36 hg37 hf => ?_
  refine Runs.callI (N := B2) (k' := 19) (n' := 978) (W := 1) (as := [.int (4 : Int32), .int (4 : Int32), .int ((4 : Int32) + (r32 &&& (3 : Int32))), .int ((1 : Int32) + (r34 &&& (7 : Int32)))]) (S' := [.ref C.2.2.1]) d0_29 rfl rfl w7 w8 cw2 ar2 (by decide) rfl rfl rfl rfl (X_init_pay hg37) <| ans0 <| Runs.astoreN (P' := [vr sa, vi ((4 : Int32) + (r32 &&& (3 : Int32))), vi ((1 : Int32) + (r34 &&& (7 : Int32))), vr C.2.2.1, vn, vn, vn, vn, vn, vn, vn, vn, vn, vn]) d0_32 (by decide) rfl <| Runs.newK (k' := 20) (n' := 1004) d0_33 w4 ⟨by decide, by decide⟩ rfl rfl (by intro x hx; simp only [List.mem_cons, List.not_mem_nil, or_false] at hx; subst hx; dsimp only; omega) <| Runs.swap <| Runs.dup d0_36 rfl <| Runs.iconst d0_37 ci_1 <| Runs.bipush d0_38 cb_16 <| Runs.bipush d0_40 cb_32 <| Runs.bipush d0_42 cb_16 <| ?_
  refine bind_el hf fun q38 hg39 hf => ?_
  exact Runs.swap <| Runs.callI (N := B2) (k' := 38) (n' := 1956) (W := 1) (as := [.int (1 : Int32), .int (16 : Int32), .int (32 : Int32), .int (16 : Int32)]) (S' := [.ref (C.2.2.1 + 1 + 18)]) d0_44 rfl rfl w7 w8 cw2 ar2 (by decide) rfl rfl rfl rfl (X_init_pay hg39) <| ans0 <| Runs.swap <| Runs.astore (P' := [vr sa, vi ((4 : Int32) + (r32 &&& (3 : Int32))), vi ((1 : Int32) + (r34 &&& (7 : Int32))), vr C.2.2.1, vr (C.2.2.1 + 1 + 18), vn, vn, vn, vn, vn, vn, vn, vn, vn]) d0_47 (by decide) rfl <| Runs.iconst d0_49 ci_2 <| Runs.istore (P' := [vr sa, vi ((4 : Int32) + (r32 &&& (3 : Int32))), vi ((1 : Int32) + (r34 &&& (7 : Int32))), vr C.2.2.1, vr (C.2.2.1 + 1 + 18), vi (2 : Int32), vn, vn, vn, vn, vn, vn, vn, vn]) d0_50 (by decide) rfl <| Runs.forget [true, false, false, true, true, true, false, false, false, false, false, false, false, false] rfl <| L_law_l52_p hs NF q36 q38 (2 : Int32) hf
theorem L_law_pay {C : Ctx} {sa : Nat} {z : Int32} {f : Int32 → Int32} (hs : ScrF C sa z f) {res : Int32} {NF : Nat} (hf : L_law NF z f = some res) : Pays C B0 [.ref sa] (C.2.2.1, []) (fun v _ => v = (some (.int res))) :=
  Pays.of pnL (Nat.le_of_ble_eq_true rfl) (P := [vr sa, vn, vn, vn, vn, vn, vn, vn, vn, vn, vn, vn, vn, vn]) 13 rfl (L_law_p hs hf)
--OWED--
theorem gI_sI (ob : Rec) (k j : Nat) (v : Int32) : gI (sI ob k v) j = if j = k then v else gI ob j := rfl
theorem gI_sA (ob : Rec) (k j : Nat) (i v : Int32) : gI (sA ob k i v) j = gI ob j := rfl
theorem gI_sJ (ob : Rec) (k j : Nat) (i : Int32) (v : Int64) : gI (sJ ob k i v) j = gI ob j := rfl
theorem gA_sI (ob : Rec) (k j : Nat) (v x : Int32) : gA (sI ob k v) j x = gA ob j x := rfl
theorem gA_sA (ob : Rec) (k j : Nat) (i v x : Int32) : gA (sA ob k i v) j x = if j = k ∧ x = i then v else gA ob j x := rfl
theorem gA_sJ (ob : Rec) (k j : Nat) (i x : Int32) (v : Int64) : gA (sJ ob k i v) j x = gA ob j x := rfl
theorem gJ_sI (ob : Rec) (k j : Nat) (v x : Int32) : gJ (sI ob k v) j x = gJ ob j x := rfl
theorem gJ_sA (ob : Rec) (k j : Nat) (i v x : Int32) : gJ (sA ob k i v) j x = gJ ob j x := rfl
theorem gJ_sJ (ob : Rec) (k j : Nat) (i x : Int32) (v : Int64) : gJ (sJ ob k i v) j x = if j = k ∧ x = i then v else gJ ob j x := rfl
theorem gI_z (k : Nat) : gI zrec k = 0 := rfl
theorem gA_z (k : Nat) (i : Int32) : gA zrec k i = 0 := rfl
theorem gJ_z (k : Nat) (i : Int32) : gJ zrec k i = 0 := rfl
theorem chk_ok {γ : Type} {n i : Int32} {A : Option γ} (h : 0 ≤ i.toInt ∧ i.toInt < n.toInt) : chk n i A = A := by
  have h0 : ¬ i < 0 := by rw [Int32.lt_iff_toInt_lt]; show ¬ i.toInt < 0; omega
  have h1 : i < n := by rw [Int32.lt_iff_toInt_lt]; exact h.2
  unfold chk; rw [if_neg h0, if_pos h1]
theorem lt_i {x y : Int32} : x < y ↔ x.toInt < y.toInt := Int32.lt_iff_toInt_lt
theorem le_i {x y : Int32} : x ≤ y ↔ x.toInt ≤ y.toInt := Int32.le_iff_toInt_le
theorem eq_i32 {x y : Int32} : x = y ↔ x.toInt = y.toInt := Int32.toInt_inj.symm
theorem bm_id {n : Int} (h : -2147483648 ≤ n ∧ n < 2147483648) : n.bmod (2 ^ 32) = n := Int.bmod_eq_of_le (by omega) (by omega)
theorem ad {x y : Int32} (h : -2147483648 ≤ x.toInt + y.toInt ∧ x.toInt + y.toInt < 2147483648) : (x + y).toInt = x.toInt + y.toInt := by rw [Int32.toInt_add, bm_id h]
theorem sb {x y : Int32} (h : -2147483648 ≤ x.toInt - y.toInt ∧ x.toInt - y.toInt < 2147483648) : (x - y).toInt = x.toInt - y.toInt := by rw [Int32.toInt_sub, bm_id h]
theorem ml {x y : Int32} (h : -2147483648 ≤ x.toInt * y.toInt ∧ x.toInt * y.toInt < 2147483648) : (x * y).toInt = x.toInt * y.toInt := by rw [Int32.toInt_mul, bm_id h]
theorem bind2_some {α β γ : Type} (a : α) (b : β) (f : α → β → Option γ) : bind2 (some (a, b)) f = f a b := rfl
theorem and_b (x m : Int32) (k : Nat) (hm : m.toBitVec.toNat = k) (hk : k < 2147483648) : 0 ≤ (x &&& m).toInt ∧ (x &&& m).toInt ≤ (k : Int) := by
  have h1 : (x &&& m).toBitVec.toNat = x.toBitVec.toNat &&& m.toBitVec.toNat := by rw [Int32.toBitVec_and, BitVec.toNat_and]
  have h2 : (x &&& m).toBitVec.toNat ≤ k := by rw [h1, hm]; exact Nat.and_le_right
  have h3 : (x &&& m).toInt = ((x &&& m).toBitVec.toNat : Int) := by
    show (x &&& m).toBitVec.toInt = _
    exact BitVec.toInt_eq_toNat_of_lt (by omega)
  rw [h3]; omega
theorem mem8 (x : Int32) : (x &&& 7) ∈ ([0, 1, 2, 3, 4, 5, 6, 7] : List Int32) := by
  have h := and_b x 7 7 rfl (by omega)
  simp only [List.mem_cons, eq_i32, Int32.reduceToInt, List.not_mem_nil, or_false]
  omega
theorem mem2 (x : Int32) : (x &&& 1) ∈ ([0, 1] : List Int32) := by
  have h := and_b x 1 1 rfl (by omega)
  simp only [List.mem_cons, eq_i32, Int32.reduceToInt, List.not_mem_nil, or_false]
  omega
theorem dv {x y : Int32} (hx : 0 ≤ x.toInt) (hy : 0 < y.toInt) : (x / y).toInt = x.toInt / y.toInt := by
  rw [Int32.toInt_div, Int.tdiv_eq_ediv_of_nonneg hx]
  have h1 : x.toInt / y.toInt ≤ x.toInt := Int.ediv_le_self _ hx
  have h2 : 0 ≤ x.toInt / y.toInt := Int.ediv_nonneg hx (by omega)
  have h3 := x.toInt_lt
  exact Int.bmod_eq_of_le (by omega) (by omega)
theorem md {x y : Int32} (hx : 0 ≤ x.toInt) (_ : 0 < y.toInt) : (x % y).toInt = x.toInt % y.toInt := by
  rw [Int32.toInt_mod, Int.tmod_eq_emod_of_nonneg hx]
def n32 (n : Nat) : Int32 := Int32.ofInt (n : Int)
theorem nt (n : Nat) (h : n < 100000) : (n32 n).toInt = n := by
  unfold n32; rw [Int32.toInt_ofInt]; exact bm_id (by omega)
theorem n32_t (x : Int32) (h : 0 ≤ x.toInt) : n32 x.toInt.toNat = x := by
  unfold n32; rw [Int.toNat_of_nonneg h, Int32.ofInt_toInt]
def cN (f : Nat → Bool) : Nat → Nat
  | 0 => 0
  | n + 1 => cN f n + (if f n then 1 else 0)
theorem cN_le {f g : Nat → Bool} : ∀ n, (∀ i, i < n → f i = true → g i = true) → cN f n ≤ cN g n
  | 0, _ => Nat.le_refl 0
  | n + 1, h => by
    have h1 := cN_le n (fun i hi => h i (by omega))
    have h2 := h n (by omega)
    show cN f n + _ ≤ cN g n + _
    cases hf : f n
    · simp; omega
    · rw [h2 hf]; simp; omega
theorem cN_eq {f g : Nat → Bool} (n : Nat) (h : ∀ i, i < n → f i = g i) : cN f n = cN g n :=
  Nat.le_antisymm (cN_le n (fun i hi e => (h i hi) ▸ e)) (cN_le n (fun i hi e => (h i hi).symm ▸ e))
theorem cN_set {f g : Nat → Bool} {j : Nat} (fj : f j = false) (gj : g j = true) : ∀ n, j < n → (∀ i, i < n → i ≠ j → g i = f i) → cN g n = cN f n + 1
  | 0, h, _ => absurd h (by omega)
  | n + 1, h, e => by
    show cN g n + _ = cN f n + _ + 1
    by_cases c : j = n
    · subst c
      rw [cN_eq j (fun i hi => e i (by omega) (by omega)), fj, gj]; simp
    · rw [cN_set fj gj n (by omega) (fun i hi => e i (by omega)), e n (by omega) (fun h => c h.symm)]; omega
theorem cN_lt {f g : Nat → Bool} {j : Nat} (n : Nat) (hj : j < n) (fj : f j = false) (gj : g j = true) (h : ∀ i, i < n → f i = true → g i = true) : cN f n + 1 ≤ cN g n := by
  have := cN_set (f := f) (g := fun i => if i = j then true else f i) fj (by simp) n hj (fun i _ c => by simp [c])
  rw [← this]
  apply cN_le
  intro i hi e
  by_cases c : i = j
  · rw [c]; exact gj
  · simp only [c, if_false] at e; exact h i hi e
theorem cN_full {f : Nat → Bool} : ∀ n m, m ≤ n → (∀ i, i < m → f i = true) → m ≤ cN f n
  | 0, m, h, _ => by omega
  | n + 1, m, h, e => by
    show m ≤ cN f n + _
    by_cases c : m ≤ n
    · have := cN_full n m c e; omega
    · have := cN_full n n (Nat.le_refl n) (fun i hi => e i (by omega))
      rw [e n (by omega)]; simp; omega
abbrev In (n : Int) (x : Int32) : Prop := 0 ≤ x.toInt ∧ x.toInt < n
abbrev VI (P N x : Int32) : Prop := In 64 x ∧ x.toInt / 16 < P.toInt ∧ x.toInt % 16 < N.toInt
set_option maxHeartbeats 0 in
theorem cN_vi0 : ∀ p : Fin 5, ∀ n : Fin 17, cN (fun i => decide (i / 16 < p.val ∧ i % 16 < n.val)) 64 = p.val * n.val := by decide +kernel
def ct (pf ps fw sw : Int32 → Int32) (x w : Int32) : Int32 :=
  if pf x < 0 then (if ps x < 0 then 0 else sw (ps x * 4 + w)) else fw (pf x * 4 + w)
abbrev PM (P N F H : Int32) (pf ps fo fd fw su sw : Int32 → Int32) : Prop := (1 ≤ P.toInt ∧ P.toInt ≤ 4) ∧ (4 ≤ N.toInt ∧ N.toInt ≤ 16) ∧ (4 ≤ F.toInt ∧ F.toInt ≤ 32) ∧ (In F.toInt H) ∧ (∀ f, In F.toInt f → 0 ≤ (fo f).toInt → VI P N (fo f) ∧ pf (fo f) = f) ∧ (∀ x, In 64 x → 0 ≤ (pf x).toInt → In F.toInt (pf x) ∧ fo (pf x) = x) ∧ (∀ x, In 64 x → 0 ≤ (ps x).toInt → VI P N x ∧ In 64 (ps x) ∧ ¬ su (ps x) = 0) ∧ (∀ x y, In 64 x → In 64 y → 0 ≤ (ps x).toInt → ps x = ps y → x = y) ∧ (cN (fun i => decide (¬ su (n32 i) = 0)) 64 = cN (fun i => decide (0 ≤ (ps (n32 i)).toInt)) 64) ∧ (∀ f, In F.toInt f → 0 ≤ (fo f).toInt → fd f = 0 → ∀ w, In 4 w → fw (f * 4 + w) = (if ps (fo f) < 0 then 0 else sw (ps (fo f) * 4 + w)))
theorem PM.hP {P N F H : Int32} {pf ps fo fd fw su sw : Int32 → Int32} (h : PM P N F H pf ps fo fd fw su sw) : 1 ≤ P.toInt ∧ P.toInt ≤ 4 := h.1
theorem PM.hN {P N F H : Int32} {pf ps fo fd fw su sw : Int32 → Int32} (h : PM P N F H pf ps fo fd fw su sw) : 4 ≤ N.toInt ∧ N.toInt ≤ 16 := h.2.1
theorem PM.hF {P N F H : Int32} {pf ps fo fd fw su sw : Int32 → Int32} (h : PM P N F H pf ps fo fd fw su sw) : 4 ≤ F.toInt ∧ F.toInt ≤ 32 := h.2.2.1
theorem PM.hH {P N F H : Int32} {pf ps fo fd fw su sw : Int32 → Int32} (h : PM P N F H pf ps fo fd fw su sw) : In F.toInt H := h.2.2.2.1
theorem PM.own {P N F H : Int32} {pf ps fo fd fw su sw : Int32 → Int32} (h : PM P N F H pf ps fo fd fw su sw) : ∀ f, In F.toInt f → 0 ≤ (fo f).toInt → VI P N (fo f) ∧ pf (fo f) = f := h.2.2.2.2.1
theorem PM.frm {P N F H : Int32} {pf ps fo fd fw su sw : Int32 → Int32} (h : PM P N F H pf ps fo fd fw su sw) : ∀ x, In 64 x → 0 ≤ (pf x).toInt → In F.toInt (pf x) ∧ fo (pf x) = x := h.2.2.2.2.2.1
theorem PM.slt {P N F H : Int32} {pf ps fo fd fw su sw : Int32 → Int32} (h : PM P N F H pf ps fo fd fw su sw) : ∀ x, In 64 x → 0 ≤ (ps x).toInt → VI P N x ∧ In 64 (ps x) ∧ ¬ su (ps x) = 0 := h.2.2.2.2.2.2.1
theorem PM.inj {P N F H : Int32} {pf ps fo fd fw su sw : Int32 → Int32} (h : PM P N F H pf ps fo fd fw su sw) : ∀ x y, In 64 x → In 64 y → 0 ≤ (ps x).toInt → ps x = ps y → x = y := h.2.2.2.2.2.2.2.1
theorem PM.cnt {P N F H : Int32} {pf ps fo fd fw su sw : Int32 → Int32} (h : PM P N F H pf ps fo fd fw su sw) : cN (fun i => decide (¬ su (n32 i) = 0)) 64 = cN (fun i => decide (0 ≤ (ps (n32 i)).toInt)) 64 := h.2.2.2.2.2.2.2.2.1
theorem PM.cln {P N F H : Int32} {pf ps fo fd fw su sw : Int32 → Int32} (h : PM P N F H pf ps fo fd fw su sw) : ∀ f, In F.toInt f → 0 ≤ (fo f).toInt → fd f = 0 → ∀ w, In 4 w → fw (f * 4 + w) = (if ps (fo f) < 0 then 0 else sw (ps (fo f) * 4 + w)) := h.2.2.2.2.2.2.2.2.2
theorem neg_i {x : Int32} : x < 0 ↔ x.toInt < 0 := by rw [lt_i]; exact Iff.rfl
theorem nneg {x : Int32} (h : 0 ≤ x.toInt) : ¬ x < 0 := by rw [neg_i]; omega
theorem nneg' {x : Int32} (h : ¬ x < 0) : 0 ≤ x.toInt := by rw [neg_i] at h; omega
/-- a page without a slot: a slot is free -/
theorem PM_free {P N F H : Int32} {pf ps fo fd fw su sw : Int32 → Int32} (h : PM P N F H pf ps fo fd fw su sw) {x : Int32} (hx : VI P N x) (hs : ps x < 0) (hall : ∀ s : Int32, In (P.toInt * N.toInt) s → ¬ su s = 0) : False := by
  have h1 : cN (fun i => decide (0 ≤ (ps (n32 i)).toInt)) 64 + 1 ≤ cN (fun i => decide (i / 16 < P.toInt.toNat ∧ i % 16 < N.toInt.toNat)) 64 := by
    have hP := h.hP
    have hN := h.hN
    refine cN_lt (j := x.toInt.toNat) 64 (by omega) ?_ ?_ ?_
    · rw [n32_t x hx.1.1]; simp only [decide_eq_false_iff_not]; rw [neg_i] at hs; omega
    · simp only [decide_eq_true_eq]; have := hx.2; omega
    · intro i hi e
      simp only [decide_eq_true_eq] at e ⊢
      have := h.slt (n32 i) ⟨by rw [nt i (by omega)]; omega, by rw [nt i (by omega)]; omega⟩ e
      have := this.1.2
      rw [nt i (by omega)] at this; omega
  have hP := h.hP
  have hN := h.hN
  have h2 := cN_vi0 ⟨P.toInt.toNat, by omega⟩ ⟨N.toInt.toNat, by omega⟩
  rw [h2, ← h.cnt] at h1
  have h4 : P.toInt.toNat * N.toInt.toNat ≤ 64 := Nat.le_trans (Nat.mul_le_mul (show P.toInt.toNat ≤ 4 by omega) (show N.toInt.toNat ≤ 16 by omega)) (by omega)
  have h5 : ((P.toInt.toNat * N.toInt.toNat : Nat) : Int) = P.toInt * N.toInt := by rw [Int.natCast_mul, Int.toNat_of_nonneg (by omega), Int.toNat_of_nonneg (by omega)]
  have h3 : P.toInt.toNat * N.toInt.toNat ≤ cN (fun i => decide (¬ su (n32 i) = 0)) 64 := by
    refine cN_full 64 _ h4 ?_
    intro i hi
    simp only [decide_eq_true_eq]
    refine hall _ ⟨by rw [nt i (by omega)]; omega, by rw [nt i (by omega), ← h5]; omega⟩
  simp only at h1 h3
  omega
/-- write back of frame f, of page x, to slot s -/
theorem PM_wb {P N F H : Int32} {pf ps fo fd fw su sw ps' fd' su' sw' : Int32 → Int32} (h : PM P N F H pf ps fo fd fw su sw) {f x s : Int32} (hf : In F.toInt f) (hx : fo f = x) (hx0 : 0 ≤ x.toInt) (hs : In 64 s)
    (ho : ps x = s ∨ (ps x < 0 ∧ su s = 0)) (p1 : ps' x = s) (p2 : ∀ y, ¬ y = x → ps' y = ps y) (u1 : ¬ su' s = 0) (u2 : ∀ y, ¬ y = s → su' y = su y)
    (d1 : fd' f = 0) (d2 : ∀ y, ¬ y = f → fd' y = fd y)
    (w1 : ∀ w, In 4 w → sw' (s * 4 + w) = fw (f * 4 + w)) (w2 : ∀ t w, In 64 t → In 4 w → ¬ t = s → sw' (t * 4 + w) = sw (t * 4 + w)) :
    PM P N F H pf ps' fo fd' fw su' sw' ∧ ∀ y w, In 64 y → In 4 w → ct pf ps' fw sw' y w = ct pf ps fw sw y w := by
  have ox := h.own f hf (by rw [hx]; exact hx0)
  rw [hx] at ox
  have ns : ∀ y, In 64 y → ¬ y = x → 0 ≤ (ps y).toInt → ¬ ps y = s := by
    intro y hy c h0 e
    rcases ho with ho | ho
    · exact c (h.inj y x hy ox.1.1 h0 (e.trans ho.symm))
    · exact (h.slt y hy h0).2.2 (e ▸ ho.2)
  refine ⟨⟨h.hP, h.hN, h.hF, h.hH, h.own, h.frm, ?_, ?_, ?_, ?_⟩, ?_⟩
  · intro y hy h0
    by_cases c : y = x
    · rw [c, p1]; exact ⟨ox.1, hs, u1⟩
    · rw [p2 y c] at h0 ⊢
      have a := h.slt y hy h0
      exact ⟨a.1, a.2.1, by rw [u2 _ (ns y hy c h0)]; exact a.2.2⟩
  · intro y z hy hz h0 e
    by_cases c : y = x
    · by_cases d : z = x
      · rw [c, d]
      · rw [c, p1, p2 z d] at e
        exact absurd e.symm (ns z hz d (by rw [← e]; exact hs.1))
    · by_cases d : z = x
      · rw [d, p1, p2 y c] at e
        exact absurd e (ns y hy c (by rw [e]; exact hs.1))
      · rw [p2 y c] at h0 e; rw [p2 z d] at e
        exact h.inj y z hy hz h0 e
  · rcases ho with ho | ho
    · have e1 : ps' = ps := by
        funext y
        by_cases c : y = x
        · rw [c, p1, ho]
        · exact p2 y c
      rw [e1, ← h.cnt]
      apply cN_eq
      intro i hi
      by_cases c : n32 i = s
      · have a := h.slt x ox.1.1 (by rw [ho]; exact hs.1)
        rw [ho] at a
        rw [c]; simp [u1, a.2.2]
      · rw [u2 _ c]
    · have a1 : cN (fun i => decide (¬ su' (n32 i) = 0)) 64 = cN (fun i => decide (¬ su (n32 i) = 0)) 64 + 1 := by
        refine cN_set (j := s.toInt.toNat) ?_ ?_ 64 (by omega) ?_
        · rw [n32_t s hs.1]; simp [ho.2]
        · rw [n32_t s hs.1]; simp [u1]
        · intro i hi ne
          rw [u2 (n32 i) (fun e => ne (by rw [← e, nt i (by omega)]; omega))]
      have a2 : cN (fun i => decide (0 ≤ (ps' (n32 i)).toInt)) 64 = cN (fun i => decide (0 ≤ (ps (n32 i)).toInt)) 64 + 1 := by
        refine cN_set (j := x.toInt.toNat) ?_ ?_ 64 (by have := ox.1.1; omega) ?_
        · rw [n32_t x hx0]; have := neg_i.mp ho.1; simp; omega
        · rw [n32_t x hx0, p1]; simp; omega
        · intro i hi ne
          rw [p2 (n32 i) (fun e => ne (by rw [← e, nt i (by omega)]; omega))]
      rw [a1, a2, h.cnt]
  · intro g hg h0 hd w hw
    by_cases c : g = f
    · rw [c, hx, p1, if_neg (nneg hs.1), w1 w hw]
    · rw [d2 g c] at hd
      have ne : ¬ fo g = x := fun e => c (by rw [← (h.own g hg h0).2, e, ox.2])
      have a := h.cln g hg h0 hd w hw
      rw [p2 _ ne, a]
      by_cases n : ps (fo g) < 0
      · rw [if_pos n, if_pos n]
      · rw [if_neg n, if_neg n, w2 _ w (h.slt _ (h.own g hg h0).1.1 (nneg' n)).2.1 hw (ns _ (h.own g hg h0).1.1 ne (nneg' n))]
  · intro y w hy hw
    unfold ct
    by_cases n : pf y < 0
    · have ne : ¬ y = x := fun e => by rw [e, ox.2] at n; exact nneg hf.1 n
      rw [if_pos n, if_pos n, p2 y ne]
      by_cases m : ps y < 0
      · rw [if_pos m, if_pos m]
      · rw [if_neg m, if_neg m, w2 _ w (h.slt y hy (nneg' m)).2.1 hw (ns y hy ne (nneg' m))]
    · rw [if_neg n, if_neg n]
/-- a clean frame given up -/
theorem PM_ev {P N F H : Int32} {pf ps fo fd fw su sw pf' fo' fd' : Int32 → Int32} (h : PM P N F H pf ps fo fd fw su sw) {f x : Int32} (hf : In F.toInt f) (hx : fo f = x) (hx0 : 0 ≤ x.toInt) (hc : fd f = 0)
    (p1 : pf' x = -1) (p2 : ∀ y, ¬ y = x → pf' y = pf y) (o1 : fo' f = -1) (o2 : ∀ y, ¬ y = f → fo' y = fo y) (d2 : ∀ y, ¬ y = f → fd' y = fd y) :
    PM P N F H pf' ps fo' fd' fw su sw ∧ ∀ y w, In 64 y → In 4 w → ct pf' ps fw sw y w = ct pf ps fw sw y w := by
  have ox := h.own f hf (by rw [hx]; exact hx0)
  rw [hx] at ox
  have m1 : ¬ (0 : Int) ≤ (-1 : Int32).toInt := by decide
  refine ⟨⟨h.hP, h.hN, h.hF, h.hH, ?_, ?_, h.slt, h.inj, h.cnt, ?_⟩, ?_⟩
  · intro g hg h0
    by_cases c : g = f
    · rw [c, o1] at h0; exact absurd h0 m1
    · rw [o2 g c] at h0 ⊢
      have a := h.own g hg h0
      exact ⟨a.1, by rw [p2 _ (fun e => c (by rw [← a.2, e, ox.2]))]; exact a.2⟩
  · intro y hy h0
    by_cases c : y = x
    · rw [c, p1] at h0; exact absurd h0 m1
    · rw [p2 y c] at h0 ⊢
      have a := h.frm y hy h0
      exact ⟨a.1, by rw [o2 _ (fun e => c (by rw [← a.2, e, hx]))]; exact a.2⟩
  · intro g hg h0 hd w hw
    by_cases c : g = f
    · rw [c, o1] at h0; exact absurd h0 m1
    · rw [o2 g c] at h0 ⊢; rw [d2 g c] at hd; exact h.cln g hg h0 hd w hw
  · intro y w hy hw
    unfold ct
    by_cases c : y = x
    · rw [c, p1, if_pos (by decide), ox.2, if_neg (nneg hf.1), h.cln f hf (by rw [hx]; exact hx0) hc w hw, hx]
    · rw [p2 y c]
/-- a page brought into a free frame -/
theorem PM_fill {P N F H : Int32} {pf ps fo fd fw su sw pf' fo' fd' fw' : Int32 → Int32} (h : PM P N F H pf ps fo fd fw su sw) {f x : Int32} (hf : In F.toInt f) (hv : VI P N x) (hfr : fo f < 0) (hn : pf x < 0)
    (p1 : pf' x = f) (p2 : ∀ y, ¬ y = x → pf' y = pf y) (o1 : fo' f = x) (o2 : ∀ y, ¬ y = f → fo' y = fo y) (d2 : ∀ y, ¬ y = f → fd' y = fd y)
    (w1 : ∀ w, In 4 w → fw' (f * 4 + w) = (if ps x < 0 then 0 else sw (ps x * 4 + w))) (w2 : ∀ g w, In 32 g → In 4 w → ¬ g = f → fw' (g * 4 + w) = fw (g * 4 + w)) :
    PM P N F H pf' ps fo' fd' fw' su sw ∧ ∀ y w, In 64 y → In 4 w → ct pf' ps fw' sw y w = ct pf ps fw sw y w := by
  have nf : ∀ y, In 64 y → 0 ≤ (pf y).toInt → ¬ pf y = f := fun y hy h0 e => by
    have a := (h.frm y hy h0).2
    rw [e] at a
    rw [a] at hfr; exact nneg hy.1 hfr
  have hF := h.hF
  refine ⟨⟨h.hP, h.hN, h.hF, h.hH, ?_, ?_, h.slt, h.inj, h.cnt, ?_⟩, ?_⟩
  · intro g hg h0
    by_cases c : g = f
    · rw [c, o1, p1]; exact ⟨hv, rfl⟩
    · rw [o2 g c] at h0 ⊢
      have a := h.own g hg h0
      exact ⟨a.1, by rw [p2 _ (fun e => by rw [e] at a; rw [a.2] at hn; exact nneg hg.1 hn)]; exact a.2⟩
  · intro y hy h0
    by_cases c : y = x
    · rw [c, p1]; exact ⟨hf, o1⟩
    · rw [p2 y c] at h0 ⊢
      have a := h.frm y hy h0
      exact ⟨a.1, by rw [o2 _ (nf y hy h0)]; exact a.2⟩
  · intro g hg h0 hd w hw
    by_cases c : g = f
    · rw [c, o1, w1 w hw]
    · rw [o2 g c] at h0 ⊢; rw [d2 g c] at hd
      rw [w2 g w ⟨hg.1, by omega⟩ hw c]; exact h.cln g hg h0 hd w hw
  · intro y w hy hw
    unfold ct
    by_cases c : y = x
    · rw [c, p1, if_neg (nneg hf.1), if_pos hn, w1 w hw]
    · rw [p2 y c]
      by_cases n : pf y < 0
      · rw [if_pos n, if_pos n]
      · rw [if_neg n, if_neg n]
        have a := (h.frm y hy (nneg' n)).1
        exact w2 _ w ⟨a.1, by omega⟩ hw (nf y hy (nneg' n))
/-- a word stored -/
theorem PM_st {P N F H : Int32} {pf ps fo fd fw su sw fd' fw' : Int32 → Int32} (h : PM P N F H pf ps fo fd fw su sw) {f x o v : Int32} (hx : In 64 x) (hp : pf x = f) (hf : 0 ≤ f.toInt)
    (d1 : ¬ fd' f = 0) (d2 : ∀ y, ¬ y = f → fd' y = fd y)
    (w2 : ∀ g w, In 32 g → In 4 w → fw' (g * 4 + w) = if g = f ∧ w = o then v else fw (g * 4 + w)) :
    PM P N F H pf ps fo fd' fw' su sw ∧ ∀ y w, In 64 y → In 4 w → ct pf ps fw' sw y w = if y = x ∧ w = o then v else ct pf ps fw sw y w := by
  have hF := h.hF
  refine ⟨⟨h.hP, h.hN, h.hF, h.hH, h.own, h.frm, h.slt, h.inj, h.cnt, ?_⟩, ?_⟩
  · intro g hg h0 hd w hw
    by_cases c : g = f
    · rw [c] at hd; exact absurd hd d1
    · rw [d2 g c] at hd
      rw [w2 g w ⟨hg.1, by omega⟩ hw, if_neg (fun e => c e.1)]; exact h.cln g hg h0 hd w hw
  · intro y w hy hw
    unfold ct
    by_cases n : pf y < 0
    · have ne : ¬ y = x := fun e => by rw [e, hp] at n; exact nneg hf n
      rw [if_pos n, if_pos n, if_neg (show ¬ (y = x ∧ w = o) from fun e => ne e.1)]
    · rw [if_neg n, if_neg n]
      have a := h.frm y hy (nneg' n)
      rw [w2 _ w ⟨a.1.1, by omega⟩ hw]
      by_cases c : y = x
      · rw [c, hp]
        by_cases d : w = o
        · rw [if_pos ⟨rfl, d⟩, if_pos ⟨rfl, d⟩]
        · rw [if_neg (fun e => d e.2), if_neg (fun e => d e.2)]
      · have b := (h.frm x hx (by rw [hp]; exact hf)).2
        rw [if_neg (fun e => c (by rw [← a.2, e.1, ← hp, b])), if_neg (fun e => c e.1)]
/-- a page dropped -/
theorem PM_dis {P N F H : Int32} {pf ps fo fd fw su sw pf' ps' fo' fd' su' : Int32 → Int32} (h : PM P N F H pf ps fo fd fw su sw) {x : Int32} (hx : In 64 x)
    (p1 : pf' x < 0) (p2 : ∀ y, ¬ y = x → pf' y = pf y) (q1 : ps' x < 0) (q2 : ∀ y, ¬ y = x → ps' y = ps y)
    (o1 : 0 ≤ (pf x).toInt → fo' (pf x) = -1) (o2 : ∀ y, (0 ≤ (pf x).toInt → ¬ y = pf x) → fo' y = fo y) (d2 : ∀ y, (0 ≤ (pf x).toInt → ¬ y = pf x) → fd' y = fd y)
    (u1 : 0 ≤ (ps x).toInt → su' (ps x) = 0) (u2 : ∀ y, (0 ≤ (ps x).toInt → ¬ y = ps x) → su' y = su y) :
    PM P N F H pf' ps' fo' fd' fw su' sw ∧ ∀ y w, In 64 y → In 4 w → ct pf' ps' fw sw y w = if y = x then 0 else ct pf ps fw sw y w := by
  have m1 : ¬ (0 : Int) ≤ (-1 : Int32).toInt := by decide
  refine ⟨⟨h.hP, h.hN, h.hF, h.hH, ?_, ?_, ?_, ?_, ?_, ?_⟩, ?_⟩
  · intro g hg h0
    have c : 0 ≤ (pf x).toInt → ¬ g = pf x := fun a e => by rw [e, o1 a] at h0; exact m1 h0
    rw [o2 g c] at h0 ⊢
    have a := h.own g hg h0
    have ne : ¬ fo g = x := fun e => by rw [e] at a; exact c (by rw [a.2]; exact hg.1) a.2.symm
    exact ⟨a.1, by rw [p2 _ ne]; exact a.2⟩
  · intro y hy h0
    have c : ¬ y = x := fun e => by rw [e] at h0; exact nneg h0 p1
    rw [p2 y c] at h0 ⊢
    have a := h.frm y hy h0
    exact ⟨a.1, by rw [o2 _ (fun b e => c (by rw [← a.2, e, (h.frm x hx b).2]))]; exact a.2⟩
  · intro y hy h0
    have c : ¬ y = x := fun e => by rw [e] at h0; exact nneg h0 q1
    rw [q2 y c] at h0 ⊢
    have a := h.slt y hy h0
    exact ⟨a.1, a.2.1, by rw [u2 _ (fun b e => c (h.inj y x hy hx h0 e))]; exact a.2.2⟩
  · intro y z hy hz h0 e
    have c : ¬ y = x := fun e => by rw [e] at h0; exact nneg h0 q1
    have d : ¬ z = x := fun f => by rw [f] at e; rw [e] at h0; exact nneg h0 q1
    rw [q2 y c] at h0 e; rw [q2 z d] at e
    exact h.inj y z hy hz h0 e
  · by_cases b : 0 ≤ (ps x).toInt
    · have sx := h.slt x hx b
      have a1 : cN (fun i => decide (¬ su (n32 i) = 0)) 64 = cN (fun i => decide (¬ su' (n32 i) = 0)) 64 + 1 := by
        refine cN_set (j := (ps x).toInt.toNat) ?_ ?_ 64 (by have := sx.2.1; omega) ?_
        · rw [n32_t _ b, u1 b]; simp
        · rw [n32_t _ b]; simp [sx.2.2]
        · intro i hi ne
          rw [u2 (n32 i) (fun _ e => ne (by rw [← e, nt i (by omega)]; omega))]
      have a2 : cN (fun i => decide (0 ≤ (ps (n32 i)).toInt)) 64 = cN (fun i => decide (0 ≤ (ps' (n32 i)).toInt)) 64 + 1 := by
        refine cN_set (j := x.toInt.toNat) ?_ ?_ 64 (by omega) ?_
        · rw [n32_t x hx.1]; have := neg_i.mp q1; simp; omega
        · rw [n32_t x hx.1]; simp; omega
        · intro i hi ne
          rw [q2 (n32 i) (fun e => ne (by rw [← e, nt i (by omega)]; omega))]
      have := h.cnt; omega
    · have e1 : cN (fun i => decide (¬ su' (n32 i) = 0)) 64 = cN (fun i => decide (¬ su (n32 i) = 0)) 64 := cN_eq 64 (fun i hi => by rw [u2 _ (fun a => absurd a b)])
      rw [e1, h.cnt]
      apply cN_eq
      intro i hi
      by_cases c : n32 i = x
      · rw [c]; have := neg_i.mp q1; simp; omega
      · rw [q2 _ c]
  · intro g hg h0 hd w hw
    have c : 0 ≤ (pf x).toInt → ¬ g = pf x := fun a e => by rw [e, o1 a] at h0; exact m1 h0
    rw [o2 g c] at h0 ⊢; rw [d2 g c] at hd
    have a := h.own g hg h0
    have ne : ¬ fo g = x := fun e => by rw [e] at a; exact c (by rw [a.2]; exact hg.1) a.2.symm
    rw [q2 _ ne]; exact h.cln g hg h0 hd w hw
  · intro y w hy hw
    unfold ct
    by_cases c : y = x
    · rw [if_pos c, c, if_pos p1, if_pos q1]
    · rw [if_neg c, p2 y c, q2 y c]
theorem ix {s w : Int32} (hs : In 64 s) (hw : In 4 w) : (s * 4 + w).toInt = 4 * s.toInt + w.toInt := by
  have e : (s * 4).toInt = s.toInt * 4 := ml (by show -2147483648 ≤ s.toInt * 4 ∧ s.toInt * 4 < 2147483648; omega)
  rw [ad (by rw [e]; omega), e]; omega
theorem ix_inj {s t w u : Int32} (hs : In 64 s) (ht : In 64 t) (hw : In 4 w) (hu : In 4 u) (e : s * 4 + w = t * 4 + u) : s = t ∧ w = u := by
  have e' := congrArg Int32.toInt e
  rw [ix hs hw, ix ht hu] at e'
  exact ⟨eq_i32.mpr (by omega), eq_i32.mpr (by omega)⟩
theorem px {p g : Int32} (hp : In 4 p) (hg : In 16 g) : (p * 16 + g).toInt = 16 * p.toInt + g.toInt := by
  have e : (p * 16).toInt = p.toInt * 16 := ml (by show -2147483648 ≤ p.toInt * 16 ∧ p.toInt * 16 < 2147483648; omega)
  rw [ad (by rw [e]; omega), e]; omega
theorem px_inj {s t w u : Int32} (hs : In 4 s) (ht : In 4 t) (hw : In 16 w) (hu : In 16 u) (e : s * 16 + w = t * 16 + u) : s = t ∧ w = u := by
  have e' := congrArg Int32.toInt e
  rw [px hs hw, px ht hu] at e'
  exact ⟨eq_i32.mpr (by omega), eq_i32.mpr (by omega)⟩
theorem s1 {i : Int32} (h : 0 ≤ i.toInt ∧ i.toInt < 100000) : (i + 1).toInt = i.toInt + 1 := by
  rw [ad (by show -2147483648 ≤ i.toInt + 1 ∧ i.toInt + 1 < 2147483648; omega)]; rfl
theorem ckn {γ : Type} {n : Int32} {m : Int} {i : Int32} {A : Option γ} (hm : n.toInt = m) (h : In m i) : chk n i A = A := chk_ok (by rw [hm]; exact h)
theorem ltn {x y : Int32} {m : Int} (hm : y.toInt = m) (h : x.toInt < m) : x < y := by rw [lt_i, hm]; exact h
theorem nltn {x y : Int32} {m : Int} (hm : y.toInt = m) (h : ¬ x.toInt < m) : ¬ x < y := by rw [lt_i, hm]; exact h
abbrev PI (ob : Rec) : Prop := PM (gI ob 0) (gI ob 1) (gI ob 2) (gI ob 7) (gA ob 9) (gA ob 10) (gA ob 12) (gA ob 14) (gA ob 15) (gA ob 16) (gA ob 17)
abbrev cont (ob : Rec) (y w : Int32) : Int32 := ct (gA ob 9) (gA ob 10) (gA ob 15) (gA ob 17) y w
theorem PI_c {ob r : Rec} (h : PI ob) (hI : ∀ k, k < 3 ∨ k = 7 → gI r k = gI ob k) (hA : ∀ k x, k = 9 ∨ k = 10 ∨ k = 12 ∨ 14 ≤ k → gA r k x = gA ob k x) : PI r := by
  have e9 : gA r 9 = gA ob 9 := funext fun x => hA 9 x (by omega)
  have e10 : gA r 10 = gA ob 10 := funext fun x => hA 10 x (by omega)
  have e12 : gA r 12 = gA ob 12 := funext fun x => hA 12 x (by omega)
  have e14 : gA r 14 = gA ob 14 := funext fun x => hA 14 x (by omega)
  have e15 : gA r 15 = gA ob 15 := funext fun x => hA 15 x (by omega)
  have e16 : gA r 16 = gA ob 16 := funext fun x => hA 16 x (by omega)
  have e17 : gA r 17 = gA ob 17 := funext fun x => hA 17 x (by omega)
  show PM (gI r 0) (gI r 1) (gI r 2) (gI r 7) (gA r 9) (gA r 10) (gA r 12) (gA r 14) (gA r 15) (gA r 16) (gA r 17)
  rw [hI 0 (by omega), hI 1 (by omega), hI 2 (by omega), hI 7 (by omega), e9, e10, e12, e14, e15, e16, e17]; exact h
theorem cont_c {ob r : Rec} (hA : ∀ k x, k = 9 ∨ k = 10 ∨ k = 12 ∨ 14 ≤ k → gA r k x = gA ob k x) (y w : Int32) : cont r y w = cont ob y w := by
  have e9 : gA r 9 = gA ob 9 := funext fun x => hA 9 x (by omega)
  have e10 : gA r 10 = gA ob 10 := funext fun x => hA 10 x (by omega)
  have e15 : gA r 15 = gA ob 15 := funext fun x => hA 15 x (by omega)
  have e17 : gA r 17 = gA ob 17 := funext fun x => hA 17 x (by omega)
  show ct _ _ _ _ _ _ = _
  rw [e9, e10, e15, e17]
theorem PI_hand {ob : Rec} (h : PI ob) {v : Int32} (hv : In (gI ob 2).toInt v) : PI (sI ob 7 v) := ⟨h.hP, h.hN, h.hF, hv, h.own, h.frm, h.slt, h.inj, h.cnt, h.cln⟩
abbrev Kp (ob r : Rec) : Prop := (PI r) ∧ (∀ y w, In 64 y → In 4 w → cont r y w = cont ob y w) ∧ (∀ k, ¬ k = 7 → gI r k = gI ob k) ∧ (∀ k x, k ≤ 8 → gA r k x = gA ob k x)
theorem Kp.pi {ob r : Rec} (h : Kp ob r) : PI r := h.1
theorem Kp.ct {ob r : Rec} (h : Kp ob r) : ∀ y w, In 64 y → In 4 w → cont r y w = cont ob y w := h.2.1
theorem Kp.si {ob r : Rec} (h : Kp ob r) : ∀ k, ¬ k = 7 → gI r k = gI ob k := h.2.2.1
theorem Kp.sa {ob r : Rec} (h : Kp ob r) : ∀ k x, k ≤ 8 → gA r k x = gA ob k x := h.2.2.2
theorem Kp.tr {a b c : Rec} (h : Kp a b) (g : Kp b c) : Kp a c :=
  ⟨g.pi, fun y w hy hw => (g.ct y w hy hw).trans (h.ct y w hy hw), fun k hk => (g.si k hk).trans (h.si k hk), fun k x hk => (g.sa k x hk).trans (h.sa k x hk)⟩
section pgb
variable (NF : Nat)
theorem al_l (ob : Rec) (tot : Int32) (ht : tot.toInt ≤ 64) : ∀ (m fuel : Nat) (i : Int32), m < fuel → 0 ≤ i.toInt → i.toInt ≤ tot.toInt → tot.toInt - i.toInt ≤ m → (∀ s : Int32, In i.toInt s → ¬ gA ob 16 s = 0) →
    (∃ s, X_allocSlot_l12 NF ob fuel tot i = some s ∧ In tot.toInt s ∧ gA ob 16 s = 0) ∨ (∀ s : Int32, In tot.toInt s → ¬ gA ob 16 s = 0) := by
  intro m
  induction m with
  | zero => intro fuel i hf h0 h1 h2 hs; right; intro s h; exact hs s ⟨h.1, by omega⟩
  | succ m ih =>
    intro fuel i hf h0 h1 h2 hs
    obtain ⟨n, rfl⟩ : ∃ n, fuel = n + 1 := ⟨fuel - 1, by omega⟩
    by_cases hc : i.toInt < tot.toInt
    · have ei := s1 (i := i) (by omega)
      by_cases hz : gA ob 16 i = 0
      · left; refine ⟨i, ?_, ⟨h0, hc⟩, hz⟩
        show X_allocSlot_w12 NF ob _ tot i = _
        unfold X_allocSlot_w12; rw [if_pos (lt_i.mpr hc), ckn (m := 64) rfl ⟨h0, by omega⟩, if_pos hz]
      · have := ih n (i + 1) (by omega) (by omega) (by omega) (by omega) (fun s h => by
          by_cases c : s = i
          · rw [c]; exact hz
          · have : ¬ s.toInt = i.toInt := fun e => c (eq_i32.mpr e)
            exact hs s ⟨h.1, by omega⟩)
        refine this.imp (fun ⟨s, h, a⟩ => ⟨s, ?_, a⟩) id
        rw [← h]
        show X_allocSlot_w12 NF ob _ tot i = _
        unfold X_allocSlot_w12; rw [if_pos (lt_i.mpr hc), ckn (m := 64) rfl ⟨h0, by omega⟩, if_neg hz]
    · right; intro s h; exact hs s ⟨h.1, by omega⟩
theorem al_e (hNF : 70 < NF) {ob : Rec} (h : PI ob) {x : Int32} (hx : VI (gI ob 0) (gI ob 1) x) (hs : gA ob 10 x < 0) : ∃ s, X_allocSlot NF ob = some s ∧ In 64 s ∧ gA ob 16 s = 0 := by
  have hP := h.hP
  have hN := h.hN
  have b1 : (gI ob 0).toInt * (gI ob 1).toInt ≤ 4 * 16 := Int.mul_le_mul (by omega) (by omega) (by omega) (by omega)
  have b0 : 0 ≤ (gI ob 0).toInt * (gI ob 1).toInt := Int.mul_nonneg (by omega) (by omega)
  have e : (gI ob 0 * gI ob 1).toInt = (gI ob 0).toInt * (gI ob 1).toInt := ml (by omega)
  rcases al_l NF ob (gI ob 0 * gI ob 1) (by omega) 64 NF 0 (by omega) (by decide) (by rw [e]; exact b0) (by rw [e]; show _ - (0 : Int) ≤ _; omega) (fun s hs => absurd hs.2 (by have := hs.1; show ¬ s.toInt < 0; omega)) with ⟨s, a, b, c⟩ | c
  · exact ⟨s, a, ⟨b.1, by omega⟩, c⟩
  · exact (PM_free h hx hs (fun s hs => c s (by rw [e]; exact hs))).elim
theorem wb_l {f s : Int32} (hf : In 32 f) (hs : In 64 s) : ∀ (m fuel : Nat) (ob : Rec) (i : Int32), m < fuel → 0 ≤ i.toInt → i.toInt ≤ 4 → 4 - i.toInt ≤ m →
    ∃ r, X_writeBack_l50 NF fuel ob f s i = some r ∧ r.1 = ob.1 ∧ (∀ k x, ¬ k = 14 → ¬ k = 17 → gA r k x = gA ob k x) ∧ gA r 14 f = 0 ∧ (∀ y, ¬ y = f → gA r 14 y = gA ob 14 y) ∧
      (∀ w : Int32, i.toInt ≤ w.toInt → w.toInt < 4 → gA r 17 (s * 4 + w) = gA ob 15 (f * 4 + w)) ∧ (∀ t w : Int32, In 64 t → In 4 w → (t = s → w.toInt < i.toInt) → gA r 17 (t * 4 + w) = gA ob 17 (t * 4 + w)) := by
  have fin : ∀ (n : Nat) (ob : Rec) (i : Int32), ¬ i.toInt < 4 → ∃ r, X_writeBack_l50 NF (n + 1) ob f s i = some r ∧ r.1 = ob.1 ∧ (∀ k x, ¬ k = 14 → ¬ k = 17 → gA r k x = gA ob k x) ∧ gA r 14 f = 0 ∧ (∀ y, ¬ y = f → gA r 14 y = gA ob 14 y) ∧
      (∀ w : Int32, i.toInt ≤ w.toInt → w.toInt < 4 → gA r 17 (s * 4 + w) = gA ob 15 (f * 4 + w)) ∧ (∀ t w : Int32, In 64 t → In 4 w → (t = s → w.toInt < i.toInt) → gA r 17 (t * 4 + w) = gA ob 17 (t * 4 + w)) := by
    intro n ob i hi
    refine ⟨sA ob 14 f 0, ?_, rfl, ?_, ?_, ?_, ?_, ?_⟩
    · show X_writeBack_w50 NF _ ob f s i = _
      unfold X_writeBack_w50; rw [if_neg (nltn (m := 4) rfl hi), ckn (m := 32) rfl hf]
    · intro k x a b; rw [gA_sA, if_neg (fun e => a e.1)]
    · rw [gA_sA, if_pos ⟨rfl, rfl⟩]
    · intro y a; rw [gA_sA, if_neg (fun e => a e.2)]
    · intro w a b; omega
    · intro t w _ _ _; rfl
  intro m
  induction m with
  | zero =>
    intro fuel ob i hfu h0 h1 h2
    obtain ⟨n, rfl⟩ : ∃ n, fuel = n + 1 := ⟨fuel - 1, by omega⟩
    exact fin n ob i (by omega)
  | succ m ih =>
    intro fuel ob i hfu h0 h1 h2
    obtain ⟨n, rfl⟩ : ∃ n, fuel = n + 1 := ⟨fuel - 1, by omega⟩
    by_cases hc : i.toInt < 4
    · have ei := s1 (i := i) (by omega)
      have x1 := ix (s := f) (w := i) ⟨hf.1, by omega⟩ ⟨h0, hc⟩
      have x2 := ix (s := s) (w := i) hs ⟨h0, hc⟩
      obtain ⟨r, h, r1, r2, r3, r4, r5, r6⟩ := ih n (sA ob 17 (s * 4 + i) (gA ob 15 (f * 4 + i))) (i + 1) (by omega) (by omega) (by omega) (by omega)
      refine ⟨r, ?_, r1, ?_, r3, ?_, ?_, ?_⟩
      · rw [← h]
        show X_writeBack_w50 NF _ ob f s i = _
        unfold X_writeBack_w50; rw [if_pos (ltn (m := 4) rfl hc), ckn (m := 128) rfl (by omega), ckn (m := 256) rfl (by omega)]
      · intro k x a b; rw [r2 k x a b, gA_sA, if_neg (fun e => b e.1)]
      · intro y a; rw [r4 y a]; rfl
      · intro w a b
        by_cases c : w = i
        · rw [c, r6 s i hs ⟨h0, hc⟩ (fun _ => by omega), gA_sA, if_pos ⟨rfl, rfl⟩]
        · have : ¬ w.toInt = i.toInt := fun e => c (eq_i32.mpr e)
          rw [r5 w (by omega) b]; rfl
      · intro t w ht hw hh
        rw [r6 t w ht hw (fun e => by have := hh e; omega), gA_sA, if_neg]
        intro e
        have := ix_inj ht hs hw ⟨h0, hc⟩ e.2
        have h3 := hh this.1
        rw [this.2] at h3; omega
    · exact fin n ob i hc
theorem wb_e (hNF : 70 < NF) {ob : Rec} (h : PI ob) {f : Int32} (hf : In (gI ob 2).toInt f) (h0 : ¬ gA ob 12 f < 0) :
    ∃ r, X_writeBack NF ob f = some r ∧ Kp ob r ∧ gI r 7 = gI ob 7 ∧ gA r 14 f = 0 ∧ (∀ k x, k = 9 ∨ k = 12 ∨ k = 13 → gA r k x = gA ob k x) := by
  have hF := h.hF
  have hf32 : In 32 f := ⟨hf.1, by omega⟩
  have ow := h.own f hf (nneg' h0)
  by_cases c : gA ob 10 (gA ob 12 f) < 0
  · obtain ⟨s, e, hs, hz⟩ := al_e NF hNF h ow.1 c
    obtain ⟨r, hr, r1, r2, r3, r4, r5, r6⟩ := wb_l NF hf32 hs 4 NF (sA (sA ob 16 s 1) 10 (gA ob 12 f) s) 0 (by omega) (by decide) (by decide) (by decide)
    have q16 : ∀ y, gA r 16 y = if y = s then 1 else gA ob 16 y := fun y => by rw [r2 16 y (by decide) (by decide), gA_sA, if_neg (fun e => absurd e.1 (by decide)), gA_sA]; simp
    have q10 : ∀ y, gA r 10 y = if y = gA ob 12 f then s else gA ob 10 y := fun y => by rw [r2 10 y (by decide) (by decide), gA_sA, gA_sA, if_neg (show ¬ (10 = 16 ∧ y = s) from fun e => absurd e.1 (by decide))]; simp
    have q : ∀ k x, ¬ k = 10 → ¬ k = 14 → ¬ k = 16 → ¬ k = 17 → gA r k x = gA ob k x := fun k x a b c d => by rw [r2 k x b d, gA_sA, if_neg (fun e => a e.1), gA_sA, if_neg (fun e => c e.1)]
    have qI : ∀ k, gI r k = gI ob k := fun k => by unfold gI; rw [r1]; rfl
    obtain ⟨p1, p2⟩ := PM_wb (ps' := gA r 10) (fd' := gA r 14) (su' := gA r 16) (sw' := gA r 17) h (s := s) hf rfl (nneg' h0) hs (Or.inr ⟨c, hz⟩) (by rw [q10, if_pos rfl]) (fun y n => by rw [q10, if_neg n]) (by rw [q16, if_pos rfl]; decide) (fun y n => by rw [q16, if_neg n]) r3 (fun y n => by rw [r4 y n]; rfl)
      (fun w hw => by rw [r5 w hw.1 hw.2]; rfl) (fun t w ht hw n => by rw [r6 t w ht hw (fun e => absurd e n)]; rfl)
    have e9 : gA r 9 = gA ob 9 := funext fun x => q 9 x (by decide) (by decide) (by decide) (by decide)
    have e12 : gA r 12 = gA ob 12 := funext fun x => q 12 x (by decide) (by decide) (by decide) (by decide)
    have e15 : gA r 15 = gA ob 15 := funext fun x => q 15 x (by decide) (by decide) (by decide) (by decide)
    refine ⟨r, ?_, ⟨?_, ?_, fun k _ => qI k, fun k x hk => q k x (by omega) (by omega) (by omega) (by omega)⟩, qI 7, r3, fun k x hk => q k x (by omega) (by omega) (by omega) (by omega)⟩
    · unfold X_writeBack
      rw [ckn (m := 32) rfl hf32, if_neg h0, ckn (m := 64) rfl ow.1.1, if_pos c, e, Option.bind_some, if_neg (nneg hs.1), ckn (m := 64) rfl hs, ckn (m := 64) rfl ow.1.1, hr]
    · show PM (gI r 0) (gI r 1) (gI r 2) (gI r 7) (gA r 9) (gA r 10) (gA r 12) (gA r 14) (gA r 15) (gA r 16) (gA r 17)
      rw [qI, qI, qI, qI, e9, e12, e15]; exact p1
    · intro y w hy hw
      show ct (gA r 9) (gA r 10) (gA r 15) (gA r 17) y w = _
      rw [e9, e15]; exact p2 y w hy hw
  · have sl := h.slt _ ow.1.1 (nneg' c)
    obtain ⟨r, hr, r1, r2, r3, r4, r5, r6⟩ := wb_l NF hf32 sl.2.1 4 NF ob 0 (by omega) (by decide) (by decide) (by decide)
    have qI : ∀ k, gI r k = gI ob k := fun k => by unfold gI; rw [r1]
    have e9 : gA r 9 = gA ob 9 := funext fun x => r2 9 x (by decide) (by decide)
    have e10 : gA r 10 = gA ob 10 := funext fun x => r2 10 x (by decide) (by decide)
    have e12 : gA r 12 = gA ob 12 := funext fun x => r2 12 x (by decide) (by decide)
    have e15 : gA r 15 = gA ob 15 := funext fun x => r2 15 x (by decide) (by decide)
    have e16 : gA r 16 = gA ob 16 := funext fun x => r2 16 x (by decide) (by decide)
    obtain ⟨p1, p2⟩ := PM_wb (ps' := gA ob 10) (fd' := gA r 14) (su' := gA ob 16) (sw' := gA r 17) h (s := gA ob 10 (gA ob 12 f)) hf rfl (nneg' h0) sl.2.1 (Or.inl rfl) rfl (fun y n => rfl) sl.2.2 (fun y n => rfl) r3 r4
      (fun w hw => r5 w hw.1 hw.2) (fun t w ht hw n => r6 t w ht hw (fun e => absurd e n))
    refine ⟨r, ?_, ⟨?_, ?_, fun k _ => qI k, fun k x hk => r2 k x (by omega) (by omega)⟩, qI 7, r3, fun k x hk => r2 k x (by omega) (by omega)⟩
    · unfold X_writeBack
      rw [ckn (m := 32) rfl hf32, if_neg h0, ckn (m := 64) rfl ow.1.1, if_neg c, hr]
    · show PM (gI r 0) (gI r 1) (gI r 2) (gI r 7) (gA r 9) (gA r 10) (gA r 12) (gA r 14) (gA r 15) (gA r 16) (gA r 17)
      rw [qI, qI, qI, qI, e9, e10, e12, e15, e16]; exact p1
    · intro y w hy hw
      show ct (gA r 9) (gA r 10) (gA r 15) (gA r 17) y w = _
      rw [e9, e10, e15]; exact p2 y w hy hw
/-- a clean, owned frame is emptied -/
theorem evb_e {ob : Rec} (h : PI ob) {f : Int32} (hf : In (gI ob 2).toInt f) (h0 : ¬ gA ob 12 f < 0) (hd : gA ob 14 f = 0) :
    ∃ r, X_evictFrame_b26 NF ob f (gA ob 12 f) = some r ∧ Kp ob r ∧ gA r 12 f < 0 ∧ (∀ y, gA ob 9 y < 0 → gA r 9 y < 0) := by
  have hF := h.hF
  have hf32 : In 32 f := ⟨hf.1, by omega⟩
  have ow := h.own f hf (nneg' h0)
  generalize hx : gA ob 12 f = x at *
  refine ⟨sA (sA (sA (sA ob 9 x (-1)) 12 f (-1)) 13 f 0) 14 f 0, ?_, ?_, ?_, ?_⟩
  · unfold X_evictFrame_b26; rw [ckn (m := 64) rfl ow.1.1, ckn (m := 32) rfl hf32, ckn (m := 32) rfl hf32, ckn (m := 32) rfl hf32]
  · obtain ⟨p1, p2⟩ := PM_ev (pf' := gA (sA (sA (sA (sA ob 9 x (-1)) 12 f (-1)) 13 f 0) 14 f 0) 9) (fo' := gA (sA (sA (sA (sA ob 9 x (-1)) 12 f (-1)) 13 f 0) 14 f 0) 12) (fd' := gA (sA (sA (sA (sA ob 9 x (-1)) 12 f (-1)) 13 f 0) 14 f 0) 14) h hf hx (nneg' h0) hd
      (by simp [gA_sA]) (fun y n => by simp [gA_sA, n]) (by simp [gA_sA]) (fun y n => by simp [gA_sA, n]) (fun y n => by simp [gA_sA, n])
    refine ⟨p1, p2, fun k _ => rfl, fun k x hk => ?_⟩
    rw [gA_sA, if_neg (by omega), gA_sA, if_neg (by omega), gA_sA, if_neg (by omega), gA_sA, if_neg (by omega)]
  · simp [gA_sA]
  · intro y n
    by_cases c : y = x
    · simp [gA_sA, c]
    · simp [gA_sA, c, n]
theorem ev_e (hNF : 70 < NF) {ob : Rec} (h : PI ob) {f : Int32} (hf : In (gI ob 2).toInt f) :
    ∃ r, X_evictFrame NF ob f = some r ∧ Kp ob r ∧ gA r 12 f < 0 ∧ (∀ y, gA ob 9 y < 0 → gA r 9 y < 0) := by
  have hF := h.hF
  have hf32 : In 32 f := ⟨hf.1, by omega⟩
  unfold X_evictFrame; rw [ckn (m := 32) rfl hf32]
  by_cases c : gA ob 12 f < 0
  · rw [if_pos c]; exact ⟨ob, rfl, ⟨h, fun _ _ _ _ => rfl, fun _ _ => rfl, fun _ _ _ => rfl⟩, c, fun _ n => n⟩
  · rw [if_neg c, ckn (m := 32) rfl hf32]
    by_cases d : gA ob 14 f = 0
    · rw [if_pos d]; exact evb_e NF h hf c d
    · rw [if_neg d]
      obtain ⟨r, e, kp, -, r14, rs⟩ := wb_e NF hNF h hf c
      rw [e, Option.bind_some, ← rs 12 f (by omega)]
      obtain ⟨q, e2, kq, q12, q9⟩ := evb_e NF kp.pi (f := f) (by rw [kp.si 2 (by decide)]; exact hf) (by rw [rs 12 f (by omega)]; exact c) r14
      exact ⟨q, e2, kp.tr kq, q12, fun y n => q9 y (by rw [rs 9 y (by omega)]; exact n)⟩
theorem fl_l {f x s b : Int32} (hb : b = f * 4) (hf : In 32 f) (hx : In 64 x) (hs : 0 ≤ s.toInt → In 64 s) : ∀ (m fuel : Nat) (ob : Rec) (i : Int32), m < fuel → 0 ≤ i.toInt → i.toInt ≤ 4 → 4 - i.toInt ≤ m →
    ∃ r, X_fillFrame_l15 NF fuel ob f x s b i = some r ∧ r.1 = ob.1 ∧ (∀ k y, ¬ k = 9 → ¬ k = 11 → ¬ k = 12 → ¬ k = 13 → ¬ k = 14 → ¬ k = 15 → gA r k y = gA ob k y) ∧ gA r 12 f = x ∧ (∀ y, ¬ y = f → gA r 12 y = gA ob 12 y) ∧ (∀ y, ¬ y = f → gA r 14 y = gA ob 14 y) ∧
      gA r 9 x = f ∧ (∀ y, ¬ y = x → gA r 9 y = gA ob 9 y) ∧
      (∀ w : Int32, i.toInt ≤ w.toInt → w.toInt < 4 → gA r 15 (f * 4 + w) = if s < 0 then 0 else gA ob 17 (s * 4 + w)) ∧ (∀ t w : Int32, In 32 t → In 4 w → (t = f → w.toInt < i.toInt) → gA r 15 (t * 4 + w) = gA ob 15 (t * 4 + w)) := by
  have fin : ∀ (n : Nat) (ob : Rec) (i : Int32), ¬ i.toInt < 4 → ∃ r, X_fillFrame_l15 NF (n + 1) ob f x s b i = some r ∧ r.1 = ob.1 ∧ (∀ k y, ¬ k = 9 → ¬ k = 11 → ¬ k = 12 → ¬ k = 13 → ¬ k = 14 → ¬ k = 15 → gA r k y = gA ob k y) ∧ gA r 12 f = x ∧ (∀ y, ¬ y = f → gA r 12 y = gA ob 12 y) ∧ (∀ y, ¬ y = f → gA r 14 y = gA ob 14 y) ∧
      gA r 9 x = f ∧ (∀ y, ¬ y = x → gA r 9 y = gA ob 9 y) ∧
      (∀ w : Int32, i.toInt ≤ w.toInt → w.toInt < 4 → gA r 15 (f * 4 + w) = if s < 0 then 0 else gA ob 17 (s * 4 + w)) ∧ (∀ t w : Int32, In 32 t → In 4 w → (t = f → w.toInt < i.toInt) → gA r 15 (t * 4 + w) = gA ob 15 (t * 4 + w)) := by
    intro n ob i hi
    refine ⟨sA (sA (sA (sA (sA ob 12 f x) 13 f 0) 14 f 0) 9 x f) 11 x (gA ob 1 (x / 16)), ?_, rfl, ?_, ?_, ?_, ?_, ?_, ?_, ?_, ?_⟩
    · show X_fillFrame_w15 NF _ ob f x s b i = _
      have e := dv (x := x) (y := 16) hx.1 (by decide)
      have e' : (x / 16).toInt = x.toInt / 16 := e
      unfold X_fillFrame_w15; rw [if_neg (nltn (m := 4) rfl hi), ckn (m := 32) rfl hf, ckn (m := 32) rfl hf, ckn (m := 32) rfl hf, ckn (m := 64) rfl hx, ckn (m := 4) rfl (by rw [In, e']; omega), ckn (m := 64) rfl hx]
    · intro k y a1 a2 a3 a4 a5 a6; simp [gA_sA, a1, a2, a3, a4, a5]
    · simp [gA_sA]
    · intro y n; simp [gA_sA, n]
    · intro y n; simp [gA_sA, n]
    · simp [gA_sA]
    · intro y n; simp [gA_sA, n]
    · intro w a b; omega
    · intro t w _ _ _; rfl
  intro m
  induction m with
  | zero =>
    intro fuel ob i hfu h0 h1 h2
    obtain ⟨n, rfl⟩ : ∃ n, fuel = n + 1 := ⟨fuel - 1, by omega⟩
    exact fin n ob i (by omega)
  | succ m ih =>
    intro fuel ob i hfu h0 h1 h2
    obtain ⟨n, rfl⟩ : ∃ n, fuel = n + 1 := ⟨fuel - 1, by omega⟩
    by_cases hc : i.toInt < 4
    · have ei := s1 (i := i) (by omega)
      have x1 := ix (s := f) (w := i) ⟨hf.1, by omega⟩ ⟨h0, hc⟩
      obtain ⟨r, h, r1, r2, r3, r4, r4', r5, r5', r6, r7⟩ := ih n (sA ob 15 (b + i) (if s < 0 then 0 else gA ob 17 (s * 4 + i))) (i + 1) (by omega) (by omega) (by omega) (by omega)
      refine ⟨r, ?_, r1, ?_, r3, ?_, ?_, r5, ?_, ?_, ?_⟩
      · rw [← h]
        show X_fillFrame_w15 NF _ ob f x s b i = _
        unfold X_fillFrame_w15; rw [if_pos (ltn (m := 4) rfl hc)]
        by_cases c : s < 0
        · rw [if_pos c, if_pos c, ckn (m := 128) rfl (by rw [hb]; omega)]
        · have x2 := ix (s := s) (w := i) (hs (nneg' c)) ⟨h0, hc⟩
          have hs' := hs (nneg' c)
          rw [if_neg c, if_neg c, ckn (m := 256) rfl (by omega), ckn (m := 128) rfl (by rw [hb]; omega)]
      · intro k y a1 a2 a3 a4 a5 a6; rw [r2 k y a1 a2 a3 a4 a5 a6, gA_sA, if_neg (fun e => a6 e.1)]
      · intro y a; rw [r4 y a]; rfl
      · intro y a; rw [r4' y a]; rfl
      · intro y a; rw [r5' y a]; rfl
      · intro w a b'
        by_cases c : w = i
        · rw [c, r7 f i hf ⟨h0, hc⟩ (fun _ => by omega), gA_sA, if_pos ⟨rfl, by rw [hb]⟩]
        · have : ¬ w.toInt = i.toInt := fun e => c (eq_i32.mpr e)
          rw [r6 w (by omega) b']; rfl
      · intro t w ht hw hh
        rw [r7 t w ht hw (fun e => by have := hh e; omega), gA_sA, if_neg]
        intro e
        have e2 := e.2
        rw [hb] at e2
        have := ix_inj (s := t) (t := f) ⟨ht.1, by omega⟩ ⟨hf.1, by omega⟩ hw ⟨h0, hc⟩ e2
        have h3 := hh this.1
        rw [this.2] at h3; omega
    · exact fin n ob i hc
theorem fl_e (hNF : 70 < NF) {ob : Rec} (h : PI ob) {f x : Int32} (hf : In (gI ob 2).toInt f) (hx : VI (gI ob 0) (gI ob 1) x) (hfr : gA ob 12 f < 0) (hn : gA ob 9 x < 0) :
    ∃ r, X_fillFrame NF ob f x = some r ∧ Kp ob r ∧ gI r 7 = gI ob 7 ∧ gA r 9 x = f := by
  have hF := h.hF
  have hf32 : In 32 f := ⟨hf.1, by omega⟩
  obtain ⟨r, hr, r1, r2, r3, r4, r4', r5, r5', r6, r7⟩ := fl_l NF (b := f * 4) rfl hf32 hx.1 (s := gA ob 10 x) (fun a => (h.slt x hx.1 a).2.1) 4 NF ob 0 (by omega) (by decide) (by decide) (by decide)
  obtain ⟨p1, p2⟩ := PM_fill (pf' := gA r 9) (fo' := gA r 12) (fd' := gA r 14) (fw' := gA r 15) h hf hx hfr hn r5 r5' r3 r4 r4' (fun w hw => r6 w hw.1 hw.2) (fun t w ht hw n => r7 t w ht hw (fun e => absurd e n))
  have qI : ∀ k, gI r k = gI ob k := fun k => by unfold gI; rw [r1]
  have e10 : gA r 10 = gA ob 10 := funext fun x => r2 10 x (by decide) (by decide) (by decide) (by decide) (by decide) (by decide)
  have e16 : gA r 16 = gA ob 16 := funext fun x => r2 16 x (by decide) (by decide) (by decide) (by decide) (by decide) (by decide)
  have e17 : gA r 17 = gA ob 17 := funext fun x => r2 17 x (by decide) (by decide) (by decide) (by decide) (by decide) (by decide)
  refine ⟨r, ?_, ⟨?_, ?_, fun k _ => qI k, fun k y hk => r2 k y (by omega) (by omega) (by omega) (by omega) (by omega) (by omega)⟩, qI 7, r5⟩
  · unfold X_fillFrame; rw [ckn (m := 64) rfl hx.1, hr]
  · show PM (gI r 0) (gI r 1) (gI r 2) (gI r 7) (gA r 9) (gA r 10) (gA r 12) (gA r 14) (gA r 15) (gA r 16) (gA r 17)
    rw [qI, qI, qI, qI, e10, e16, e17]; exact p1
  · intro y w hy hw
    show ct (gA r 9) (gA r 10) (gA r 15) (gA r 17) y w = _
    rw [e10, e17]; exact p2 y w hy hw
theorem ff_e (hNF : 70 < NF) {ob : Rec} (hF : (gI ob 2).toInt ≤ 32) : ∃ f, X_findFreeFrame NF ob = some f ∧ (f < 0 ∨ (In (gI ob 2).toInt f ∧ gA ob 12 f < 0)) := by
  have l : ∀ (m fuel : Nat) (i : Int32), m < fuel → 0 ≤ i.toInt → i.toInt ≤ 32 → 32 - i.toInt ≤ m → ∃ f, X_findFreeFrame_l2 NF ob fuel i = some f ∧ (f < 0 ∨ (In (gI ob 2).toInt f ∧ gA ob 12 f < 0)) := by
    intro m
    induction m with
    | zero =>
      intro fuel i hfu h0 h1 h2
      obtain ⟨n, rfl⟩ : ∃ n, fuel = n + 1 := ⟨fuel - 1, by omega⟩
      refine ⟨-1, ?_, Or.inl (by decide)⟩
      show X_findFreeFrame_w2 NF ob _ i = _
      unfold X_findFreeFrame_w2; rw [if_neg (by rw [lt_i]; omega)]
    | succ m ih =>
      intro fuel i hfu h0 h1 h2
      obtain ⟨n, rfl⟩ : ∃ n, fuel = n + 1 := ⟨fuel - 1, by omega⟩
      show ∃ f, X_findFreeFrame_w2 NF ob (X_findFreeFrame_l2 NF ob n) i = _ ∧ _
      unfold X_findFreeFrame_w2
      by_cases hc : i < gI ob 2
      · have hc' := lt_i.mp hc
        rw [if_pos hc, ckn (m := 32) rfl ⟨h0, by omega⟩]
        by_cases d : gA ob 12 i < 0
        · rw [if_pos d]; exact ⟨i, rfl, Or.inr ⟨⟨h0, hc'⟩, d⟩⟩
        · have ei := s1 (i := i) (by omega)
          rw [if_neg d]; exact ih n (i + 1) (by omega) (by omega) (by omega) (by omega)
      · rw [if_neg hc]; exact ⟨-1, rfl, Or.inl (by decide)⟩
  exact l 32 NF 0 (by omega) (by decide) (by decide) (by decide)
end pgb
section pgc
variable (NF : Nat)
theorem hnd {ob : Rec} (h : PI ob) : In (gI ob 2).toInt ((gI ob 7 + 1) % gI ob 2) := by
  have hF := h.hF
  have hH := h.hH
  have e := s1 (i := gI ob 7) (by omega)
  have e2 := md (x := gI ob 7 + 1) (y := gI ob 2) (by omega) (by omega)
  rw [In, e2]
  exact ⟨Int.emod_nonneg _ (by omega), Int.emod_lt_of_pos _ (by omega)⟩
theorem kp_hand {ob : Rec} (h : PI ob) : Kp ob (sI ob 7 ((gI ob 7 + 1) % gI ob 2)) :=
  ⟨PI_hand h (hnd h), fun _ _ _ _ => rfl, fun k hk => by rw [gI_sI, if_neg hk], fun _ _ _ => rfl⟩
theorem dvz_ok {γ : Type} {y : Int32} {A : Option γ} (h : ¬ y = 0) : dvz y A = A := by unfold dvz; rw [if_neg h]
theorem cvb {ob : Rec} {F i1 i2 f : Int32} {k4 : Rec → Int32 → Int32 → Option (Int32 × Rec)} (hNF : 70 < NF) (h : PI ob) (hF : gI ob 2 = F) (h1 : i1 < 0 ∨ In F.toInt i1) (hf : In F.toInt f) (h12 : ¬ gA ob 12 f < 0)
    (ih : ∀ (ob' : Rec) (j : Int32), PI ob' → gI ob' 2 = F → (j < 0 ∨ In F.toInt j) → ∃ v r, k4 ob' j (i2 + 1) = some (v, r) ∧ In F.toInt v ∧ Kp ob' r ∧ ∀ y, gA r 9 y = gA ob' 9 y) (t : Int32) :
    ∃ v r, X_chooseVictim_b126 NF k4 ob i1 i2 f t = some (v, r) ∧ In F.toInt v ∧ Kp ob r ∧ ∀ y, gA r 9 y = gA ob 9 y := by
  have hF' := h.hF
  have hf32 : In 32 f := ⟨hf.1, by rw [hF] at hF'; omega⟩
  unfold X_chooseVictim_b126
  by_cases ct : t = 0
  · rw [if_pos ct]
    by_cases c : i1 < 0
    · rw [if_pos c, ckn (m := 32) rfl hf32]
      by_cases d : gA ob 14 f = 0
      · rw [if_pos d]; exact ih ob f h hF (Or.inr hf)
      · rw [if_neg d]; exact ih ob i1 h hF h1
    · rw [if_neg c]; exact ih ob i1 h hF h1
  · rw [if_neg ct, ckn (m := 32) rfl hf32]
    by_cases d : gA ob 14 f = 0
    · rw [if_pos d]; exact ⟨f, ob, rfl, hf, ⟨h, fun _ _ _ _ => rfl, fun _ _ => rfl, fun _ _ _ => rfl⟩, fun _ => rfl⟩
    · rw [if_neg d]
      obtain ⟨r, e, kp, -, -, rs⟩ := wb_e NF hNF h (by rw [hF]; exact hf) h12
      rw [e, Option.bind_some]
      obtain ⟨v, q, e2, hv, kq, q9⟩ := ih r i1 kp.pi (by rw [kp.si 2 (by decide), hF]) h1
      exact ⟨v, q, e2, hv, kp.tr kq, fun y => (q9 y).trans (rs 9 y (by omega))⟩
theorem cv_l (hNF : 70 < NF) (F : Int32) : ∀ (m fuel : Nat) (ob : Rec) (i1 i2 : Int32), m < fuel → PI ob → gI ob 2 = F → (i1 < 0 ∨ In F.toInt i1) → 0 ≤ i2.toInt → i2.toInt ≤ 64 → 64 - i2.toInt ≤ m →
    ∃ v r, X_chooseVictim_l4 NF fuel ob i1 i2 = some (v, r) ∧ In F.toInt v ∧ Kp ob r ∧ ∀ y, gA r 9 y = gA ob 9 y := by
  have fin : ∀ (k4 : Rec → Int32 → Int32 → Option (Int32 × Rec)) (ob : Rec) (i1 i2 : Int32), PI ob → gI ob 2 = F → (i1 < 0 ∨ In F.toInt i1) → ¬ i2 < 2 * F → ∃ v r, X_chooseVictim_w4 NF k4 ob i1 i2 = some (v, r) ∧ In F.toInt v ∧ Kp ob r ∧ ∀ y, gA r 9 y = gA ob 9 y := by
    intro k4 ob i1 i2 h hF h1 hi
    have hF' := h.hF
    have hH := h.hH
    unfold X_chooseVictim_w4; rw [hF, if_neg hi]
    by_cases c : i1 < 0
    · rw [if_pos c, dvz_ok (by intro e; rw [hF, e] at hF'; exact absurd hF'.1 (by decide))]
      exact ⟨_, _, rfl, by rw [← hF]; exact hH, by rw [← hF]; exact kp_hand h, fun _ => rfl⟩
    · rw [if_neg c]; exact ⟨_, _, rfl, h1.resolve_left c, ⟨h, fun _ _ _ _ => rfl, fun _ _ => rfl, fun _ _ _ => rfl⟩, fun _ => rfl⟩
  have t2 : ∀ ob, PI ob → gI ob 2 = F → ((2 : Int32) * F).toInt = 2 * F.toInt := by
    intro ob h e
    have := h.hF
    rw [e] at this
    exact ml (by show -2147483648 ≤ 2 * F.toInt ∧ 2 * F.toInt < 2147483648; omega)
  intro m
  induction m with
  | zero =>
    intro fuel ob i1 i2 hfu h hF h1 h0 h2 h3
    obtain ⟨n, rfl⟩ : ∃ n, fuel = n + 1 := ⟨fuel - 1, by omega⟩
    have := h.hF
    rw [hF] at this
    exact fin _ ob i1 i2 h hF h1 (by rw [lt_i, t2 ob h hF]; omega)
  | succ m ih =>
    intro fuel ob i1 i2 hfu h hF h1 h0 h2 h3
    obtain ⟨n, rfl⟩ : ∃ n, fuel = n + 1 := ⟨fuel - 1, by omega⟩
    show ∃ v r, X_chooseVictim_w4 NF (X_chooseVictim_l4 NF n) ob i1 i2 = _ ∧ _
    by_cases hi : i2 < 2 * F
    · have hF' := h.hF
      rw [hF] at hF'
      have hi' := lt_i.mp hi
      rw [t2 ob h hF] at hi'
      have ei := s1 (i := i2) (by omega)
      have ih' : ∀ (ob' : Rec) (j : Int32), PI ob' → gI ob' 2 = F → (j < 0 ∨ In F.toInt j) → ∃ v r, X_chooseVictim_l4 NF n ob' j (i2 + 1) = some (v, r) ∧ In F.toInt v ∧ Kp ob' r ∧ ∀ y, gA r 9 y = gA ob' 9 y :=
        fun ob' j a b c => ih n ob' j (i2 + 1) (by omega) a b c (by omega) (by omega) (by omega)
      have hH := h.hH
      rw [hF] at hH
      have hH32 : In 32 (gI ob 7) := ⟨hH.1, by omega⟩
      have kh := kp_hand h
      have Fz : ¬ gI ob 2 = 0 := by intro e; rw [← hF, e] at hF'; exact absurd hF'.1 (by decide)
      unfold X_chooseVictim_w4; rw [if_pos (by rw [hF]; exact hi), dvz_ok Fz, ckn (m := 32) rfl hH32]
      generalize hob : sI ob 7 ((gI ob 7 + 1) % gI ob 2) = ob' at *
      have s12 : ∀ k y, gA ob' k y = gA ob k y := fun k y => by rw [← hob]; rfl
      have e2 : gI ob' 2 = F := by rw [kh.si 2 (by decide), hF]
      by_cases c : gA ob 12 (gI ob 7) < 0
      · rw [if_pos c]; exact ⟨_, _, rfl, hH, kh, fun y => s12 9 y⟩
      · have ow := h.own (gI ob 7) (by rw [hF]; exact hH) (nneg' c)
        have ex : (gA ob 12 (gI ob 7) / 16).toInt = (gA ob 12 (gI ob 7)).toInt / 16 := dv (y := 16) ow.1.1.1 (by decide)
        have b4 : In 4 (gA ob 12 (gI ob 7) / 16) := by rw [In, ex]; have := ow.1.1; omega
        have cb : ∀ t, ∃ v r, X_chooseVictim_b126 NF (X_chooseVictim_l4 NF n) ob' i1 i2 (gI ob 7) t = some (v, r) ∧ In F.toInt v ∧ Kp ob r ∧ ∀ y, gA r 9 y = gA ob 9 y := by
          intro t
          obtain ⟨v, r, a1, a2, a3, a4⟩ := cvb NF hNF kh.pi e2 h1 hH (by rw [s12]; exact c) ih' t
          exact ⟨v, r, a1, a2, kh.tr a3, fun y => (a4 y).trans (s12 9 y)⟩
        rw [if_neg c, ckn (m := 32) rfl hH32]
        by_cases d : gA ob 13 (gI ob 7) = 0
        · rw [if_pos d, ckn (m := 4) rfl b4]
          by_cases e : gA ob 0 (gA ob 12 (gI ob 7) / 16) = 0
          · rw [if_pos e, ckn (m := 4) rfl b4, ckn (m := 64) rfl ow.1.1]
            by_cases g : gA ob 1 (gA ob 12 (gI ob 7) / 16) - gA ob 11 (gA ob 12 (gI ob 7)) < gI ob 3
            · rw [if_pos g]; exact cb 0
            · rw [if_neg g]; exact cb 1
          · rw [if_neg e]; exact cb 1
        · rw [if_neg d, ckn (m := 32) rfl hH32, ckn (m := 4) rfl b4, ckn (m := 64) rfl ow.1.1]
          generalize hq : sA (sA ob' 13 (gI ob 7) 0) 11 (gA ob 12 (gI ob 7)) (gA ob 1 (gA ob 12 (gI ob 7) / 16)) = q
          have qA : ∀ k y, ¬ k = 13 → ¬ k = 11 → gA q k y = gA ob' k y := fun k y a b => by rw [← hq, gA_sA, if_neg (fun e => b e.1), gA_sA, if_neg (fun e => a e.1)]
          have qI : ∀ k, gI q k = gI ob' k := fun k => by rw [← hq]; rfl
          have pq : PI q := PI_c kh.pi (fun k _ => qI k) (fun k y hk => qA k y (by omega) (by omega))
          obtain ⟨v, r, a1, a2, a3, a4⟩ := ih' q i1 pq (by rw [qI, e2]) h1
          refine ⟨v, r, a1, a2, kh.tr (Kp.tr ⟨pq, fun y w _ _ => cont_c (fun k y hk => qA k y (by omega) (by omega)) y w, fun k _ => qI k, fun k y hk => qA k y (by omega) (by omega)⟩ a3), fun y => (a4 y).trans ((qA 9 y (by decide) (by decide)).trans (s12 9 y))⟩
    · exact fin _ ob i1 i2 h hF h1 hi
theorem er_e (hNF : 70 < NF) {ob : Rec} (h : PI ob) {p g : Int32} (hp : In (gI ob 0).toInt p) (hg : In (gI ob 1).toInt g) :
    ∃ f r, X_ensureResident NF ob p g = some (f, r) ∧ In (gI ob 2).toInt f ∧ Kp ob r ∧ gA r 9 (p * 16 + g) = f := by
  have hP := h.hP
  have hN := h.hN
  have hF := h.hF
  have ex := px (p := p) (g := g) ⟨hp.1, by omega⟩ ⟨hg.1, by omega⟩
  generalize hx : p * 16 + g = x at *
  have vx : VI (gI ob 0) (gI ob 1) x := ⟨⟨by omega, by omega⟩, by omega, by omega⟩
  unfold X_ensureResident; rw [hx, ckn (m := 64) rfl vx.1]
  by_cases c : gA ob 9 x < 0
  · rw [if_pos c]
    obtain ⟨f, e, hf⟩ := ff_e NF hNF (ob := ob) (by omega)
    rw [e, Option.bind_some]
    by_cases d : f < 0
    · rw [if_pos d]
      obtain ⟨v, r, a1, a2, a3, a4⟩ := cv_l NF hNF (gI ob 2) 64 NF ob (-1) 0 (by omega) h rfl (Or.inl (by decide)) (by decide) (by decide) (by decide)
      unfold X_chooseVictim
      rw [a1, bind2_some]
      have r2 := a3.si 2 (by decide)
      obtain ⟨q, e2, kq, q12, q9⟩ := ev_e NF hNF a3.pi (f := v) (by rw [r2]; exact a2)
      rw [e2, Option.bind_some]
      have kk := a3.tr kq
      unfold X_ensureResident_b46
      obtain ⟨z, e3, kz, -, z9⟩ := fl_e NF hNF kq.pi (f := v) (x := x) (by rw [kk.si 2 (by decide)]; exact a2) (by rw [kk.si 0 (by decide), kk.si 1 (by decide)]; exact vx) q12 (q9 x (by rw [a4]; exact c))
      rw [e3, Option.bind_some]
      exact ⟨v, z, rfl, a2, kk.tr kz, z9⟩
    · rw [if_neg d]
      have hf' := hf.resolve_left d
      unfold X_ensureResident_b46
      obtain ⟨z, e3, kz, -, z9⟩ := fl_e NF hNF h (f := f) (x := x) hf'.1 vx hf'.2 c
      rw [e3, Option.bind_some]
      exact ⟨f, z, rfl, hf'.1, kz, z9⟩
  · rw [if_neg c]
    exact ⟨_, ob, rfl, (h.frm x vx.1 (nneg' c)).1, ⟨h, fun _ _ _ _ => rfl, fun _ _ => rfl, fun _ _ _ => rfl⟩, rfl⟩
/-- the window slides: c1, w1 = counts and size after the oldest is given up -/
abbrev PW (p g : Int32) (ob r : Rec) (c1 : Int32 → Int32) (w1 : Int32) : Prop := (∀ k, gI r k = gI ob k) ∧ (∀ k x, ¬ k = 2 → ¬ k = 3 → ¬ k = 4 → ¬ k = 6 → ¬ k = 7 → gA r k x = gA ob k x) ∧ (∀ k x, ¬ k = 6 → ¬ k = 7 → ¬ x = p → gA r k x = gA ob k x) ∧ (gA r 3 p = (gA ob 3 p + 1) % gI ob 3) ∧ (∀ x, gA r 6 x = if x = p * 16 + gA ob 3 p then g else gA ob 6 x) ∧ (gA r 2 p = if gA ob 2 p < gI ob 3 then gA ob 2 p + 1 else gA ob 2 p) ∧ (gA ob 2 p < gI ob 3 → c1 = gA ob 7 ∧ w1 = gA ob 4 p) ∧ (¬ gA ob 2 p < gI ob 3 → (∀ x, c1 x = if x = p * 16 + gA ob 6 (p * 16 + gA ob 3 p) then gA ob 7 x - 1 else gA ob 7 x) ∧ w1 = if c1 (p * 16 + gA ob 6 (p * 16 + gA ob 3 p)) = 0 then gA ob 4 p - 1 else gA ob 4 p) ∧ (∀ x, gA r 7 x = if x = p * 16 + g then c1 x + 1 else c1 x) ∧ (gA r 4 p = if c1 (p * 16 + g) = 0 then w1 + 1 else w1)
theorem PW.si {p g : Int32} {ob r : Rec} {c1 : Int32 → Int32} {w1 : Int32} (h : PW p g ob r c1 w1) : ∀ k, gI r k = gI ob k := h.1
theorem PW.sa {p g : Int32} {ob r : Rec} {c1 : Int32 → Int32} {w1 : Int32} (h : PW p g ob r c1 w1) : ∀ k x, ¬ k = 2 → ¬ k = 3 → ¬ k = 4 → ¬ k = 6 → ¬ k = 7 → gA r k x = gA ob k x := h.2.1
theorem PW.so {p g : Int32} {ob r : Rec} {c1 : Int32 → Int32} {w1 : Int32} (h : PW p g ob r c1 w1) : ∀ k x, ¬ k = 6 → ¬ k = 7 → ¬ x = p → gA r k x = gA ob k x := h.2.2.1
theorem PW.hd {p g : Int32} {ob r : Rec} {c1 : Int32 → Int32} {w1 : Int32} (h : PW p g ob r c1 w1) : gA r 3 p = (gA ob 3 p + 1) % gI ob 3 := h.2.2.2.1
theorem PW.rg {p g : Int32} {ob r : Rec} {c1 : Int32 → Int32} {w1 : Int32} (h : PW p g ob r c1 w1) : ∀ x, gA r 6 x = if x = p * 16 + gA ob 3 p then g else gA ob 6 x := h.2.2.2.2.1
theorem PW.ln {p g : Int32} {ob r : Rec} {c1 : Int32 → Int32} {w1 : Int32} (h : PW p g ob r c1 w1) : gA r 2 p = if gA ob 2 p < gI ob 3 then gA ob 2 p + 1 else gA ob 2 p := h.2.2.2.2.2.1
theorem PW.c1l {p g : Int32} {ob r : Rec} {c1 : Int32 → Int32} {w1 : Int32} (h : PW p g ob r c1 w1) : gA ob 2 p < gI ob 3 → c1 = gA ob 7 ∧ w1 = gA ob 4 p := h.2.2.2.2.2.2.1
theorem PW.c1g {p g : Int32} {ob r : Rec} {c1 : Int32 → Int32} {w1 : Int32} (h : PW p g ob r c1 w1) : ¬ gA ob 2 p < gI ob 3 → (∀ x, c1 x = if x = p * 16 + gA ob 6 (p * 16 + gA ob 3 p) then gA ob 7 x - 1 else gA ob 7 x) ∧ w1 = if c1 (p * 16 + gA ob 6 (p * 16 + gA ob 3 p)) = 0 then gA ob 4 p - 1 else gA ob 4 p := h.2.2.2.2.2.2.2.1
theorem PW.cn {p g : Int32} {ob r : Rec} {c1 : Int32 → Int32} {w1 : Int32} (h : PW p g ob r c1 w1) : ∀ x, gA r 7 x = if x = p * 16 + g then c1 x + 1 else c1 x := h.2.2.2.2.2.2.2.2.1
theorem PW.ws {p g : Int32} {ob r : Rec} {c1 : Int32 → Int32} {w1 : Int32} (h : PW p g ob r c1 w1) : gA r 4 p = if c1 (p * 16 + g) = 0 then w1 + 1 else w1 := h.2.2.2.2.2.2.2.2.2
theorem pwb {ob : Rec} {p g h : Int32} (hp : In 4 p) (hg : In 16 g) (hh : In 16 h) (hT : ¬ gI ob 3 = 0) :
    ∃ r, X_pushWindow_b100 ob p g (p * 16) h = some r ∧ (∀ k, gI r k = gI ob k) ∧ (∀ k x, ¬ k = 3 → ¬ k = 4 → ¬ k = 6 → ¬ k = 7 → gA r k x = gA ob k x) ∧ (∀ k x, ¬ k = 6 → ¬ k = 7 → ¬ x = p → gA r k x = gA ob k x) ∧
      gA r 3 p = (h + 1) % gI ob 3 ∧ (∀ x, gA r 6 x = if x = p * 16 + h then g else gA ob 6 x) ∧ (∀ x, gA r 7 x = if x = p * 16 + g then gA ob 7 x + 1 else gA ob 7 x) ∧ gA r 4 p = if gA ob 7 (p * 16 + g) = 0 then gA ob 4 p + 1 else gA ob 4 p := by
  have e1 := px hp hg
  have e2 := px hp hh
  have i1 : In 64 (p * 16 + g) := by rw [In, e1]; omega
  have i2 : In 64 (p * 16 + h) := by rw [In, e2]; omega
  unfold X_pushWindow_b100; rw [ckn (m := 64) rfl i2, ckn (m := 64) rfl i1]
  by_cases c : gA ob 7 (p * 16 + g) = 0
  · rw [if_pos c, ckn (m := 4) rfl hp, ckn (m := 4) rfl hp]
    unfold X_pushWindow_b135; rw [ckn (m := 64) rfl i1, ckn (m := 64) rfl i1]
    generalize hob : sA (sA ob 6 (p * 16 + h) g) 4 p (gA ob 4 p + 1) = q
    have qI : ∀ k, gI q k = gI ob k := fun k => by rw [← hob]; rfl
    rw [dvz_ok (by rw [qI]; exact hT), ckn (m := 4) rfl hp]
    refine ⟨_, rfl, qI, ?_, ?_, ?_, ?_, ?_, ?_⟩
    · intro k x a b d e; rw [← hob]; simp [gA_sA, a, b, d, e]
    · intro k x d e n; rw [← hob]; simp [gA_sA, d, e, n]
    · rw [qI, gA_sA, if_pos ⟨rfl, rfl⟩]
    · intro x; rw [← hob]; simp [gA_sA]
    · intro x; rw [← hob]
      by_cases n : x = p * 16 + g
      · simp [gA_sA, n]
      · simp [gA_sA, n]
    · rw [← hob, if_pos c]; simp [gA_sA]
  · rw [if_neg c]
    unfold X_pushWindow_b135; rw [ckn (m := 64) rfl i1, ckn (m := 64) rfl i1]
    generalize hob : sA ob 6 (p * 16 + h) g = q
    have qI : ∀ k, gI q k = gI ob k := fun k => by rw [← hob]; rfl
    rw [dvz_ok (by rw [qI]; exact hT), ckn (m := 4) rfl hp]
    refine ⟨_, rfl, qI, ?_, ?_, ?_, ?_, ?_, ?_⟩
    · intro k x a b d e; rw [← hob]; simp [gA_sA, a, b, d, e]
    · intro k x d e n; rw [← hob]; simp [gA_sA, d, e, n]
    · rw [qI, gA_sA, if_pos ⟨rfl, rfl⟩]
    · intro x; rw [← hob]; simp [gA_sA]
    · intro x; rw [← hob]
      by_cases n : x = p * 16 + g
      · simp [gA_sA, n]
      · simp [gA_sA, n]
    · rw [← hob, if_neg c]; simp [gA_sA]
theorem pw_e {ob : Rec} {p g : Int32} (hp : In 4 p) (hg : In 16 g) (hh : In 16 (gA ob 3 p)) (hT : ¬ gI ob 3 = 0) (hr : In 16 (gA ob 6 (p * 16 + gA ob 3 p))) :
    ∃ r c1 w1, X_pushWindow ob p g = some r ∧ PW p g ob r c1 w1 := by
  have e2 := px hp hh
  have e3 := px hp hr
  have i2 : In 64 (p * 16 + gA ob 3 p) := by rw [In, e2]; omega
  have i3 : In 64 (p * 16 + gA ob 6 (p * 16 + gA ob 3 p)) := by rw [In, e3]; omega
  unfold X_pushWindow; rw [ckn (m := 4) rfl hp, ckn (m := 4) rfl hp]
  by_cases c : gA ob 2 p < gI ob 3
  · rw [if_pos c, ckn (m := 4) rfl hp, ckn (m := 4) rfl hp]
    obtain ⟨r, e, rI, ra, rb, r3, r6, r7, r4⟩ := pwb (ob := sA ob 2 p (gA ob 2 p + 1)) (h := gA ob 3 p) hp hg hh hT
    refine ⟨r, gA ob 7, gA ob 4 p, e, rI, ?_, ?_, r3, r6, ?_, fun _ => ⟨rfl, rfl⟩, fun n => absurd c n, r7, r4⟩
    · intro k x a1 a2 a3 a4 a5; rw [ra k x a2 a3 a4 a5, gA_sA, if_neg (fun e => a1 e.1)]
    · intro k x a1 a2 a3; rw [rb k x a1 a2 a3, gA_sA, if_neg (fun e => a3 e.2)]
    · rw [if_pos c, ra 2 p (by decide) (by decide) (by decide) (by decide), gA_sA, if_pos ⟨rfl, rfl⟩]
  · rw [if_neg c, ckn (m := 64) rfl i2, ckn (m := 64) rfl i3, ckn (m := 64) rfl i3, ckn (m := 64) rfl i3]
    generalize ho : p * 16 + gA ob 6 (p * 16 + gA ob 3 p) = o at *
    have f7 : ∀ x, gA (sA ob 7 o (gA ob 7 o - 1)) 7 x = if x = o then gA ob 7 x - 1 else gA ob 7 x := fun x => by
      by_cases n : x = o
      · simp [gA_sA, n]
      · simp [gA_sA, n]
    by_cases d : gA (sA ob 7 o (gA ob 7 o - 1)) 7 o = 0
    · rw [if_pos d, ckn (m := 4) rfl hp, ckn (m := 4) rfl hp]
      obtain ⟨r, e, rI, ra, rb, r3, r6, r7, r4⟩ := pwb (ob := sA (sA ob 7 o (gA ob 7 o - 1)) 4 p (gA ob 4 p - 1)) (h := gA ob 3 p) hp hg hh hT
      refine ⟨r, gA (sA ob 7 o (gA ob 7 o - 1)) 7, gA ob 4 p - 1, e, rI, ?_, ?_, r3, r6, ?_, fun n => absurd n c, fun _ => ⟨?_, ?_⟩, r7, ?_⟩
      · intro k x a1 a2 a3 a4 a5; rw [ra k x a2 a3 a4 a5, gA_sA, if_neg (fun e => a3 e.1), gA_sA, if_neg (fun e => a5 e.1)]
      · intro k x a1 a2 a3; rw [rb k x a1 a2 a3, gA_sA, if_neg (fun e => a3 e.2), gA_sA, if_neg (fun e => a2 e.1)]
      · rw [if_neg c, ra 2 p (by decide) (by decide) (by decide) (by decide)]; rfl
      · rw [ho]; exact f7
      · rw [ho, if_pos d]
      · rw [r4]; simp [gA_sA]
    · rw [if_neg d]
      obtain ⟨r, e, rI, ra, rb, r3, r6, r7, r4⟩ := pwb (ob := sA ob 7 o (gA ob 7 o - 1)) (h := gA ob 3 p) hp hg hh hT
      refine ⟨r, gA (sA ob 7 o (gA ob 7 o - 1)) 7, gA ob 4 p, e, rI, ?_, ?_, r3, r6, ?_, fun n => absurd n c, fun _ => ⟨?_, ?_⟩, r7, r4⟩
      · intro k x a1 a2 a3 a4 a5; rw [ra k x a2 a3 a4 a5, gA_sA, if_neg (fun e => a5 e.1)]
      · intro k x a1 a2 a3; rw [rb k x a1 a2 a3, gA_sA, if_neg (fun e => a2 e.1)]
      · rw [if_neg c, ra 2 p (by decide) (by decide) (by decide) (by decide)]; rfl
      · rw [ho]; exact f7
      · rw [ho, if_neg d]
/-- one reference recorded -/
abbrev RR (p g : Int32) (ob r : Rec) (c1 : Int32 → Int32) (w1 : Int32) : Prop := (∀ k, gI r k = gI ob k) ∧ (∀ k x, k = 0 ∨ k = 9 ∨ k = 10 ∨ k = 12 ∨ 14 ≤ k → gA r k x = gA ob k x) ∧ (∀ k x, k ≤ 5 → ¬ x = p → gA r k x = gA ob k x) ∧ (gA r 1 p = gA ob 1 p + 1) ∧ (gA r 3 p = (gA ob 3 p + 1) % gI ob 3) ∧ (∀ x, gA r 6 x = if x = p * 16 + gA ob 3 p then g else gA ob 6 x) ∧ (gA r 2 p = if gA ob 2 p < gI ob 3 then gA ob 2 p + 1 else gA ob 2 p) ∧ (gA ob 2 p < gI ob 3 → c1 = gA ob 7 ∧ w1 = gA ob 4 p) ∧ (¬ gA ob 2 p < gI ob 3 → (∀ x, c1 x = if x = p * 16 + gA ob 6 (p * 16 + gA ob 3 p) then gA ob 7 x - 1 else gA ob 7 x) ∧ w1 = if c1 (p * 16 + gA ob 6 (p * 16 + gA ob 3 p)) = 0 then gA ob 4 p - 1 else gA ob 4 p) ∧ (∀ x, gA r 7 x = if x = p * 16 + g then c1 x + 1 else c1 x) ∧ (gA r 4 p = if c1 (p * 16 + g) = 0 then w1 + 1 else w1) ∧ (¬ gA r 8 (p * 16 + g) = 0) ∧ (∀ x, ¬ x = p * 16 + g → gA r 8 x = gA ob 8 x) ∧ (gA r 5 p = if gA ob 8 (p * 16 + g) = 0 then gA ob 5 p + 1 else gA ob 5 p)
theorem RR.si {p g : Int32} {ob r : Rec} {c1 : Int32 → Int32} {w1 : Int32} (h : RR p g ob r c1 w1) : ∀ k, gI r k = gI ob k := h.1
theorem RR.sa {p g : Int32} {ob r : Rec} {c1 : Int32 → Int32} {w1 : Int32} (h : RR p g ob r c1 w1) : ∀ k x, k = 0 ∨ k = 9 ∨ k = 10 ∨ k = 12 ∨ 14 ≤ k → gA r k x = gA ob k x := h.2.1
theorem RR.so {p g : Int32} {ob r : Rec} {c1 : Int32 → Int32} {w1 : Int32} (h : RR p g ob r c1 w1) : ∀ k x, k ≤ 5 → ¬ x = p → gA r k x = gA ob k x := h.2.2.1
theorem RR.vt {p g : Int32} {ob r : Rec} {c1 : Int32 → Int32} {w1 : Int32} (h : RR p g ob r c1 w1) : gA r 1 p = gA ob 1 p + 1 := h.2.2.2.1
theorem RR.hd {p g : Int32} {ob r : Rec} {c1 : Int32 → Int32} {w1 : Int32} (h : RR p g ob r c1 w1) : gA r 3 p = (gA ob 3 p + 1) % gI ob 3 := h.2.2.2.2.1
theorem RR.rg {p g : Int32} {ob r : Rec} {c1 : Int32 → Int32} {w1 : Int32} (h : RR p g ob r c1 w1) : ∀ x, gA r 6 x = if x = p * 16 + gA ob 3 p then g else gA ob 6 x := h.2.2.2.2.2.1
theorem RR.ln {p g : Int32} {ob r : Rec} {c1 : Int32 → Int32} {w1 : Int32} (h : RR p g ob r c1 w1) : gA r 2 p = if gA ob 2 p < gI ob 3 then gA ob 2 p + 1 else gA ob 2 p := h.2.2.2.2.2.2.1
theorem RR.c1l {p g : Int32} {ob r : Rec} {c1 : Int32 → Int32} {w1 : Int32} (h : RR p g ob r c1 w1) : gA ob 2 p < gI ob 3 → c1 = gA ob 7 ∧ w1 = gA ob 4 p := h.2.2.2.2.2.2.2.1
theorem RR.c1g {p g : Int32} {ob r : Rec} {c1 : Int32 → Int32} {w1 : Int32} (h : RR p g ob r c1 w1) : ¬ gA ob 2 p < gI ob 3 → (∀ x, c1 x = if x = p * 16 + gA ob 6 (p * 16 + gA ob 3 p) then gA ob 7 x - 1 else gA ob 7 x) ∧ w1 = if c1 (p * 16 + gA ob 6 (p * 16 + gA ob 3 p)) = 0 then gA ob 4 p - 1 else gA ob 4 p := h.2.2.2.2.2.2.2.2.1
theorem RR.cn {p g : Int32} {ob r : Rec} {c1 : Int32 → Int32} {w1 : Int32} (h : RR p g ob r c1 w1) : ∀ x, gA r 7 x = if x = p * 16 + g then c1 x + 1 else c1 x := h.2.2.2.2.2.2.2.2.2.1
theorem RR.ws {p g : Int32} {ob r : Rec} {c1 : Int32 → Int32} {w1 : Int32} (h : RR p g ob r c1 w1) : gA r 4 p = if c1 (p * 16 + g) = 0 then w1 + 1 else w1 := h.2.2.2.2.2.2.2.2.2.2.1
theorem RR.tn {p g : Int32} {ob r : Rec} {c1 : Int32 → Int32} {w1 : Int32} (h : RR p g ob r c1 w1) : ¬ gA r 8 (p * 16 + g) = 0 := h.2.2.2.2.2.2.2.2.2.2.2.1
theorem RR.ts {p g : Int32} {ob r : Rec} {c1 : Int32 → Int32} {w1 : Int32} (h : RR p g ob r c1 w1) : ∀ x, ¬ x = p * 16 + g → gA r 8 x = gA ob 8 x := h.2.2.2.2.2.2.2.2.2.2.2.2.1
theorem RR.tc {p g : Int32} {ob r : Rec} {c1 : Int32 → Int32} {w1 : Int32} (h : RR p g ob r c1 w1) : gA r 5 p = if gA ob 8 (p * 16 + g) = 0 then gA ob 5 p + 1 else gA ob 5 p := h.2.2.2.2.2.2.2.2.2.2.2.2.2
theorem rrb {ob : Rec} {p g : Int32} (hp : In 4 p) (hg : In 16 g) (hh : In 16 (gA ob 3 p)) (hT : ¬ gI ob 3 = 0) (hr : In 16 (gA ob 6 (p * 16 + gA ob 3 p))) :
    ∃ r c1 w1, X_recordReference_b28 ob p g (p * 16 + g) = some r ∧ RR p g ob r c1 w1 := by
  have e1 := px hp hg
  have i1 : In 64 (p * 16 + g) := by rw [In, e1]; omega
  unfold X_recordReference_b28; rw [ckn (m := 4) rfl hp, ckn (m := 4) rfl hp, ckn (m := 4) rfl hp, ckn (m := 64) rfl i1]
  generalize hob : sA (sA ob 1 p (gA ob 1 p + 1)) 11 (p * 16 + g) (gA (sA ob 1 p (gA ob 1 p + 1)) 1 p) = q
  have qI : ∀ k, gI q k = gI ob k := fun k => by rw [← hob]; rfl
  have qA : ∀ k x, ¬ k = 1 → ¬ k = 11 → gA q k x = gA ob k x := fun k x a b => by rw [← hob, gA_sA, if_neg (fun e => b e.1), gA_sA, if_neg (fun e => a e.1)]
  have qo : ∀ k x, ¬ k = 11 → ¬ x = p → gA q k x = gA ob k x := fun k x a b => by rw [← hob, gA_sA, if_neg (fun e => a e.1), gA_sA, if_neg (fun e => b e.2)]
  have q1 : gA q 1 p = gA ob 1 p + 1 := by rw [← hob]; simp [gA_sA]
  have q2 : ∀ x, gA q 2 x = gA ob 2 x := fun x => qA 2 x (by decide) (by decide)
  have q3 : ∀ x, gA q 3 x = gA ob 3 x := fun x => qA 3 x (by decide) (by decide)
  have q4 : ∀ x, gA q 4 x = gA ob 4 x := fun x => qA 4 x (by decide) (by decide)
  have q6 : ∀ x, gA q 6 x = gA ob 6 x := fun x => qA 6 x (by decide) (by decide)
  have q7 : gA q 7 = gA ob 7 := funext fun x => qA 7 x (by decide) (by decide)
  obtain ⟨r, c1, w1, e, h⟩ := pw_e (ob := q) hp hg (by rw [q3]; exact hh) (by rw [qI]; exact hT) (by rw [q3, q6]; exact hr)
  rw [e, Option.bind_some, ckn (m := 64) rfl i1]
  have hd := h.hd
  have rg := h.rg
  have ln := h.ln
  have c1l := h.c1l
  have c1g := h.c1g
  simp only [q2, q3, q4, q6, q7, qI] at hd rg ln c1l c1g
  have r8 : ∀ x, gA r 8 x = gA ob 8 x := fun x => (h.sa 8 x (by decide) (by decide) (by decide) (by decide) (by decide)).trans (qA 8 x (by decide) (by decide))
  have r5 : ∀ x, gA r 5 x = gA ob 5 x := fun x => (h.sa 5 x (by decide) (by decide) (by decide) (by decide) (by decide)).trans (qA 5 x (by decide) (by decide))
  have r1 : gA r 1 p = gA ob 1 p + 1 := (h.sa 1 p (by decide) (by decide) (by decide) (by decide) (by decide)).trans q1
  by_cases c : gA r 8 (p * 16 + g) = 0
  · rw [if_pos c, ckn (m := 64) rfl i1, ckn (m := 4) rfl hp, ckn (m := 4) rfl hp]
    generalize hz : sA (sA r 8 (p * 16 + g) 1) 5 p (gA r 5 p + 1) = z
    have zA : ∀ k x, ¬ k = 8 → ¬ k = 5 → gA z k x = gA r k x := fun k x a b => by rw [← hz, gA_sA, if_neg (fun e => b e.1), gA_sA, if_neg (fun e => a e.1)]
    have zI : ∀ k, gI z k = gI r k := fun k => by rw [← hz]; rfl
    refine ⟨z, c1, w1, rfl, fun k => (zI k).trans ((h.si k).trans (qI k)), ?_, ?_, ?_, ?_, ?_, ?_, c1l, c1g, ?_, ?_, ?_, ?_, ?_⟩
    · intro k x hk; rw [zA k x (by omega) (by omega), h.sa k x (by omega) (by omega) (by omega) (by omega) (by omega), qA k x (by omega) (by omega)]
    · intro k x hk hx
      have : gA z k x = gA r k x := by rw [← hz, gA_sA, if_neg (fun e => hx e.2), gA_sA, if_neg (by omega)]
      rw [this, h.so k x (by omega) (by omega) hx, qo k x (by omega) hx]
    · rw [zA 1 p (by decide) (by decide), r1]
    · rw [zA 3 p (by decide) (by decide), hd]
    · intro x; rw [zA 6 x (by decide) (by decide), rg]
    · rw [zA 2 p (by decide) (by decide), ln]
    · intro x; rw [zA 7 x (by decide) (by decide), h.cn]
    · rw [zA 4 p (by decide) (by decide), h.ws]
    · rw [← hz]; simp [gA_sA]
    · intro x hx; rw [← hz]; simp [gA_sA, hx, r8]
    · rw [← r8, if_pos c, ← hz]; simp [gA_sA, r5]
  · rw [if_neg c]
    refine ⟨r, c1, w1, rfl, fun k => (h.si k).trans (qI k), ?_, ?_, r1, hd, rg, ln, c1l, c1g, h.cn, h.ws, c, fun x _ => r8 x, ?_⟩
    · intro k x hk; rw [h.sa k x (by omega) (by omega) (by omega) (by omega) (by omega), qA k x (by omega) (by omega)]
    · intro k x hk hx; rw [h.so k x (by omega) (by omega) hx, qo k x (by omega) hx]
    · rw [← r8, if_neg c, r5]
theorem rr_e {ob : Rec} {p g : Int32} (hp : In 4 p) (hg : In 16 g) (hh : In 16 (gA ob 3 p)) (hT : ¬ gI ob 3 = 0) (hr : In 16 (gA ob 6 (p * 16 + gA ob 3 p))) (hf : In 32 (gA ob 9 (p * 16 + g))) :
    ∃ r c1 w1, X_recordReference ob p g = some r ∧ RR p g ob r c1 w1 := by
  have e1 := px hp hg
  have i1 : In 64 (p * 16 + g) := by rw [In, e1]; omega
  unfold X_recordReference; rw [ckn (m := 64) rfl i1, if_neg (nneg hf.1), ckn (m := 32) rfl hf]
  generalize hob : sA ob 13 (gA ob 9 (p * 16 + g)) 1 = q
  have qI : ∀ k, gI q k = gI ob k := fun k => by rw [← hob]; rfl
  have qA : ∀ k, ¬ k = 13 → gA q k = gA ob k := fun k a => funext fun x => by rw [← hob, gA_sA, if_neg (fun e => a e.1)]
  obtain ⟨r, c1, w1, e, h⟩ := rrb (ob := q) hp hg (by rw [qA 3 (by decide)]; exact hh) (by rw [qI]; exact hT) (by rw [qA 3 (by decide), qA 6 (by decide)]; exact hr)
  refine ⟨r, c1, w1, e, ?_⟩
  have h' := h
  obtain ⟨a1, a2, a3, a4, a5, a6, a7, a8, a9, a10, a11, a12, a13, a14⟩ := h'
  rw [qA 1 (by decide)] at a4
  rw [qA 3 (by decide), qI] at a5
  rw [qA 3 (by decide), qA 6 (by decide)] at a6
  rw [qA 2 (by decide), qI] at a7
  rw [qA 2 (by decide), qA 7 (by decide), qA 4 (by decide), qI] at a8
  rw [qA 2 (by decide), qA 7 (by decide), qA 4 (by decide), qA 3 (by decide), qA 6 (by decide), qI] at a9
  rw [qA 8 (by decide), qA 5 (by decide)] at a14
  refine ⟨fun k => (a1 k).trans (qI k), fun k x hk => (a2 k x hk).trans (by rw [qA k (by omega)]), fun k x hk hx => (a3 k x hk hx).trans (by rw [qA k (by omega)]), a4, a5, a6, a7, a8, a9, a10, a11, a12, fun x hx => (a13 x hx).trans (by rw [qA 8 (by decide)]), a14⟩
end pgc
section pgd
variable (NF : Nat)
def sc (ob : Rec) : Int32 := gA ob 0 0 + gA ob 0 1 + gA ob 0 2 + gA ob 0 3
abbrev LC (p : Int32) (ob r : Rec) : Prop := (∀ k, ¬ k = 5 → ¬ k = 6 → gI r k = gI ob k) ∧ (∀ k x, ¬ k = 0 → gA r k x = gA ob k x) ∧ (gA ob 0 p = 0 → gA r 0 p = 0) ∧ ((∀ q, In 4 q → gA ob 0 q = 0 ∨ gA ob 0 q = 1) → (∀ q, In 4 q → gA r 0 q = 0 ∨ gA r 0 q = 1) ∧ gI r 5 - gI r 6 - sc r = gI ob 5 - gI ob 6 - sc ob)
theorem LC.si {p : Int32} {ob r : Rec} (h : LC p ob r) : ∀ k, ¬ k = 5 → ¬ k = 6 → gI r k = gI ob k := h.1
theorem LC.sa {p : Int32} {ob r : Rec} (h : LC p ob r) : ∀ k x, ¬ k = 0 → gA r k x = gA ob k x := h.2.1
theorem LC.kp {p : Int32} {ob r : Rec} (h : LC p ob r) : gA ob 0 p = 0 → gA r 0 p = 0 := h.2.2.1
theorem LC.bl {p : Int32} {ob r : Rec} (h : LC p ob r) : (∀ q, In 4 q → gA ob 0 q = 0 ∨ gA ob 0 q = 1) → (∀ q, In 4 q → gA r 0 q = 0 ∨ gA r 0 q = 1) ∧ gI r 5 - gI r 6 - sc r = gI ob 5 - gI ob 6 - sc ob := h.2.2.2
theorem LC.rf (p : Int32) (ob : Rec) : LC p ob ob := ⟨fun _ _ _ => rfl, fun _ _ _ => rfl, id, fun h => ⟨h, rfl⟩⟩
theorem LC.tr {p : Int32} {a b c : Rec} (h : LC p a b) (g : LC p b c) : LC p a c :=
  ⟨fun k x y => (g.si k x y).trans (h.si k x y), fun k x y => (g.sa k x y).trans (h.sa k x y), fun x => g.kp (h.kp x), fun x => ⟨(g.bl (h.bl x).1).1, (g.bl (h.bl x).1).2.trans (h.bl x).2⟩⟩
theorem q4 {q : Int32} (h : In 4 q) : q = 0 ∨ q = 1 ∨ q = 2 ∨ q = 3 := by
  simp only [eq_i32, Int32.reduceToInt]; omega
theorem al3 (a b c : Int32) : a + (b + c) = b + (a + c) := by rw [← Int32.add_assoc, Int32.add_comm a b, Int32.add_assoc]
theorem arp1 (a b s t : Int32) (h : t = s + 1) : a + 1 - b - t = a - b - s := by
  subst h
  grind
theorem arp2 (a b s t : Int32) (h : s = t + 1) : a - (b + 1) - t = a - b - s := by
  subst h
  grind
theorem sc_up {ob : Rec} {q v : Int32} (hq : In 4 q) (h0 : gA ob 0 q = 0) (hv : v = 1) : sc (sA ob 0 q v) = sc ob + 1 := by
  unfold sc
  rcases q4 hq with rfl | rfl | rfl | rfl <;> simp [gA_sA, h0, hv] <;> grind
theorem sc_dn {ob : Rec} {q : Int32} (hq : In 4 q) (h0 : gA ob 0 q = 1) : sc ob = sc (sA ob 0 q 0) + 1 := by
  unfold sc
  rcases q4 hq with rfl | rfl | rfl | rfl <;> simp [gA_sA, h0] <;> grind
theorem sc_sI (ob : Rec) (k : Nat) (v : Int32) : sc (sI ob k v) = sc ob := rfl
theorem LC_s {p q : Int32} {ob : Rec} (hq : In 4 q) (hp : ¬ q = p) (h0 : gA ob 0 q = 0) : LC p ob (sI (sA ob 0 q 1) 5 (gI ob 5 + 1)) := by
  refine ⟨?_, ?_, ?_, ?_⟩
  · intro k a b; rw [gI_sI, if_neg a]; rfl
  · intro k x a; rw [gA_sI, gA_sA, if_neg (fun e => a e.1)]
  · intro e; rw [gA_sI, gA_sA, if_neg (fun e => hp e.2.symm)]; exact e
  · intro h
    refine ⟨fun t ht => ?_, ?_⟩
    · rw [gA_sI, gA_sA]
      by_cases c : t = q
      · rw [if_pos ⟨rfl, c⟩]; exact Or.inr rfl
      · rw [if_neg (fun e => c e.2)]; exact h t ht
    · rw [sc_sI]
      show gI ob 5 + 1 - gI ob 6 - _ = _
      exact arp1 _ _ _ _ (sc_up hq h0 rfl)
theorem LC_r {p q : Int32} {ob : Rec} (hq : In 4 q) (h0 : ¬ gA ob 0 q = 0) : LC p ob (sI (sA ob 0 q 0) 6 (gI ob 6 + 1)) := by
  refine ⟨?_, ?_, ?_, ?_⟩
  · intro k a b; rw [gI_sI, if_neg b]; rfl
  · intro k x a; rw [gA_sI, gA_sA, if_neg (fun e => a e.1)]
  · intro e; rw [gA_sI, gA_sA]; split
    · rfl
    · exact e
  · intro h
    refine ⟨fun t ht => ?_, ?_⟩
    · rw [gA_sI, gA_sA]
      by_cases c : t = q
      · rw [if_pos ⟨rfl, c⟩]; exact Or.inl rfl
      · rw [if_neg (fun e => c e.2)]; exact h t ht
    · rw [sc_sI]
      show gI ob 5 - (gI ob 6 + 1) - _ = _
      exact arp2 _ _ _ _ (sc_dn hq ((h q hq).resolve_left h0))
theorem at_e' (hNF : 70 < NF) {ob : Rec} (hP : (gI ob 0).toInt ≤ 4) : ∃ v, X_activeTotal NF ob = some v := by
  have l : ∀ (m fuel : Nat) (a i : Int32), m < fuel → 0 ≤ i.toInt → i.toInt ≤ 4 → 4 - i.toInt ≤ m → ∃ v, X_activeTotal_l4 NF ob fuel a i = some v := by
    intro m
    induction m with
    | zero =>
      intro fuel a i hfu h0 h1 h2
      obtain ⟨n, rfl⟩ : ∃ n, fuel = n + 1 := ⟨fuel - 1, by omega⟩
      refine ⟨a, ?_⟩
      show X_activeTotal_w4 NF ob _ a i = _
      unfold X_activeTotal_w4; rw [if_neg (by rw [lt_i]; omega)]
    | succ m ih =>
      intro fuel a i hfu h0 h1 h2
      obtain ⟨n, rfl⟩ : ∃ n, fuel = n + 1 := ⟨fuel - 1, by omega⟩
      show ∃ v, X_activeTotal_w4 NF ob (X_activeTotal_l4 NF ob n) a i = _
      unfold X_activeTotal_w4
      by_cases hc : i < gI ob 0
      · have hc' := lt_i.mp hc
        have ei := s1 (i := i) (by omega)
        rw [if_pos hc, ckn (m := 4) rfl ⟨h0, by omega⟩]
        by_cases d : gA ob 0 i = 0
        · rw [if_pos d, ckn (m := 4) rfl ⟨h0, by omega⟩]; exact ih n _ (i + 1) (by omega) (by omega) (by omega) (by omega)
        · rw [if_neg d]; exact ih n _ (i + 1) (by omega) (by omega) (by omega) (by omega)
      · rw [if_neg hc]; exact ⟨a, rfl⟩
  exact l 4 NF 0 0 (by omega) (by decide) (by decide) (by decide)
theorem pk_e (hNF : 70 < NF) {ob : Rec} {p : Int32} (hP : 1 ≤ (gI ob 0).toInt ∧ (gI ob 0).toInt ≤ 4) : ∃ v, X_pickProcessToSuspend NF ob p = some v ∧ (v < 0 ∨ (In 4 v ∧ ¬ v = p ∧ gA ob 0 v = 0)) := by
  have l : ∀ (m fuel : Nat) (i : Int32), m < fuel → -1 ≤ i.toInt → i.toInt < 4 → i.toInt + 1 ≤ m → ∃ v, X_pickProcessToSuspend_l7 NF ob fuel p i = some v ∧ (v < 0 ∨ (In 4 v ∧ ¬ v = p ∧ gA ob 0 v = 0)) := by
    intro m
    induction m with
    | zero =>
      intro fuel i hfu h0 h1 h2
      obtain ⟨n, rfl⟩ : ∃ n, fuel = n + 1 := ⟨fuel - 1, by omega⟩
      refine ⟨-1, ?_, Or.inl (by decide)⟩
      show X_pickProcessToSuspend_w7 NF ob _ p i = _
      unfold X_pickProcessToSuspend_w7; rw [if_pos (by rw [neg_i]; omega)]
    | succ m ih =>
      intro fuel i hfu h0 h1 h2
      obtain ⟨n, rfl⟩ : ∃ n, fuel = n + 1 := ⟨fuel - 1, by omega⟩
      show ∃ v, X_pickProcessToSuspend_w7 NF ob (X_pickProcessToSuspend_l7 NF ob n) p i = _ ∧ _
      unfold X_pickProcessToSuspend_w7
      by_cases hc : i < 0
      · rw [if_pos hc]; exact ⟨-1, rfl, Or.inl (by decide)⟩
      · have hc' := nneg' hc
        have ei : (i + (-1)).toInt = i.toInt - 1 := by
          rw [ad (by show -2147483648 ≤ i.toInt + -1 ∧ i.toInt + -1 < 2147483648; omega)]; rfl
        have nx := ih n (i + (-1)) (by omega) (by omega) (by omega) (by omega)
        rw [if_neg hc]
        by_cases d : i = p
        · rw [if_pos d]; exact nx
        · rw [if_neg d, ckn (m := 4) rfl ⟨hc', h1⟩]
          by_cases e : gA ob 0 i = 0
          · rw [if_pos e, ckn (m := 4) rfl ⟨hc', h1⟩]
            by_cases g : 0 < gA ob 4 i
            · rw [if_pos g]; exact ⟨i, rfl, Or.inr ⟨⟨hc', h1⟩, d, e⟩⟩
            · rw [if_neg g]; exact nx
          · rw [if_neg e]; exact nx
  have e : (gI ob 0 - 1).toInt = (gI ob 0).toInt - 1 := by
    rw [sb (by show -2147483648 ≤ (gI ob 0).toInt - 1 ∧ (gI ob 0).toInt - 1 < 2147483648; omega)]; rfl
  exact l 4 NF _ (by omega) (by omega) (by omega) (by omega)
theorem lc67 (hNF : 70 < NF) (p P : Int32) (hP : 1 ≤ P.toInt ∧ P.toInt ≤ 4) : ∀ (m fuel : Nat) (ob : Rec) (i : Int32), m < fuel → gI ob 0 = P → 0 ≤ i.toInt → i.toInt ≤ 4 → 4 - i.toInt ≤ m → ∃ r, X_loadControl_l67 NF fuel ob i = some r ∧ LC p ob r := by
  intro m
  induction m with
  | zero =>
    intro fuel ob i hfu h h0 h1 h2
    obtain ⟨n, rfl⟩ : ∃ n, fuel = n + 1 := ⟨fuel - 1, by omega⟩
    refine ⟨ob, ?_, LC.rf p ob⟩
    show X_loadControl_w67 NF _ ob i = _
    unfold X_loadControl_w67; rw [h, if_neg (by rw [lt_i]; omega)]
  | succ m ih =>
    intro fuel ob i hfu h h0 h1 h2
    obtain ⟨n, rfl⟩ : ∃ n, fuel = n + 1 := ⟨fuel - 1, by omega⟩
    show ∃ r, X_loadControl_w67 NF (X_loadControl_l67 NF n) ob i = _ ∧ _
    unfold X_loadControl_w67; rw [h]
    by_cases hc : i < P
    · have hc' := lt_i.mp hc
      have ei := s1 (i := i) (by omega)
      have hi : In 4 i := ⟨h0, by omega⟩
      have nx := fun ob' (e : gI ob' 0 = P) => ih n ob' (i + 1) (by omega) e (by omega) (by omega) (by omega)
      rw [if_pos hc, ckn (m := 4) rfl hi]
      by_cases d : gA ob 0 i = 0
      · rw [if_pos d]; exact nx ob h
      · obtain ⟨v, e⟩ := at_e' NF hNF (ob := ob) (by rw [h]; omega)
        rw [if_neg d, e, Option.bind_some, ckn (m := 4) rfl hi]
        by_cases g : gI ob 2 < v + gA ob 4 i
        · rw [if_pos g]; exact nx ob h
        · rw [if_neg g, ckn (m := 4) rfl hi]
          obtain ⟨r, a, b⟩ := nx (sI (sA ob 0 i 0) 6 (gI ob 6 + 1)) h
          exact ⟨r, a, (LC_r hi d).tr b⟩
    · rw [if_neg hc]; exact ⟨ob, rfl, LC.rf p ob⟩
theorem lc_e' (hNF : 70 < NF) {p : Int32} {ob : Rec} (hP : 1 ≤ (gI ob 0).toInt ∧ (gI ob 0).toInt ≤ 4) : ∃ r, X_loadControl NF ob p = some r ∧ LC p ob r := by
  have l : ∀ (m fuel : Nat) (ob : Rec) (P i : Int32), m < fuel → gI ob 0 = P → 1 ≤ P.toInt ∧ P.toInt ≤ 4 → 0 ≤ i.toInt → i.toInt ≤ 4 → 4 - i.toInt ≤ m → ∃ r, X_loadControl_l2 NF fuel ob p i = some r ∧ LC p ob r := by
    intro m
    induction m with
    | zero =>
      intro fuel ob P i hfu h hP h0 h1 h2
      obtain ⟨n, rfl⟩ : ∃ n, fuel = n + 1 := ⟨fuel - 1, by omega⟩
      show ∃ r, X_loadControl_w2 NF _ ob p i = _ ∧ _
      unfold X_loadControl_w2; rw [h, if_neg (by rw [lt_i]; omega)]
      exact lc67 NF hNF p P hP 4 NF ob 0 (by omega) h (by decide) (by decide) (by decide)
    | succ m ih =>
      intro fuel ob P i hfu h hP h0 h1 h2
      obtain ⟨n, rfl⟩ : ∃ n, fuel = n + 1 := ⟨fuel - 1, by omega⟩
      have fin := lc67 NF hNF p P hP 4 NF ob 0 (by omega) h (by decide) (by decide) (by decide)
      show ∃ r, X_loadControl_w2 NF (X_loadControl_l2 NF n) ob p i = _ ∧ _
      unfold X_loadControl_w2; rw [h]
      by_cases hc : i < P
      · have hc' := lt_i.mp hc
        have ei := s1 (i := i) (by omega)
        obtain ⟨v, e⟩ := at_e' NF hNF (ob := ob) (by rw [h]; omega)
        rw [if_pos hc, e, Option.bind_some]
        by_cases d : gI ob 2 < v
        · obtain ⟨q, e2, hq⟩ := pk_e NF hNF (ob := ob) (p := p) (by rw [h]; exact hP)
          rw [if_pos d, e2, Option.bind_some]
          by_cases g : q < 0
          · rw [if_pos g]; exact fin
          · have hq' := hq.resolve_left g
            rw [if_neg g, ckn (m := 4) rfl hq'.1]
            obtain ⟨r, a, b⟩ := ih n (sI (sA ob 0 q 1) 5 (gI ob 5 + 1)) P (i + 1) (by omega) h hP (by omega) (by omega) (by omega)
            exact ⟨r, a, (LC_s hq'.1 hq'.2.1 hq'.2.2).tr b⟩
        · rw [if_neg d]; exact fin
      · rw [if_neg hc]; exact fin
  exact l 4 NF ob _ 0 (by omega) rfl hP (by decide) (by decide) (by decide)
theorem vpy {ob : Rec} {p : Int32} (hp : In (gI ob 0).toInt p) : X_validPid ob p = some 1 := by
  unfold X_validPid; rw [if_neg (nneg hp.1), if_pos (lt_i.mpr hp.2)]
theorem ck_e {ob : Rec} (h : PI ob) {p a : Int32} (hp : In (gI ob 0).toInt p) (ha : In (4 * (gI ob 1).toInt) a) : X_check ob p a = some (if gA ob 0 p = 0 then 0 else 3) := by
  have hP := h.hP
  have hN := h.hN
  have e : (gI ob 1 * 4).toInt = (gI ob 1).toInt * 4 := ml (by show -2147483648 ≤ (gI ob 1).toInt * 4 ∧ (gI ob 1).toInt * 4 < 2147483648; omega)
  unfold X_check; rw [vpy hp, Option.bind_some, if_neg (by decide), if_neg (nneg ha.1), if_pos (by rw [lt_i, e]; omega), ckn (m := 4) rfl ⟨hp.1, by omega⟩]
  split <;> rfl
/-- what recordReference needs of the window -/
abbrev WB (ob : Rec) (p : Int32) : Prop := In 16 (gA ob 3 p) ∧ In 16 (gA ob 6 (p * 16 + gA ob 3 p))
theorem a4 {a : Int32} {N : Int} (hN : N ≤ 16) (ha : In (4 * N) a) : (a / 4).toInt = a.toInt / 4 ∧ (a % 4).toInt = a.toInt % 4 ∧ In N (a / 4) ∧ In 4 (a % 4) := by
  have e1 : (a / 4).toInt = a.toInt / 4 := dv (y := 4) ha.1 (by decide)
  have e2 : (a % 4).toInt = a.toInt % 4 := md (y := 4) ha.1 (by decide)
  refine ⟨e1, e2, ?_, ?_⟩
  · rw [In, e1]; omega
  · rw [In, e2]; omega
theorem st_e (hNF : 70 < NF) {ob : Rec} (h : PI ob) {p a v : Int32} (hp : In (gI ob 0).toInt p) (ha : In (4 * (gI ob 1).toInt) a) (hz : gA ob 0 p = 0) (hT : ¬ gI ob 3 = 0) (hw : WB ob p) :
    ∃ o1 o2 c1 w1 o3, X_store NF ob p a v = some (0, sI o3 4 0) ∧ (∀ k, ¬ k = 7 → gI o1 k = gI ob k) ∧ (∀ k x, k ≤ 8 → gA o1 k x = gA ob k x) ∧ RR p (a / 4) o1 o2 c1 w1 ∧ X_loadControl NF o2 p = some o3 ∧ LC p o2 o3 ∧ PI (sI o3 4 0) ∧ gA o3 0 p = 0 ∧
      ∀ y w, In 64 y → In 4 w → cont (sI o3 4 0) y w = if y = p * 16 + a / 4 ∧ w = a % 4 then v else cont ob y w := by
  have hP := h.hP
  have hN := h.hN
  have hF := h.hF
  obtain ⟨d1, d2, d3, d4⟩ := a4 (N := (gI ob 1).toInt) (by omega) ha
  obtain ⟨f, q, e, hf, kq, q9⟩ := er_e NF hNF h hp d3
  have hf64 : In 64 f := ⟨hf.1, by omega⟩
  have hf32 : In 32 f := ⟨hf.1, by omega⟩
  have exf := ix hf64 d4
  have exi := px (p := p) (g := a / 4) ⟨hp.1, by omega⟩ ⟨d3.1, by omega⟩
  have i1 : In 64 (p * 16 + a / 4) := by rw [In, exi]; omega
  unfold X_store
  rw [ck_e h hp ha, if_pos hz, Option.bind_some, if_pos rfl, e, bind2_some, ckn (m := 128) rfl (by rw [In, exf]; omega), ckn (m := 32) rfl hf32]
  generalize ho : sA (sA q 15 (f * 4 + a % 4) v) 14 f 1 = o1
  have oI : ∀ k, gI o1 k = gI q k := fun k => by rw [← ho]; rfl
  have oA : ∀ k x, ¬ k = 14 → ¬ k = 15 → gA o1 k x = gA q k x := fun k x b c => by rw [← ho, gA_sA, if_neg (fun e => b e.1), gA_sA, if_neg (fun e => c e.1)]
  have e9 : gA o1 9 = gA q 9 := funext fun x => oA 9 x (by decide) (by decide)
  have e10 : gA o1 10 = gA q 10 := funext fun x => oA 10 x (by decide) (by decide)
  have e12 : gA o1 12 = gA q 12 := funext fun x => oA 12 x (by decide) (by decide)
  have e16 : gA o1 16 = gA q 16 := funext fun x => oA 16 x (by decide) (by decide)
  have e17 : gA o1 17 = gA q 17 := funext fun x => oA 17 x (by decide) (by decide)
  obtain ⟨p1, p2⟩ := PM_st (fd' := gA o1 14) (fw' := gA o1 15) (v := v) (o := a % 4) kq.pi i1 q9 hf.1 (by rw [← ho]; simp [gA_sA]) (fun y n => by rw [← ho]; simp [gA_sA, n])
    (fun g w hg hw => by
      rw [← ho]
      by_cases n : g = f ∧ w = a % 4
      · rw [if_pos n, n.1, n.2]; simp [gA_sA]
      · rw [if_neg n, gA_sA, if_neg (fun e => absurd e.1 (by decide)), gA_sA, if_neg (fun e => n (ix_inj ⟨hg.1, by omega⟩ hf64 hw d4 e.2))])
  have po : PI o1 := by
    show PM (gI o1 0) (gI o1 1) (gI o1 2) (gI o1 7) (gA o1 9) (gA o1 10) (gA o1 12) (gA o1 14) (gA o1 15) (gA o1 16) (gA o1 17)
    rw [oI, oI, oI, oI, e9, e10, e12, e16, e17]; exact p1
  have s8 : ∀ k x, k ≤ 8 → gA o1 k x = gA ob k x := fun k x hk => (oA k x (by omega) (by omega)).trans (kq.sa k x hk)
  obtain ⟨o2, c1, w1, e2, rr⟩ := rr_e (ob := o1) (p := p) (g := a / 4) ⟨hp.1, by omega⟩ ⟨d3.1, by omega⟩ (by rw [s8 3 p (by omega)]; exact hw.1) (by rw [oI, kq.si 3 (by decide)]; exact hT) (by rw [s8 3 p (by omega), s8 6 _ (by omega)]; exact hw.2) (by rw [e9, q9]; exact hf32)
  rw [e2, Option.bind_some]
  obtain ⟨o3, e3, lc⟩ := lc_e' NF hNF (p := p) (ob := o2) (by rw [rr.si, oI, kq.si 0 (by decide)]; exact hP)
  rw [e3, Option.bind_some]
  have c3 : ∀ k x, k = 9 ∨ k = 10 ∨ k = 12 ∨ 14 ≤ k → gA (sI o3 4 0) k x = gA o1 k x := fun k x hk => (lc.sa k x (by omega)).trans (rr.sa k x (by omega))
  refine ⟨o1, o2, c1, w1, o3, rfl, fun k hk => (oI k).trans (kq.si k hk), s8, rr, e3, lc, ?_, ?_, ?_⟩
  · exact PI_c po (fun k hk => by rw [gI_sI, if_neg (by omega), lc.si k (by omega) (by omega), rr.si]) c3
  · exact lc.kp (by rw [rr.sa 0 p (by omega), s8 0 p (by omega)]; exact hz)
  · intro y w hy hw
    rw [cont_c c3]
    show ct (gA o1 9) (gA o1 10) (gA o1 15) (gA o1 17) y w = _
    rw [e9, e10, e17, p2 y w hy hw]
    split
    · rfl
    · exact kq.ct y w hy hw
theorem st_s {ob : Rec} (h : PI ob) {p a v : Int32} (hp : In (gI ob 0).toInt p) (ha : In (4 * (gI ob 1).toInt) a) (hz : ¬ gA ob 0 p = 0) : X_store NF ob p a v = some (3, sI ob 4 3) := by
  unfold X_store; rw [ck_e h hp ha, if_neg hz, Option.bind_some, if_neg (by decide)]
theorem ld_s {ob : Rec} (h : PI ob) {p a : Int32} (hp : In (gI ob 0).toInt p) (ha : In (4 * (gI ob 1).toInt) a) (hz : ¬ gA ob 0 p = 0) : X_load NF ob p a = some (-9223372036854775808, sI ob 4 3) := by
  unfold X_load; rw [ck_e h hp ha, if_neg hz, Option.bind_some, if_neg (by decide)]
theorem ld_e (hNF : 70 < NF) {ob : Rec} (h : PI ob) {p a : Int32} (hp : In (gI ob 0).toInt p) (ha : In (4 * (gI ob 1).toInt) a) (hz : gA ob 0 p = 0) (hT : ¬ gI ob 3 = 0) (hw : WB ob p) :
    ∃ o1 o2 c1 w1 o3, X_load NF ob p a = some ((cont ob (p * 16 + a / 4) (a % 4)).toInt64, sI o3 4 0) ∧ (∀ k, ¬ k = 7 → gI o1 k = gI ob k) ∧ (∀ k x, k ≤ 8 → gA o1 k x = gA ob k x) ∧ RR p (a / 4) o1 o2 c1 w1 ∧ X_loadControl NF o2 p = some o3 ∧ LC p o2 o3 ∧ PI (sI o3 4 0) ∧ gA o3 0 p = 0 ∧
      ∀ y w, In 64 y → In 4 w → cont (sI o3 4 0) y w = cont ob y w := by
  have hP := h.hP
  have hN := h.hN
  have hF := h.hF
  obtain ⟨d1, d2, d3, d4⟩ := a4 (N := (gI ob 1).toInt) (by omega) ha
  obtain ⟨f, q, e, hf, kq, q9⟩ := er_e NF hNF h hp d3
  have hf64 : In 64 f := ⟨hf.1, by omega⟩
  have hf32 : In 32 f := ⟨hf.1, by omega⟩
  have exf := ix hf64 d4
  have exi := px (p := p) (g := a / 4) ⟨hp.1, by omega⟩ ⟨d3.1, by omega⟩
  have i1 : In 64 (p * 16 + a / 4) := by rw [In, exi]; omega
  unfold X_load
  rw [ck_e h hp ha, if_pos hz, Option.bind_some, if_pos rfl, e, bind2_some, ckn (m := 128) rfl (by rw [In, exf]; omega)]
  obtain ⟨o2, c1, w1, e2, rr⟩ := rr_e (ob := q) (p := p) (g := a / 4) ⟨hp.1, by omega⟩ ⟨d3.1, by omega⟩ (by rw [kq.sa 3 p (by omega)]; exact hw.1) (by rw [kq.si 3 (by decide)]; exact hT) (by rw [kq.sa 3 p (by omega), kq.sa 6 _ (by omega)]; exact hw.2) (by rw [q9]; exact hf32)
  rw [e2, Option.bind_some]
  obtain ⟨o3, e3, lc⟩ := lc_e' NF hNF (p := p) (ob := o2) (by rw [rr.si, kq.si 0 (by decide)]; exact hP)
  rw [e3, Option.bind_some]
  have c3 : ∀ k x, k = 9 ∨ k = 10 ∨ k = 12 ∨ 14 ≤ k → gA (sI o3 4 0) k x = gA q k x := fun k x hk => (lc.sa k x (by omega)).trans (rr.sa k x (by omega))
  have ev : gA q 15 (f * 4 + a % 4) = cont ob (p * 16 + a / 4) (a % 4) := by
    rw [← kq.ct _ _ i1 d4]
    show _ = ct (gA q 9) (gA q 10) (gA q 15) (gA q 17) _ _
    unfold ct; rw [q9, if_neg (nneg hf.1)]
  refine ⟨q, o2, c1, w1, o3, by rw [ev], fun k hk => kq.si k hk, kq.sa, rr, e3, lc, ?_, ?_, ?_⟩
  · exact PI_c kq.pi (fun k hk => by rw [gI_sI, if_neg (by omega), lc.si k (by omega) (by omega), rr.si]) c3
  · exact lc.kp (by rw [rr.sa 0 p (by omega), kq.sa 0 p (by omega)]; exact hz)
  · intro y w hy hw
    rw [cont_c c3]; exact kq.ct y w hy hw
/-- one page dropped -/
abbrev DP (x : Int32) (ob r : Rec) : Prop := (PI r) ∧ (∀ y w, In 64 y → In 4 w → cont r y w = if y = x then 0 else cont ob y w) ∧ (∀ k, gI r k = gI ob k) ∧ (∀ k y, k ≤ 6 → gA r k y = gA ob k y) ∧ (∀ y, gA r 7 y = if y = x then 0 else gA ob 7 y) ∧ (∀ y, gA r 8 y = if y = x then 0 else gA ob 8 y)
theorem DP.pi {x : Int32} {ob r : Rec} (h : DP x ob r) : PI r := h.1
theorem DP.ct {x : Int32} {ob r : Rec} (h : DP x ob r) : ∀ y w, In 64 y → In 4 w → cont r y w = if y = x then 0 else cont ob y w := h.2.1
theorem DP.si {x : Int32} {ob r : Rec} (h : DP x ob r) : ∀ k, gI r k = gI ob k := h.2.2.1
theorem DP.sa {x : Int32} {ob r : Rec} (h : DP x ob r) : ∀ k y, k ≤ 6 → gA r k y = gA ob k y := h.2.2.2.1
theorem DP.s7 {x : Int32} {ob r : Rec} (h : DP x ob r) : ∀ y, gA r 7 y = if y = x then 0 else gA ob 7 y := h.2.2.2.2.1
theorem DP.s8 {x : Int32} {ob r : Rec} (h : DP x ob r) : ∀ y, gA r 8 y = if y = x then 0 else gA ob 8 y := h.2.2.2.2.2
theorem dp_e {ob : Rec} (h : PI ob) {x : Int32} (hx : In 64 x) : ∃ r, X_discardPage ob x = some r ∧ DP x ob r := by
  have hF := h.hF
  have fin : ∀ (o1 : Rec), (gA o1 10 x = gA ob 10 x) → PM (gI o1 0) (gI o1 1) (gI o1 2) (gI o1 7) (gA o1 9) (gA o1 10) (gA o1 12) (gA o1 14) (gA o1 15) (gA o1 16) (gA o1 17) → True := fun _ _ _ => trivial
  have b64 : ∀ o : Rec, X_discardPage_b64 o x = some (sA (sA (sA o 7 x 0) 8 x 0) 11 x 0) := fun o => by
    unfold X_discardPage_b64; rw [ckn (m := 64) rfl hx, ckn (m := 64) rfl hx, ckn (m := 64) rfl hx]
  have b39 : ∀ o : Rec, (∀ k, gI o k = gI ob k) → (∀ k y, ¬ k = 9 → ¬ k = 12 → ¬ k = 13 → ¬ k = 14 → gA o k y = gA ob k y) → gA o 9 x < 0 → (∀ y, ¬ y = x → gA o 9 y = gA ob 9 y) →
      (0 ≤ (gA ob 9 x).toInt → gA o 12 (gA ob 9 x) = -1) → (∀ y, (0 ≤ (gA ob 9 x).toInt → ¬ y = gA ob 9 x) → gA o 12 y = gA ob 12 y) → (∀ y, (0 ≤ (gA ob 9 x).toInt → ¬ y = gA ob 9 x) → gA o 14 y = gA ob 14 y) →
      ∃ r, X_discardPage_b39 o x = some r ∧ DP x ob r := by
    intro o oI oA p1 p2 f1 f2 f3
    have o10 : ∀ y, gA o 10 y = gA ob 10 y := fun y => oA 10 y (by decide) (by decide) (by decide) (by decide)
    have e15 : gA o 15 = gA ob 15 := funext fun y => oA 15 y (by decide) (by decide) (by decide) (by decide)
    have e17 : gA o 17 = gA ob 17 := funext fun y => oA 17 y (by decide) (by decide) (by decide) (by decide)
    unfold X_discardPage_b39; rw [ckn (m := 64) rfl hx, o10]
    by_cases c : gA ob 10 x < 0
    · rw [if_pos c, b64]
      generalize hr : sA (sA (sA o 7 x 0) 8 x 0) 11 x 0 = r
      have rI : ∀ k, gI r k = gI ob k := fun k => by rw [← hr]; exact oI k
      have rA : ∀ k y, ¬ k = 7 → ¬ k = 8 → ¬ k = 11 → gA r k y = gA o k y := fun k y a b d => by rw [← hr]; simp [gA_sA, a, b, d]
      have g : ∀ k, 12 ≤ k ∨ k = 9 ∨ k = 10 → gA r k = gA o k := fun k hk => funext fun y => rA k y (by omega) (by omega) (by omega)
      obtain ⟨z1, z2⟩ := PM_dis (pf' := gA o 9) (ps' := gA o 10) (fo' := gA o 12) (fd' := gA o 14) (su' := gA o 16) h hx p1 p2 (by rw [o10]; exact c) (fun y _ => o10 y) f1 f2 f3 (fun a => absurd c (nneg a)) (fun y _ => oA 16 y (by decide) (by decide) (by decide) (by decide))
      refine ⟨r, rfl, ⟨?_, ?_, rI, ?_, ?_, ?_⟩⟩
      · show PM (gI r 0) (gI r 1) (gI r 2) (gI r 7) (gA r 9) (gA r 10) (gA r 12) (gA r 14) (gA r 15) (gA r 16) (gA r 17)
        rw [rI, rI, rI, rI, g 9 (by omega), g 10 (by omega), g 12 (by omega), g 14 (by omega), g 15 (by omega), g 16 (by omega), g 17 (by omega), e15, e17]; exact z1
      · intro y w hy hw
        show ct (gA r 9) (gA r 10) (gA r 15) (gA r 17) y w = _
        rw [g 9 (by omega), g 10 (by omega), g 15 (by omega), g 17 (by omega), e15, e17]; exact z2 y w hy hw
      · intro k y hk; rw [rA k y (by omega) (by omega) (by omega), oA k y (by omega) (by omega) (by omega) (by omega)]
      · intro y; rw [← hr]; simp [gA_sA, oA 7 y]
      · intro y; rw [← hr]; simp [gA_sA, oA 8 y]
    · have sl := h.slt x hx (nneg' c)
      rw [if_neg c, ckn (m := 64) rfl sl.2.1, ckn (m := 64) rfl hx, b64]
      generalize hr : sA (sA (sA (sA (sA o 16 (gA ob 10 x) 0) 10 x (-1)) 7 x 0) 8 x 0) 11 x 0 = r
      have rI : ∀ k, gI r k = gI ob k := fun k => by rw [← hr]; exact oI k
      have rA : ∀ k y, ¬ k = 7 → ¬ k = 8 → ¬ k = 11 → ¬ k = 10 → ¬ k = 16 → gA r k y = gA o k y := fun k y a b d e f => by rw [← hr]; simp [gA_sA, a, b, d, e, f]
      have g : ∀ k, k = 12 ∨ k = 14 ∨ k = 15 ∨ k = 17 ∨ k = 9 → gA r k = gA o k := fun k hk => funext fun y => rA k y (by omega) (by omega) (by omega) (by omega) (by omega)
      obtain ⟨z1, z2⟩ := PM_dis (pf' := gA o 9) (ps' := gA r 10) (fo' := gA o 12) (fd' := gA o 14) (su' := gA r 16) h hx p1 p2 (by rw [← hr]; simp [gA_sA]) (fun y n => by rw [← hr]; simp [gA_sA, n, o10]) f1 f2 f3 (fun a => by rw [← hr]; simp [gA_sA]) (fun y n => by
        have : ¬ y = gA ob 10 x := n (nneg' c)
        rw [← hr]; simp [gA_sA, this, oA 16 y])
      refine ⟨r, rfl, ⟨?_, ?_, rI, ?_, ?_, ?_⟩⟩
      · show PM (gI r 0) (gI r 1) (gI r 2) (gI r 7) (gA r 9) (gA r 10) (gA r 12) (gA r 14) (gA r 15) (gA r 16) (gA r 17)
        rw [rI, rI, rI, rI, g 9 (by omega), g 12 (by omega), g 14 (by omega), g 15 (by omega), g 17 (by omega), e15, e17]; exact z1
      · intro y w hy hw
        show ct (gA r 9) (gA r 10) (gA r 15) (gA r 17) y w = _
        rw [g 9 (by omega), g 15 (by omega), g 17 (by omega), e15, e17]; exact z2 y w hy hw
      · intro k y hk; rw [rA k y (by omega) (by omega) (by omega) (by omega) (by omega), oA k y (by omega) (by omega) (by omega) (by omega)]
      · intro y; rw [← hr]; simp [gA_sA, oA 7 y]
      · intro y; rw [← hr]; simp [gA_sA, oA 8 y]
  unfold X_discardPage; rw [ckn (m := 64) rfl hx]
  by_cases c : gA ob 9 x < 0
  · rw [if_pos c]
    exact b39 ob (fun _ => rfl) (fun _ _ _ _ _ _ => rfl) c (fun _ _ => rfl) (fun a => absurd c (nneg a)) (fun _ _ => rfl) (fun _ _ => rfl)
  · have fr := h.frm x hx (nneg' c)
    have hf32 : In 32 (gA ob 9 x) := ⟨fr.1.1, by omega⟩
    rw [if_neg c, ckn (m := 32) rfl hf32, ckn (m := 32) rfl hf32, ckn (m := 32) rfl hf32, ckn (m := 64) rfl hx]
    refine b39 _ (fun _ => rfl) (fun k y a1 a2 a3 a4 => by simp [gA_sA, a1, a2, a3, a4]) (by simp [gA_sA]) (fun y n => by simp [gA_sA, n]) (fun _ => by simp [gA_sA]) (fun y n => ?_) (fun y n => ?_)
    · have : ¬ y = gA ob 9 x := n (nneg' c)
      simp [gA_sA, this]
    · have : ¬ y = gA ob 9 x := n (nneg' c)
      simp [gA_sA, this]
theorem ct_nv {ob : Rec} (h : PI ob) {y w : Int32} (hy : In 64 y) (hn : ¬ VI (gI ob 0) (gI ob 1) y) : cont ob y w = 0 := by
  show ct _ _ _ _ _ _ = _
  unfold ct
  rw [if_pos, if_pos]
  · refine Classical.byContradiction fun c => ?_
    exact hn (h.slt y hy (nneg' c)).1
  · refine Classical.byContradiction fun c => ?_
    have f := h.frm y hy (nneg' c)
    have o := h.own _ f.1 (by rw [f.2]; exact hy.1)
    rw [f.2] at o; exact hn o.1
/-- all pages of p dropped, up to its fields -/
abbrev DR (p : Int32) (ob r : Rec) : Prop := (PI r) ∧ (∀ y w, In 64 y → In 4 w → cont r y w = if y.toInt / 16 = p.toInt then 0 else cont ob y w) ∧ (∀ k, gI r k = gI ob k) ∧ (∀ k y, k ≤ 6 → gA r k y = gA ob k y) ∧ (∀ y, In 64 y → y.toInt % 16 < (gI ob 1).toInt → gA r 7 y = if y.toInt / 16 = p.toInt then 0 else gA ob 7 y) ∧ (∀ y, In 64 y → y.toInt % 16 < (gI ob 1).toInt → gA r 8 y = if y.toInt / 16 = p.toInt then 0 else gA ob 8 y) ∧ (∀ k y, k = 7 ∨ k = 8 → In 64 y → ¬ y.toInt % 16 < (gI ob 1).toInt → gA r k y = gA ob k y)
theorem DR.pi {p : Int32} {ob r : Rec} (h : DR p ob r) : PI r := h.1
theorem DR.ct {p : Int32} {ob r : Rec} (h : DR p ob r) : ∀ y w, In 64 y → In 4 w → cont r y w = if y.toInt / 16 = p.toInt then 0 else cont ob y w := h.2.1
theorem DR.si {p : Int32} {ob r : Rec} (h : DR p ob r) : ∀ k, gI r k = gI ob k := h.2.2.1
theorem DR.sa {p : Int32} {ob r : Rec} (h : DR p ob r) : ∀ k y, k ≤ 6 → gA r k y = gA ob k y := h.2.2.2.1
theorem DR.s7 {p : Int32} {ob r : Rec} (h : DR p ob r) : ∀ y, In 64 y → y.toInt % 16 < (gI ob 1).toInt → gA r 7 y = if y.toInt / 16 = p.toInt then 0 else gA ob 7 y := h.2.2.2.2.1
theorem DR.s8 {p : Int32} {ob r : Rec} (h : DR p ob r) : ∀ y, In 64 y → y.toInt % 16 < (gI ob 1).toInt → gA r 8 y = if y.toInt / 16 = p.toInt then 0 else gA ob 8 y := h.2.2.2.2.2.1
theorem DR.sn {p : Int32} {ob r : Rec} (h : DR p ob r) : ∀ k y, k = 7 ∨ k = 8 → In 64 y → ¬ y.toInt % 16 < (gI ob 1).toInt → gA r k y = gA ob k y := h.2.2.2.2.2.2
theorem rl_l {p : Int32} (N : Int32) (hN : 4 ≤ N.toInt ∧ N.toInt ≤ 16) (hp : In 4 p) : ∀ (m fuel : Nat) (ob : Rec) (i : Int32), m < fuel → PI ob → gI ob 1 = N → 0 ≤ i.toInt → i.toInt ≤ N.toInt → N.toInt - i.toInt ≤ m →
    ∃ (n : Nat) (r : Rec), X_release_l17 NF fuel ob p i = X_release_w17 NF (X_release_l17 NF n) r p N ∧ PI r ∧ (∀ k, gI r k = gI ob k) ∧ (∀ k y, k ≤ 6 → gA r k y = gA ob k y) ∧
      (∀ y w, In 64 y → In 4 w → cont r y w = if y.toInt / 16 = p.toInt ∧ i.toInt ≤ y.toInt % 16 ∧ y.toInt % 16 < N.toInt then 0 else cont ob y w) ∧
      (∀ k y, k = 7 ∨ k = 8 → In 64 y → gA r k y = if y.toInt / 16 = p.toInt ∧ i.toInt ≤ y.toInt % 16 ∧ y.toInt % 16 < N.toInt then 0 else gA ob k y) := by
  have fin : ∀ (n : Nat) (ob : Rec) (i : Int32), PI ob → i.toInt = N.toInt → ∃ (n' : Nat) (r : Rec), X_release_l17 NF (n + 1) ob p i = X_release_w17 NF (X_release_l17 NF n') r p N ∧ PI r ∧ (∀ k, gI r k = gI ob k) ∧ (∀ k y, k ≤ 6 → gA r k y = gA ob k y) ∧
      (∀ y w, In 64 y → In 4 w → cont r y w = if y.toInt / 16 = p.toInt ∧ i.toInt ≤ y.toInt % 16 ∧ y.toInt % 16 < N.toInt then 0 else cont ob y w) ∧
      (∀ k y, k = 7 ∨ k = 8 → In 64 y → gA r k y = if y.toInt / 16 = p.toInt ∧ i.toInt ≤ y.toInt % 16 ∧ y.toInt % 16 < N.toInt then 0 else gA ob k y) := by
    intro n ob i h e
    refine ⟨n, ob, ?_, h, fun _ => rfl, fun _ _ _ => rfl, fun y w _ _ => ?_, fun k y _ _ => ?_⟩
    · rw [show i = N from eq_i32.mpr e]; rfl
    · rw [if_neg (by omega)]
    · rw [if_neg (by omega)]
  intro m
  induction m with
  | zero =>
    intro fuel ob i hfu h h1 h0 h2 h3
    obtain ⟨n, rfl⟩ : ∃ n, fuel = n + 1 := ⟨fuel - 1, by omega⟩
    exact fin n ob i h (by omega)
  | succ m ih =>
    intro fuel ob i hfu h h1 h0 h2 h3
    obtain ⟨n, rfl⟩ : ∃ n, fuel = n + 1 := ⟨fuel - 1, by omega⟩
    by_cases hc : i.toInt < N.toInt
    · have ei := s1 (i := i) (by omega)
      have ex := px (p := p) (g := i) hp ⟨h0, by omega⟩
      have i1 : In 64 (p * 16 + i) := by rw [In, ex]; omega
      obtain ⟨q, e, d⟩ := dp_e h i1
      obtain ⟨n', r, a1, a2, a3, a4, a5, a6⟩ := ih n q (i + 1) (by omega) d.pi (by rw [d.si, h1]) (by omega) (by omega) (by omega)
      have yx : ∀ y : Int32, In 64 y → (y = p * 16 + i ↔ y.toInt / 16 = p.toInt ∧ y.toInt % 16 = i.toInt) := fun y hy => by
        rw [eq_i32, ex]; omega
      refine ⟨n', r, ?_, a2, fun k => (a3 k).trans (d.si k), fun k y hk => (a4 k y hk).trans (d.sa k y hk), fun y w hy hw => ?_, fun k y hk hy => ?_⟩
      · rw [← a1]
        show X_release_w17 NF _ ob p i = _
        unfold X_release_w17; rw [h1, if_pos (lt_i.mpr hc), e, Option.bind_some]
      · rw [a5 y w hy hw, d.ct y w hy hw]
        have := yx y hy
        by_cases c1 : y = p * 16 + i
        · rw [if_pos c1, if_pos (show y.toInt / 16 = p.toInt ∧ i.toInt ≤ y.toInt % 16 ∧ y.toInt % 16 < N.toInt by have := this.mp c1; omega)]; split <;> rfl
        · rw [if_neg c1]
          have c2 : ¬ (y.toInt / 16 = p.toInt ∧ y.toInt % 16 = i.toInt) := fun e => c1 (this.mpr e)
          by_cases c3 : y.toInt / 16 = p.toInt ∧ i.toInt ≤ y.toInt % 16 ∧ y.toInt % 16 < N.toInt
          · rw [if_pos c3, if_pos (by omega)]
          · rw [if_neg c3, if_neg (by omega)]
      · rw [a6 k y hk hy]
        have := yx y hy
        have dk : gA q k y = if y = p * 16 + i then 0 else gA ob k y := by
          rcases hk with rfl | rfl
          · exact d.s7 y
          · exact d.s8 y
        rw [dk]
        by_cases c1 : y = p * 16 + i
        · rw [if_pos c1, if_pos (show y.toInt / 16 = p.toInt ∧ i.toInt ≤ y.toInt % 16 ∧ y.toInt % 16 < N.toInt by have := this.mp c1; omega)]; split <;> rfl
        · rw [if_neg c1]
          have c2 : ¬ (y.toInt / 16 = p.toInt ∧ y.toInt % 16 = i.toInt) := fun e => c1 (this.mpr e)
          by_cases c3 : y.toInt / 16 = p.toInt ∧ i.toInt ≤ y.toInt % 16 ∧ y.toInt % 16 < N.toInt
          · rw [if_pos c3, if_pos (by omega)]
          · rw [if_neg c3, if_neg (by omega)]
    · exact fin n ob i h (by omega)
theorem rl_e (hNF : 70 < NF) {ob : Rec} (h : PI ob) {p : Int32} (hp : In (gI ob 0).toInt p) :
    ∃ o1 o2 o3, X_release NF ob p = some (0, sI o3 4 0) ∧ DR p ob o1 ∧ sA (sA (sA (sA (sA (sA o1 1 p 0) 2 p 0) 3 p 0) 4 p 0) 5 p 0) 0 p 0 = o2 ∧ X_loadControl NF o2 p = some o3 ∧ LC p o2 o3 ∧ PI (sI o3 4 0) ∧ gA o3 0 p = 0 ∧
      ∀ y w, In 64 y → In 4 w → cont (sI o3 4 0) y w = if y.toInt / 16 = p.toInt then 0 else cont ob y w := by
  have hP := h.hP
  have hN := h.hN
  have hp4 : In 4 p := ⟨hp.1, by omega⟩
  obtain ⟨n, o1, a1, a2, a3, a4, a5, a6⟩ := rl_l NF (gI ob 1) hN hp4 16 NF ob 0 (by omega) h rfl (by decide) (by show (0 : Int) ≤ _; omega) (by show _ - (0 : Int) ≤ _; omega)
  have z0 : (0 : Int32).toInt = 0 := rfl
  have d : DR p ob o1 := by
    refine ⟨a2, ?_, a3, a4, ?_, ?_, ?_⟩
    · intro y w hy hw
      rw [a5 y w hy hw, z0]
      by_cases c : y.toInt / 16 = p.toInt
      · rw [if_pos c]
        by_cases c2 : y.toInt % 16 < (gI ob 1).toInt
        · rw [if_pos ⟨c, by omega, c2⟩]
        · rw [if_neg (fun e => c2 e.2.2)]; exact ct_nv h hy (fun v => c2 v.2.2)
      · rw [if_neg c, if_neg (fun e => c e.1)]
    · intro y hy c2
      rw [a6 7 y (by omega) hy, z0]
      by_cases c : y.toInt / 16 = p.toInt
      · rw [if_pos c, if_pos ⟨c, by omega, c2⟩]
      · rw [if_neg c, if_neg (fun e => c e.1)]
    · intro y hy c2
      rw [a6 8 y (by omega) hy, z0]
      by_cases c : y.toInt / 16 = p.toInt
      · rw [if_pos c, if_pos ⟨c, by omega, c2⟩]
      · rw [if_neg c, if_neg (fun e => c e.1)]
    · intro k y hk hy c2
      rw [a6 k y hk hy, if_neg (fun e => c2 e.2.2)]
  unfold X_release; rw [vpy hp, Option.bind_some, if_neg (by decide), a1]
  unfold X_release_w17
  rw [a3 1, if_neg (by rw [lt_i]; omega), ckn (m := 4) rfl hp4, ckn (m := 4) rfl hp4, ckn (m := 4) rfl hp4, ckn (m := 4) rfl hp4, ckn (m := 4) rfl hp4, ckn (m := 4) rfl hp4]
  obtain ⟨o3, e3, lc⟩ := lc_e' NF hNF (p := p) (ob := sA (sA (sA (sA (sA (sA o1 1 p 0) 2 p 0) 3 p 0) 4 p 0) 5 p 0) 0 p 0) (by show 1 ≤ (gI o1 0).toInt ∧ (gI o1 0).toInt ≤ 4; rw [a3]; exact hP)
  rw [e3, Option.bind_some]
  generalize hs : sA (sA (sA (sA (sA (sA o1 1 p 0) 2 p 0) 3 p 0) 4 p 0) 5 p 0) 0 p 0 = o2 at *
  have sA' : ∀ k x, 6 ≤ k → gA o2 k x = gA o1 k x := fun k x hk => by
    rw [← hs]; simp [gA_sA, show ¬ k = 0 by omega, show ¬ k = 1 by omega, show ¬ k = 2 by omega, show ¬ k = 3 by omega, show ¬ k = 4 by omega, show ¬ k = 5 by omega]
  have sI' : ∀ k, gI o2 k = gI o1 k := fun k => by rw [← hs]; rfl
  have c3 : ∀ k x, k = 9 ∨ k = 10 ∨ k = 12 ∨ 14 ≤ k → gA (sI o3 4 0) k x = gA o1 k x := fun k x hk => (lc.sa k x (by omega)).trans (sA' k x (by omega))
  refine ⟨o1, o2, o3, rfl, d, hs, e3, lc, ?_, ?_, ?_⟩
  · exact PI_c a2 (fun k hk => by rw [gI_sI, if_neg (by omega), lc.si k (by omega) (by omega), sI']) c3
  · exact lc.kp (by rw [← hs]; simp [gA_sA])
  · intro y w hy hw
    rw [cont_c c3]; exact d.ct y w hy hw
end pgd
theorem i247 (NF : Nat) : ∀ (m fuel : Nat) (ob : Rec) (i : Int32), m < fuel → 0 ≤ i.toInt → i.toInt ≤ 32 → 32 - i.toInt ≤ m → ∃ r, X_init_l247 NF fuel ob i = some r ∧ r.1 = ob.1 ∧ (∀ (k : Nat) (x : Int32), ¬ k = 12 → gA r k x = gA ob k x) ∧ (∀ x : Int32, i.toInt ≤ x.toInt → x.toInt < 32 → gA r 12 x = -1) ∧ (∀ x : Int32, x.toInt < i.toInt → gA r 12 x = gA ob 12 x) := by
  intro m
  induction m with
  | zero =>
    intro fuel ob i hf h0 h1 h2
    obtain ⟨n, rfl⟩ : ∃ n, fuel = n + 1 := ⟨fuel - 1, by omega⟩
    exact ⟨ob, by show X_init_w247 NF _ ob i = _; unfold X_init_w247; rw [if_neg (nltn (m := 32) rfl (by omega))], rfl, fun _ _ _ => rfl, fun x a b => absurd b (by omega), fun _ _ => rfl⟩
  | succ m ih =>
    intro fuel ob i hf h0 h1 h2
    obtain ⟨n, rfl⟩ : ∃ n, fuel = n + 1 := ⟨fuel - 1, by omega⟩
    by_cases hc : i.toInt < 32
    · have ei := s1 (i := i) (by omega)
      obtain ⟨r, h, r1, r2, r3, r4⟩ := ih n (sA ob 12 i (-1)) (i + 1) (by omega) (by omega) (by omega) (by omega)
      refine ⟨r, ?_, r1, ?_, ?_, ?_⟩
      · rw [← h]
        show X_init_w247 NF _ ob i = _
        unfold X_init_w247; rw [if_pos (ltn (m := 32) rfl hc), ckn (m := 32) rfl ⟨h0, hc⟩]
      · intro k x hk; rw [r2 k x hk, gA_sA, if_neg (fun h => hk h.1)]
      · intro x a b
        by_cases c : x = i
        · rw [r4 x (by rw [c]; omega), c, gA_sA, if_pos ⟨rfl, rfl⟩]
        · have : x.toInt ≠ i.toInt := fun h => c (eq_i32.mpr h)
          exact r3 x (by omega) b
      · intro x a
        rw [r4 x (by omega), gA_sA, if_neg (fun h => by rw [h.2] at a; omega)]
    · exact ⟨ob, by show X_init_w247 NF _ ob i = _; unfold X_init_w247; rw [if_neg (nltn (m := 32) rfl hc)], rfl, fun _ _ _ => rfl, fun x a b => absurd b (by omega), fun _ _ => rfl⟩
theorem i215 (NF : Nat) (hNF : 70 < NF) : ∀ (m fuel : Nat) (ob : Rec) (i : Int32), m < fuel → 0 ≤ i.toInt → i.toInt ≤ 64 → 64 - i.toInt ≤ m → ∃ r, X_init_l215 NF fuel ob i = some r ∧ r.1 = ob.1 ∧ (∀ (k : Nat) (x : Int32), ¬ k = 9 → ¬ k = 10 → ¬ k = 12 → gA r k x = gA ob k x) ∧ (∀ x : Int32, i.toInt ≤ x.toInt → x.toInt < 64 → gA r 9 x = -1 ∧ gA r 10 x = -1) ∧ (∀ x : Int32, x.toInt < i.toInt → gA r 9 x = gA ob 9 x ∧ gA r 10 x = gA ob 10 x) ∧ (∀ x, In 32 x → gA r 12 x = -1) := by
  have base : ∀ (n : Nat) (ob : Rec) (i : Int32), ¬ i.toInt < 64 → ∃ r, X_init_l215 NF (n + 1) ob i = some r ∧ r.1 = ob.1 ∧ (∀ (k : Nat) (x : Int32), ¬ k = 9 → ¬ k = 10 → ¬ k = 12 → gA r k x = gA ob k x) ∧ (∀ x : Int32, i.toInt ≤ x.toInt → x.toInt < 64 → gA r 9 x = -1 ∧ gA r 10 x = -1) ∧ (∀ x : Int32, x.toInt < i.toInt → gA r 9 x = gA ob 9 x ∧ gA r 10 x = gA ob 10 x) ∧ (∀ x, In 32 x → gA r 12 x = -1) := by
    intro n ob i hi
    obtain ⟨r, h, r1, r2, r3, -⟩ := i247 NF 32 NF ob 0 (by omega) (by decide) (by decide) (by decide)
    refine ⟨r, ?_, r1, fun k x _ _ hk => r2 k x hk, fun x a b => absurd b (by omega), fun x _ => ⟨r2 9 x (by decide), r2 10 x (by decide)⟩, fun x hx => r3 x hx.1 hx.2⟩
    show X_init_w215 NF _ ob i = _
    unfold X_init_w215; rw [if_neg (nltn (m := 64) rfl hi)]; exact h
  intro m
  induction m with
  | zero =>
    intro fuel ob i hf h0 h1 h2
    obtain ⟨n, rfl⟩ : ∃ n, fuel = n + 1 := ⟨fuel - 1, by omega⟩
    exact base n ob i (by omega)
  | succ m ih =>
    intro fuel ob i hf h0 h1 h2
    obtain ⟨n, rfl⟩ : ∃ n, fuel = n + 1 := ⟨fuel - 1, by omega⟩
    by_cases hc : i.toInt < 64
    · have ei := s1 (i := i) (by omega)
      obtain ⟨r, h, r1, r2, r3, r4, r5⟩ := ih n (sA (sA ob 9 i (-1)) 10 i (-1)) (i + 1) (by omega) (by omega) (by omega) (by omega)
      refine ⟨r, ?_, r1, ?_, ?_, ?_, r5⟩
      · rw [← h]
        show X_init_w215 NF _ ob i = _
        unfold X_init_w215; rw [if_pos (ltn (m := 64) rfl hc), ckn (m := 64) rfl ⟨h0, hc⟩, ckn (m := 64) rfl ⟨h0, hc⟩]
      · intro k x a b c; rw [r2 k x a b c, gA_sA, if_neg (fun h => b h.1), gA_sA, if_neg (fun h => a h.1)]
      · intro x a b
        by_cases c : x = i
        · have := r4 x (by rw [c]; omega)
          rw [this.1, this.2, c]
          exact ⟨by rw [gA_sA, if_neg (fun h => absurd h.1 (by decide)), gA_sA, if_pos ⟨rfl, rfl⟩], by rw [gA_sA, if_pos ⟨rfl, rfl⟩]⟩
        · have : x.toInt ≠ i.toInt := fun h => c (eq_i32.mpr h)
          exact r3 x (by omega) b
      · intro x a
        have := r4 x (by omega)
        have ne : ¬ x = i := fun h => by rw [h] at a; omega
        rw [this.1, this.2]
        exact ⟨by rw [gA_sA, if_neg (fun h => ne h.2), gA_sA, if_neg (fun h => ne h.2)], by rw [gA_sA, if_neg (fun h => ne h.2), gA_sA, if_neg (fun h => ne h.2)]⟩
    · exact base n ob i hc
theorem cl_e {ob : Rec} {v lo hi : Int32} (h : lo.toInt ≤ v.toInt ∧ v.toInt ≤ hi.toInt) : X_clamp ob v lo hi = some v := by
  unfold X_clamp; rw [if_neg (by rw [lt_i]; omega), if_neg (by rw [lt_i]; omega)]
theorem ini (NF : Nat) (hNF : 70 < NF) {P N F T : Int32} (hP : 1 ≤ P.toInt ∧ P.toInt ≤ 4) (hN : 4 ≤ N.toInt ∧ N.toInt ≤ 16) (hF : 4 ≤ F.toInt ∧ F.toInt ≤ 32) (hT : 1 ≤ T.toInt ∧ T.toInt ≤ 16) :
    ∃ Q, X_init NF P N F T = some Q ∧ (gI Q 0 = P ∧ gI Q 1 = N ∧ gI Q 2 = F ∧ gI Q 3 = T ∧ (∀ k, 4 ≤ k → gI Q k = 0)) ∧ (∀ (k : Nat) (x : Int32), k ≤ 8 → gA Q k x = 0) ∧ PI Q ∧ (∀ y w, In 64 y → cont Q y w = 0) := by
  obtain ⟨r, h, r1, r2, r3, -, r5⟩ := i215 NF hNF 64 NF (sI (sI (sI (sI (sI (sI (sI (sI zrec 0 P) 1 N) 2 F) 3 T) 4 0) 5 0) 6 0) 7 0) 0 (by omega) (by decide) (by decide) (by decide)
  have rI : ∀ k, gI r k = gI (sI (sI (sI (sI (sI (sI (sI (sI zrec 0 P) 1 N) 2 F) 3 T) 4 0) 5 0) 6 0) 7 0) k := fun k => by unfold gI; rw [r1]
  have g9 : ∀ x, In 64 x → gA r 9 x = -1 := fun x hx => (r3 x hx.1 hx.2).1
  have g10 : ∀ x, In 64 x → gA r 10 x = -1 := fun x hx => (r3 x hx.1 hx.2).2
  have m1 : ¬ (0 : Int) ≤ (-1 : Int32).toInt := by decide
  have i0 : gI r 0 = P := rI 0
  have i1 : gI r 1 = N := rI 1
  have i2 : gI r 2 = F := rI 2
  have i3 : gI r 3 = T := rI 3
  have i4 : ∀ k, 4 ≤ k → gI r k = 0 := fun k hk => by
    rw [rI]; simp [gI_sI, gI_z, show ¬ k = 0 by omega, show ¬ k = 1 by omega, show ¬ k = 2 by omega, show ¬ k = 3 by omega]
  refine ⟨r, ?_, ⟨i0, i1, i2, i3, i4⟩, fun k x hk => (r2 k x (by omega) (by omega) (by omega)).trans rfl, ⟨by rw [i0]; exact hP, by rw [i1]; exact hN, by rw [i2]; exact hF, by rw [i2, i4 7 (by omega)]; exact ⟨by decide, by show (0 : Int) < _; omega⟩, ?_, ?_, ?_, ?_, ?_, ?_⟩, ?_⟩
  · unfold X_init
    rw [cl_e (lo := 1) (hi := 4) hP, Option.bind_some, cl_e (lo := 4) (hi := 16) hN, Option.bind_some, cl_e (lo := 4) (hi := 32) hF, Option.bind_some, cl_e (lo := 1) (hi := 16) hT, Option.bind_some]
    exact h
  · intro f hf h0; rw [i2] at hf; rw [r5 f ⟨hf.1, by omega⟩] at h0; exact absurd h0 m1
  · intro x hx h0; rw [g9 x hx] at h0; exact absurd h0 m1
  · intro x hx h0; rw [g10 x hx] at h0; exact absurd h0 m1
  · intro x y hx _ h0; rw [g10 x hx] at h0; exact absurd h0 m1
  · apply cN_eq
    intro i hi
    rw [g10 (n32 i) ⟨by rw [nt i (by omega)]; omega, by rw [nt i (by omega)]; omega⟩, r2 16 _ (by decide) (by decide) (by decide)]
    rfl
  · intro f hf h0; rw [i2] at hf; rw [r5 f ⟨hf.1, by omega⟩] at h0; exact absurd h0 m1
  · intro y w hy
    show ct _ _ _ _ _ _ = _
    unfold ct; rw [g9 y hy, g10 y hy, if_pos (by decide), if_pos (by decide)]
-- USE: bits pga pgb pgc pgd pge
abbrev WR (ob : Rec) : Prop := (1 ≤ (gI ob 3).toInt ∧ (gI ob 3).toInt ≤ 16) ∧ ∀ p, In 4 p → In (gI ob 3).toInt (gA ob 3 p) ∧ ∀ j, In 16 j → In 16 (gA ob 6 (p * 16 + j))
theorem WR_b {ob : Rec} (h : WR ob) {p : Int32} (hp : In 4 p) : WB ob p :=
  have a : In 16 (gA ob 3 p) := ⟨(h.2 p hp).1.1, by have := (h.2 p hp).1.2; have := h.1; omega⟩
  ⟨a, (h.2 p hp).2 _ a⟩
theorem WR_T {ob : Rec} (h : WR ob) : ¬ gI ob 3 = 0 := fun e => by
  have := h.1.1
  rw [e] at this; exact absurd this (by decide)
theorem WR_c {ob r : Rec} (h : WR ob) (h3 : gI r 3 = gI ob 3) (hA : ∀ k x, k = 3 ∨ k = 6 → gA r k x = gA ob k x) : WR r := by
  unfold WR
  rw [h3]
  refine ⟨h.1, fun p hp => ?_⟩
  rw [hA 3 p (by omega)]
  refine ⟨(h.2 p hp).1, fun j hj => ?_⟩
  rw [hA 6 _ (by omega)]; exact (h.2 p hp).2 j hj
theorem WR_rr {ob r : Rec} {p g w1 : Int32} {c1 : Int32 → Int32} (hp : In 4 p) (hg : In 16 g) (h : WR ob) (rr : RR p g ob r c1 w1) : WR r := by
  unfold WR
  rw [rr.si]
  refine ⟨h.1, fun q hq => ⟨?_, fun j hj => ?_⟩⟩
  · by_cases c : q = p
    · rw [c, rr.hd]
      have hh := (h.2 p hp).1
      have hT := h.1
      have e := s1 (i := gA ob 3 p) (by omega)
      have e2 := md (x := gA ob 3 p + 1) (y := gI ob 3) (by omega) (by omega)
      rw [In, e2]
      exact ⟨Int.emod_nonneg _ (by omega), Int.emod_lt_of_pos _ (by omega)⟩
    · rw [rr.so 3 q (by omega) c]; exact (h.2 q hq).1
  · rw [rr.rg]
    split
    · exact hg
    · exact (h.2 q hq).2 j hj
abbrev OkP (ob : Rec) (P N : Int32) : Prop := (PI ob) ∧ (WR ob) ∧ (gI ob 0 = P) ∧ (gI ob 1 = N)
theorem OkP.pi {ob : Rec} {P N : Int32} (h : OkP ob P N) : PI ob := h.1
theorem OkP.wr {ob : Rec} {P N : Int32} (h : OkP ob P N) : WR ob := h.2.1
theorem OkP.i0 {ob : Rec} {P N : Int32} (h : OkP ob P N) : gI ob 0 = P := h.2.2.1
theorem OkP.i1 {ob : Rec} {P N : Int32} (h : OkP ob P N) : gI ob 1 = N := h.2.2.2
theorem st2 (NF : Nat) (hNF : 70 < NF) {ob : Rec} {P N p a v : Int32} (h : OkP ob P N) (hp : In P.toInt p) (ha : In (4 * N.toInt) a) (hz : gA ob 0 p = 0) :
    ∃ r, X_store NF ob p a v = some (0, r) ∧ OkP r P N ∧ gA r 0 p = 0 ∧ ∀ y w, In 64 y → In 4 w → cont r y w = if y = p * 16 + a / 4 ∧ w = a % 4 then v else cont ob y w := by
  have hP := h.pi.hP
  have hN := h.pi.hN
  rw [h.i0] at hP
  rw [h.i1] at hN
  have d := a4 (N := N.toInt) (by omega) ha
  obtain ⟨o1, o2, c1, w1, o3, e, s1, s2, rr, -, lc, pr, r0, ec⟩ := st_e NF hNF (v := v) h.pi (by rw [h.i0]; exact hp) (by rw [h.i1]; exact ha) hz (WR_T h.wr) (WR_b h.wr ⟨hp.1, by omega⟩)
  have w1' : WR o1 := WR_c h.wr (s1 3 (by decide)) (fun k x hk => s2 k x (by omega))
  have w2 := WR_rr ⟨hp.1, by omega⟩ ⟨d.2.2.1.1, by have := d.2.2.1.2; omega⟩ w1' rr
  have gr : ∀ k, k < 4 → gI (sI o3 4 0) k = gI ob k := fun k hk => by
    rw [gI_sI, if_neg (by omega), lc.si k (by omega) (by omega), rr.si, s1 k (by omega)]
  refine ⟨_, e, ⟨pr, WR_c w2 ?_ (fun k x hk => lc.sa k x (by omega)), (gr 0 (by omega)).trans h.i0, (gr 1 (by omega)).trans h.i1⟩, r0, ec⟩
  rw [gr 3 (by omega), rr.si, s1 3 (by decide)]
theorem ld2 (NF : Nat) (hNF : 70 < NF) {ob : Rec} {P N p a : Int32} (h : OkP ob P N) (hp : In P.toInt p) (ha : In (4 * N.toInt) a) (hz : gA ob 0 p = 0) :
    ∃ r, X_load NF ob p a = some ((cont ob (p * 16 + a / 4) (a % 4)).toInt64, r) ∧ OkP r P N ∧ gI r 4 = 0 ∧ gA r 0 p = 0 ∧ ∀ y w, In 64 y → In 4 w → cont r y w = cont ob y w := by
  have hP := h.pi.hP
  have hN := h.pi.hN
  rw [h.i0] at hP
  rw [h.i1] at hN
  have d := a4 (N := N.toInt) (by omega) ha
  obtain ⟨o1, o2, c1, w1, o3, e, s1, s2, rr, -, lc, pr, r0, ec⟩ := ld_e NF hNF h.pi (by rw [h.i0]; exact hp) (by rw [h.i1]; exact ha) hz (WR_T h.wr) (WR_b h.wr ⟨hp.1, by omega⟩)
  have w1' : WR o1 := WR_c h.wr (s1 3 (by decide)) (fun k x hk => s2 k x (by omega))
  have w2 := WR_rr ⟨hp.1, by omega⟩ ⟨d.2.2.1.1, by have := d.2.2.1.2; omega⟩ w1' rr
  have gr : ∀ k, k < 4 → gI (sI o3 4 0) k = gI ob k := fun k hk => by
    rw [gI_sI, if_neg (by omega), lc.si k (by omega) (by omega), rr.si, s1 k (by omega)]
  refine ⟨_, e, ⟨pr, WR_c w2 ?_ (fun k x hk => lc.sa k x (by omega)), (gr 0 (by omega)).trans h.i0, (gr 1 (by omega)).trans h.i1⟩, rfl, r0, ec⟩
  rw [gr 3 (by omega), rr.si, s1 3 (by decide)]
theorem rl2 (NF : Nat) (hNF : 70 < NF) {ob : Rec} {P N p : Int32} (h : OkP ob P N) (hp : In P.toInt p) :
    ∃ r, X_release NF ob p = some (0, r) ∧ OkP r P N ∧ ∀ y w, In 64 y → In 4 w → cont r y w = if y.toInt / 16 = p.toInt then 0 else cont ob y w := by
  have hP := h.pi.hP
  rw [h.i0] at hP
  have hp4 : In 4 p := ⟨hp.1, by omega⟩
  obtain ⟨o1, o2, o3, e, d, hs, -, lc, pr, r0, ec⟩ := rl_e NF hNF h.pi (p := p) (by rw [h.i0]; exact hp)
  have w1' : WR o1 := WR_c h.wr (d.si 3) (fun k x hk => d.sa k x (by omega))
  have w2 : WR o2 := by
    rw [← hs]
    refine ⟨w1'.1, fun q hq => ⟨?_, fun j hj => ?_⟩⟩
    · by_cases c : q = p
      · rw [c]
        have : gA (sA (sA (sA (sA (sA (sA o1 1 p 0) 2 p 0) 3 p 0) 4 p 0) 5 p 0) 0 p 0) 3 p = 0 := by simp [gA_sA]
        rw [this]; exact ⟨by decide, by have := w1'.1.1; show (0 : Int) < (gI o1 3).toInt; omega⟩
      · have : gA (sA (sA (sA (sA (sA (sA o1 1 p 0) 2 p 0) 3 p 0) 4 p 0) 5 p 0) 0 p 0) 3 q = gA o1 3 q := by simp [gA_sA, c]
        rw [this]; exact (w1'.2 q hq).1
    · exact (w1'.2 q hq).2 j hj
  have i2 : ∀ k, gI o2 k = gI ob k := fun k => by rw [← hs]; exact d.si k
  have gr : ∀ k, k < 4 → gI (sI o3 4 0) k = gI ob k := fun k hk => by
    rw [gI_sI, if_neg (by omega), lc.si k (by omega) (by omega), i2]
  refine ⟨_, e, ⟨pr, WR_c w2 ?_ (fun k x hk => lc.sa k x (by omega)), (gr 0 (by omega)).trans h.i0, (gr 1 (by omega)).trans h.i1⟩, ec⟩
  rw [gr 3 (by omega), i2]
def Sv (ob : Rec) (p a : Int32) : Int32 := cont ob (p * 16 + a / 4) (a % 4)
theorem sv_eq {p q a b : Int32} (hp : In 4 p) (hq : In 4 q) (ha : In 64 a) (hb : In 64 b) : (p * 16 + a / 4 = q * 16 + b / 4 ∧ a % 4 = b % 4) ↔ (p = q ∧ a = b) := by
  have x := a4 (N := 16) (by omega) (a := a) ha
  have y := a4 (N := 16) (by omega) (a := b) hb
  have e1 := px hp x.2.2.1
  have e2 := px hq y.2.2.1
  constructor
  · intro ⟨h1, h2⟩
    rw [eq_i32, e1, e2] at h1
    rw [eq_i32] at h2
    exact ⟨eq_i32.mpr (by omega), eq_i32.mpr (by omega)⟩
  · intro ⟨h1, h2⟩; rw [h1, h2]; exact ⟨rfl, rfl⟩
abbrev J (o0 o1 : Rec) : Prop := (OkP o0 4 4) ∧ (OkP o1 1 16) ∧ (gA o1 0 0 = 0) ∧ (∀ p a, In 4 p → In 16 a → Sv o0 p a = Sv o1 0 (p * 16 + a))
theorem J.k0 {o0 o1 : Rec} (h : J o0 o1) : OkP o0 4 4 := h.1
theorem J.k1 {o0 o1 : Rec} (h : J o0 o1) : OkP o1 1 16 := h.2.1
theorem J.z1 {o0 o1 : Rec} (h : J o0 o1) : gA o1 0 0 = 0 := h.2.2.1
theorem J.rl {o0 o1 : Rec} (h : J o0 o1) : ∀ p a, In 4 p → In 16 a → Sv o0 p a = Sv o1 0 (p * 16 + a) := h.2.2.2
theorem sin {p a : Int32} (hp : In 4 p) (ha : In 64 a) : In 64 (p * 16 + a / 4) ∧ In 4 (a % 4) := by
  have x := a4 (N := 16) (by omega) (a := a) ha
  have e1 := px hp x.2.2.1
  exact ⟨by rw [In, e1]; omega, x.2.2.2⟩
theorem pa {p a : Int32} (hp : In 4 p) (ha : In 16 a) : In 64 (p * 16 + a) := by
  have := px hp ha
  rw [In, this]; omega
theorem l227 (NF : Nat) (hNF : 70 < NF) (z : Int32) (f : Int32 → Int32) (k52 : Rec → Rec → Int32 → Option Int32) (o0 : Rec) (i5 p : Int32) (hp : In 4 p) : ∀ (m fuel : Nat) (o1 : Rec) (i : Int32), m < fuel → OkP o1 1 16 → gA o1 0 0 = 0 → 0 ≤ i.toInt → i.toInt ≤ 16 → 16 - i.toInt ≤ m →
    ∃ r, L_law_l227 NF z f k52 fuel o0 o1 i5 p i = k52 o0 r (i5 + 1) ∧ OkP r 1 16 ∧ gA r 0 0 = 0 ∧ (∀ q a, In 4 q → In 16 a → Sv r 0 (q * 16 + a) = if q = p ∧ i.toInt ≤ a.toInt then 0 else Sv o1 0 (q * 16 + a)) := by
  have fin : ∀ (n : Nat) (o1 : Rec) (i : Int32), OkP o1 1 16 → gA o1 0 0 = 0 → ¬ i.toInt < 16 → ∃ r, L_law_l227 NF z f k52 (n + 1) o0 o1 i5 p i = k52 o0 r (i5 + 1) ∧ OkP r 1 16 ∧ gA r 0 0 = 0 ∧ (∀ q a, In 4 q → In 16 a → Sv r 0 (q * 16 + a) = if q = p ∧ i.toInt ≤ a.toInt then 0 else Sv o1 0 (q * 16 + a)) := by
    intro n o1 i h hz hi
    refine ⟨o1, ?_, h, hz, fun q a hq ha => by rw [if_neg (fun e => by omega)]⟩
    show L_law_w227 NF z f k52 _ o0 o1 i5 p i = _
    unfold L_law_w227; rw [if_neg (nltn (m := 16) rfl hi)]
  intro m
  induction m with
  | zero =>
    intro fuel o1 i hfu h hz h0 h1 h2
    obtain ⟨n, rfl⟩ : ∃ n, fuel = n + 1 := ⟨fuel - 1, by omega⟩
    exact fin n o1 i h hz (by omega)
  | succ m ih =>
    intro fuel o1 i hfu h hz h0 h1 h2
    obtain ⟨n, rfl⟩ : ∃ n, fuel = n + 1 := ⟨fuel - 1, by omega⟩
    by_cases hc : i.toInt < 16
    · have ei := s1 (i := i) (by omega)
      obtain ⟨r, e, ok, rz, ec⟩ := st2 NF hNF (v := 0) h (p := 0) (a := p * 16 + i) ⟨by decide, by decide⟩ (pa hp ⟨h0, hc⟩) hz
      obtain ⟨q, e2, ok2, qz, es⟩ := ih n r (i + 1) (by omega) ok rz (by omega) (by omega) (by omega)
      refine ⟨q, ?_, ok2, qz, fun t a ht ha => ?_⟩
      · rw [← e2]
        show L_law_w227 NF z f k52 _ o0 o1 i5 p i = _
        unfold L_law_w227; rw [if_pos (ltn (m := 16) rfl hc), e, bind2_some]
      · rw [es t a ht ha]
        have s := sin (p := 0) (a := t * 16 + a) ⟨by decide, by decide⟩ (pa ht ha)
        have hv : Sv r 0 (t * 16 + a) = if t = p ∧ a = i then 0 else Sv o1 0 (t * 16 + a) := by
          unfold Sv
          rw [ec _ _ s.1 s.2]
          have q := sv_eq (p := 0) (q := 0) (a := t * 16 + a) (b := p * 16 + i) ⟨by decide, by decide⟩ ⟨by decide, by decide⟩ (pa ht ha) (pa hp ⟨h0, hc⟩)
          by_cases c : t = p ∧ a = i
          · rw [if_pos c, if_pos (q.mpr ⟨rfl, by rw [c.1, c.2]⟩)]
          · rw [if_neg c, if_neg (fun e => c (px_inj ht hp ha ⟨h0, hc⟩ (q.mp e).2))]
        rw [hv]
        by_cases c1 : t = p ∧ a = i
        · rw [if_pos c1, if_pos (show t = p ∧ i.toInt ≤ a.toInt from ⟨c1.1, by rw [c1.2]; omega⟩)]; split <;> rfl
        · rw [if_neg c1]
          by_cases c2 : t = p ∧ i.toInt ≤ a.toInt
          · have : ¬ a.toInt = i.toInt := fun e => c1 ⟨c2.1, eq_i32.mpr e⟩
            rw [if_pos c2, if_pos ⟨c2.1, by omega⟩]
          · rw [if_neg c2, if_neg (fun e => c2 ⟨e.1, by omega⟩)]
    · exact fin n o1 i h hz hc
theorem law_l (NF : Nat) (hNF : 70 < NF) (z : Int32) (f : Int32 → Int32) (hz : z.toInt ≤ 260) : ∀ (m fuel : Nat) (o0 o1 : Rec) (i : Int32), m < fuel → J o0 o1 → 0 ≤ i.toInt → i.toInt ≤ 300 → 300 - i.toInt ≤ m → L_law_l52 NF z f fuel o0 o1 i = some 1 := by
  intro m
  induction m with
  | zero =>
    intro fuel o0 o1 i hfu h h0 h1 h2
    obtain ⟨n, rfl⟩ : ∃ n, fuel = n + 1 := ⟨fuel - 1, by omega⟩
    show L_law_w52 NF z f _ o0 o1 i = _
    unfold L_law_w52; rw [if_neg (by rw [lt_i]; omega)]
  | succ m ih =>
    intro fuel o0 o1 i hfu h h0 h1 h2
    obtain ⟨n, rfl⟩ : ∃ n, fuel = n + 1 := ⟨fuel - 1, by omega⟩
    show L_law_w52 NF z f (L_law_l52 NF z f n) o0 o1 i = _
    unfold L_law_w52
    by_cases hc : i < z
    · have hc' := lt_i.mp hc
      have ei := s1 (i := i) (by omega)
      have nx : ∀ o0 o1, J o0 o1 → L_law_l52 NF z f n o0 o1 (i + 1) = some 1 := fun o0 o1 h => ih n o0 o1 (i + 1) (by omega) h (by omega) (by omega) (by omega)
      have ce : L_cell z f i = some (f i) := by unfold L_cell; rw [if_pos hc, chk_ok ⟨h0, hc'⟩]
      rw [if_pos hc, ce, Option.bind_some]
      generalize f i = x
      have hp0 := and_b ((x.toUInt32 >>> ((4 : Int32) &&& 31).toUInt32).toInt32) 3 3 rfl (by omega)
      have ha0 := and_b ((x.toUInt32 >>> ((6 : Int32) &&& 31).toUInt32).toInt32) 15 15 rfl (by omega)
      generalize ((x.toUInt32 >>> ((4 : Int32) &&& 31).toUInt32).toInt32) &&& 3 = p at hp0 ⊢
      generalize ((x.toUInt32 >>> ((6 : Int32) &&& 31).toUInt32).toInt32) &&& 15 = a at ha0 ⊢
      generalize (x >>> ((10 : Int32) &&& 31)) ^^^ (i * (-1640531535 : Int32)) = v
      have hp : In 4 p := ⟨hp0.1, by omega⟩
      have ha : In 16 a := ⟨ha0.1, by omega⟩
      have hpa := pa hp ha
      have i0 : In 4 (0 : Int32) := ⟨by decide, by decide⟩
      have a64 : In 64 a := ⟨ha.1, by omega⟩
      have hpP : In (4 : Int32).toInt p := hp
      have haN : In (4 * (4 : Int32).toInt) a := ha
      have h0P : In (1 : Int32).toInt (0 : Int32) := ⟨by decide, by decide⟩
      have hAN : In (4 * (16 : Int32).toInt) (p * 16 + a) := hpa
      by_cases c1 : (x &&& 15) < 7
      · rw [if_pos c1]
        by_cases cz : gA o0 0 p = 0
        · obtain ⟨r, e, ok, -, ec⟩ := st2 NF hNF (v := v) h.k0 hpP haN cz
          obtain ⟨s, e', ok', sz, ec'⟩ := st2 NF hNF (v := v) h.k1 h0P hAN h.z1
          rw [e, bind2_some, if_pos rfl, e', bind2_some]
          refine nx r s ⟨ok, ok', sz, fun q b hq hb => ?_⟩
          have hqb := pa hq hb
          have b64 : In 64 b := ⟨hb.1, by omega⟩
          have s1 := sin hq b64
          have s2 := sin i0 hqb
          unfold Sv
          rw [ec _ _ s1.1 s1.2, ec' _ _ s2.1 s2.2]
          have q1 := sv_eq hq hp b64 a64
          have q2 := sv_eq i0 i0 hqb hpa
          by_cases c : q = p ∧ b = a
          · rw [if_pos (q1.mpr c), if_pos (q2.mpr ⟨rfl, by rw [c.1, c.2]⟩)]
          · rw [if_neg (fun e => c (q1.mp e)), if_neg (fun e => c (px_inj hq hp hb ha (q2.mp e).2))]
            exact h.rl q b hq hb
        · rw [st_s NF h.k0.pi (by rw [h.k0.i0]; exact hpP) (by rw [h.k0.i1]; exact haN) cz, bind2_some, if_neg (by decide)]
          exact nx _ _ ⟨⟨PI_c h.k0.pi (fun k hk => by rw [gI_sI, if_neg (by omega)]) (fun _ _ _ => rfl), h.k0.wr, h.k0.i0, h.k0.i1⟩, h.k1, h.z1, h.rl⟩
      · rw [if_neg c1]
        by_cases c2 : (x &&& 15) < 14
        · rw [if_pos c2]
          by_cases cz : gA o0 0 p = 0
          · obtain ⟨r, e, ok, r4, -, ec⟩ := ld2 NF hNF h.k0 hpP haN cz
            obtain ⟨s, e', ok', -, sz, ec'⟩ := ld2 NF hNF h.k1 h0P hAN h.z1
            have hJ : ∀ s', OkP s' 1 16 → gA s' 0 0 = 0 → (∀ y w, In 64 y → In 4 w → cont s' y w = cont o1 y w) → J r s' := by
              intro s' a1 a2 a3
              refine ⟨ok, a1, a2, fun q b hq hb => ?_⟩
              have s1 := sin hq (show In 64 b from ⟨hb.1, by omega⟩)
              have s2 := sin i0 (pa hq hb)
              unfold Sv
              rw [ec _ _ s1.1 s1.2, a3 _ _ s2.1 s2.2]; exact h.rl q b hq hb
            rw [e, bind2_some]
            split
            · exact nx r o1 (hJ o1 h.k1 h.z1 (fun _ _ _ _ => rfl))
            · unfold X_lastStatus
              rw [Option.bind_some, if_pos r4, e', bind2_some, if_pos (show (cont o0 (p * 16 + a / 4) (a % 4)).toInt64 = (cont o1 (0 * 16 + (p * 16 + a) / 4) ((p * 16 + a) % 4)).toInt64 from congrArg Int32.toInt64 (h.rl p a hp ha))]
              exact nx r s (hJ s ok' sz ec')
          · rw [ld_s NF h.k0.pi (by rw [h.k0.i0]; exact hpP) (by rw [h.k0.i1]; exact haN) cz, bind2_some, if_pos rfl]
            exact nx _ _ ⟨⟨PI_c h.k0.pi (fun k hk => by rw [gI_sI, if_neg (by omega)]) (fun _ _ _ => rfl), h.k0.wr, h.k0.i0, h.k0.i1⟩, h.k1, h.z1, h.rl⟩
        · rw [if_neg c2]
          obtain ⟨r, e, ok, ec⟩ := rl2 NF hNF h.k0 hpP
          rw [e, bind2_some, if_pos rfl]
          obtain ⟨s, e2, ok2, sz, es⟩ := l227 NF hNF z f (L_law_l52 NF z f n) r i p hp 16 NF o1 0 (by omega) h.k1 h.z1 (by decide) (by decide) (by decide)
          rw [e2]
          refine nx r s ⟨ok, ok2, sz, fun q b hq hb => ?_⟩
          have s1 := sin hq (show In 64 b from ⟨hb.1, by omega⟩)
          rw [es q b hq hb]
          unfold Sv
          rw [ec _ _ s1.1 s1.2]
          have x := a4 (N := 4) (by omega) (a := b) hb
          have e1 := px (p := q) (g := b / 4) hq ⟨x.2.2.1.1, by have := x.2.2.1.2; omega⟩
          have z0 : (0 : Int32).toInt = 0 := rfl
          have qe : (q * 16 + b / 4).toInt / 16 = q.toInt := by rw [e1]; have := x.2.2.1; omega
          rw [qe, z0]
          by_cases c : q = p
          · rw [if_pos (by rw [c]), if_pos ⟨c, hb.1⟩]
          · rw [if_neg (fun e => c (eq_i32.mpr e)), if_neg (fun e => c e.1)]; exact h.rl q b hq hb
    · rw [if_neg hc]
theorem owed : ∀ (z : Int32) (f : Int32 → Int32), ¬ z < 0 → z ≤ 260 → ∃ NF, L_law NF z f = some 1 := by
  intro z f h0 h1
  refine ⟨400, ?_⟩
  have h1' : z.toInt ≤ 260 := le_i.mp h1
  have ce : ∀ i, ∃ v, i < 2 → 0 ≤ i.toInt → L_cell z f i = some v := by
    intro i
    by_cases c : i < z
    · exact ⟨f i, fun _ h => by unfold L_cell; rw [if_pos c, chk_ok ⟨h, lt_i.mp c⟩]⟩
    · exact ⟨0, fun _ _ => by unfold L_cell; rw [if_neg c]⟩
  obtain ⟨x, ex⟩ := ce 0
  obtain ⟨y, ey⟩ := ce 1
  unfold L_law
  rw [ex (by decide) (by decide), Option.bind_some, ey (by decide) (by decide), Option.bind_some]
  have bx := and_b x 3 3 rfl (by omega)
  have by' := and_b y 7 7 rfl (by omega)
  have f4 : ((4 : Int32) + (x &&& 3)).toInt = 4 + (x &&& 3).toInt := ad (by show -2147483648 ≤ 4 + (x &&& 3).toInt ∧ 4 + (x &&& 3).toInt < 2147483648; omega)
  have f1 : ((1 : Int32) + (y &&& 7)).toInt = 1 + (y &&& 7).toInt := ad (by show -2147483648 ≤ 1 + (y &&& 7).toInt ∧ 1 + (y &&& 7).toInt < 2147483648; omega)
  obtain ⟨Q, e, ⟨q0, q1, q2, q3, -⟩, qA, qp, qc⟩ := ini 400 (by omega) (P := 4) (N := 4) (F := 4 + (x &&& 3)) (T := 1 + (y &&& 7)) (by decide) (by decide) (by omega) (by omega)
  obtain ⟨R, e', ⟨r0, r1, r2, r3, -⟩, rA, rp, rc⟩ := ini 400 (by omega) (P := 1) (N := 16) (F := 32) (T := 16) (by decide) (by decide) (by decide) (by decide)
  rw [e, Option.bind_some, e', Option.bind_some]
  have wr : ∀ Q : Rec, (1 ≤ (gI Q 3).toInt ∧ (gI Q 3).toInt ≤ 16) → (∀ (k : Nat) (x : Int32), k ≤ 8 → gA Q k x = 0) → WR Q := fun Q hT h => ⟨hT, fun p _ => ⟨by rw [h 3 p (by omega)]; exact ⟨by decide, by show (0 : Int) < _; omega⟩, fun j _ => by rw [h 6 _ (by omega)]; exact ⟨by decide, by decide⟩⟩⟩
  refine law_l 400 (by omega) z f h1' 300 400 Q R 2 (by omega) ⟨⟨qp, wr Q (by rw [q3]; omega) qA, q0, q1⟩, ⟨rp, wr R (by rw [r3]; decide) rA, r0, r1⟩, rA 0 0 (by omega), fun p a hp ha => ?_⟩ (by decide) (by decide) (by decide)
  unfold Sv
  rw [qc _ _ (sin hp (show In 64 a from ⟨ha.1, by omega⟩)).1, rc _ _ (sin (p := 0) ⟨by decide, by decide⟩ (pa hp ha)).1]
-- owed : ∀ (z : Int32) (f : Int32 → Int32), ¬ z < 0 → z ≤ 260 → ∃ NF, L_law NF z f = some 1
--COMES--
set_option maxRecDepth 65536 in
set_option maxHeartbeats 4000000 in
theorem comes_1 {Post : Tables → Env → Array Value → State → Outcome → State → Prop} (hpost : ∀ tb e args s v u, (limb_1_1.after args s (.returned v) u = true ∧ limb_1_2.after args s (.returned v) u = true ∧ True) → FrameEnd s (.returned v) u (Jvm.fieldLocs frame_1_writes args s ++ Jvm.arrayLocs frame_1_arrays args s ++ Jvm.staticLocs frame_1_statics s) 88 4032 → Post tb e args s (.returned v) u) :
    ArmFor flags0 classFile x code maxLocals ret World_1 tables_1 room_1 Calls_1 rest_1 Pre_1 Post := by
  intro l hfl _ _ p e ha hc hk s m args below hf hA hF happ hP
  obtain ⟨hcalls, hrest, hpre⟩ := hP
  obtain ⟨-, -, -, hnamed, -, -, -, hat⟩ := (Spec.applies_iff hf).mp happ
  obtain ⟨hg, hn⟩ := and_e (Cond.before_iff.mp (show (Jvm.Cond.and given_1 narrow_1).before args s = true from hpre))
  obtain ⟨hcnt, hg⟩ := and_e hg
  obtain ⟨w0, rfl⟩ : ∃ w0 : Value, args = #[w0] := by
    have hs : args.size = 1 := by simpa [Cond.value, given_1] using hcnt
    obtain ⟨L⟩ := args
    match L, hs with
    | [w0], _ => exact ⟨w0, rfl⟩
  have hw := fun d (hd : d ∈ tables_1) => atoms_spec (ws := Jvm.Cond.code x code maxLocals ret :: tables_1) hat d (List.mem_cons_of_mem _ hd)
  have hfit : Fit s := fun {y c} hc i hi => by
    obtain ⟨ha, rfl⟩ := Array.getElem?_eq_some_iff.mp hc
    have q := List.all_eq_true.mp ((Array.all_eq_true_iff_forall_mem.mp hF) _ (Array.getElem_mem ha)) i (List.mem_range.mpr hi)
    simpa [Array.getElem?_eq_getElem hi] using q
  obtain ⟨n1, n2⟩ := and_e hn
  obtain ⟨sa, ev⟩ := arr_v n1
  obtain rfl : w0 = .ref sa := Option.some.inj ev
  obtain ⟨cl, A⟩ := Arr.start ev n1
  have hsz : cl.slots.size < 2 ^ 31 := by
    rcases Nat.lt_or_ge cl.slots.size (2 ^ 31) with q | q
    · exact q
    · have u : (Term.length (.arg 0)).eval #[.ref sa] s none [] s = none := by
        have v : s.arrayAt? sa = some cl := A.fin (Vm.Alike.refl _)
        have e' : ¬ cl.slots.size < 2 ^ 31 := by omega
        simp only [Term.eval] at ev ⊢
        simp [v, e']
      simp [Cond.value, u] at n2
  obtain ⟨z, hz, F⟩ := Scr.start hfit A hsz
  have hle : z ≤ 260 := by
    have u := len_f (t := .arg 0) (args := #[.ref sa]) (first := s) (o := none) (idx := []) ev (A.fin (Vm.Alike.refl _)) hsz
    rw [hz]; first | (simp only [Cond.value, u] at n2; simpa [Term.eval] using n2) | (simp [Cond.value, u, Term.int_eval] at n2; exact n2) | (simp [Cond.value, u, Term.int_eval] at n2; simpa using n2)
  obtain ⟨NF, hlaw⟩ := owed z (atv cl) F.2.2.1 hle
  have hp := L_law_pay (C := (l, s, s.heap.size, #[.ref sa])) (⟨cl, F, rfl⟩ : ScrF (l, s, s.heap.size, #[.ref sa]) sa z (atv cl)) hlaw hw s.heap (Rep.start s) tables_1
  obtain ⟨n, o, h1, h2, h3, v, L, rfl, ⟨N, G', -, rfl⟩, hq⟩ := hp p e ha hc hk s m _ below hf ((Spec.applies_iff_loose hf).mp happ).1 ⟨rfl, State.Warmed39.refl s, rfl⟩ trivial
  refine ⟨n, _, h1, h2, h3, hpost _ _ _ _ _ _ ⟨Cond.after_iff.mpr rfl, Cond.after_iff.mpr (eq_i res_at (Term.int_eval (1)) rfl), trivial⟩ ⟨hq.1, hq.2.1, (hq.2.2.sift fun y hy => Or.inr (N y hy)).mono (by decide) (by decide)⟩⟩
theorem main_1_1 : Claimed_1_1 := comes_1 fun _ _ _ _ _ _ h hF => ⟨h.1, hF⟩
theorem main_1_2 : Claimed_1_2 := comes_1 fun _ _ _ _ _ _ h hF => ⟨h.2.1, hF⟩
end Jvm.Pilot.@@N@@
namespace Jvm.Pilot.@@N@@
open Jvm Jvm.ClassFile Sem Op Lib Jvm.Free Jvm.Stand Jvm.Pilot.@@N@@.Jvm.D
/-! MADE BY PROGRAM (witnessworld.py) out of the Statement's table words and the real class files: 11 classes; the members and pool entries that the words name. The judged class is class 1, her method 2. -/
namespace start1
open Jvm.ClassFile
def u (s : String) : CpInfo := .utf8 (stringToUtf16 s)
/-- a pool by its gaps: so many unusable entries, then the entry; so many at the end -/
def gap : Nat → List CpInfo → List CpInfo
  | 0, r => r
  | n + 1, r => .unusable :: gap n r
def poolList (es : List (Nat × CpInfo)) (last : Nat) : List CpInfo := es.foldr (fun e r => gap e.1 (e.2 :: r)) (gap last [])
def pool (es : List (Nat × CpInfo)) (last : Nat) : Array CpInfo := ⟨poolList es last⟩
def fileOf (pool : Array CpInfo) (this : Nat) (attrs : Array Attribute := #[]) (ms : Array MethodInfo := #[]) (fl : Nat := 33) (sup : Nat := 0) (ifs : Array Nat := #[]) (fds : Array FieldInfo := #[]) : ClassFile where
  minorVersion := 0
  majorVersion := 65
  constantPool := pool
  accessFlags := fl
  thisClass := this
  superClass := sup
  interfaces := ifs
  fields := fds
  methods := ms
  attributes := attrs
def plain (name : String) (sup : Option ClassId) : Class where
  name := name
  kind := .ordinary
  loader := none
  accessFlags := 33
  super := sup
  interfaces := #[]
  cf := none
  fields := #[]
  methods := #[]
  instanceTypes := #[]
  staticTypes := #[]
  resolved := #[]
  callSites := []
  init := .initialized
  statics := none
  mirror := none

def pool0 : Array CpInfo := pool [(5, u "<init>"), (0, u "()V"), (1, .class_ 10), (1, u "java/lang/Object")] 113

def k0c0 : Code := { maxStack := 0, maxLocals := 1, code := object_method_1_code, exceptionTable := #[], attributes := #[] }
def k0m0 : Method := { name := "<init>", desc := "()V", sig := { parameters := [], returnType := none }, accessFlags := 1, code := some k0c0 }
/-- java/lang/Object -/
def k0 : Class := { plain "java/lang/Object" none with
  accessFlags := 33
  interfaces := #[]
  cf := some (fileOf pool0 8 #[] #[{ accessFlags := 1, nameIndex := 5, descriptorIndex := 6, attributes := #[] }] 33 0 #[] #[])
  fields := #[]
  methods := #[k0m0]
  instanceTypes := #[]
  staticTypes := #[]
  resolved := Array.replicate 124 none
  statics := none }

def pool1 : Array CpInfo := pool [(2, .class_ 4), (1, u "java/lang/Object"), (0, u "<init>"), (0, u "()V"), (0, .methodref 8 9), (0, .class_ 10), (0, .nameAndType 11 12), (0, u "WsClockPagerOwnLaw"), (0, u "cell"), (0, u "([II)I"), (0, .class_ 14), (0, u "WsClockPager"), (0, .methodref 13 16), (0, .nameAndType 5 17), (0, u "(IIII)V"), (0, .integer 2654435761), (0, .methodref 13 20), (0, .nameAndType 21 22), (0, u "store"), (0, u "(III)I"), (0, .methodref 13 24), (0, .nameAndType 25 26), (0, u "load"), (0, u "(II)J"), (0, .long 9223372036854775808), (1, .methodref 13 30), (0, .nameAndType 31 32), (0, u "lastStatus"), (0, u "()I"), (0, .methodref 13 34), (0, .nameAndType 35 36), (0, u "release"), (0, u "(I)I"), (3, u "law"), (0, u "([I)Z")] 4

def k1m0 : Method := { name := "<init>", desc := "()V", sig := { parameters := [], returnType := none }, accessFlags := 1, code := none }
def k1c1 : Code := { maxStack := 2, maxLocals := 2, code := method_2_code, exceptionTable := #[], attributes := #[] }
def k1m1 : Method := { name := "cell", desc := "([II)I", sig := { parameters := [(.array .int), .int], returnType := some .int }, accessFlags := 10, code := some k1c1 }
def k1c2 : Code := { maxStack := 6, maxLocals := 14, code := code, exceptionTable := #[], attributes := #[] }
def k1m2 : Method := { name := "law", desc := "([I)Z", sig := { parameters := [(.array .int)], returnType := some .boolean }, accessFlags := 9, code := some k1c2 }
/-- WsClockPagerOwnLaw -/
def k1 : Class := { plain "WsClockPagerOwnLaw" (some 0) with
  accessFlags := 49
  interfaces := #[]
  cf := some (fileOf pool1 8 #[] #[{ accessFlags := 1, nameIndex := 5, descriptorIndex := 6, attributes := #[] }, { accessFlags := 10, nameIndex := 11, descriptorIndex := 12, attributes := #[] }, { accessFlags := 9, nameIndex := 40, descriptorIndex := 41, attributes := #[] }] 49 2 #[] #[])
  fields := #[]
  methods := #[k1m0, k1m1, k1m2]
  instanceTypes := #[]
  staticTypes := #[]
  resolved := Array.replicate 46 none
  statics := none }

def pool2 : Array CpInfo := pool [(1, .methodref 2 3), (0, .class_ 4), (0, .nameAndType 5 6), (0, u "java/lang/Object"), (0, u "<init>"), (0, u "()V"), (0, .fieldref 8 9), (0, .class_ 10), (0, .nameAndType 11 12), (0, u "WsClockPager"), (0, u "suspended"), (0, u "[Z"), (0, .fieldref 8 14), (0, .nameAndType 15 16), (0, u "vtime"), (0, u "[I"), (0, .fieldref 8 18), (0, .nameAndType 19 16), (0, u "winLen"), (0, .fieldref 8 21), (0, .nameAndType 22 16), (0, u "winHead"), (0, .fieldref 8 24), (0, .nameAndType 25 16), (0, u "wsSize"), (0, .fieldref 8 27), (0, .nameAndType 28 16), (0, u "touchedCount"), (0, .fieldref 8 30), (0, .nameAndType 31 16), (0, u "ring"), (0, .fieldref 8 33), (0, .nameAndType 34 16), (0, u "winCount"), (0, .fieldref 8 36), (0, .nameAndType 37 12), (0, u "touched"), (0, .fieldref 8 39), (0, .nameAndType 40 16), (0, u "pageFrame"), (0, .fieldref 8 42), (0, .nameAndType 43 16), (0, u "pageSlot"), (0, .fieldref 8 45), (0, .nameAndType 46 16), (0, u "pageLastUse"), (0, .fieldref 8 48), (0, .nameAndType 49 16), (0, u "frameOwner"), (0, .fieldref 8 51), (0, .nameAndType 52 12), (0, u "frameRef"), (0, .fieldref 8 54), (0, .nameAndType 55 12), (0, u "frameDirty"), (0, .fieldref 8 57), (0, .nameAndType 58 16), (0, u "frameWords"), (0, .fieldref 8 60), (0, .nameAndType 61 12), (0, u "slotUsed"), (0, .fieldref 8 63), (0, .nameAndType 64 16), (0, u "swapWords"), (0, .methodref 8 66), (0, .nameAndType 67 68), (0, u "clamp"), (0, u "(III)I"), (0, .fieldref 8 70), (0, .nameAndType 71 72), (0, u "procs"), (0, u "I"), (0, .fieldref 8 74), (0, .nameAndType 75 72), (0, u "pages"), (0, .fieldref 8 77), (0, .nameAndType 78 72), (0, u "frames"), (0, .fieldref 8 80), (0, .nameAndType 81 72), (0, u "tau"), (0, .fieldref 8 83), (0, .nameAndType 84 72), (0, u "status"), (0, .fieldref 8 86), (0, .nameAndType 87 72), (0, u "suspensionCount"), (0, .fieldref 8 89), (0, .nameAndType 90 72), (0, u "readmissionCount"), (0, .fieldref 8 92), (0, .nameAndType 93 72), (0, u "hand"), (0, .methodref 8 95), (0, .nameAndType 96 97), (0, u "check"), (0, u "(II)I"), (0, .long 9223372036854775808), (1, .methodref 8 101), (0, .nameAndType 102 97), (0, u "ensureResident"), (0, .methodref 8 104), (0, .nameAndType 105 106), (0, u "recordReference"), (0, u "(II)V"), (0, .methodref 8 108), (0, .nameAndType 109 110), (0, u "loadControl"), (0, u "(I)V"), (0, .methodref 8 112), (0, .nameAndType 113 114), (0, u "validPid"), (0, u "(I)Z"), (0, .methodref 8 116), (0, .nameAndType 117 110), (0, u "discardPage"), (3, .methodref 8 122), (0, .nameAndType 123 106), (0, u "pushWindow"), (0, .methodref 8 125), (0, .nameAndType 126 127), (0, u "activeTotal"), (0, u "()I"), (0, .methodref 8 129), (0, .nameAndType 130 131), (0, u "pickProcessToSuspend"), (0, u "(I)I"), (0, .methodref 8 133), (0, .nameAndType 134 127), (0, u "findFreeFrame"), (0, .methodref 8 136), (0, .nameAndType 137 127), (0, u "chooseVictim"), (0, .methodref 8 139), (0, .nameAndType 140 110), (0, u "evictFrame"), (0, .methodref 8 142), (0, .nameAndType 143 106), (0, u "fillFrame"), (0, .methodref 8 145), (0, .nameAndType 146 110), (0, u "writeBack"), (0, .methodref 8 148), (0, .nameAndType 149 127), (0, u "allocSlot"), (0, u "PAGE_WORDS"), (2, u "OK"), (1, u "BAD_PID"), (1, u "BAD_ADDR"), (1, u "SUSPENDED"), (1, u "REFUSED"), (0, u "J"), (0, u "CFG_PROCS"), (0, u "CFG_PAGES"), (0, u "CFG_FRAMES"), (0, u "CFG_TAU"), (0, u "(IIII)V"), (3, u "load"), (0, u "(II)J"), (0, u "store"), (0, u "release"), (0, u "lastStatus")] 12

def k2c0 : Code := { maxStack := 5, maxLocals := 6, code := prog_1_method_1_code, exceptionTable := #[], attributes := #[] }
def k2m0 : Method := { name := "<init>", desc := "(IIII)V", sig := { parameters := [.int, .int, .int, .int], returnType := none }, accessFlags := 1, code := some k2c0 }
def k2c1 : Code := { maxStack := 4, maxLocals := 7, code := prog_1_method_2_code, exceptionTable := #[], attributes := #[] }
def k2m1 : Method := { name := "load", desc := "(II)J", sig := { parameters := [.int, .int], returnType := some .long }, accessFlags := 1, code := some k2c1 }
def k2c2 : Code := { maxStack := 4, maxLocals := 7, code := prog_1_method_3_code, exceptionTable := #[], attributes := #[] }
def k2m2 : Method := { name := "store", desc := "(III)I", sig := { parameters := [.int, .int, .int], returnType := some .int }, accessFlags := 1, code := some k2c2 }
def k2c3 : Code := { maxStack := 3, maxLocals := 3, code := prog_1_method_4_code, exceptionTable := #[], attributes := #[] }
def k2m3 : Method := { name := "release", desc := "(I)I", sig := { parameters := [.int], returnType := some .int }, accessFlags := 1, code := some k2c3 }
def k2c4 : Code := { maxStack := 1, maxLocals := 1, code := prog_1_method_5_code, exceptionTable := #[], attributes := #[] }
def k2m4 : Method := { name := "lastStatus", desc := "()I", sig := { parameters := [], returnType := some .int }, accessFlags := 1, code := some k2c4 }
def k2c5 : Code := { maxStack := 3, maxLocals := 3, code := prog_1_method_10_code, exceptionTable := #[], attributes := #[] }
def k2m5 : Method := { name := "activeTotal", desc := "()I", sig := { parameters := [], returnType := some .int }, accessFlags := 1, code := some k2c5 }
def k2c6 : Code := { maxStack := 2, maxLocals := 4, code := prog_1_method_16_code, exceptionTable := #[], attributes := #[] }
def k2m6 : Method := { name := "clamp", desc := "(III)I", sig := { parameters := [.int, .int, .int], returnType := some .int }, accessFlags := 2, code := some k2c6 }
def k2c7 : Code := { maxStack := 2, maxLocals := 2, code := prog_1_method_17_code, exceptionTable := #[], attributes := #[] }
def k2m7 : Method := { name := "validPid", desc := "(I)Z", sig := { parameters := [.int], returnType := some .boolean }, accessFlags := 2, code := some k2c7 }
def k2c8 : Code := { maxStack := 3, maxLocals := 3, code := prog_1_method_18_code, exceptionTable := #[], attributes := #[] }
def k2m8 : Method := { name := "check", desc := "(II)I", sig := { parameters := [.int, .int], returnType := some .int }, accessFlags := 2, code := some k2c8 }
def k2c9 : Code := { maxStack := 3, maxLocals := 4, code := prog_1_method_20_code, exceptionTable := #[], attributes := #[] }
def k2m9 : Method := { name := "discardPage", desc := "(I)V", sig := { parameters := [.int], returnType := none }, accessFlags := 2, code := some k2c9 }
def k2c10 : Code := { maxStack := 4, maxLocals := 5, code := prog_1_method_21_code, exceptionTable := #[], attributes := #[] }
def k2m10 : Method := { name := "recordReference", desc := "(II)V", sig := { parameters := [.int, .int], returnType := none }, accessFlags := 2, code := some k2c10 }
def k2c11 : Code := { maxStack := 5, maxLocals := 6, code := prog_1_method_22_code, exceptionTable := #[], attributes := #[] }
def k2m11 : Method := { name := "pushWindow", desc := "(II)V", sig := { parameters := [.int, .int], returnType := none }, accessFlags := 2, code := some k2c11 }
def k2c12 : Code := { maxStack := 3, maxLocals := 5, code := prog_1_method_23_code, exceptionTable := #[], attributes := #[] }
def k2m12 : Method := { name := "loadControl", desc := "(I)V", sig := { parameters := [.int], returnType := none }, accessFlags := 2, code := some k2c12 }
def k2c13 : Code := { maxStack := 2, maxLocals := 3, code := prog_1_method_24_code, exceptionTable := #[], attributes := #[] }
def k2m13 : Method := { name := "pickProcessToSuspend", desc := "(I)I", sig := { parameters := [.int], returnType := some .int }, accessFlags := 2, code := some k2c13 }
def k2c14 : Code := { maxStack := 3, maxLocals := 5, code := prog_1_method_25_code, exceptionTable := #[], attributes := #[] }
def k2m14 : Method := { name := "ensureResident", desc := "(II)I", sig := { parameters := [.int, .int], returnType := some .int }, accessFlags := 2, code := some k2c14 }
def k2c15 : Code := { maxStack := 2, maxLocals := 2, code := prog_1_method_26_code, exceptionTable := #[], attributes := #[] }
def k2m15 : Method := { name := "findFreeFrame", desc := "()I", sig := { parameters := [], returnType := some .int }, accessFlags := 2, code := some k2c15 }
def k2c16 : Code := { maxStack := 5, maxLocals := 6, code := prog_1_method_27_code, exceptionTable := #[], attributes := #[] }
def k2m16 : Method := { name := "fillFrame", desc := "(II)V", sig := { parameters := [.int, .int], returnType := none }, accessFlags := 2, code := some k2c16 }
def k2c17 : Code := { maxStack := 4, maxLocals := 7, code := prog_1_method_28_code, exceptionTable := #[], attributes := #[] }
def k2m17 : Method := { name := "chooseVictim", desc := "()I", sig := { parameters := [], returnType := some .int }, accessFlags := 2, code := some k2c17 }
def k2c18 : Code := { maxStack := 3, maxLocals := 3, code := prog_1_method_29_code, exceptionTable := #[], attributes := #[] }
def k2m18 : Method := { name := "evictFrame", desc := "(I)V", sig := { parameters := [.int], returnType := none }, accessFlags := 2, code := some k2c18 }
def k2c19 : Code := { maxStack := 5, maxLocals := 5, code := prog_1_method_30_code, exceptionTable := #[], attributes := #[] }
def k2m19 : Method := { name := "writeBack", desc := "(I)V", sig := { parameters := [.int], returnType := none }, accessFlags := 2, code := some k2c19 }
def k2c20 : Code := { maxStack := 2, maxLocals := 3, code := prog_1_method_31_code, exceptionTable := #[], attributes := #[] }
def k2m20 : Method := { name := "allocSlot", desc := "()I", sig := { parameters := [], returnType := some .int }, accessFlags := 2, code := some k2c20 }
/-- WsClockPager -/
def k2 : Class := { plain "WsClockPager" (some 0) with
  accessFlags := 49
  interfaces := #[]
  cf := some (fileOf pool2 8 #[] #[{ accessFlags := 1, nameIndex := 5, descriptorIndex := 167, attributes := #[] }, { accessFlags := 1, nameIndex := 171, descriptorIndex := 172, attributes := #[] }, { accessFlags := 1, nameIndex := 173, descriptorIndex := 68, attributes := #[] }, { accessFlags := 1, nameIndex := 174, descriptorIndex := 131, attributes := #[] }, { accessFlags := 1, nameIndex := 175, descriptorIndex := 127, attributes := #[] }, { accessFlags := 1, nameIndex := 126, descriptorIndex := 127, attributes := #[] }, { accessFlags := 2, nameIndex := 67, descriptorIndex := 68, attributes := #[] }, { accessFlags := 2, nameIndex := 113, descriptorIndex := 114, attributes := #[] }, { accessFlags := 2, nameIndex := 96, descriptorIndex := 97, attributes := #[] }, { accessFlags := 2, nameIndex := 117, descriptorIndex := 110, attributes := #[] }, { accessFlags := 2, nameIndex := 105, descriptorIndex := 106, attributes := #[] }, { accessFlags := 2, nameIndex := 123, descriptorIndex := 106, attributes := #[] }, { accessFlags := 2, nameIndex := 109, descriptorIndex := 110, attributes := #[] }, { accessFlags := 2, nameIndex := 130, descriptorIndex := 131, attributes := #[] }, { accessFlags := 2, nameIndex := 102, descriptorIndex := 97, attributes := #[] }, { accessFlags := 2, nameIndex := 134, descriptorIndex := 127, attributes := #[] }, { accessFlags := 2, nameIndex := 143, descriptorIndex := 106, attributes := #[] }, { accessFlags := 2, nameIndex := 137, descriptorIndex := 127, attributes := #[] }, { accessFlags := 2, nameIndex := 140, descriptorIndex := 110, attributes := #[] }, { accessFlags := 2, nameIndex := 146, descriptorIndex := 110, attributes := #[] }, { accessFlags := 2, nameIndex := 149, descriptorIndex := 127, attributes := #[] }] 49 2 #[] #[{ accessFlags := 25, nameIndex := 150, descriptorIndex := 72, attributes := #[] }, { accessFlags := 25, nameIndex := 153, descriptorIndex := 72, attributes := #[] }, { accessFlags := 25, nameIndex := 155, descriptorIndex := 72, attributes := #[] }, { accessFlags := 25, nameIndex := 157, descriptorIndex := 72, attributes := #[] }, { accessFlags := 25, nameIndex := 159, descriptorIndex := 72, attributes := #[] }, { accessFlags := 25, nameIndex := 161, descriptorIndex := 162, attributes := #[] }, { accessFlags := 25, nameIndex := 163, descriptorIndex := 72, attributes := #[] }, { accessFlags := 25, nameIndex := 164, descriptorIndex := 72, attributes := #[] }, { accessFlags := 25, nameIndex := 165, descriptorIndex := 72, attributes := #[] }, { accessFlags := 25, nameIndex := 166, descriptorIndex := 72, attributes := #[] }, { accessFlags := 2, nameIndex := 71, descriptorIndex := 72, attributes := #[] }, { accessFlags := 2, nameIndex := 75, descriptorIndex := 72, attributes := #[] }, { accessFlags := 2, nameIndex := 78, descriptorIndex := 72, attributes := #[] }, { accessFlags := 2, nameIndex := 81, descriptorIndex := 72, attributes := #[] }, { accessFlags := 2, nameIndex := 84, descriptorIndex := 72, attributes := #[] }, { accessFlags := 2, nameIndex := 87, descriptorIndex := 72, attributes := #[] }, { accessFlags := 2, nameIndex := 90, descriptorIndex := 72, attributes := #[] }, { accessFlags := 2, nameIndex := 11, descriptorIndex := 12, attributes := #[] }, { accessFlags := 2, nameIndex := 15, descriptorIndex := 16, attributes := #[] }, { accessFlags := 2, nameIndex := 19, descriptorIndex := 16, attributes := #[] }, { accessFlags := 2, nameIndex := 22, descriptorIndex := 16, attributes := #[] }, { accessFlags := 2, nameIndex := 25, descriptorIndex := 16, attributes := #[] }, { accessFlags := 2, nameIndex := 28, descriptorIndex := 16, attributes := #[] }, { accessFlags := 2, nameIndex := 31, descriptorIndex := 16, attributes := #[] }, { accessFlags := 2, nameIndex := 34, descriptorIndex := 16, attributes := #[] }, { accessFlags := 2, nameIndex := 37, descriptorIndex := 12, attributes := #[] }, { accessFlags := 2, nameIndex := 40, descriptorIndex := 16, attributes := #[] }, { accessFlags := 2, nameIndex := 43, descriptorIndex := 16, attributes := #[] }, { accessFlags := 2, nameIndex := 46, descriptorIndex := 16, attributes := #[] }, { accessFlags := 2, nameIndex := 49, descriptorIndex := 16, attributes := #[] }, { accessFlags := 2, nameIndex := 52, descriptorIndex := 12, attributes := #[] }, { accessFlags := 2, nameIndex := 55, descriptorIndex := 12, attributes := #[] }, { accessFlags := 2, nameIndex := 58, descriptorIndex := 16, attributes := #[] }, { accessFlags := 2, nameIndex := 93, descriptorIndex := 72, attributes := #[] }, { accessFlags := 2, nameIndex := 61, descriptorIndex := 12, attributes := #[] }, { accessFlags := 2, nameIndex := 64, descriptorIndex := 16, attributes := #[] }])
  fields := #[{ name := "PAGE_WORDS", type := .int, accessFlags := 25, slot := 0, constantValue := 0 }, { name := "OK", type := .int, accessFlags := 25, slot := 1, constantValue := 0 }, { name := "BAD_PID", type := .int, accessFlags := 25, slot := 2, constantValue := 0 }, { name := "BAD_ADDR", type := .int, accessFlags := 25, slot := 3, constantValue := 0 }, { name := "SUSPENDED", type := .int, accessFlags := 25, slot := 4, constantValue := 0 }, { name := "REFUSED", type := .long, accessFlags := 25, slot := 5, constantValue := 0 }, { name := "CFG_PROCS", type := .int, accessFlags := 25, slot := 6, constantValue := 0 }, { name := "CFG_PAGES", type := .int, accessFlags := 25, slot := 7, constantValue := 0 }, { name := "CFG_FRAMES", type := .int, accessFlags := 25, slot := 8, constantValue := 0 }, { name := "CFG_TAU", type := .int, accessFlags := 25, slot := 9, constantValue := 0 }, { name := "procs", type := .int, accessFlags := 2, slot := 0, constantValue := 0 }, { name := "pages", type := .int, accessFlags := 2, slot := 1, constantValue := 0 }, { name := "frames", type := .int, accessFlags := 2, slot := 2, constantValue := 0 }, { name := "tau", type := .int, accessFlags := 2, slot := 3, constantValue := 0 }, { name := "status", type := .int, accessFlags := 2, slot := 4, constantValue := 0 }, { name := "suspensionCount", type := .int, accessFlags := 2, slot := 5, constantValue := 0 }, { name := "readmissionCount", type := .int, accessFlags := 2, slot := 6, constantValue := 0 }, { name := "suspended", type := (.array .boolean), accessFlags := 2, slot := 7, constantValue := 0 }, { name := "vtime", type := (.array .int), accessFlags := 2, slot := 8, constantValue := 0 }, { name := "winLen", type := (.array .int), accessFlags := 2, slot := 9, constantValue := 0 }, { name := "winHead", type := (.array .int), accessFlags := 2, slot := 10, constantValue := 0 }, { name := "wsSize", type := (.array .int), accessFlags := 2, slot := 11, constantValue := 0 }, { name := "touchedCount", type := (.array .int), accessFlags := 2, slot := 12, constantValue := 0 }, { name := "ring", type := (.array .int), accessFlags := 2, slot := 13, constantValue := 0 }, { name := "winCount", type := (.array .int), accessFlags := 2, slot := 14, constantValue := 0 }, { name := "touched", type := (.array .boolean), accessFlags := 2, slot := 15, constantValue := 0 }, { name := "pageFrame", type := (.array .int), accessFlags := 2, slot := 16, constantValue := 0 }, { name := "pageSlot", type := (.array .int), accessFlags := 2, slot := 17, constantValue := 0 }, { name := "pageLastUse", type := (.array .int), accessFlags := 2, slot := 18, constantValue := 0 }, { name := "frameOwner", type := (.array .int), accessFlags := 2, slot := 19, constantValue := 0 }, { name := "frameRef", type := (.array .boolean), accessFlags := 2, slot := 20, constantValue := 0 }, { name := "frameDirty", type := (.array .boolean), accessFlags := 2, slot := 21, constantValue := 0 }, { name := "frameWords", type := (.array .int), accessFlags := 2, slot := 22, constantValue := 0 }, { name := "hand", type := .int, accessFlags := 2, slot := 23, constantValue := 0 }, { name := "slotUsed", type := (.array .boolean), accessFlags := 2, slot := 24, constantValue := 0 }, { name := "swapWords", type := (.array .int), accessFlags := 2, slot := 25, constantValue := 0 }]
  methods := #[k2m0, k2m1, k2m2, k2m3, k2m4, k2m5, k2m6, k2m7, k2m8, k2m9, k2m10, k2m11, k2m12, k2m13, k2m14, k2m15, k2m16, k2m17, k2m18, k2m19, k2m20]
  instanceTypes := #[.int, .int, .int, .int, .int, .int, .int, (.array .boolean), (.array .int), (.array .int), (.array .int), (.array .int), (.array .int), (.array .int), (.array .int), (.array .boolean), (.array .int), (.array .int), (.array .int), (.array .int), (.array .boolean), (.array .boolean), (.array .int), .int, (.array .boolean), (.array .int)]
  staticTypes := #[.int, .int, .int, .int, .int, .long, .int, .int, .int, .int]
  resolved := Array.replicate 188 none
  statics := none }

def pool3 : Array CpInfo := pool [(1, u "java/lang/Cloneable"), (0, .class_ 1), (0, u "java/lang/Object"), (0, .class_ 3)] 3

/-- java/lang/Cloneable -/
def k3 : Class := { plain "java/lang/Cloneable" (some 0) with
  accessFlags := 1537
  interfaces := #[]
  cf := some (fileOf pool3 2 #[] #[] 1537 4 #[] #[])
  fields := #[]
  methods := #[]
  instanceTypes := #[]
  staticTypes := #[]
  resolved := Array.replicate 8 none
  statics := none }

def pool4 : Array CpInfo := pool [(1, u "java/io/Serializable"), (0, .class_ 1), (0, u "java/lang/Object"), (0, .class_ 3)] 3

/-- java/io/Serializable -/
def k4 : Class := { plain "java/io/Serializable" (some 0) with
  accessFlags := 1537
  interfaces := #[]
  cf := some (fileOf pool4 2 #[] #[] 1537 4 #[] #[])
  fields := #[]
  methods := #[]
  instanceTypes := #[]
  staticTypes := #[]
  resolved := Array.replicate 8 none
  statics := none }

/-- the primitive boolean -/
def k5 : Class := { plain "boolean" none with kind := .primitive 'Z', accessFlags := 0x411 }
/-- [Z -/
def k6 : Class := { plain "[Z" (some 0) with kind := .array 5 .boolean, interfaces := #[3, 4], accessFlags := 1041 }

/-- the primitive byte -/
def k7 : Class := { plain "byte" none with kind := .primitive 'B', accessFlags := 0x411 }
/-- [B -/
def k8 : Class := { plain "[B" (some 0) with kind := .array 7 .byte, interfaces := #[3, 4], accessFlags := 1041 }

/-- the primitive int -/
def k9 : Class := { plain "int" none with kind := .primitive 'I', accessFlags := 0x411 }
/-- [I -/
def k10 : Class := { plain "[I" (some 0) with kind := .array 9 .int, interfaces := #[3, 4], accessFlags := 1041 }

def heap : Heap := #[{ cls := 10, slots := #[.int 0, .int 3, .int 5], vm := .none }]
def classes : Array Class := #[k0, k1, k2, k3, k4, k5, k6, k7, k8, k9, k10]
def interned : List (Array UInt16 × Addr) := []
def slotsUsed : Nat := 3
def theMethod : MethodId := ⟨1, 2⟩
def args0 : Array Value := #[.ref 0]
def aboutOver (below : List Frame) : State where
  vm := { classes := classes, interned := interned.toArray }
  heap := heap
  slotsUsed := slotsUsed
  threads := #[{ frames := .invoking theMethod args0 :: below }]
def below0 : List Frame := [.native { method := ⟨0, 0⟩, args := #[] }]
def about1 : State := aboutOver below0
def p0 : Program := .bare "" "" ""
def e0 : Env := launch0.env 0 0 0
theorem w_frames : about1.frames = Frame.invoking theMethod args0 :: below0 := rfl
set_option maxRecDepth 65536 in
theorem w_args : argsFit about1.vm theMethod args0 = true := by decide +kernel
set_option maxRecDepth 65536 in
theorem w_heap : heapFits about1 = true := by decide +kernel
set_option maxRecDepth 65536 in
theorem w_runnable : about1.curStatus? = some .runnable := by decide +kernel
set_option maxRecDepth 65536 in
theorem w_alone : about1.alone = true := by decide +kernel
set_option maxRecDepth 65536 in
theorem w_named : about1.methodNamed? x = some theMethod := by decide +kernel
set_option maxRecDepth 65536 in
theorem w_hears : about1.hears theMethod below0 = true := by decide +kernel
set_option maxRecDepth 65536 in
theorem w_ripe : about1.ripe theMethod args0 below0 = true := by decide +kernel
theorem w_running : about1.status = .running := rfl
set_option maxRecDepth 65536 in
theorem w_room : about1.hasRoom e0.platform room_1 = true :=
  launch0.hasRoom_least _ room_1 (by decide +kernel) (by decide +kernel) (by decide +kernel) (by decide +kernel) (by decide +kernel) (by decide +kernel)
theorem allAtoms_all (ts : List Jvm.Cond) (a : Array Jvm.Value) (st : Jvm.State) : (allAtoms ts).before a st = ts.all (fun c => c.before a st) := by
  induction ts with
  | nil => rfl
  | cons c t ih =>
    show (Jvm.Cond.and c (allAtoms t)).before a st = _
    rw [Jvm.Cond.before_and, ih, List.all_cons]
def words1 : List Jvm.Cond := Jvm.Cond.code x code maxLocals ret :: tables_1
/-- a 'code' word, met by the world's own term for the bytes: nothing is compared byte by byte -/
theorem code_word {y : MethodName} {bytes : ByteArray} {mx : Nat} {rt : Option FieldType} {a : Array Value} {s : State} {m : MethodId} {meth : Method} {c : Code} (h1 : s.methodNamed? y = some m) (h2 : s.vm.method? m = some meth) (h3 : meth.code = some c) (h4 : c.code = bytes)
    (h5 : (c.maxLocals == mx && c.exceptionTable.isEmpty && decide (c.maxStack ≤ mostOperands) && decide (meth.sig.returnType = rt) && !meth.locks && decide (parseMethodDescriptor y.desc = some meth.sig)) = true) : (Jvm.Cond.code y bytes mx rt).before a s = true := by
  simp only [Bool.and_eq_true, beq_iff_eq, Bool.not_eq_true', decide_eq_true_eq] at h5
  obtain ⟨⟨⟨⟨⟨g1, g2⟩, g3⟩, g4⟩, g5⟩, g6⟩ := h5
  simp [Cond.before, Cond.holds, Cond.value, h1, h2, h3, h4, g1, g2, g3, g4, g5, g6]
def isCode : Jvm.Cond → Bool
  | .code _ _ _ _ => true
  | _ => false
theorem all_split {L : List Jvm.Cond} {P : Jvm.Cond → Bool} (h1 : L.all (fun c => isCode c || P c) = true) (h2 : ∀ c ∈ L.filter isCode, P c = true) : L.all P = true := by
  refine List.all_eq_true.mpr fun c hc => ?_
  have h := List.all_eq_true.mp h1 c hc
  rcases Bool.eq_false_or_eq_true (isCode c) with hi | hi
  · exact h2 c (List.mem_filter.mpr ⟨hc, hi⟩)
  · simpa [hi] using h
set_option maxRecDepth 65536 in
theorem w_c0 : (Jvm.Cond.code x code maxLocals ret).before args0 about1 = true := code_word (m := ⟨1, 2⟩) (meth := k1m2) (c := k1c2) (by decide +kernel) rfl rfl rfl (by decide +kernel)
set_option maxRecDepth 65536 in
theorem w_c1 : (Jvm.Cond.code ({ cls := "WsClockPagerOwnLaw", name := "cell", desc := "([II)I" } : Jvm.MethodName) method_2_code (2 : Nat) (Option.some Jvm.ClassFile.FieldType.int)).before args0 about1 = true := code_word (m := ⟨1, 1⟩) (meth := k1m1) (c := k1c1) (by decide +kernel) rfl rfl rfl (by decide +kernel)
set_option maxRecDepth 65536 in
theorem w_c2 : (Jvm.Cond.code ({ cls := "WsClockPager", name := "<init>", desc := "(IIII)V" } : Jvm.MethodName) prog_1_method_1_code (6 : Nat) (Option.none : Option Jvm.ClassFile.FieldType)).before args0 about1 = true := code_word (m := ⟨2, 0⟩) (meth := k2m0) (c := k2c0) (by decide +kernel) rfl rfl rfl (by decide +kernel)
set_option maxRecDepth 65536 in
theorem w_c3 : (Jvm.Cond.code ({ cls := "java/lang/Object", name := "<init>", desc := "()V" } : Jvm.MethodName) object_method_1_code (1 : Nat) (Option.none : Option Jvm.ClassFile.FieldType)).before args0 about1 = true := code_word (m := ⟨0, 0⟩) (meth := k0m0) (c := k0c0) (by decide +kernel) rfl rfl rfl (by decide +kernel)
set_option maxRecDepth 65536 in
theorem w_c4 : (Jvm.Cond.code ({ cls := "WsClockPager", name := "clamp", desc := "(III)I" } : Jvm.MethodName) prog_1_method_16_code (4 : Nat) (Option.some Jvm.ClassFile.FieldType.int)).before args0 about1 = true := code_word (m := ⟨2, 6⟩) (meth := k2m6) (c := k2c6) (by decide +kernel) rfl rfl rfl (by decide +kernel)
set_option maxRecDepth 65536 in
theorem w_c5 : (Jvm.Cond.code ({ cls := "WsClockPager", name := "store", desc := "(III)I" } : Jvm.MethodName) prog_1_method_3_code (7 : Nat) (Option.some Jvm.ClassFile.FieldType.int)).before args0 about1 = true := code_word (m := ⟨2, 2⟩) (meth := k2m2) (c := k2c2) (by decide +kernel) rfl rfl rfl (by decide +kernel)
set_option maxRecDepth 65536 in
theorem w_c6 : (Jvm.Cond.code ({ cls := "WsClockPager", name := "check", desc := "(II)I" } : Jvm.MethodName) prog_1_method_18_code (3 : Nat) (Option.some Jvm.ClassFile.FieldType.int)).before args0 about1 = true := code_word (m := ⟨2, 8⟩) (meth := k2m8) (c := k2c8) (by decide +kernel) rfl rfl rfl (by decide +kernel)
set_option maxRecDepth 65536 in
theorem w_c7 : (Jvm.Cond.code ({ cls := "WsClockPager", name := "validPid", desc := "(I)Z" } : Jvm.MethodName) prog_1_method_17_code (2 : Nat) (Option.some Jvm.ClassFile.FieldType.boolean)).before args0 about1 = true := code_word (m := ⟨2, 7⟩) (meth := k2m7) (c := k2c7) (by decide +kernel) rfl rfl rfl (by decide +kernel)
set_option maxRecDepth 65536 in
theorem w_c8 : (Jvm.Cond.code ({ cls := "WsClockPager", name := "ensureResident", desc := "(II)I" } : Jvm.MethodName) prog_1_method_25_code (5 : Nat) (Option.some Jvm.ClassFile.FieldType.int)).before args0 about1 = true := code_word (m := ⟨2, 14⟩) (meth := k2m14) (c := k2c14) (by decide +kernel) rfl rfl rfl (by decide +kernel)
set_option maxRecDepth 65536 in
theorem w_c9 : (Jvm.Cond.code ({ cls := "WsClockPager", name := "findFreeFrame", desc := "()I" } : Jvm.MethodName) prog_1_method_26_code (2 : Nat) (Option.some Jvm.ClassFile.FieldType.int)).before args0 about1 = true := code_word (m := ⟨2, 15⟩) (meth := k2m15) (c := k2c15) (by decide +kernel) rfl rfl rfl (by decide +kernel)
set_option maxRecDepth 65536 in
theorem w_c10 : (Jvm.Cond.code ({ cls := "WsClockPager", name := "fillFrame", desc := "(II)V" } : Jvm.MethodName) prog_1_method_27_code (6 : Nat) (Option.none : Option Jvm.ClassFile.FieldType)).before args0 about1 = true := code_word (m := ⟨2, 16⟩) (meth := k2m16) (c := k2c16) (by decide +kernel) rfl rfl rfl (by decide +kernel)
set_option maxRecDepth 65536 in
theorem w_c11 : (Jvm.Cond.code ({ cls := "WsClockPager", name := "recordReference", desc := "(II)V" } : Jvm.MethodName) prog_1_method_21_code (5 : Nat) (Option.none : Option Jvm.ClassFile.FieldType)).before args0 about1 = true := code_word (m := ⟨2, 10⟩) (meth := k2m10) (c := k2c10) (by decide +kernel) rfl rfl rfl (by decide +kernel)
set_option maxRecDepth 65536 in
theorem w_c12 : (Jvm.Cond.code ({ cls := "WsClockPager", name := "pushWindow", desc := "(II)V" } : Jvm.MethodName) prog_1_method_22_code (6 : Nat) (Option.none : Option Jvm.ClassFile.FieldType)).before args0 about1 = true := code_word (m := ⟨2, 11⟩) (meth := k2m11) (c := k2c11) (by decide +kernel) rfl rfl rfl (by decide +kernel)
set_option maxRecDepth 65536 in
theorem w_c13 : (Jvm.Cond.code ({ cls := "WsClockPager", name := "loadControl", desc := "(I)V" } : Jvm.MethodName) prog_1_method_23_code (5 : Nat) (Option.none : Option Jvm.ClassFile.FieldType)).before args0 about1 = true := code_word (m := ⟨2, 12⟩) (meth := k2m12) (c := k2c12) (by decide +kernel) rfl rfl rfl (by decide +kernel)
set_option maxRecDepth 65536 in
theorem w_c14 : (Jvm.Cond.code ({ cls := "WsClockPager", name := "activeTotal", desc := "()I" } : Jvm.MethodName) prog_1_method_10_code (3 : Nat) (Option.some Jvm.ClassFile.FieldType.int)).before args0 about1 = true := code_word (m := ⟨2, 5⟩) (meth := k2m5) (c := k2c5) (by decide +kernel) rfl rfl rfl (by decide +kernel)
set_option maxRecDepth 65536 in
theorem w_c15 : (Jvm.Cond.code ({ cls := "WsClockPager", name := "load", desc := "(II)J" } : Jvm.MethodName) prog_1_method_2_code (7 : Nat) (Option.some Jvm.ClassFile.FieldType.long)).before args0 about1 = true := code_word (m := ⟨2, 1⟩) (meth := k2m1) (c := k2c1) (by decide +kernel) rfl rfl rfl (by decide +kernel)
set_option maxRecDepth 65536 in
theorem w_c16 : (Jvm.Cond.code ({ cls := "WsClockPager", name := "lastStatus", desc := "()I" } : Jvm.MethodName) prog_1_method_5_code (1 : Nat) (Option.some Jvm.ClassFile.FieldType.int)).before args0 about1 = true := code_word (m := ⟨2, 4⟩) (meth := k2m4) (c := k2c4) (by decide +kernel) rfl rfl rfl (by decide +kernel)
set_option maxRecDepth 65536 in
theorem w_c17 : (Jvm.Cond.code ({ cls := "WsClockPager", name := "release", desc := "(I)I" } : Jvm.MethodName) prog_1_method_4_code (3 : Nat) (Option.some Jvm.ClassFile.FieldType.int)).before args0 about1 = true := code_word (m := ⟨2, 3⟩) (meth := k2m3) (c := k2c3) (by decide +kernel) rfl rfl rfl (by decide +kernel)
set_option maxRecDepth 65536 in
theorem w_c18 : (Jvm.Cond.code ({ cls := "WsClockPager", name := "discardPage", desc := "(I)V" } : Jvm.MethodName) prog_1_method_20_code (4 : Nat) (Option.none : Option Jvm.ClassFile.FieldType)).before args0 about1 = true := code_word (m := ⟨2, 9⟩) (meth := k2m9) (c := k2c9) (by decide +kernel) rfl rfl rfl (by decide +kernel)
set_option maxRecDepth 65536 in
theorem w_c19 : (Jvm.Cond.code ({ cls := "WsClockPager", name := "chooseVictim", desc := "()I" } : Jvm.MethodName) prog_1_method_28_code (7 : Nat) (Option.some Jvm.ClassFile.FieldType.int)).before args0 about1 = true := code_word (m := ⟨2, 17⟩) (meth := k2m17) (c := k2c17) (by decide +kernel) rfl rfl rfl (by decide +kernel)
set_option maxRecDepth 65536 in
theorem w_c20 : (Jvm.Cond.code ({ cls := "WsClockPager", name := "evictFrame", desc := "(I)V" } : Jvm.MethodName) prog_1_method_29_code (3 : Nat) (Option.none : Option Jvm.ClassFile.FieldType)).before args0 about1 = true := code_word (m := ⟨2, 18⟩) (meth := k2m18) (c := k2c18) (by decide +kernel) rfl rfl rfl (by decide +kernel)
set_option maxRecDepth 65536 in
theorem w_c21 : (Jvm.Cond.code ({ cls := "WsClockPager", name := "pickProcessToSuspend", desc := "(I)I" } : Jvm.MethodName) prog_1_method_24_code (3 : Nat) (Option.some Jvm.ClassFile.FieldType.int)).before args0 about1 = true := code_word (m := ⟨2, 13⟩) (meth := k2m13) (c := k2c13) (by decide +kernel) rfl rfl rfl (by decide +kernel)
set_option maxRecDepth 65536 in
theorem w_c22 : (Jvm.Cond.code ({ cls := "WsClockPager", name := "writeBack", desc := "(I)V" } : Jvm.MethodName) prog_1_method_30_code (5 : Nat) (Option.none : Option Jvm.ClassFile.FieldType)).before args0 about1 = true := code_word (m := ⟨2, 19⟩) (meth := k2m19) (c := k2c19) (by decide +kernel) rfl rfl rfl (by decide +kernel)
set_option maxRecDepth 65536 in
theorem w_c23 : (Jvm.Cond.code ({ cls := "WsClockPager", name := "allocSlot", desc := "()I" } : Jvm.MethodName) prog_1_method_31_code (3 : Nat) (Option.some Jvm.ClassFile.FieldType.int)).before args0 about1 = true := code_word (m := ⟨2, 20⟩) (meth := k2m20) (c := k2c20) (by decide +kernel) rfl rfl rfl (by decide +kernel)
def codes1 : List Jvm.Cond := [Jvm.Cond.code x code maxLocals ret, Jvm.Cond.code ({ cls := "WsClockPagerOwnLaw", name := "cell", desc := "([II)I" } : Jvm.MethodName) method_2_code (2 : Nat) (Option.some Jvm.ClassFile.FieldType.int), Jvm.Cond.code ({ cls := "WsClockPager", name := "<init>", desc := "(IIII)V" } : Jvm.MethodName) prog_1_method_1_code (6 : Nat) (Option.none : Option Jvm.ClassFile.FieldType), Jvm.Cond.code ({ cls := "java/lang/Object", name := "<init>", desc := "()V" } : Jvm.MethodName) object_method_1_code (1 : Nat) (Option.none : Option Jvm.ClassFile.FieldType), Jvm.Cond.code ({ cls := "WsClockPager", name := "clamp", desc := "(III)I" } : Jvm.MethodName) prog_1_method_16_code (4 : Nat) (Option.some Jvm.ClassFile.FieldType.int), Jvm.Cond.code ({ cls := "WsClockPager", name := "store", desc := "(III)I" } : Jvm.MethodName) prog_1_method_3_code (7 : Nat) (Option.some Jvm.ClassFile.FieldType.int), Jvm.Cond.code ({ cls := "WsClockPager", name := "check", desc := "(II)I" } : Jvm.MethodName) prog_1_method_18_code (3 : Nat) (Option.some Jvm.ClassFile.FieldType.int), Jvm.Cond.code ({ cls := "WsClockPager", name := "validPid", desc := "(I)Z" } : Jvm.MethodName) prog_1_method_17_code (2 : Nat) (Option.some Jvm.ClassFile.FieldType.boolean), Jvm.Cond.code ({ cls := "WsClockPager", name := "ensureResident", desc := "(II)I" } : Jvm.MethodName) prog_1_method_25_code (5 : Nat) (Option.some Jvm.ClassFile.FieldType.int), Jvm.Cond.code ({ cls := "WsClockPager", name := "findFreeFrame", desc := "()I" } : Jvm.MethodName) prog_1_method_26_code (2 : Nat) (Option.some Jvm.ClassFile.FieldType.int), Jvm.Cond.code ({ cls := "WsClockPager", name := "fillFrame", desc := "(II)V" } : Jvm.MethodName) prog_1_method_27_code (6 : Nat) (Option.none : Option Jvm.ClassFile.FieldType), Jvm.Cond.code ({ cls := "WsClockPager", name := "recordReference", desc := "(II)V" } : Jvm.MethodName) prog_1_method_21_code (5 : Nat) (Option.none : Option Jvm.ClassFile.FieldType), Jvm.Cond.code ({ cls := "WsClockPager", name := "pushWindow", desc := "(II)V" } : Jvm.MethodName) prog_1_method_22_code (6 : Nat) (Option.none : Option Jvm.ClassFile.FieldType), Jvm.Cond.code ({ cls := "WsClockPager", name := "loadControl", desc := "(I)V" } : Jvm.MethodName) prog_1_method_23_code (5 : Nat) (Option.none : Option Jvm.ClassFile.FieldType), Jvm.Cond.code ({ cls := "WsClockPager", name := "activeTotal", desc := "()I" } : Jvm.MethodName) prog_1_method_10_code (3 : Nat) (Option.some Jvm.ClassFile.FieldType.int), Jvm.Cond.code ({ cls := "WsClockPager", name := "load", desc := "(II)J" } : Jvm.MethodName) prog_1_method_2_code (7 : Nat) (Option.some Jvm.ClassFile.FieldType.long), Jvm.Cond.code ({ cls := "WsClockPager", name := "lastStatus", desc := "()I" } : Jvm.MethodName) prog_1_method_5_code (1 : Nat) (Option.some Jvm.ClassFile.FieldType.int), Jvm.Cond.code ({ cls := "WsClockPager", name := "release", desc := "(I)I" } : Jvm.MethodName) prog_1_method_4_code (3 : Nat) (Option.some Jvm.ClassFile.FieldType.int), Jvm.Cond.code ({ cls := "WsClockPager", name := "discardPage", desc := "(I)V" } : Jvm.MethodName) prog_1_method_20_code (4 : Nat) (Option.none : Option Jvm.ClassFile.FieldType), Jvm.Cond.code ({ cls := "WsClockPager", name := "chooseVictim", desc := "()I" } : Jvm.MethodName) prog_1_method_28_code (7 : Nat) (Option.some Jvm.ClassFile.FieldType.int), Jvm.Cond.code ({ cls := "WsClockPager", name := "evictFrame", desc := "(I)V" } : Jvm.MethodName) prog_1_method_29_code (3 : Nat) (Option.none : Option Jvm.ClassFile.FieldType), Jvm.Cond.code ({ cls := "WsClockPager", name := "pickProcessToSuspend", desc := "(I)I" } : Jvm.MethodName) prog_1_method_24_code (3 : Nat) (Option.some Jvm.ClassFile.FieldType.int), Jvm.Cond.code ({ cls := "WsClockPager", name := "writeBack", desc := "(I)V" } : Jvm.MethodName) prog_1_method_30_code (5 : Nat) (Option.none : Option Jvm.ClassFile.FieldType), Jvm.Cond.code ({ cls := "WsClockPager", name := "allocSlot", desc := "()I" } : Jvm.MethodName) prog_1_method_31_code (3 : Nat) (Option.some Jvm.ClassFile.FieldType.int)]
set_option maxRecDepth 65536 in
theorem codes_eq : words1.filter isCode = codes1 := rfl
theorem w_codes : ∀ c ∈ words1.filter isCode, c.before args0 about1 = true := by
  rw [codes_eq]
  intro c hc
  simp only [codes1, List.mem_cons, List.not_mem_nil, or_false] at hc
  rcases hc with rfl | rfl | rfl | rfl | rfl | rfl | rfl | rfl | rfl | rfl | rfl | rfl | rfl | rfl | rfl | rfl | rfl | rfl | rfl | rfl | rfl | rfl | rfl | rfl
  · exact w_c0
  · exact w_c1
  · exact w_c2
  · exact w_c3
  · exact w_c4
  · exact w_c5
  · exact w_c6
  · exact w_c7
  · exact w_c8
  · exact w_c9
  · exact w_c10
  · exact w_c11
  · exact w_c12
  · exact w_c13
  · exact w_c14
  · exact w_c15
  · exact w_c16
  · exact w_c17
  · exact w_c18
  · exact w_c19
  · exact w_c20
  · exact w_c21
  · exact w_c22
  · exact w_c23
set_option maxRecDepth 65536 in
theorem w_t1 : (words1.take 24).all (fun c => isCode c || c.before args0 about1) = true := by decide +kernel
set_option maxRecDepth 65536 in
theorem w_t2 : ((words1.drop 24).take 24).all (fun c => isCode c || c.before args0 about1) = true := by decide +kernel
set_option maxRecDepth 65536 in
theorem w_t3 : (((words1.drop 24).drop 24).take 24).all (fun c => isCode c || c.before args0 about1) = true := by decide +kernel
set_option maxRecDepth 65536 in
theorem w_t4 : ((((words1.drop 24).drop 24).drop 24).take 24).all (fun c => isCode c || c.before args0 about1) = true := by decide +kernel
set_option maxRecDepth 65536 in
theorem w_t5 : (((((words1.drop 24).drop 24).drop 24).drop 24).take 24).all (fun c => isCode c || c.before args0 about1) = true := by decide +kernel
set_option maxRecDepth 65536 in
theorem w_t6 : ((((((words1.drop 24).drop 24).drop 24).drop 24).drop 24).take 24).all (fun c => isCode c || c.before args0 about1) = true := by decide +kernel
set_option maxRecDepth 65536 in
theorem w_t7 : ((((((words1.drop 24).drop 24).drop 24).drop 24).drop 24).drop 24).all (fun c => isCode c || c.before args0 about1) = true := by decide +kernel
theorem w_tables : (allAtoms (Jvm.Cond.code x code maxLocals ret :: tables_1)).before args0 about1 = true := by
  rw [allAtoms_all]
  show words1.all (fun c => c.before args0 about1) = true
  refine all_split ?_ w_codes
  rw [← List.take_append_drop 24 words1, List.all_append, w_t1, ← List.take_append_drop 24 (words1.drop 24), List.all_append, w_t2, ← List.take_append_drop 24 ((words1.drop 24).drop 24), List.all_append, w_t3, ← List.take_append_drop 24 (((words1.drop 24).drop 24).drop 24), List.all_append, w_t4, ← List.take_append_drop 24 ((((words1.drop 24).drop 24).drop 24).drop 24), List.all_append, w_t5, ← List.take_append_drop 24 (((((words1.drop 24).drop 24).drop 24).drop 24).drop 24), List.all_append, w_t6, w_t7]
  rfl
set_option maxRecDepth 65536 in
theorem w_rest : rest_1_c.before args0 about1 = true := by decide +kernel
set_option maxRecDepth 65536 in
theorem w_case : (Jvm.Cond.and given_1 narrow_1).before args0 about1 = true := by decide +kernel
theorem w_applies : (headSpec (Jvm.Cond.code x code maxLocals ret :: tables_1) room_1).applies x e0.platform about1 = true :=
  (Spec.applies_iff w_frames).mpr ⟨w_running, w_runnable, w_alone, w_named, w_hears, w_ripe, w_room, w_tables⟩
theorem atStart : AtStart classFile x code maxLocals ret World_1 tables_1 room_1 Calls_1 rest_1 Pre_1 launch0 p0 e0 about1 theMethod args0 below0 :=
  ⟨lists_1, trivial, launch0.admits_env _ _ _, launch0.least_env, fairChoices_fair.cas, fairChoices_fair.clock, w_frames, w_args, w_heap, w_applies, trivial, w_rest, w_case⟩
end start1
theorem witness_1 : WitnessClaimed_1 := ⟨start1.p0, start1.e0, start1.about1, start1.theMethod, start1.args0, start1.below0, start1.atStart⟩
end Jvm.Pilot.@@N@@
