import JvmDerived
import JvmDerived.Pilot.@@N@@Statement
import JvmDerived.Pilot.@@N@@Code
set_option linter.unusedVariables false
set_option linter.unusedSimpArgs false
namespace Jvm.RoadKit
open Sem ClassFile Op Lib Jvm.Stand Jvm.Free Jvm.LawKit
section New
variable {p : Program} {l : Launch} {e : Env} {R : Room} {s : State} {m : MethodId} {args : Array Value} {below : List Frame} {meth : Method} {c : Code} {T : State} {locs : List Loc} {cells slots : Nat}
theorem retI (X : Stand p l e R s m args below meth c T locs cells slots) (hx : p.tables.exec = Jvm.exec) {pc : Nat} {Ls : Array Slot} {z : Int32} {rest : List Value} (hret : meth.sig.returnType = some .int) (hd : decode c.code pc = .ok (.ireturn, 1)) {fs : List Frame}
    (hl : ∀ (f : JFrame) (acts : List Action), f.method = m → f.locked = none → f.entered = [] → (doReturn e (T.setTop f) acts (some (.int z))).1 = T.setFrames fs) : Steps p.tables e below (T.setTop (mkF m pc Ls (.int z :: rest))) (T.setFrames fs) := by
  have hm' : T.vm.method? m = some meth := X.method'
  have hn : narrow .int (.int z) = .int z := rfl
  show Steps p.tables e below (T.setTop { method := m, pc := pc, locals := Ls, stack := _ :: rest, locked := none }) _
  jvm_step X.here [X.here.top, hx, hd, hm', hret, hn]
  first | (intro acts; rw [hl _ acts rfl rfl rfl]) | rw [hl _ _ rfl rfl rfl]
  exact Steps.refl _
end New
end Jvm.RoadKit
namespace Jvm.Pilot.@@N@@
open Jvm Jvm.ClassFile Sem Op Lib Jvm.Free Jvm.Stand Jvm.LawKit Jvm.RoadKit Bundle Jvm.Pilot.@@N@@.Jvm.D
/- records: scalars, int-like arrays, long arrays -/
abbrev Rec : Type := (Nat → Int32) × (Nat → Int32 → Int32) × (Nat → Int32 → Int64)
def zrec : Rec := (fun _ => 0, fun _ _ => 0, fun _ _ => 0)
def gI (ob : Rec) (k : Nat) : Int32 := ob.1 k
def gA (ob : Rec) (k : Nat) (i : Int32) : Int32 := ob.2.1 k i
def gJ (ob : Rec) (k : Nat) (i : Int32) : Int64 := ob.2.2 k i
def sI (ob : Rec) (k : Nat) (v : Int32) : Rec := (fun j => if j = k then v else ob.1 j, ob.2)
def sA (ob : Rec) (k : Nat) (i v : Int32) : Rec := (ob.1, fun j x => if j = k ∧ x = i then v else ob.2.1 j x, ob.2.2)
def sJ (ob : Rec) (k : Nat) (i : Int32) (v : Int64) : Rec := (ob.1, ob.2.1, fun j x => if j = k ∧ x = i then v else ob.2.2 j x)
def chk {γ : Type} (n i : Int32) (A : Option γ) : Option γ := if i < 0 then none else if i < n then A else none
def dvz {γ : Type} (y : Int32) (A : Option γ) : Option γ := if y = 0 then none else A
def bind2 {α β γ : Type} (o : Option (α × β)) (f : α → β → Option γ) : Option γ := o.bind fun q => f q.1 q.2
def bind3 {α β γ δ : Type} (o : Option (α × β × δ)) (f : α → β → δ → Option γ) : Option γ := o.bind fun q => f q.1 q.2.1 q.2.2
theorem ite_el {c : Prop} [Decidable c] {γ : Type} {A B : Option γ} {r : γ} {Q : Prop} (h : (if c then A else B) = some r) (t : c → A = some r → Q) (e : ¬ c → B = some r → Q) : Q := by
  by_cases hc : c
  · rw [if_pos hc] at h; exact t hc h
  · rw [if_neg hc] at h; exact e hc h
theorem bind_el {α γ : Type} {o : Option α} {f : α → Option γ} {r : γ} {Q : Prop} (h : o.bind f = some r) (k : ∀ x, o = some x → f x = some r → Q) : Q := by
  cases o with
  | none => cases h
  | some x => exact k x rfl h
theorem bind2_el {α β γ : Type} {o : Option (α × β)} {f : α → β → Option γ} {r : γ} {Q : Prop} (h : bind2 o f = some r) (k : ∀ x y, o = some (x, y) → f x y = some r → Q) : Q := by
  rcases o with _ | ⟨x, y⟩
  · cases h
  · exact k x y rfl h
theorem bind3_el {α β γ δ : Type} {o : Option (α × β × δ)} {f : α → β → δ → Option γ} {r : γ} {Q : Prop} (h : bind3 o f = some r) (k : ∀ x y z, o = some (x, y, z) → f x y z = some r → Q) : Q := by
  rcases o with _ | ⟨x, y, z⟩
  · cases h
  · exact k x y z rfl h
theorem chk_el {γ : Type} {n i : Int32} {A : Option γ} {r : γ} {Q : Prop} (h : chk n i A = some r) (k : (¬ i < 0 ∧ i < n) → A = some r → Q) : Q := by
  unfold chk at h
  by_cases h0 : i < 0
  · rw [if_pos h0] at h; cases h
  · rw [if_neg h0] at h
    by_cases h1 : i < n
    · rw [if_pos h1] at h; exact k ⟨h0, h1⟩ h
    · rw [if_neg h1] at h; cases h
theorem dvz_el {γ : Type} {y : Int32} {A : Option γ} {r : γ} {Q : Prop} (h : dvz y A = some r) (k : y ≠ 0 → A = some r → Q) : Q := by
  unfold dvz at h
  by_cases h0 : y = 0
  · rw [if_pos h0] at h; cases h
  · rw [if_neg h0] at h; exact k h0 h
def All {α : Type} (p : α → Prop) : List α → Prop
  | [] => True
  | x :: l => p x ∧ All p l
theorem All.mem {α : Type} {p : α → Prop} : ∀ {l : List α}, All p l → ∀ {x : α}, x ∈ l → p x
  | [], _, _, h => nomatch h
  | _ :: _, H, _, h => (List.mem_cons.mp h).elim (fun e => e ▸ H.1) (fun e => All.mem H.2 e)
def el (ty : FieldType) (ob : Rec) (k : Nat) (j : Int32) : Value := match ty with
  | .long => .long (ob.2.2 k j)
  | _ => .int (ob.2.1 k j)
def aD (ty : FieldType) : String := match ty with
  | .int => "[I"
  | .boolean => "[Z"
  | _ => "[J"
abbrev Cls : Type := String × List (String × String) × List (String × FieldType × Int32)
abbrev mem1 (k : Nat) {d : Jvm.Cond} (h : tables_1[k]? = some d) : d ∈ tables_1 := List.mem_of_getElem? h
abbrev sOk (C : String) (nd : String × String) : Prop := (Jvm.Cond.lays C C nd.1 nd.2 ∈ tables_1 ∨ Jvm.Cond.laysFinal C C nd.1 nd.2 ∈ tables_1) ∧ (nd.2 = "I" ∨ nd.2 = "Z")
abbrev aOk (C : String) (t : String × FieldType × Int32) : Prop := (Jvm.Cond.lays C C t.1 (aD t.2.1) ∈ tables_1 ∨ Jvm.Cond.laysFinal C C t.1 (aD t.2.1) ∈ tables_1) ∧ (t.2.1 = .int ∨ t.2.1 = .boolean ∨ t.2.1 = .long) ∧ ¬ t.2.2 < 0
def K : Cls := ("LogicalReplicator", [("nKeys", "I"), ("nSlots", "I"), ("logCap", "I"), ("memCap", "I"), ("length", "I"), ("emittedPos", "I"), ("appliedPos", "I"), ("confirmedPos", "I"), ("qHead", "I"), ("qCount", "I")], [("recKind", .int, 129), ("recSlot", .int, 129), ("recKey", .int, 129), ("recVal", .int, 129), ("recBegin", .int, 129), ("slotOpen", .boolean, 8), ("slotBegin", .int, 8), ("pubHas", .boolean, 32), ("pubVal", .int, 32), ("subHas", .boolean, 32), ("subVal", .int, 32), ("pendKind", .int, 32), ("pendVal", .int, 32), ("qKind", .int, 128), ("qKey", .int, 128), ("qVal", .int, 128), ("qPos", .int, 128)])
theorem kS : All (sOk K.1) K.2.1 := ⟨⟨Or.inl (mem1 50 rfl), Or.inl rfl⟩, ⟨Or.inl (mem1 52 rfl), Or.inl rfl⟩, ⟨Or.inl (mem1 54 rfl), Or.inl rfl⟩, ⟨Or.inl (mem1 56 rfl), Or.inl rfl⟩, ⟨Or.inl (mem1 58 rfl), Or.inl rfl⟩, ⟨Or.inl (mem1 60 rfl), Or.inl rfl⟩, ⟨Or.inl (mem1 62 rfl), Or.inl rfl⟩, ⟨Or.inl (mem1 64 rfl), Or.inl rfl⟩, ⟨Or.inl (mem1 66 rfl), Or.inl rfl⟩, ⟨Or.inl (mem1 68 rfl), Or.inl rfl⟩, trivial⟩
theorem kA : All (aOk K.1) K.2.2 := ⟨⟨Or.inl (mem1 11 rfl), Or.inl rfl, by decide⟩, ⟨Or.inl (mem1 13 rfl), Or.inl rfl, by decide⟩, ⟨Or.inl (mem1 15 rfl), Or.inl rfl, by decide⟩, ⟨Or.inl (mem1 17 rfl), Or.inl rfl, by decide⟩, ⟨Or.inl (mem1 19 rfl), Or.inl rfl, by decide⟩, ⟨Or.inl (mem1 22 rfl), Or.inr (Or.inl rfl), by decide⟩, ⟨Or.inl (mem1 24 rfl), Or.inl rfl, by decide⟩, ⟨Or.inl (mem1 26 rfl), Or.inr (Or.inl rfl), by decide⟩, ⟨Or.inl (mem1 28 rfl), Or.inl rfl, by decide⟩, ⟨Or.inl (mem1 30 rfl), Or.inr (Or.inl rfl), by decide⟩, ⟨Or.inl (mem1 32 rfl), Or.inl rfl, by decide⟩, ⟨Or.inl (mem1 34 rfl), Or.inl rfl, by decide⟩, ⟨Or.inl (mem1 36 rfl), Or.inl rfl, by decide⟩, ⟨Or.inl (mem1 38 rfl), Or.inl rfl, by decide⟩, ⟨Or.inl (mem1 40 rfl), Or.inl rfl, by decide⟩, ⟨Or.inl (mem1 42 rfl), Or.inl rfl, by decide⟩, ⟨Or.inl (mem1 44 rfl), Or.inl rfl, by decide⟩, trivial⟩
abbrev kN : Nat := 27
theorem kI : Jvm.Cond.instantiable K.1 kN ∈ tables_1 := mem1 1 rfl
theorem kZ : Jvm.Cond.initialized K.1 ∈ tables_1 := mem1 2 rfl
theorem kNm : (K.2.1.map (·.1) ++ K.2.2.map (·.1)).Nodup := by decide +kernel
theorem nm_ss {k k' : Nat} {nd nd' : String × String} (h : K.2.1[k]? = some nd) (h' : K.2.1[k']? = some nd') (ne : k ≠ k') : nd.1 ≠ nd'.1 := fun e => by
  have l := (List.getElem?_eq_some_iff.mp h).1
  have l' := (List.getElem?_eq_some_iff.mp h').1
  refine ne ((List.getElem?_inj (l := K.2.1.map (·.1) ++ K.2.2.map (·.1)) (i := k) (j := k') (by simp; omega) kNm).mp ?_)
  rw [List.getElem?_append_left (by simpa using l), List.getElem?_append_left (by simpa using l'), List.getElem?_map, List.getElem?_map, h, h']
  simp [e]
theorem nm_aa {k k' : Nat} {t t' : String × FieldType × Int32} (h : K.2.2[k]? = some t) (h' : K.2.2[k']? = some t') (ne : k ≠ k') : t.1 ≠ t'.1 := fun e => by
  have l := (List.getElem?_eq_some_iff.mp h).1
  have l' := (List.getElem?_eq_some_iff.mp h').1
  have q := (List.getElem?_inj (l := K.2.1.map (·.1) ++ K.2.2.map (·.1)) (i := K.2.1.length + k) (j := K.2.1.length + k') (by simp; omega) kNm).mp (by
    rw [List.getElem?_append_right (by simp), List.getElem?_append_right (by simp)]
    simp [h, h', e])
  omega
theorem nm_sa {k k' : Nat} {nd : String × String} {t : String × FieldType × Int32} (h : K.2.1[k]? = some nd) (h' : K.2.2[k']? = some t) : nd.1 ≠ t.1 := fun e => by
  have l := (List.getElem?_eq_some_iff.mp h).1
  have l' := (List.getElem?_eq_some_iff.mp h').1
  have q := (List.getElem?_inj (l := K.2.1.map (·.1) ++ K.2.2.map (·.1)) (i := k) (j := K.2.1.length + k') (by simp; omega) kNm).mp (by
    rw [List.getElem?_append_left (by simpa using l), List.getElem?_append_right (by simp)]
    simp [h, h', e])
  omega
abbrev Ctx : Type := Launch × State × Nat × Array Value
def Ok (C : Ctx) : Prop := ∀ d ∈ tables_1, d.before C.2.2.2 C.2.1 = true
def ArrAt (Z : State) (h : Heap) (b : Nat) (ty : FieldType) (len : Int32) (v : Int32 → Value) : Prop := ∃ cl : Cell, Arr Z h b cl ty ∧ cl.slots.size = len.toNatClampNeg ∧ ∀ j : Int32, ¬ j < 0 → j < len → cl.slots[j.toNatClampNeg]? = some (v j)
def ObjAt (Z : State) (h : Heap) (a : Nat) (q : Nat) (ob : Rec) : Prop :=
  Exa Z h a K.1 ∧ (∀ k nd, K.2.1[k]? = some nd → Fld Z h a K.1 nd.1 nd.2 (.int (ob.1 k))) ∧
  (∀ k t, K.2.2[k]? = some t → k < q → Fld Z h a K.1 t.1 (aD t.2.1) (.ref (a + 1 + k)) ∧ ArrAt Z h (a + 1 + k) t.2.1 t.2.2 (el t.2.1 ob k)) ∧
  (∀ k t, K.2.2[k]? = some t → q ≤ k → Fld Z h a K.1 t.1 (aD t.2.1) .null)
abbrev AH : Type := Nat × List (Nat × Nat × Rec)
def Rep (Z : State) (n0 : Nat) (h : Heap) (G : AH) : Prop :=
  h.size = G.1 ∧ Old Z n0 h ∧ (∀ x ∈ G.2, n0 ≤ x.1 ∧ x.1 + x.2.1 < G.1 ∧ ObjAt Z h x.1 x.2.1 x.2.2) ∧ G.2.Pairwise (fun x y => x.1 + x.2.1 < y.1 ∨ y.1 + y.2.1 < x.1)
section Facts
variable {Z : State} {h h' : Heap} {a b : Nat} {q k n0 top : Nat} {ob ob' : Rec} {nd : String × String} {t : String × FieldType × Int32} {a0 : Array Value} {sl : Nat} {v : Value} {H : List (Nat × Nat × Rec)} {G : AH}
theorem fld_fr {C n d : String} (e : h'[a]? = h[a]?) (F : Fld Z h a C n d v) : Fld Z h' a C n d v := by
  obtain ⟨cell, cf, k, i, f, h1, r⟩ := F; exact ⟨cell, cf, k, i, f, e.trans h1, r⟩
theorem exa_fr {C : String} (e : h'[a]? = h[a]?) (F : Exa Z h a C) : Exa Z h' a C := by
  obtain ⟨cell, k, h1, r⟩ := F; exact ⟨cell, k, e.trans h1, r⟩
theorem arrAt_fr {ty : FieldType} {len : Int32} {w : Int32 → Value} (e : h'[a]? = h[a]?) (F : ArrAt Z h a ty len w) : ArrAt Z h' a ty len w := by
  obtain ⟨cl, A, r⟩ := F; exact ⟨cl, ⟨e.trans A.1, A.2⟩, r⟩
theorem ObjAt.frame (e : ∀ b, a ≤ b → b ≤ a + q → h'[b]? = h[b]?) (F : ObjAt Z h a q ob) : ObjAt Z h' a q ob := by
  have e0 := e a (Nat.le_refl _) (Nat.le_add_right _ _)
  refine ⟨exa_fr e0 F.1, fun k nd hk => fld_fr e0 (F.2.1 k nd hk), fun k t hk hq => ⟨fld_fr e0 (F.2.2.1 k t hk hq).1, arrAt_fr (e _ (by omega) (by omega)) (F.2.2.1 k t hk hq).2⟩, fun k t hk hq => fld_fr e0 (F.2.2.2 k t hk hq)⟩
theorem ObjAt.ext (E : Ext h h') (F : ObjAt Z h a q ob) : ObjAt Z h' a q ob := by
  refine ⟨F.1.ext E, fun k nd hk => (F.2.1 k nd hk).ext E, fun k t hk hq => ⟨(F.2.2.1 k t hk hq).1.ext E, ?_⟩, fun k t hk hq => (F.2.2.2 k t hk hq).ext E⟩
  obtain ⟨cl, A, r⟩ := (F.2.2.1 k t hk hq).2; exact ⟨cl, A.ext E, r⟩
theorem wr_ne (W : Wr h h' a sl v) (ne : b ≠ a) : h'[b]? = h[b]? := by
  obtain ⟨cell, -, -, -, rfl⟩ := W; exact Array.getElem?_setIfInBounds_ne (Ne.symm ne)
theorem laidS (hw : ∀ d ∈ tables_1, d.before a0 Z = true) (hk : K.2.1[k]? = some nd) : Laid Z a0 K.1 K.1 nd.1 nd.2 := ((All.mem kS (List.mem_of_getElem? hk)).1).imp (hw _) (hw _)
theorem laidA (hw : ∀ d ∈ tables_1, d.before a0 Z = true) (hk : K.2.2[k]? = some t) : Laid Z a0 K.1 K.1 t.1 (aD t.2.1) := ((All.mem kA (List.mem_of_getElem? hk)).1).imp (hw _) (hw _)
theorem pfS (hk : K.2.1[k]? = some nd) : ∃ ty, parseFieldDescriptor nd.2 = some ty := by
  rcases (All.mem kS (List.mem_of_getElem? hk)).2 with e | e <;> rw [e]
  · exact ⟨.int, by decide⟩
  · exact ⟨.boolean, by decide⟩
theorem pfA (hk : K.2.2[k]? = some t) : parseFieldDescriptor (aD t.2.1) = some (.array t.2.1) := by
  rcases (All.mem kA (List.mem_of_getElem? hk)).2.1 with e | e | e <;> rw [e] <;> decide
theorem ObjAt.putI {x : Int32} (hw : ∀ d ∈ tables_1, d.before a0 Z = true) (F : ObjAt Z h a q ob) (hk : K.2.1[k]? = some nd) (W : Wr h h' a (Jvm.RoadKit.slotOf Z K.1 nd.1 nd.2) (.int x)) : ObjAt Z h' a q (sI ob k x) := by
  obtain ⟨ty, hty⟩ := pfS hk
  refine ⟨F.1.wr W, fun k' nd' hk' => ?_, fun k' t hk' hq => ⟨(F.2.2.1 k' t hk' hq).1.other W (Or.inr (Jvm.RoadKit.slot_ne (laidA hw hk') (laidS hw hk) (Ne.symm (nm_sa hk hk')) (pfA hk') hty)), ?_⟩, fun k' t hk' hq => (F.2.2.2 k' t hk' hq).other W (Or.inr (Jvm.RoadKit.slot_ne (laidA hw hk') (laidS hw hk) (Ne.symm (nm_sa hk hk')) (pfA hk') hty))⟩
  · by_cases e : k' = k
    · subst e; cases hk.symm.trans hk'
      have := (F.2.1 k' nd hk).same W
      simpa [sI] using this
    · obtain ⟨ty', hty'⟩ := pfS hk'
      have := (F.2.1 k' nd' hk').other W (Or.inr (Jvm.RoadKit.slot_ne (laidS hw hk') (laidS hw hk) (nm_ss hk' hk e) hty' hty))
      simpa [sI, e] using this
  · have := arrAt_fr (wr_ne W (by omega)) (F.2.2.1 k' t hk' hq).2
    have e : el t.2.1 (sI ob k x) k' = el t.2.1 ob k' := by funext j; unfold el; split <;> rfl
    rw [e]; exact this
theorem ObjAt.putA (F : ObjAt Z h a q ob) (hk : K.2.2[k]? = some t) (hq : k < q) {x : Value} {j : Int32} (hj : ¬ j < 0 ∧ j < t.2.2) (W : Wr h h' (a + 1 + k) j.toNatClampNeg x)
    (e1 : el t.2.1 ob' k = fun i => if i = j then x else el t.2.1 ob k i) (e2 : ∀ k' t', k' ≠ k → el t' ob' k' = el t' ob k') (e3 : ob'.1 = ob.1) : ObjAt Z h' a q ob' := by
  have u : h'[a]? = h[a]? := wr_ne W (by omega)
  refine ⟨exa_fr u F.1, fun k' nd hk' => by rw [e3]; exact fld_fr u (F.2.1 k' nd hk'), fun k' t' hk' hq' => ⟨fld_fr u (F.2.2.1 k' t' hk' hq').1, ?_⟩, fun k' t' hk' hq' => fld_fr u (F.2.2.2 k' t' hk' hq')⟩
  by_cases e : k' = k
  · subst e; cases hk.symm.trans hk'
    obtain ⟨cl, A, S, V⟩ := (F.2.2.1 k' t hk hq).2
    have inb : ¬ (j < 0 ∨ cl.slots.size ≤ j.toNatClampNeg) := inb_of S hj
    refine ⟨_, A.same W, by rw [sz_set]; exact S, fun i h0 h1 => ?_⟩
    rw [e1]
    by_cases ei : i = j
    · simp only [ei, if_true]; exact get_hit inb rfl
    · simp only [ei, if_false]; rw [get_miss hj.1 h0 ei]; exact V i h0 h1
  · rw [e2 k' _ e]; exact arrAt_fr (wr_ne W (by omega)) (F.2.2.1 k' t' hk' hq').2
theorem el_sA {ty : FieldType} (ht : ty ≠ .long) (j x : Int32) : el ty (sA ob k j x) k = fun i => if i = j then .int x else el ty ob k i := by
  funext i; cases ty <;> first | exact absurd rfl ht | (simp only [el, sA, true_and]; split <;> rfl)
theorem el_sJ (j : Int32) (x : Int64) : el .long (sJ ob k j x) k = fun i => if i = j then .long x else el .long ob k i := by
  funext i; simp only [el, sJ, true_and]; split <;> rfl
theorem el_sA' (j x : Int32) (k' : Nat) (t' : FieldType) (ne : k' ≠ k) : el t' (sA ob k j x) k' = el t' ob k' := by
  funext i; cases t' <;> simp [el, sA, ne]
theorem el_sJ' (j : Int32) (x : Int64) (k' : Nat) (t' : FieldType) (ne : k' ≠ k) : el t' (sJ ob k j x) k' = el t' ob k' := by
  funext i; cases t' <;> simp [el, sJ, ne]
theorem Rep.upd (R : Rep Z n0 h (top, (a, q, ob) :: H)) (hs : h'.size = h.size) (hO : Old Z n0 h') (e : ∀ b, (b < a ∨ a + q < b) → h'[b]? = h[b]?) (F : ObjAt Z h' a q ob') : Rep Z n0 h' (top, (a, q, ob') :: H) := by
  obtain ⟨r1, r2, r3, r4⟩ := R
  refine ⟨hs.trans r1, hO, fun x hx => ?_, ?_⟩
  · rcases List.mem_cons.mp hx with rfl | hx
    · exact ⟨(r3 _ (List.mem_cons_self ..)).1, (r3 _ (List.mem_cons_self ..)).2.1, F⟩
    · obtain ⟨p1, p2, p3⟩ := r3 x (List.mem_cons_of_mem _ hx)
      refine ⟨p1, p2, p3.frame fun b h1 h2 => e b ?_⟩
      have := (List.pairwise_cons.mp r4).1 x hx
      simp only at this
      omega
  · have := List.pairwise_cons.mp r4
    exact List.pairwise_cons.mpr ⟨fun y hy => this.1 y hy, this.2⟩
theorem Rep.objs (R : Rep Z n0 h (top, (a, q, ob) :: H)) : n0 ≤ a ∧ a + q < top ∧ ObjAt Z h a q ob := R.2.2.1 _ (List.mem_cons_self ..)
theorem Rep.putI {x : Int32} (hw : ∀ d ∈ tables_1, d.before a0 Z = true) (R : Rep Z n0 h (top, (a, q, ob) :: H)) (hk : K.2.1[k]? = some nd) (W : Wr h h' a (Jvm.RoadKit.slotOf Z K.1 nd.1 nd.2) (.int x)) : Rep Z n0 h' (top, (a, q, sI ob k x) :: H) :=
  R.upd W.size (R.2.1.wr W R.objs.1) (fun b hb => wr_ne W (by omega)) (R.objs.2.2.putI hw hk W)
theorem Rep.putA {x j : Int32} (R : Rep Z n0 h (top, (a, q, ob) :: H)) (hk : K.2.2[k]? = some t) (hq : k < q) (ht : t.2.1 ≠ .long) (hj : ¬ j < 0 ∧ j < t.2.2) (W : Wr h h' (a + 1 + k) j.toNatClampNeg (.int x)) : Rep Z n0 h' (top, (a, q, sA ob k j x) :: H) :=
  R.upd W.size (R.2.1.wr W (by have := R.objs.1; omega)) (fun b hb => wr_ne W (by omega)) (R.objs.2.2.putA hk hq hj W (el_sA ht j x) (fun k' t' ne => el_sA' j x k' t' ne) rfl)
theorem Rep.putJ {j : Int32} {x : Int64} (R : Rep Z n0 h (top, (a, q, ob) :: H)) (hk : K.2.2[k]? = some t) (hq : k < q) (ht : t.2.1 = .long) (hj : ¬ j < 0 ∧ j < t.2.2) (W : Wr h h' (a + 1 + k) j.toNatClampNeg (.long x)) : Rep Z n0 h' (top, (a, q, sJ ob k j x) :: H) :=
  R.upd W.size (R.2.1.wr W (by have := R.objs.1; omega)) (fun b hb => wr_ne W (by omega)) (R.objs.2.2.putA hk hq hj W (by rw [ht]; exact el_sJ j x) (fun k' t' ne => el_sJ' j x k' t' ne) rfl)
theorem Rep.swap {x y : Nat × Nat × Rec} (R : Rep Z n0 h (top, x :: y :: H)) : Rep Z n0 h (top, y :: x :: H) := by
  obtain ⟨r1, r2, r3, r4⟩ := R
  refine ⟨r1, r2, fun z hz => r3 z ?_, ?_⟩
  · simp only [List.mem_cons] at hz ⊢
    rcases hz with e | e | e
    · exact Or.inr (Or.inl e)
    · exact Or.inl e
    · exact Or.inr (Or.inr e)
  · simp only [List.pairwise_cons, List.mem_cons] at r4 ⊢
    obtain ⟨p1, p2, p3⟩ := r4
    refine ⟨fun z hz => ?_, fun z hz => p1 z (Or.inr hz), p3⟩
    rcases hz with rfl | hz
    · exact (p1 _ (Or.inl rfl)).symm
    · exact p2 z hz
theorem ObjAt.addA (hw : ∀ d ∈ tables_1, d.before a0 Z = true) (F : ObjAt Z h a k ob) (hk : K.2.2[k]? = some t) (A : ArrAt Z h (a + 1 + k) t.2.1 t.2.2 (el t.2.1 ob k)) (W : Wr h h' a (Jvm.RoadKit.slotOf Z K.1 t.1 (aD t.2.1)) (.ref (a + 1 + k))) : ObjAt Z h' a (k + 1) ob := by
  refine ⟨F.1.wr W, fun k' nd hk' => ?_, fun k' t' hk' hq => ?_, fun k' t' hk' hq => ?_⟩
  · obtain ⟨ty', hty'⟩ := pfS hk'
    exact (F.2.1 k' nd hk').other W (Or.inr (Jvm.RoadKit.slot_ne (laidS hw hk') (laidA hw hk) (nm_sa hk' hk) hty' (pfA hk)))
  · by_cases e : k' = k
    · subst e
      have et : t = t' := Option.some.inj (hk.symm.trans hk')
      subst et
      exact ⟨(F.2.2.2 k' t hk (Nat.le_refl _)).same W, arrAt_fr (wr_ne W (by omega)) A⟩
    · obtain ⟨f1, f2⟩ := F.2.2.1 k' t' hk' (by omega)
      exact ⟨f1.other W (Or.inr (Jvm.RoadKit.slot_ne (laidA hw hk') (laidA hw hk) (nm_aa hk' hk e) (pfA hk') (pfA hk))), arrAt_fr (wr_ne W (by omega)) f2⟩
  · exact (F.2.2.2 k' t' hk' (by omega)).other W (Or.inr (Jvm.RoadKit.slot_ne (laidA hw hk') (laidA hw hk) (nm_aa hk' hk (by omega)) (pfA hk') (pfA hk)))
theorem Rep.addA {h1 h2 : Heap} (hw : ∀ d ∈ tables_1, d.before a0 Z = true) (R : Rep Z n0 h (top, (a, k, ob) :: H)) (E : Ext h h1) (s1 : h1.size = top + 1) (htop : top = a + 1 + k) (hk : K.2.2[k]? = some t) (A : ArrAt Z h1 top t.2.1 t.2.2 (el t.2.1 ob k)) (W : Wr h1 h2 a (Jvm.RoadKit.slotOf Z K.1 t.1 (aD t.2.1)) (.ref top)) : Rep Z n0 h2 (top + 1, (a, k + 1, ob) :: H) := by
  obtain ⟨q1, q2, q3⟩ := R.objs
  have hp := List.pairwise_cons.mp R.2.2.2
  have hO : ObjAt Z h2 a (k + 1) ob := by
    subst htop
    exact (q3.ext E).addA hw hk A W
  refine ⟨W.size.trans s1, (R.2.1.ext E).wr W q1, List.forall_mem_cons.mpr ⟨⟨q1, ?_, hO⟩, fun x hx => ?_⟩, List.pairwise_cons.mpr ⟨fun y hy => ?_, hp.2⟩⟩
  · show a + (k + 1) < top + 1; omega
  · obtain ⟨p1, p2, p3⟩ := R.2.2.1 x (List.mem_cons_of_mem _ hx)
    have u1 : a + k < x.1 ∨ x.1 + x.2.1 < a := hp.1 x hx
    have u2 : x.1 + x.2.1 < top := p2
    exact ⟨p1, Nat.lt_succ_of_lt u2, (p3.ext E).frame fun b h1 h2 => wr_ne W (by omega)⟩
  · have u1 : a + k < y.1 ∨ y.1 + y.2.1 < a := hp.1 y hy
    have u2 : y.1 + y.2.1 < top := (R.2.2.1 y (List.mem_cons_of_mem _ hy)).2.1
    show a + (k + 1) < y.1 ∨ y.1 + y.2.1 < a
    omega
theorem arr_new {cA : ClassId} {ty : FieldType} {len : Int32} (A : Arr Z h b (newA cA ty len) ty) (hts : ty = .int ∨ ty = .boolean ∨ ty = .long) (hz : (∀ i, ob.2.1 k i = 0) ∧ (∀ i, ob.2.2 k i = 0)) : ArrAt Z h b ty len (el ty ob k) := by
  refine ⟨_, A, sz_new _ _ _, fun i h0 h1 => ?_⟩
  have hi : ¬ (i < 0 ∨ len.toNatClampNeg ≤ i.toNatClampNeg) := by
    have e0 : (0 : Int32).toInt = 0 := rfl
    simp only [Int32.lt_iff_toInt_lt, Int32.toNatClampNeg] at *
    omega
  rw [get_new hi]
  rcases hts with rfl | rfl | rfl
  · show some (Value.int 0) = some (Value.int (ob.2.1 k i)); rw [hz.1]
  · show some (Value.int 0) = some (Value.int (ob.2.1 k i)); rw [hz.1]
  · show some (Value.long 0) = some (Value.long (ob.2.2 k i)); rw [hz.2]
theorem Rep.start (s : State) : Rep s s.heap.size s.heap (s.heap.size, []) := ⟨rfl, Old.start s, fun x hx => (by cases hx), List.Pairwise.nil⟩
end Facts
/- bodies, decode facts, patterns of local variables -/
abbrev Bdy : Type := MethodName × ByteArray × Nat × Option FieldType × Room
def DAt (M : Bdy) (pc : Nat) (i : Instr) (n q : Nat) : Prop := decode M.2.1 pc = .ok (i, n) ∧ q = pc + n
abbrev Pat : Type := List (Option Slot)
abbrev vi (x : Int32) : Option Slot := some (.val (.int x))
abbrev vl (x : Int64) : Option Slot := some (.val (.long x))
abbrev vr (a : Nat) : Option Slot := some (.val (.ref a))
abbrev v2 : Option Slot := some .second
abbrev vn : Option Slot := none
def pget : Pat → Nat → Option Slot
  | [], _ => none
  | x :: _, 0 => x
  | _ :: l, n + 1 => pget l n
theorem pget_eq : ∀ (P : Pat) (i : Nat), pget P i = (P[i]?).join
  | [], _ => by simp [pget]
  | x :: l, 0 => by simp [pget]
  | x :: l, n + 1 => by simp [pget, pget_eq l n]
def pput : Pat → Nat → Option Slot → Pat
  | [], _, _ => []
  | _ :: l, 0, y => y :: l
  | x :: l, n + 1, y => x :: pput l n y
theorem pget_pput : ∀ (P : Pat) (i j : Nat) (y : Option Slot) (s : Slot), pget (pput P i y) j = some s → (j = i ∧ y = some s) ∨ (j ≠ i ∧ pget P j = some s)
  | [], _, _, _, _, h => by simp [pput, pget] at h
  | x :: l, 0, 0, y, s, h => Or.inl ⟨rfl, h⟩
  | x :: l, 0, j + 1, y, s, h => Or.inr ⟨by omega, h⟩
  | x :: l, i + 1, 0, y, s, h => Or.inr ⟨by omega, h⟩
  | x :: l, i + 1, j + 1, y, s, h => by
    rcases pget_pput l i j y s h with ⟨e, r⟩ | ⟨e, r⟩
    · exact Or.inl ⟨by omega, r⟩
    · exact Or.inr ⟨by omega, r⟩
/-- a two-word value whose first word is at i is forgotten -/
def pk1 (P : Pat) (i : Nat) : Pat := match pget P i with
  | some (.val (.long _)) => pput P i none
  | some (.val (.double _)) => pput P i none
  | _ => P
def pk2 (P : Pat) (i : Nat) : Pat := match pget P i with
  | some .second => pput P i none
  | _ => P
def pkp (P : Pat) : Nat → Pat
  | 0 => P
  | i + 1 => pk1 P i
def ps1 (P : Pat) (i : Nat) (v : Value) : Pat := pput (pk2 (pkp P i) (i + 1)) i (some (.val v))
def ps2 (P : Pat) (i : Nat) (v : Value) : Pat := pput (pput (pk2 (pkp P i) (i + 2)) i (some (.val v))) (i + 1) (some .second)
def WFl (L : Array Slot) : Prop := (∀ i : Nat, L[i]? = some .second → ∃ (j : Nat) (v : Value), i = j + 1 ∧ L[j]? = some (.val v) ∧ v.category = 2) ∧ (∀ (i : Nat) (v : Value), L[i]? = some (.val v) → v.category = 2 → L[i + 1]? = some .second)
def Fits (P : Pat) (L : Array Slot) : Prop := (∀ i s, pget P i = some s → L[i]? = some s) ∧ WFl L
theorem pk1_sub {P : Pat} {i j : Nat} {s : Slot} (h : pget (pk1 P i) j = some s) : pget P j = some s ∧ (j = i → ∀ w : Value, s = .val w → w.category = 1) := by
  unfold pk1 at h
  split at h
  · rcases pget_pput _ _ _ _ _ h with ⟨-, e⟩ | ⟨e, r⟩
    · cases e
    · exact ⟨r, fun q => absurd q e⟩
  · rcases pget_pput _ _ _ _ _ h with ⟨-, e⟩ | ⟨e, r⟩
    · cases e
    · exact ⟨r, fun q => absurd q e⟩
  · rename_i h1 h2
    refine ⟨h, fun q w e => ?_⟩
    subst q e
    cases w <;> first | rfl | exact absurd h (h1 _) | exact absurd h (h2 _)
theorem pk2_sub {P : Pat} {i j : Nat} {s : Slot} (h : pget (pk2 P i) j = some s) : pget P j = some s ∧ (j = i → s ≠ .second) := by
  unfold pk2 at h
  split at h
  · rcases pget_pput _ _ _ _ _ h with ⟨-, e⟩ | ⟨e, r⟩
    · cases e
    · exact ⟨r, fun q => absurd q e⟩
  · rename_i h1
    refine ⟨h, fun q e => ?_⟩
    subst q e; exact h1 h
theorem pkp_sub {P : Pat} {i j : Nat} {s : Slot} (h : pget (pkp P i) j = some s) : pget P j = some s ∧ (j + 1 = i → ∀ w : Value, s = .val w → w.category = 1) := by
  cases i with
  | zero => exact ⟨h, fun q => by omega⟩
  | succ i => obtain ⟨h1, h2⟩ := pk1_sub (show pget (pk1 P i) j = some s from h); exact ⟨h1, fun q => h2 (by omega)⟩
theorem setAt_eq {L : Array Slot} {i : Nat} {x : Slot} (hi : i < L.size) : Jvm.setAt L i x = some (L.setIfInBounds i x) := by simp [Jvm.setAt, hi]
theorem sl_second {L : Array Slot} {i : Nat} {v : Value} (ho : L[i]? = some .second) : storeLocals L i v = (Jvm.setAt L (i - 1) .unset).bind fun l => storeSelf l i v := by
  unfold storeLocals; rw [ho]; rfl
theorem sl_unset {L : Array Slot} {i : Nat} {v : Value} (ho : L[i]? = some .unset) : storeLocals L i v = storeSelf L i v := by
  unfold storeLocals; rw [ho]; rfl
theorem sl_val {L : Array Slot} {i : Nat} {v o : Value} (ho : L[i]? = some (.val o)) : storeLocals L i v = if o.category = 2 then (Jvm.setAt L (i + 1) .unset).bind fun l => storeSelf l i v else storeSelf L i v := by
  unfold storeLocals; rw [ho]; rfl
theorem ss_one {L : Array Slot} {i : Nat} {v : Value} (hi : i < L.size) (hv : ¬ v.category = 2) : storeSelf L i v = some (L.setIfInBounds i (.val v)) := by
  unfold storeSelf; rw [setAt_eq hi]; simp [hv]
theorem ss_two {L : Array Slot} {i : Nat} {v : Value} {o : Slot} (hi : i < L.size) (hv : v.category = 2) (ho : L[i + 1]? = some o) : storeSelf L i v = (match o with
    | .val old => if old.category = 2 then (Jvm.setAt (L.setIfInBounds i (.val v)) (i + 2) .unset).bind fun l => Jvm.setAt l (i + 1) .second else Jvm.setAt (L.setIfInBounds i (.val v)) (i + 1) .second
    | _ => Jvm.setAt (L.setIfInBounds i (.val v)) (i + 1) .second) := by
  have e : (L.setIfInBounds i (.val v))[i + 1]? = some o := by rw [Array.getElem?_setIfInBounds_ne (by omega)]; exact ho
  unfold storeSelf; rw [setAt_eq hi]
  show (if v.category = 2 then _ else _) = _
  rw [if_pos hv, e]
  cases o <;> rfl
theorem cat12 (v : Value) : v.category = 1 ∨ v.category = 2 := by cases v <;> first | exact Or.inl rfl | exact Or.inr rfl
/-- a one-word store: what stands elsewhere stays, but for the halves of a two-word value that it breaks -/
theorem store_one {L : Array Slot} {i : Nat} {v : Value} (hW : WFl L) (hi : i < L.size) (hv : v.category = 1) :
    ∃ L', storeLocals L i v = some L' ∧ L'.size = L.size ∧ WFl L' ∧ L'[i]? = some (.val v) ∧ ∀ j, j ≠ i → L'[j]? = L[j]? ∨ (j + 1 = i ∧ L[i]? = some .second) ∨ (j = i + 1 ∧ L[j]? = some .second) := by
  have hv2 : ¬ v.category = 2 := by omega
  cases ho : L[i]? with
  | none => rw [Array.getElem?_eq_none_iff] at ho; omega
  | some o =>
    cases o with
    | unset =>
      refine ⟨L.setIfInBounds i (.val v), ?_, by simp, ?_, by simp [hi], fun j hj => Or.inl (Array.getElem?_setIfInBounds_ne (Ne.symm hj))⟩
      · rw [sl_unset ho, ss_one hi hv2]
      · refine ⟨fun j hj => ?_, fun j w hj hw => ?_⟩
        · by_cases e : j = i
          · subst e; simp [hi] at hj
          · rw [Array.getElem?_setIfInBounds_ne (Ne.symm e)] at hj
            obtain ⟨j', w, e1, e2, e3⟩ := hW.1 j hj
            refine ⟨j', w, e1, ?_, e3⟩
            rw [Array.getElem?_setIfInBounds_ne]; exact e2
            intro q; subst q; rw [ho] at e2; cases e2
        · by_cases e : j = i
          · subst e; simp [hi] at hj; subst hj; omega
          · rw [Array.getElem?_setIfInBounds_ne (Ne.symm e)] at hj
            have := hW.2 j w hj hw
            rw [Array.getElem?_setIfInBounds_ne]; exact this
            intro q; subst q; rw [ho] at this; cases this
    | second =>
      obtain ⟨j0, w0, rfl, f2, f3⟩ := hW.1 i ho
      have hj0 : j0 < L.size := by omega
      refine ⟨(L.setIfInBounds j0 .unset).setIfInBounds (j0 + 1) (.val v), ?_, by simp, ?_, by simp [hi], fun j hj => ?_⟩
      · rw [sl_second ho, show j0 + 1 - 1 = j0 from rfl, setAt_eq hj0]; exact ss_one (by simpa using hi) hv2
      · refine ⟨fun j hj => ?_, fun j w hj hw => ?_⟩
        · by_cases e : j = j0 + 1
          · subst e; simp [hi] at hj
          · rw [Array.getElem?_setIfInBounds_ne (Ne.symm e)] at hj
            by_cases e' : j = j0
            · subst e'; simp [hj0] at hj
            · rw [Array.getElem?_setIfInBounds_ne (Ne.symm e')] at hj
              obtain ⟨j', w, e1, e2, e3⟩ := hW.1 j hj
              refine ⟨j', w, e1, ?_, e3⟩
              rw [Array.getElem?_setIfInBounds_ne, Array.getElem?_setIfInBounds_ne]
              · exact e2
              · intro q; subst q; omega
              · intro q; subst q; rw [ho] at e2; cases e2
        · by_cases e : j = j0 + 1
          · subst e; simp [hi] at hj; subst hj; omega
          · rw [Array.getElem?_setIfInBounds_ne (Ne.symm e)] at hj
            by_cases e' : j = j0
            · subst e'; simp [hj0] at hj
            · rw [Array.getElem?_setIfInBounds_ne (Ne.symm e')] at hj
              have := hW.2 j w hj hw
              rw [Array.getElem?_setIfInBounds_ne, Array.getElem?_setIfInBounds_ne]
              · exact this
              · intro q; subst q; rw [f2] at this; cases this
              · omega
      · by_cases e' : j = j0
        · exact Or.inr (Or.inl ⟨by omega, rfl⟩)
        · left; rw [Array.getElem?_setIfInBounds_ne (Ne.symm hj), Array.getElem?_setIfInBounds_ne (Ne.symm e')]
    | val old =>
      by_cases hc : old.category = 2
      · have f2 := hW.2 i old ho hc
        have hi1 : i + 1 < L.size := (Array.getElem?_eq_some_iff.mp f2).1
        refine ⟨(L.setIfInBounds (i + 1) .unset).setIfInBounds i (.val v), ?_, by simp, ?_, by simp [hi], fun j hj => ?_⟩
        · rw [sl_val ho, if_pos hc, setAt_eq hi1]; exact ss_one (by simpa using hi) hv2
        · refine ⟨fun j hj => ?_, fun j w hj hw => ?_⟩
          · by_cases e : j = i
            · subst e; simp [hi] at hj
            · rw [Array.getElem?_setIfInBounds_ne (Ne.symm e)] at hj
              by_cases e' : j = i + 1
              · subst e'; simp [hi1] at hj
              · rw [Array.getElem?_setIfInBounds_ne (Ne.symm e')] at hj
                obtain ⟨j', w, e1, e2, e3⟩ := hW.1 j hj
                refine ⟨j', w, e1, ?_, e3⟩
                rw [Array.getElem?_setIfInBounds_ne, Array.getElem?_setIfInBounds_ne]
                · exact e2
                · intro q; subst q; rw [f2] at e2; cases e2
                · omega
          · by_cases e : j = i
            · subst e; simp [hi] at hj; subst hj; omega
            · rw [Array.getElem?_setIfInBounds_ne (Ne.symm e)] at hj
              by_cases e' : j = i + 1
              · subst e'; simp [hi1] at hj
              · rw [Array.getElem?_setIfInBounds_ne (Ne.symm e')] at hj
                have := hW.2 j w hj hw
                rw [Array.getElem?_setIfInBounds_ne, Array.getElem?_setIfInBounds_ne]
                · exact this
                · omega
                · intro q; subst q; rw [ho] at this; cases this
        · by_cases e' : j = i + 1
          · subst e'; exact Or.inr (Or.inr ⟨rfl, f2⟩)
          · left; rw [Array.getElem?_setIfInBounds_ne (Ne.symm hj), Array.getElem?_setIfInBounds_ne (Ne.symm e')]
      · refine ⟨L.setIfInBounds i (.val v), ?_, by simp, ?_, by simp [hi], fun j hj => Or.inl (Array.getElem?_setIfInBounds_ne (Ne.symm hj))⟩
        · rw [sl_val ho, if_neg hc, ss_one hi hv2]
        · refine ⟨fun j hj => ?_, fun j w hj hw => ?_⟩
          · by_cases e : j = i
            · subst e; simp [hi] at hj
            · rw [Array.getElem?_setIfInBounds_ne (Ne.symm e)] at hj
              obtain ⟨j', w, e1, e2, e3⟩ := hW.1 j hj
              refine ⟨j', w, e1, ?_, e3⟩
              rw [Array.getElem?_setIfInBounds_ne]; exact e2
              intro q; subst q; rw [ho] at e2; cases e2; omega
          · by_cases e : j = i
            · subst e; simp [hi] at hj; subst hj; omega
            · rw [Array.getElem?_setIfInBounds_ne (Ne.symm e)] at hj
              have := hW.2 j w hj hw
              rw [Array.getElem?_setIfInBounds_ne]; exact this
              intro q; subst q; rw [ho] at this; cases this
theorem Fits.store1 {P : Pat} {L : Array Slot} {i : Nat} {v : Value} (h : Fits P L) (hi : i < L.size) (hv : v.category = 1) :
    ∃ L', storeLocals L i v = some L' ∧ L'.size = L.size ∧ Fits (ps1 P i v) L' := by
  obtain ⟨L', e1, e2, e3, e4, e5⟩ := store_one h.2 hi hv
  refine ⟨L', e1, e2, fun j s hj => ?_, e3⟩
  rcases pget_pput _ _ _ _ _ hj with ⟨rfl, q⟩ | ⟨ne, q⟩
  · rw [e4]; exact q
  · obtain ⟨q1, q2⟩ := pk2_sub q
    obtain ⟨q3, q4⟩ := pkp_sub q1
    have hL := h.1 j s q3
    rcases e5 j ne with r | ⟨r1, r2⟩ | ⟨r1, r2⟩
    · rw [r]; exact hL
    · obtain ⟨j', w, z1, z2, z3⟩ := h.2.1 i r2
      have : j' = j := by omega
      subst this
      rw [hL] at z2; cases z2
      have := q4 r1 w rfl; omega
    · rw [hL] at r2; cases r2
      exact absurd rfl (q2 r1)
theorem st_ph1 {L : Array Slot} {i : Nat} {v : Value} (hW : WFl L) (hi : i + 1 < L.size) :
    ∃ A : Array Slot, storeLocals L i v = storeSelf A i v ∧ A.size = L.size ∧ (∀ j, j ≠ i → j ≠ i + 1 → A[j]? = L[j]? ∨ (j + 1 = i ∧ L[i]? = some .second ∧ A[j]? = some .unset)) ∧ (A[i + 1]? = L[i + 1]? ∨ (A[i + 1]? = some .unset ∧ L[i + 1]? = some .second)) ∧ (L[i]? = some .second → ∀ j, j + 1 = i → A[j]? = some .unset) := by
  have hi0 : i < L.size := by omega
  cases ho : L[i]? with
  | none => rw [Array.getElem?_eq_none_iff] at ho; omega
  | some o =>
    cases o with
    | unset => exact ⟨L, sl_unset ho, rfl, fun j _ _ => Or.inl rfl, Or.inl rfl, fun q => by cases q⟩
    | second =>
      obtain ⟨j0, w0, rfl, f2, f3⟩ := hW.1 i ho
      have hj0 : j0 < L.size := by omega
      refine ⟨L.setIfInBounds j0 .unset, by rw [sl_second ho, show j0 + 1 - 1 = j0 from rfl, setAt_eq hj0]; rfl, by simp, fun j h1 h2 => ?_, Or.inl (Array.getElem?_setIfInBounds_ne (by omega)), fun _ j hj => ?_⟩
      · by_cases e : j = j0
        · subst e; exact Or.inr ⟨rfl, rfl, by simp [hj0]⟩
        · exact Or.inl (Array.getElem?_setIfInBounds_ne (Ne.symm e))
      · have : j = j0 := by omega
        subst this; simp [hj0]
    | val old =>
      by_cases hc : old.category = 2
      · refine ⟨L.setIfInBounds (i + 1) .unset, by rw [sl_val ho, if_pos hc, setAt_eq hi]; rfl, by simp, fun j h1 h2 => Or.inl (Array.getElem?_setIfInBounds_ne (Ne.symm h2)), Or.inr ⟨by simp [hi], hW.2 i old ho hc⟩, fun q => by cases q⟩
      · exact ⟨L, by rw [sl_val ho, if_neg hc], rfl, fun j _ _ => Or.inl rfl, Or.inl rfl, fun q => by cases q⟩
theorem st_ph2 {A : Array Slot} {i : Nat} {v : Value} (hi : i + 1 < A.size) (hv : v.category = 2) (hn : ∀ w : Value, A[i + 1]? = some (.val w) → w.category = 2 → i + 2 < A.size) :
    ∃ L', storeSelf A i v = some L' ∧ L'.size = A.size ∧ L'[i]? = some (.val v) ∧ L'[i + 1]? = some .second ∧ (∀ j, j ≠ i → j ≠ i + 1 → L'[j]? = A[j]? ∨ (j = i + 2 ∧ L'[j]? = some .unset ∧ ∃ w : Value, A[i + 1]? = some (.val w) ∧ w.category = 2)) ∧ ((∃ w : Value, A[i + 1]? = some (.val w) ∧ w.category = 2) → L'[i + 2]? = some .unset) := by
  have hi0 : i < A.size := by omega
  have eB : (A.setIfInBounds i (.val v))[i + 1]? = A[i + 1]? := Array.getElem?_setIfInBounds_ne (by omega)
  have plain : (∀ w : Value, A[i + 1]? = some (.val w) → w.category ≠ 2) → storeSelf A i v = some ((A.setIfInBounds i (.val v)).setIfInBounds (i + 1) .second) := fun hq => by
    cases ho : A[i + 1]? with
    | none => rw [Array.getElem?_eq_none_iff] at ho; omega
    | some o => cases o with
      | unset => rw [ss_two hi0 hv ho]; exact setAt_eq (by simpa using hi)
      | second => rw [ss_two hi0 hv ho]; exact setAt_eq (by simpa using hi)
      | val w => have := hq w ho; rw [ss_two hi0 hv ho]; simp only [if_neg this]; exact setAt_eq (by simpa using hi)
  by_cases hw : ∃ w : Value, A[i + 1]? = some (.val w) ∧ w.category = 2
  · obtain ⟨w, h1, h2⟩ := hw
    have h3 := hn w h1 h2
    refine ⟨((A.setIfInBounds i (.val v)).setIfInBounds (i + 2) .unset).setIfInBounds (i + 1) .second, by rw [ss_two hi0 hv h1]; simp only [if_pos h2]; rw [setAt_eq (by simpa using h3)]; exact setAt_eq (by simpa using hi), by simp, ?_, by simp [hi], fun j a b => ?_, fun _ => ?_⟩
    · rw [Array.getElem?_setIfInBounds_ne (by omega), Array.getElem?_setIfInBounds_ne (by omega)]; simp [hi0]
    · rw [Array.getElem?_setIfInBounds_ne (by omega)]
      by_cases e : j = i + 2
      · subst e; exact Or.inr ⟨rfl, by simp [h3], w, h1, h2⟩
      · left; rw [Array.getElem?_setIfInBounds_ne (by omega), Array.getElem?_setIfInBounds_ne (by omega)]
    · rw [Array.getElem?_setIfInBounds_ne (by omega)]; simp [h3]
  · refine ⟨_, plain fun w h1 h2 => hw ⟨w, h1, h2⟩, by simp, ?_, by simp [hi], fun j a b => Or.inl ?_, fun q => absurd q hw⟩
    · rw [Array.getElem?_setIfInBounds_ne (by omega)]; simp [hi0]
    · rw [Array.getElem?_setIfInBounds_ne (by omega), Array.getElem?_setIfInBounds_ne (by omega)]
theorem store_two {L : Array Slot} {i : Nat} {v : Value} (hW : WFl L) (hi : i + 1 < L.size) (hv : v.category = 2) :
    ∃ L', storeLocals L i v = some L' ∧ L'.size = L.size ∧ WFl L' ∧ L'[i]? = some (.val v) ∧ L'[i + 1]? = some .second ∧ ∀ j, j ≠ i → j ≠ i + 1 → L'[j]? = L[j]? ∨ (j + 1 = i ∧ L[i]? = some .second) ∨ (j = i + 2 ∧ L[j]? = some .second) := by
  obtain ⟨A, a1, a2, a3, a4, a5⟩ := st_ph1 (v := v) hW hi
  have a6 : ∀ w : Value, A[i + 1]? = some (.val w) → w.category = 2 → L[i + 2]? = some .second := fun w h1 h2 => by
    rcases a4 with e | ⟨e, -⟩
    · rw [e] at h1; exact hW.2 _ _ h1 h2
    · rw [e] at h1; cases h1
  obtain ⟨L', b1, b2, b3, b4, b5, b6⟩ := st_ph2 (A := A) (i := i) (v := v) (by omega) hv (fun w h1 h2 => by have := (Array.getElem?_eq_some_iff.mp (a6 w h1 h2)).1; omega)
  have c : ∀ j, j ≠ i → j ≠ i + 1 → L'[j]? = L[j]? ∨ (j + 1 = i ∧ L[i]? = some .second ∧ L'[j]? = some .unset) ∨ (j = i + 2 ∧ L[j]? = some .second ∧ L'[j]? = some .unset) := fun j h1 h2 => by
    rcases b5 j h1 h2 with e | ⟨e1, e2, w, e3, e4⟩
    · rcases a3 j h1 h2 with r | ⟨r1, r2, r3⟩
      · exact Or.inl (e.trans r)
      · exact Or.inr (Or.inl ⟨r1, r2, e.trans r3⟩)
    · subst e1; exact Or.inr (Or.inr ⟨rfl, a6 w e3 e4, e2⟩)
  have cs : L[i]? = some .second → ∀ j, j + 1 = i → L'[j]? = some .unset := fun q j hj => by
    rcases b5 j (by omega) (by omega) with e | ⟨e1, -⟩
    · exact e.trans (a5 q j hj)
    · omega
  have c2 : L[i + 2]? = some .second → L'[i + 2]? = some .unset := fun q => by
    obtain ⟨j', w, z1, z2, z3⟩ := hW.1 _ q
    have : j' = i + 1 := by omega
    subst this
    rcases a4 with e | ⟨-, e⟩
    · exact b6 ⟨w, e.trans z2, z3⟩
    · rw [e] at z2; cases z2
  refine ⟨L', a1.trans b1, b2.trans a2, ⟨fun j hj => ?_, fun j w hj hw => ?_⟩, b3, b4, fun j h1 h2 => ?_⟩
  · by_cases e0 : j = i
    · subst e0; rw [b3] at hj; cases hj
    by_cases e1 : j = i + 1
    · exact ⟨i, v, e1, b3, hv⟩
    rcases c j e0 e1 with r | ⟨-, -, r⟩ | ⟨-, -, r⟩
    · rw [r] at hj
      obtain ⟨j', w, z1, z2, z3⟩ := hW.1 j hj
      refine ⟨j', w, z1, ?_, z3⟩
      have n0 : j' ≠ i := by omega
      by_cases n1 : j' = i + 1
      · have : j = i + 2 := by omega
        subst this
        rw [c2 hj] at r; rw [hj] at r; cases r
      rcases c j' n0 n1 with u | ⟨u, -, -⟩ | ⟨-, u, -⟩
      · exact u.trans z2
      · omega
      · rw [z2] at u; cases u
    · rw [r] at hj; cases hj
    · rw [r] at hj; cases hj
  · by_cases e0 : j = i
    · subst e0; exact b4
    by_cases e1 : j = i + 1
    · subst e1; rw [b4] at hj; cases hj
    rcases c j e0 e1 with r | ⟨-, -, r⟩ | ⟨-, -, r⟩
    · have hj' := hj
      rw [r] at hj
      have z := hW.2 j w hj hw
      by_cases n0 : j + 1 = i
      · subst n0; rw [cs z j rfl] at hj'; cases hj'
      by_cases n1 : j + 1 = i + 1
      · omega
      rcases c (j + 1) n0 n1 with u | ⟨u1, u2, -⟩ | ⟨u, -, -⟩
      · exact u.trans z
      · obtain ⟨j', w', y1, y2, y3⟩ := hW.1 i u2
        have : j' = j + 1 := by omega
        subst this; rw [z] at y2; cases y2
      · omega
    · rw [r] at hj; cases hj
    · rw [r] at hj; cases hj
  · rcases c j h1 h2 with r | ⟨r1, r2, -⟩ | ⟨r1, r2, -⟩
    · exact Or.inl r
    · exact Or.inr (Or.inl ⟨r1, r2⟩)
    · exact Or.inr (Or.inr ⟨r1, r2⟩)
theorem Fits.store2 {P : Pat} {L : Array Slot} {i : Nat} {v : Value} (h : Fits P L) (hi : i + 1 < L.size) (hv : v.category = 2) :
    ∃ L', storeLocals L i v = some L' ∧ L'.size = L.size ∧ Fits (ps2 P i v) L' := by
  obtain ⟨L', e1, e2, e3, e4, e4', e5⟩ := store_two h.2 hi hv
  refine ⟨L', e1, e2, fun j s hj => ?_, e3⟩
  rcases pget_pput _ _ _ _ _ hj with ⟨rfl, q⟩ | ⟨ne, q⟩
  · rw [e4']; exact q
  rcases pget_pput _ _ _ _ _ q with ⟨rfl, q'⟩ | ⟨ne', q'⟩
  · rw [e4]; exact q'
  obtain ⟨q1, q2⟩ := pk2_sub q'
  obtain ⟨q3, q4⟩ := pkp_sub q1
  have hL := h.1 j s q3
  rcases e5 j ne' ne with r | ⟨r1, r2⟩ | ⟨r1, r2⟩
  · rw [r]; exact hL
  · obtain ⟨j', w, z1, z2, z3⟩ := h.2.1 i r2
    have : j' = j := by omega
    subst this
    rw [hL] at z2; cases z2
    have := q4 r1 w rfl; omega
  · rw [hL] at r2; cases r2
    exact absurd rfl (q2 r1)
/- what a body does from a place on -/
def Runs (C : Ctx) (M : Bdy) (k n pc : Nat) (P : Pat) (S : List Value) (G : AH) (Q : Option Value → AH → Prop) : Prop :=
  Ok C → ∀ (p : Program) (e : Env) (s : State) (m : MethodId) (args : Array Value) (below : List Frame) (meth : Method) (c : Code) (T : State) (locs : List Loc) (L : Array Slot),
    p.tables.exec = Jvm.exec → c.code = M.2.1 → c.maxLocals = M.2.2.1 → meth.sig.returnType = M.2.2.2.1 → meth.name = M.1.name → s.vm.findClass M.1.cls = some m.cls → C.2.1.Warmed39 s.vm →
    Fits P L → L.size = M.2.2.1 → Stand p C.1 e M.2.2.2.2 s m args below meth c T locs k n → Rep C.2.1 C.2.2.1 T.heap G → Fr C.2.2.1 locs →
    ∃ (T' : State) (locs' : List Loc) (k' n' : Nat) (r : Option Value) (G' : AH), Stand p C.1 e M.2.2.2.2 s m args below meth c T' locs' k' n' ∧ k' ≤ M.2.2.2.2.cells ∧ n' ≤ M.2.2.2.2.slots ∧ Rep C.2.1 C.2.2.1 T'.heap G' ∧ Fr C.2.2.1 locs' ∧ Q r G' ∧
      (M.2.2.2.1 = none → r = none) ∧
      ∀ fs : List Frame, (∀ (f : JFrame) (acts : List Action), f.method = m → f.locked = none → f.entered = [] → (doReturn e (T'.setTop f) acts r).1 = T'.setFrames fs) → Steps p.tables e below (T.setTop (mkF m pc L S)) (T'.setFrames fs)
section Rules
variable {C : Ctx} {M : Bdy} {k n pc q : Nat} {P P' : Pat} {S S' : List Value} {G : AH} {Q : Option Value → AH → Prop}
/-- a step that leaves the heap alone -/
theorem Runs.pure {i : Instr} {len : Nat} (d : DAt M pc i len q) {pc' : Nat}
    (st : ∀ (p : Program) (e : Env) (s : State) (m : MethodId) (args : Array Value) (below : List Frame) (meth : Method) (c : Code) (T : State) (locs : List Loc) (L : Array Slot), Ok C → p.tables.exec = Jvm.exec → s.vm.findClass M.1.cls = some m.cls → C.2.1.Warmed39 s.vm → decode c.code pc = .ok (i, len) → Fits P L → L.size = M.2.2.1 → Rep C.2.1 C.2.2.1 T.heap G →
      Stand p C.1 e M.2.2.2.2 s m args below meth c T locs k n → ∃ L', Fits P' L' ∧ L'.size = M.2.2.1 ∧ ∀ t, Steps p.tables e below (T.setTop (mkF m pc' L' S')) t → Steps p.tables e below (T.setTop (mkF m pc L S)) t)
    (h : Runs C M k n pc' P' S' G Q) : Runs C M k n pc P S G Q := by
  intro hw p e s m args below meth c T locs L hx hby hml hret hnm hown hZ hP hsz X hR hF
  obtain ⟨L', f1, f2, f3⟩ := st p e s m args below meth c T locs L hw hx hown hZ (hb hby d.1) hP hsz hR X
  obtain ⟨T', locs', k', n', r, G', g1, g2, g3, g4, g5, g6, g7, g8⟩ := h hw p e s m args below meth c T locs L' hx hby hml hret hnm hown hZ f1 f2 X hR hF
  exact ⟨T', locs', k', n', r, G', g1, g2, g3, g4, g5, g6, g7, fun fs hr => f3 _ (g8 fs hr)⟩
/-- a step that keeps the locals and what the heap says -/
theorem Runs.stk {i : Instr} {len : Nat} (d : DAt M pc i len q)
    (st : ∀ (p : Program) (e : Env) (s : State) (m : MethodId) (args : Array Value) (below : List Frame) (meth : Method) (c : Code) (T : State) (locs : List Loc) (L : Array Slot), p.tables.exec = Jvm.exec → decode c.code pc = .ok (i, len) → Fits P L →
      Stand p C.1 e M.2.2.2.2 s m args below meth c T locs k n → ∀ t, Steps p.tables e below (T.setTop (mkF m (pc + len) L S')) t → Steps p.tables e below (T.setTop (mkF m pc L S)) t)
    (h : Runs C M k n q P S' G Q) : Runs C M k n pc P S G Q := by
  have hq := d.2
  subst hq
  exact Runs.pure d (fun p e s m args below meth c T locs L _ hx _ _ hd hP hsz _ X => ⟨L, hP, hsz, st p e s m args below meth c T locs L hx hd hP X⟩) h
theorem Runs.iloadN {j : Fin 4} {v : Int32} (d : DAt M pc (.iload_n j) 1 q) (hl : pget P j.val = vi v) (h : Runs C M k n q P (.int v :: S) G Q) : Runs C M k n pc P S G Q :=
  Runs.stk d (fun p e s m args below meth c T locs L hx hd hP X t r => XS.iloadN (g := mkF m pc L S) X.here hx rfl hd (hP.1 _ _ hl) r) h
theorem Runs.iload {j : Nat} {v : Int32} (d : DAt M pc (.iload j) 2 q) (hl : pget P j = vi v) (h : Runs C M k n q P (.int v :: S) G Q) : Runs C M k n pc P S G Q :=
  Runs.stk d (fun p e s m args below meth c T locs L hx hd hP X t r => XS.iload (g := mkF m pc L S) X.here hx rfl hd (hP.1 _ _ hl) r) h
theorem Runs.lloadN {j : Fin 4} {v : Int64} (d : DAt M pc (.lload_n j) 1 q) (hl : pget P j.val = vl v) (h : Runs C M k n q P (.long v :: S) G Q) : Runs C M k n pc P S G Q :=
  Runs.stk d (fun p e s m args below meth c T locs L hx hd hP X t r => XS.lloadN (g := mkF m pc L S) X.here hx rfl hd (hP.1 _ _ hl) r) h
theorem Runs.lload {j : Nat} {v : Int64} (d : DAt M pc (.lload j) 2 q) (hl : pget P j = vl v) (h : Runs C M k n q P (.long v :: S) G Q) : Runs C M k n pc P S G Q :=
  Runs.stk d (fun p e s m args below meth c T locs L hx hd hP X t r => XS.lload (g := mkF m pc L S) X.here hx rfl hd (hP.1 _ _ hl) r) h
theorem Runs.aloadN {j : Fin 4} {v : Nat} (d : DAt M pc (.aload_n j) 1 q) (hl : pget P j.val = vr v) (h : Runs C M k n q P (.ref v :: S) G Q) : Runs C M k n pc P S G Q :=
  Runs.stk d (fun p e s m args below meth c T locs L hx hd hP X t r => XS.aloadN (g := mkF m pc L S) X.here hx rfl hd (hP.1 _ _ hl) rfl r) h
theorem Runs.aload {j : Nat} {v : Nat} (d : DAt M pc (.aload j) 2 q) (hl : pget P j = vr v) (h : Runs C M k n q P (.ref v :: S) G Q) : Runs C M k n pc P S G Q :=
  Runs.stk d (fun p e s m args below meth c T locs L hx hd hP X t r => XS.aload (g := mkF m pc L S) X.here hx rfl hd (hP.1 _ _ hl) rfl r) h
theorem Runs.iconst {i : Int} {v : Int32} (d : DAt M pc (.iconst i) 1 q) (hv : Int32.ofInt i = v) (h : Runs C M k n q P (.int v :: S) G Q) : Runs C M k n pc P S G Q :=
  Runs.stk d (fun p e s m args below meth c T locs L hx hd hP X t r => XS.iconst (g := mkF m pc L S) X.here hx rfl hd (by rw [hv]; exact r)) h
theorem Runs.bipush {i : Int} {v : Int32} (d : DAt M pc (.bipush i) 2 q) (hv : (Int8.ofInt i).toInt32 = v) (h : Runs C M k n q P (.int v :: S) G Q) : Runs C M k n pc P S G Q :=
  Runs.stk d (fun p e s m args below meth c T locs L hx hd hP X t r => XS.bipush (g := mkF m pc L S) X.here hx rfl hd (by rw [hv]; exact r)) h
theorem Runs.sipush {i : Int} {v : Int32} (d : DAt M pc (.sipush i) 3 q) (hv : (Int16.ofInt i).toInt32 = v) (h : Runs C M k n q P (.int v :: S) G Q) : Runs C M k n pc P S G Q :=
  Runs.stk d (fun p e s m args below meth c T locs L hx hd hP X t r => XS.sipush (g := mkF m pc L S) X.here hx rfl hd (by rw [hv]; exact r)) h
theorem Runs.lconst {i : Fin 2} {v : Int64} (d : DAt M pc (.lconst i) 1 q) (hv : Int64.ofNat i = v) (h : Runs C M k n q P (.long v :: S) G Q) : Runs C M k n pc P S G Q :=
  Runs.stk d (fun p e s m args below meth c T locs L hx hd hP X t r => Jvm.Free.XT.lconstV (g := mkF m pc L S) X.here hx rfl v hd hv r) h
theorem Runs.ldc {i : Nat} {v : Int32} (d : DAt M pc (.ldc i) 2 q) (w : Jvm.Cond.constant M.1.cls i v ∈ tables_1) (h : Runs C M k n q P (.int v :: S) G Q) : Runs C M k n pc P S G Q := by
  have hq := d.2
  subst hq
  exact Runs.pure d (fun p e s m args below meth c T locs L hw hx hown hZ hd hP hsz _ X => ⟨L, hP, hsz, fun t r => X.ldcInt hx hown (mvT hZ (hw _ w)) (g := mkF m pc L S) rfl hd t r⟩) h
theorem Runs.ldc2 {i : Nat} {v : Int64} (d : DAt M pc (.ldc2_w i) 3 q) (w : Jvm.Cond.constantLong M.1.cls i v ∈ tables_1) (h : Runs C M k n q P (.long v :: S) G Q) : Runs C M k n pc P S G Q := by
  have hq := d.2
  subst hq
  exact Runs.pure d (fun p e s m args below meth c T locs L hw hx hown hZ hd hP hsz _ X => ⟨L, hP, hsz, fun t r => X.ldc2Long hx hown (mvT hZ (hw _ w)) (g := mkF m pc L S) rfl hd t r⟩) h
theorem Runs.iadd {x y : Int32} (d : DAt M pc .iadd 1 q) (h : Runs C M k n q P (.int (x + y) :: S) G Q) : Runs C M k n pc P (.int y :: .int x :: S) G Q :=
  Runs.stk d (fun p e s m args below meth c T locs L hx hd hP X t r => XS.iadd (g := mkF m pc L (.int y :: .int x :: S)) X.here hx rfl hd rfl r) h
theorem Runs.isub {x y : Int32} (d : DAt M pc .isub 1 q) (h : Runs C M k n q P (.int (x - y) :: S) G Q) : Runs C M k n pc P (.int y :: .int x :: S) G Q :=
  Runs.stk d (fun p e s m args below meth c T locs L hx hd hP X t r => XS.isub (g := mkF m pc L (.int y :: .int x :: S)) X.here hx rfl hd rfl r) h
theorem Runs.imul {x y : Int32} (d : DAt M pc .imul 1 q) (h : Runs C M k n q P (.int (x * y) :: S) G Q) : Runs C M k n pc P (.int y :: .int x :: S) G Q :=
  Runs.stk d (fun p e s m args below meth c T locs L hx hd hP X t r => XS.imul (g := mkF m pc L (.int y :: .int x :: S)) X.here hx rfl hd rfl r) h
theorem Runs.iand {x y : Int32} (d : DAt M pc .iand 1 q) (h : Runs C M k n q P (.int (x &&& y) :: S) G Q) : Runs C M k n pc P (.int y :: .int x :: S) G Q :=
  Runs.stk d (fun p e s m args below meth c T locs L hx hd hP X t r => XS.iand (g := mkF m pc L (.int y :: .int x :: S)) X.here hx rfl hd rfl r) h
theorem Runs.ior {x y : Int32} (d : DAt M pc .ior 1 q) (h : Runs C M k n q P (.int (x ||| y) :: S) G Q) : Runs C M k n pc P (.int y :: .int x :: S) G Q :=
  Runs.stk d (fun p e s m args below meth c T locs L hx hd hP X t r => XS.ior (g := mkF m pc L (.int y :: .int x :: S)) X.here hx rfl hd rfl r) h
theorem Runs.ixor {x y : Int32} (d : DAt M pc .ixor 1 q) (h : Runs C M k n q P (.int (x ^^^ y) :: S) G Q) : Runs C M k n pc P (.int y :: .int x :: S) G Q :=
  Runs.stk d (fun p e s m args below meth c T locs L hx hd hP X t r => XS.ixor (g := mkF m pc L (.int y :: .int x :: S)) X.here hx rfl hd rfl r) h
theorem Runs.ladd {x y : Int64} (d : DAt M pc .ladd 1 q) (h : Runs C M k n q P (.long (x + y) :: S) G Q) : Runs C M k n pc P (.long y :: .long x :: S) G Q :=
  Runs.stk d (fun p e s m args below meth c T locs L hx hd hP X t r => XS.ladd (g := mkF m pc L (.long y :: .long x :: S)) X.here hx rfl hd rfl r) h
theorem Runs.lsub {x y : Int64} (d : DAt M pc .lsub 1 q) (h : Runs C M k n q P (.long (x - y) :: S) G Q) : Runs C M k n pc P (.long y :: .long x :: S) G Q :=
  Runs.stk d (fun p e s m args below meth c T locs L hx hd hP X t r => XS.lsub (g := mkF m pc L (.long y :: .long x :: S)) X.here hx rfl hd rfl r) h
theorem Runs.lmul {x y : Int64} (d : DAt M pc .lmul 1 q) (h : Runs C M k n q P (.long (x * y) :: S) G Q) : Runs C M k n pc P (.long y :: .long x :: S) G Q :=
  Runs.stk d (fun p e s m args below meth c T locs L hx hd hP X t r => XS.lmul (g := mkF m pc L (.long y :: .long x :: S)) X.here hx rfl hd rfl r) h
theorem Runs.land {x y : Int64} (d : DAt M pc .land 1 q) (h : Runs C M k n q P (.long (x &&& y) :: S) G Q) : Runs C M k n pc P (.long y :: .long x :: S) G Q :=
  Runs.stk d (fun p e s m args below meth c T locs L hx hd hP X t r => XS.land (g := mkF m pc L (.long y :: .long x :: S)) X.here hx rfl hd rfl r) h
theorem Runs.lor {x y : Int64} (d : DAt M pc .lor 1 q) (h : Runs C M k n q P (.long (x ||| y) :: S) G Q) : Runs C M k n pc P (.long y :: .long x :: S) G Q :=
  Runs.stk d (fun p e s m args below meth c T locs L hx hd hP X t r => XS.lor (g := mkF m pc L (.long y :: .long x :: S)) X.here hx rfl hd rfl r) h
theorem Runs.lxor {x y : Int64} (d : DAt M pc .lxor 1 q) (h : Runs C M k n q P (.long (x ^^^ y) :: S) G Q) : Runs C M k n pc P (.long y :: .long x :: S) G Q :=
  Runs.stk d (fun p e s m args below meth c T locs L hx hd hP X t r => XS.lxor (g := mkF m pc L (.long y :: .long x :: S)) X.here hx rfl hd rfl r) h
theorem Runs.ishl {x : Int32} {y : Int32} (d : DAt M pc .ishl 1 q) (h : Runs C M k n q P (.int (x <<< (y &&& 31)) :: S) G Q) : Runs C M k n pc P (.int y :: .int x :: S) G Q :=
  Runs.stk d (fun p e s m args below meth c T locs L hx hd hP X t r => XS.ishl (g := mkF m pc L (.int y :: .int x :: S)) X.here hx rfl hd rfl r) h
theorem Runs.ishr {x : Int32} {y : Int32} (d : DAt M pc .ishr 1 q) (h : Runs C M k n q P (.int (x >>> (y &&& 31)) :: S) G Q) : Runs C M k n pc P (.int y :: .int x :: S) G Q :=
  Runs.stk d (fun p e s m args below meth c T locs L hx hd hP X t r => XS.ishr (g := mkF m pc L (.int y :: .int x :: S)) X.here hx rfl hd rfl r) h
theorem Runs.iushr {x : Int32} {y : Int32} (d : DAt M pc .iushr 1 q) (h : Runs C M k n q P (.int ((x.toUInt32 >>> (y &&& 31).toUInt32).toInt32) :: S) G Q) : Runs C M k n pc P (.int y :: .int x :: S) G Q :=
  Runs.stk d (fun p e s m args below meth c T locs L hx hd hP X t r => XS.iushr (g := mkF m pc L (.int y :: .int x :: S)) X.here hx rfl hd rfl r) h
theorem Runs.lshl {x : Int64} {y : Int32} (d : DAt M pc .lshl 1 q) (h : Runs C M k n q P (.long (x <<< (y &&& 0x3f).toInt64) :: S) G Q) : Runs C M k n pc P (.int y :: .long x :: S) G Q :=
  Runs.stk d (fun p e s m args below meth c T locs L hx hd hP X t r => XS.lshl (g := mkF m pc L (.int y :: .long x :: S)) X.here hx rfl hd rfl r) h
theorem Runs.lshr {x : Int64} {y : Int32} (d : DAt M pc .lshr 1 q) (h : Runs C M k n q P (.long (x >>> (y &&& 0x3f).toInt64) :: S) G Q) : Runs C M k n pc P (.int y :: .long x :: S) G Q :=
  Runs.stk d (fun p e s m args below meth c T locs L hx hd hP X t r => XS.lshr (g := mkF m pc L (.int y :: .long x :: S)) X.here hx rfl hd rfl r) h
theorem Runs.lushr {x : Int64} {y : Int32} (d : DAt M pc .lushr 1 q) (h : Runs C M k n q P (.long ((x.toUInt64 >>> (y &&& 0x3f).toInt64.toUInt64).toInt64) :: S) G Q) : Runs C M k n pc P (.int y :: .long x :: S) G Q :=
  Runs.stk d (fun p e s m args below meth c T locs L hx hd hP X t r => XS.lushr (g := mkF m pc L (.int y :: .long x :: S)) X.here hx rfl hd rfl r) h
theorem Runs.ineg {x : Int32} (d : DAt M pc .ineg 1 q) (h : Runs C M k n q P (.int (-x) :: S) G Q) : Runs C M k n pc P (.int x :: S) G Q :=
  Runs.stk d (fun p e s m args below meth c T locs L hx hd hP X t r => XS.ineg (g := mkF m pc L (.int x :: S)) X.here hx rfl hd rfl r) h
theorem Runs.lneg {x : Int64} (d : DAt M pc .lneg 1 q) (h : Runs C M k n q P (.long (-x) :: S) G Q) : Runs C M k n pc P (.long x :: S) G Q :=
  Runs.stk d (fun p e s m args below meth c T locs L hx hd hP X t r => XS.lneg (g := mkF m pc L (.long x :: S)) X.here hx rfl hd rfl r) h
theorem Runs.i2l {x : Int32} (d : DAt M pc .i2l 1 q) (h : Runs C M k n q P (.long x.toInt64 :: S) G Q) : Runs C M k n pc P (.int x :: S) G Q :=
  Runs.stk d (fun p e s m args below meth c T locs L hx hd hP X t r => XS.i2l (g := mkF m pc L (.int x :: S)) X.here hx rfl hd rfl r) h
theorem Runs.l2i {x : Int64} (d : DAt M pc .l2i 1 q) (h : Runs C M k n q P (.int x.toInt32 :: S) G Q) : Runs C M k n pc P (.long x :: S) G Q :=
  Runs.stk d (fun p e s m args below meth c T locs L hx hd hP X t r => XS.l2i (g := mkF m pc L (.long x :: S)) X.here hx rfl hd rfl r) h
theorem Runs.lcmp {x y : Int64} (d : DAt M pc .lcmp 1 q) (h : Runs C M k n q P (.int (lcmpW x y) :: S) G Q) : Runs C M k n pc P (.long y :: .long x :: S) G Q :=
  Runs.stk d (fun p e s m args below meth c T locs L hx hd hP X t r => XS.lcmp (g := mkF m pc L (.long y :: .long x :: S)) X.here hx rfl hd rfl r) h
theorem Runs.idiv {x y : Int32} (d : DAt M pc .idiv 1 q) (hy : y ≠ 0) (h : Runs C M k n q P (.int (x / y) :: S) G Q) : Runs C M k n pc P (.int y :: .int x :: S) G Q :=
  Runs.stk d (fun p e s m args below meth c T locs L hx hd hP X t r => XS.idiv (g := mkF m pc L (.int y :: .int x :: S)) X.here hx rfl hd rfl hy r) h
theorem Runs.irem {x y : Int32} (d : DAt M pc .irem 1 q) (hy : y ≠ 0) (h : Runs C M k n q P (.int (x % y) :: S) G Q) : Runs C M k n pc P (.int y :: .int x :: S) G Q :=
  Runs.stk d (fun p e s m args below meth c T locs L hx hd hP X t r => iremM (g := mkF m pc L (.int y :: .int x :: S)) X hx rfl hd rfl hy r) h
theorem Runs.dup {x : Value} (d : DAt M pc .dup 1 q) (hc : x.category = 1) (h : Runs C M k n q P (x :: x :: S) G Q) : Runs C M k n pc P (x :: S) G Q :=
  Runs.stk d (fun p e s m args below meth c T locs L hx hd hP X t r => XS.dup (g := mkF m pc L (x :: S)) X.here hx rfl hd rfl hc r) h
theorem Runs.dup2 {x y : Value} (d : DAt M pc .dup2 1 q) (hc : x.category = 1) (hc' : y.category = 1) (h : Runs C M k n q P (x :: y :: x :: y :: S) G Q) : Runs C M k n pc P (x :: y :: S) G Q :=
  Runs.stk d (fun p e s m args below meth c T locs L hx hd hP X t r => Jvm.Free.XT.dup2 (g := mkF m pc L (x :: y :: S)) X.here hx rfl hd rfl hc hc' r) h
theorem Runs.pop {x : Value} (d : DAt M pc .pop 1 q) (hc : x.category = 1) (h : Runs C M k n q P S G Q) : Runs C M k n pc P (x :: S) G Q :=
  Runs.stk d (fun p e s m args below meth c T locs L hx hd hP X t r => XS.pop (g := mkF m pc L (x :: S)) X.here hx rfl hd rfl hc r) h
theorem Runs.goto {o : Int} {pc' : Nat} (d : DAt M pc (.goto o) 3 q) (ho : 0 ≤ (pc : Int) + o ∧ ((pc : Int) + o).toNat = pc') (h : Runs C M k n pc' P S G Q) : Runs C M k n pc P S G Q :=
  Runs.pure d (fun p e s m args below meth c T locs L hw hx hown hZ hd hP hsz _ X => ⟨L, hP, hsz, fun t r => XS.goto (g := mkF m pc L S) X.here hx rfl (pc0 := pc) rfl hd ho.1 ho.2 r⟩) h
theorem Runs.ifY {cd : ClassFile.Cond} {x : Int32} {o : Int} {pc' : Nat} (d : DAt M pc (.ifCond cd o) 3 q) (hc : if_icmp.holds cd x 0 = true) (ho : 0 ≤ (pc : Int) + o ∧ ((pc : Int) + o).toNat = pc') (h : Runs C M k n pc' P S G Q) : Runs C M k n pc P (.int x :: S) G Q :=
  Runs.pure d (fun p e s m args below meth c T locs L hw hx hown hZ hd hP hsz _ X => ⟨L, hP, hsz, fun t r => XS.ifYes (g := mkF m pc L (.int x :: S)) X.here hx rfl (pc0 := pc) rfl hd rfl ((if0 _ _).trans hc) ho.1 ho.2 r⟩) h
theorem Runs.ifN {cd : ClassFile.Cond} {x : Int32} {o : Int} (d : DAt M pc (.ifCond cd o) 3 q) (hc : if_icmp.holds cd x 0 = false) (h : Runs C M k n q P S G Q) : Runs C M k n pc P (.int x :: S) G Q :=
  Runs.stk d (fun p e s m args below meth c T locs L hx hd hP X t r => XS.ifNo (g := mkF m pc L (.int x :: S)) X.here hx rfl hd rfl ((if0 _ _).trans hc) r) h
theorem Runs.icY {cd : ClassFile.Cond} {x y : Int32} {o : Int} {pc' : Nat} (d : DAt M pc (.if_icmp cd o) 3 q) (hc : if_icmp.holds cd x y = true) (ho : 0 ≤ (pc : Int) + o ∧ ((pc : Int) + o).toNat = pc') (h : Runs C M k n pc' P S G Q) : Runs C M k n pc P (.int y :: .int x :: S) G Q :=
  Runs.pure d (fun p e s m args below meth c T locs L hw hx hown hZ hd hP hsz _ X => ⟨L, hP, hsz, fun t r => XS.icmpYes (g := mkF m pc L (.int y :: .int x :: S)) X.here hx rfl (pc0 := pc) rfl hd rfl hc ho.1 ho.2 r⟩) h
theorem Runs.icN {cd : ClassFile.Cond} {x y : Int32} {o : Int} (d : DAt M pc (.if_icmp cd o) 3 q) (hc : if_icmp.holds cd x y = false) (h : Runs C M k n q P S G Q) : Runs C M k n pc P (.int y :: .int x :: S) G Q :=
  Runs.stk d (fun p e s m args below meth c T locs L hx hd hP X t r => XS.icmpNo (g := mkF m pc L (.int y :: .int x :: S)) X.here hx rfl hd rfl hc r) h
theorem Runs.tswI {dflt low high : Int} {offs : Array Int} {len : Nat} {o : Int} {pc' : Nat} {i : Int32} (d : DAt M pc (.tableswitch dflt low high offs) len q) (hin : ¬ (i.toInt < low ∨ i.toInt > high)) (hoff : offs[(i.toInt - low).toNat]? = some o) (ho : 0 ≤ (pc : Int) + o ∧ ((pc : Int) + o).toNat = pc') (h : Runs C M k n pc' P S G Q) : Runs C M k n pc P (.int i :: S) G Q :=
  Runs.pure d (fun p e s m args below meth c T locs L hw hx hown hZ hd hP hsz _ X => ⟨L, hP, hsz, fun t r => XS.tswIn (g := mkF m pc L (.int i :: S)) X.here hx rfl (pc0 := pc) rfl hd rfl hin hoff ho.1 ho.2 r⟩) h
theorem Runs.tswO {dflt low high : Int} {offs : Array Int} {len : Nat} {pc' : Nat} {i : Int32} (d : DAt M pc (.tableswitch dflt low high offs) len q) (hout : i.toInt < low ∨ i.toInt > high) (ho : 0 ≤ (pc : Int) + dflt ∧ ((pc : Int) + dflt).toNat = pc') (h : Runs C M k n pc' P S G Q) : Runs C M k n pc P (.int i :: S) G Q :=
  Runs.pure d (fun p e s m args below meth c T locs L hw hx hown hZ hd hP hsz _ X => ⟨L, hP, hsz, fun t r => XS.tswOut (g := mkF m pc L (.int i :: S)) X.here hx rfl (pc0 := pc) rfl hd rfl hout ho.1 ho.2 r⟩) h
theorem Runs.istoreN {j : Fin 4} {x : Int32} (d : DAt M pc (.istore_n j) 1 q) (hi : j.val < M.2.2.1) (hP' : ps1 P j.val (.int x) = P') (h : Runs C M k n q P' S G Q) : Runs C M k n pc P (.int x :: S) G Q := by
  have hq := d.2
  subst hq hP'
  refine Runs.pure d (fun p e s m args below meth c T locs L hw hx hown hZ hd hP hsz _ X => ?_) h
  obtain ⟨L', e1, e2, e3⟩ := hP.store1 (i := j.val) (v := .int x) (by omega) rfl
  exact ⟨L', e3, e2.trans hsz, fun t r => XS.istoreN (g := mkF m pc L (.int x :: S)) X.here hx rfl hd rfl e1 r⟩
theorem Runs.istore {j : Nat} {x : Int32} (d : DAt M pc (.istore j) 2 q) (hi : j < M.2.2.1) (hP' : ps1 P j (.int x) = P') (h : Runs C M k n q P' S G Q) : Runs C M k n pc P (.int x :: S) G Q := by
  have hq := d.2
  subst hq hP'
  refine Runs.pure d (fun p e s m args below meth c T locs L hw hx hown hZ hd hP hsz _ X => ?_) h
  obtain ⟨L', e1, e2, e3⟩ := hP.store1 (i := j) (v := .int x) (by omega) rfl
  exact ⟨L', e3, e2.trans hsz, fun t r => XS.istore (g := mkF m pc L (.int x :: S)) X.here hx rfl hd rfl e1 r⟩
theorem Runs.astoreN {j : Fin 4} {x : Nat} (d : DAt M pc (.astore_n j) 1 q) (hi : j.val < M.2.2.1) (hP' : ps1 P j.val (.ref x) = P') (h : Runs C M k n q P' S G Q) : Runs C M k n pc P (.ref x :: S) G Q := by
  have hq := d.2
  subst hq hP'
  refine Runs.pure d (fun p e s m args below meth c T locs L hw hx hown hZ hd hP hsz _ X => ?_) h
  obtain ⟨L', e1, e2, e3⟩ := hP.store1 (i := j.val) (v := .ref x) (by omega) rfl
  exact ⟨L', e3, e2.trans hsz, fun t r => XS.astoreN (g := mkF m pc L (.ref x :: S)) X.here hx rfl hd rfl rfl e1 r⟩
theorem Runs.astore {j : Nat} {x : Nat} (d : DAt M pc (.astore j) 2 q) (hi : j < M.2.2.1) (hP' : ps1 P j (.ref x) = P') (h : Runs C M k n q P' S G Q) : Runs C M k n pc P (.ref x :: S) G Q := by
  have hq := d.2
  subst hq hP'
  refine Runs.pure d (fun p e s m args below meth c T locs L hw hx hown hZ hd hP hsz _ X => ?_) h
  obtain ⟨L', e1, e2, e3⟩ := hP.store1 (i := j) (v := .ref x) (by omega) rfl
  exact ⟨L', e3, e2.trans hsz, fun t r => XS.astore (g := mkF m pc L (.ref x :: S)) X.here hx rfl hd rfl rfl e1 r⟩
theorem Runs.lstoreN {j : Fin 4} {x : Int64} (d : DAt M pc (.lstore_n j) 1 q) (hi : j.val + 1 < M.2.2.1) (hP' : ps2 P j.val (.long x) = P') (h : Runs C M k n q P' S G Q) : Runs C M k n pc P (.long x :: S) G Q := by
  have hq := d.2
  subst hq hP'
  refine Runs.pure d (fun p e s m args below meth c T locs L hw hx hown hZ hd hP hsz _ X => ?_) h
  obtain ⟨L', e1, e2, e3⟩ := hP.store2 (i := j.val) (v := .long x) (by omega) rfl
  exact ⟨L', e3, e2.trans hsz, fun t r => XS.lstoreN (g := mkF m pc L (.long x :: S)) X.here hx rfl hd rfl e1 r⟩
theorem Runs.lstore {j : Nat} {x : Int64} (d : DAt M pc (.lstore j) 2 q) (hi : j + 1 < M.2.2.1) (hP' : ps2 P j (.long x) = P') (h : Runs C M k n q P' S G Q) : Runs C M k n pc P (.long x :: S) G Q := by
  have hq := d.2
  subst hq hP'
  refine Runs.pure d (fun p e s m args below meth c T locs L hw hx hown hZ hd hP hsz _ X => ?_) h
  obtain ⟨L', e1, e2, e3⟩ := hP.store2 (i := j) (v := .long x) (by omega) rfl
  exact ⟨L', e3, e2.trans hsz, fun t r => XS.lstore (g := mkF m pc L (.long x :: S)) X.here hx rfl hd rfl e1 r⟩
theorem Runs.iinc {j : Nat} {cst : Int} {x v : Int32} (d : DAt M pc (.iinc j cst) 3 q) (hv : Int32.ofInt cst = v) (hl : pget P j = vi x) (hi : j < M.2.2.1) (hP' : ps1 P j (.int (x + v)) = P') (h : Runs C M k n q P' S G Q) : Runs C M k n pc P S G Q := by
  have hq := d.2
  subst hq hP' hv
  refine Runs.pure d (fun p e s m args below meth c T locs L hw hx hown hZ hd hP hsz _ X => ?_) h
  obtain ⟨L', e1, e2, e3⟩ := hP.store1 (i := j) (v := .int (x + Int32.ofInt cst)) (by omega) rfl
  exact ⟨L', e3, e2.trans hsz, fun t r => XS.iinc (g := mkF m pc L S) X.here hx rfl hd (hP.1 _ _ hl) e1 r⟩
/-- less is known of the locals -/
def psub : Pat → Pat → Prop
  | [], _ => True
  | none :: l, _ :: l' => psub l l'
  | some s :: l, y :: l' => y = some s ∧ psub l l'
  | none :: l, [] => psub l []
  | some _ :: _, [] => False
theorem psub_get : ∀ (P P' : Pat), psub P P' → ∀ i s, pget P i = some s → pget P' i = some s
  | [], _, _, i, s, h => by simp [pget] at h
  | none :: l, _ :: l', H, 0, s, h => by simp [pget] at h
  | none :: l, _ :: l', H, i + 1, s, h => psub_get l l' H i s h
  | some x :: l, y :: l', H, 0, s, h => by rw [show y = some x from H.1]; exact h
  | some x :: l, y :: l', H, i + 1, s, h => psub_get l l' H.2 i s h
  | none :: l, [], H, 0, s, h => by simp [pget] at h
  | none :: l, [], H, i + 1, s, h => by have := psub_get l [] H i s h; simp [pget] at this
  | some _ :: _, [], H, _, _, _ => H.elim
theorem Runs.weak (hP : psub P' P) (h : Runs C M k n pc P' S G Q) : Runs C M k n pc P S G Q := by
  intro hw p e s m args below meth c T locs L hx hby hml hret hnm hown hZ hf
  exact h hw p e s m args below meth c T locs L hx hby hml hret hnm hown hZ ⟨fun i s hi => hf.1 i s (psub_get _ _ hP i s hi), hf.2⟩
theorem Runs.swap {top : Nat} {x y : Nat × Nat × Rec} {H : List (Nat × Nat × Rec)} (h : Runs C M k n pc P S (top, y :: x :: H) Q) : Runs C M k n pc P S (top, x :: y :: H) Q := by
  intro hw p e s m args below meth c T locs L hx hby hml hret hnm hown hZ hf hsz X hR hF
  exact h hw p e s m args below meth c T locs L hx hby hml hret hnm hown hZ hf hsz X hR.swap hF
end Rules
/- the steps that touch the heap -/
section Made
variable {p : Program} {l : Launch} {e : Env} {R : Room} {s : State} {m : MethodId} {args : Array Value} {below : List Frame} {meth : Method} {c : Code} {T : State} {locs : List Loc} {cells slots : Nat} {Z : State} {a0 : Array Value}
theorem ext_push (h : Heap) (x : Cell) : Ext h (h.push x) := ⟨by simp, fun a c q => by rw [Array.getElem?_push_lt (Array.getElem?_eq_some_iff.mp q).1]; exact (Array.getElem?_eq_getElem _).symm.trans q⟩
/-- 'new', with the heap's size behind it -/
theorem new1 (X : Stand p l e R s m args below meth c T locs cells slots) (hx : p.tables.exec = Jvm.exec) (hZ : Z.Warmed39 s.vm) {own C : String} {index n : Nat} (hown : s.vm.findClass own = some m.cls) (w : (Jvm.Cond.classLink own index C).before a0 Z = true) (wi : (Jvm.Cond.instantiable C n).before a0 Z = true) (wz : (Jvm.Cond.initialized C).before a0 Z = true)
    {g : JFrame} (hg : g.method = m) (hd : decode c.code g.pc = .ok (.new index, 3)) (hc : cells + 1 ≤ R.cells) (hl : slots + n ≤ R.slots) :
    ∃ T', Stand p l e R s m args below meth c T' locs (cells + 1) (slots + n) ∧ T'.heap.size = T.heap.size + 1 ∧ Ext T.heap T'.heap ∧ Exa Z T'.heap T.heap.size C ∧ (∀ {O nm d : String} {ty : FieldType}, Laid Z a0 C O nm d → parseFieldDescriptor d = some ty → Fld Z T'.heap T.heap.size O nm d (defaultValue ty)) ∧
      ∀ target, Steps p.tables e below (T'.setTop { g with pc := g.pc + 3, stack := .ref T.heap.size :: g.stack }) target → Steps p.tables e below (T.setTop g) target := by
  obtain ⟨vm', cC, kC, h1, h2, h3, h4, X', st⟩ := X.newCold hx hown (mv hZ w) (mv hZ wi) (mv hZ wz) hg hd hc hl
  rw [hZ.alike.findClass] at h1
  obtain ⟨kZ, z1, -⟩ := Vm.findClass_spec h1
  obtain ⟨k', z2, z3⟩ := hZ.alike.2.2 _ _ z1
  have ek : kC.instanceTypes = kZ.instanceTypes := by rw [Option.some.inj (h2.symm.trans z2), z3]
  obtain ⟨cell, hcell⟩ : ∃ cell : Cell, cell = { cls := cC, slots := kC.instanceTypes.map defaultValue, vm := .none } := ⟨_, rfl⟩
  rw [← hcell] at X' st
  have hp : ((T.setVm vm').pushCell cell).heap = T.heap.push cell := rfl
  have at' : (T.heap.push cell)[T.heap.size]? = some cell := by simp
  refine ⟨_, X', by rw [hp]; simp, by rw [hp]; exact ext_push _ _, ?_, fun {O nm d ty} L ht => ?_, st⟩
  · rw [hp]; exact ⟨cell, kZ, at', by rw [hcell]; exact h1, by rw [hcell]; exact z1, by rw [hcell]; rfl, fun _ => by rw [hcell]; simp [ek]⟩
  · rw [hp]
    obtain ⟨c1, k1, cf, kf, i, f, a1, a2, a3, a4, a5, a6, -⟩ := L.spec
    cases h1.symm.trans a1
    cases z1.symm.trans a2
    refine ⟨cell, cf, kf, i, f, at', a3, a4, by rw [hcell]; simp, by rw [hcell]; rfl, by rw [hcell]; exact a5, ?_⟩
    rw [hcell]; simp [ek, a6, (State.fieldFound?_type a3 ht).2]
theorem newArr1 (X : Stand p l e R s m args below meth c T locs cells slots) (hx : p.tables.exec = Jvm.exec) (hZ : Z.Warmed39 s.vm) {aty : ArrayType} (w : (Jvm.Cond.arrayClass (newarray.typeOf aty)).before a0 Z = true) {g : JFrame} (hg : g.method = m) (hd : decode c.code g.pc = .ok (.newarray aty, 2)) {n : Int32} {rest : List Value} (hs : g.stack = .int n :: rest)
    (hn : ¬ n < 0) (hb : n.toNatClampNeg * 8 ≤ 536870912) (hc : cells + 1 ≤ R.cells) (hl : slots + n.toNatClampNeg ≤ R.slots) :
    ∃ T' cA, Stand p l e R s m args below meth c T' locs (cells + 1) (slots + n.toNatClampNeg) ∧ T'.heap.size = T.heap.size + 1 ∧ Ext T.heap T'.heap ∧ Arr Z T'.heap T.heap.size (newA cA (newarray.typeOf aty) n) (newarray.typeOf aty) ∧
      ∀ target, Steps p.tables e below (T'.setTop { g with pc := g.pc + 2, stack := .ref T.heap.size :: rest }) target → Steps p.tables e below (T.setTop g) target := by
  have hcb : componentBytes (newarray.typeOf aty) ≤ 8 := by cases aty <;> decide
  obtain ⟨cA, kA, comp, h1, h2, h3, X', st⟩ := X.newarrayPrim hx (mvA hZ w) hg hd hs hn (Nat.le_trans (Nat.mul_le_mul_left _ hcb) hb) hc hl
  rw [hZ.alike.findClass] at h1
  obtain ⟨kZ, z1, -⟩ := Vm.findClass_spec h1
  obtain ⟨k', z2, z3⟩ := hZ.alike.2.2 _ _ z1
  have ek : kA.kind = kZ.kind := by rw [Option.some.inj (h2.symm.trans z2), z3]
  have hp : (T.pushCell (newA cA (newarray.typeOf aty) n)).heap = T.heap.push (newA cA (newarray.typeOf aty) n) := rfl
  refine ⟨T.pushCell (newA cA (newarray.typeOf aty) n), cA, X', by rw [hp]; simp, by rw [hp]; exact ext_push _ _, ?_, st⟩
  rw [hp]
  exact ⟨by simp, ⟨by simp [newA], kZ, z1, comp, by rw [← ek]; exact h3⟩, by simp [newA]⟩
end Made
section Heap
variable {C : Ctx} {M : Bdy} {k n pc q : Nat} {P P' : Pat} {S S' : List Value} {G : AH} {Q : Option Value → AH → Prop} {top : Nat} {a : Nat} {qq j idx : Nat} {ob : Rec} {H : List (Nat × Nat × Rec)} {nm ds : String}
theorem Runs.getI (d : DAt M pc (.getfield idx) 3 q) (w : Jvm.Cond.fieldLink M.1.cls idx K.1 nm ds ∈ tables_1) (hk : K.2.1[j]? = some (nm, ds)) (h : Runs C M k n q P (.int (gI ob j) :: S) (top, (a, qq, ob) :: H) Q) : Runs C M k n pc P (.ref a :: S) (top, (a, qq, ob) :: H) Q := by
  intro hw p e s m args below meth c T locs L hx hby hml hret hnm hown hZ hf hsz X hR hF
  have hq := d.2
  subst hq
  obtain ⟨T1, X1, e1, st1⟩ := getF X hx hZ hown (host := "") (Or.inl (hw _ w)) Via.refl rfl (hR.objs.2.2.2.1 j _ hk) (g := mkF m pc L (.ref a :: S)) rfl rfl (hb hby d.1)
  obtain ⟨T', locs', k', n', r, G', g1, g2, g3, g4, g5, g6, g7, g8⟩ := h hw p e s m args below meth c T1 locs L hx hby hml hret hnm hown hZ hf hsz X1 (by rw [e1]; exact hR) hF
  exact ⟨T', locs', k', n', r, G', g1, g2, g3, g4, g5, g6, g7, fun fs hr => st1 _ (g8 fs hr)⟩
theorem Runs.getA {ty : FieldType} {len : Int32} (d : DAt M pc (.getfield idx) 3 q) (hk : K.2.2[j]? = some (nm, ty, len)) (w : Jvm.Cond.fieldLink M.1.cls idx K.1 nm (aD ty) ∈ tables_1) (hq : j < qq) (h : Runs C M k n q P (.ref (a + 1 + j) :: S) (top, (a, qq, ob) :: H) Q) : Runs C M k n pc P (.ref a :: S) (top, (a, qq, ob) :: H) Q := by
  intro hw p e s m args below meth c T locs L hx hby hml hret hnm hown hZ hf hsz X hR hF
  have hqq := d.2
  subst hqq
  obtain ⟨T1, X1, e1, st1⟩ := getF X hx hZ hown (host := "") (Or.inl (hw _ w)) Via.refl rfl (hR.objs.2.2.2.2.1 j _ hk hq).1 (g := mkF m pc L (.ref a :: S)) rfl rfl (hb hby d.1)
  obtain ⟨T', locs', k', n', r, G', g1, g2, g3, g4, g5, g6, g7, g8⟩ := h hw p e s m args below meth c T1 locs L hx hby hml hret hnm hown hZ hf hsz X1 (by rw [e1]; exact hR) hF
  exact ⟨T', locs', k', n', r, G', g1, g2, g3, g4, g5, g6, g7, fun fs hr => st1 _ (g8 fs hr)⟩
theorem lw_of {Z : State} {a0 : Array Value} {meth : Method} (hw : ∀ d ∈ tables_1, d.before a0 Z = true) {C O n d own : String} (h : Jvm.Cond.lays C O n d ∈ tables_1 ∨ Jvm.Cond.laysFinal C O n d ∈ tables_1) (hc : Jvm.Cond.lays C O n d ∈ tables_1 ∨ (own = O ∧ meth.name = "<init>")) : (Jvm.Cond.lays C O n d).before a0 Z = true ∨ ((Jvm.Cond.laysFinal C O n d).before a0 Z = true ∧ own = O ∧ meth.name = "<init>") := by
  rcases hc with hc | hc
  · exact Or.inl (hw _ hc)
  · exact h.imp (hw _) (fun u => ⟨hw _ u, hc⟩)
/-- a field that may be written here: not final, or in a constructor of its class -/
def Mine (M : Bdy) (nm ds : String) : Prop := Jvm.Cond.lays K.1 K.1 nm ds ∈ tables_1 ∨ (M.1.cls = K.1 ∧ M.1.name = "<init>")
theorem Runs.putI {x : Int32} (d : DAt M pc (.putfield idx) 3 q) (w : Jvm.Cond.fieldLink M.1.cls idx K.1 nm "I" ∈ tables_1) (hk : K.2.1[j]? = some (nm, "I")) (hm : Mine M nm "I") (h : Runs C M k n q P S (top, (a, qq, sI ob j x) :: H) Q) : Runs C M k n pc P (.int x :: .ref a :: S) (top, (a, qq, ob) :: H) Q := by
  intro hw p e s m args below meth c T locs L hx hby hml hret hnm hown hZ hf hsz X hR hF
  have hqq := d.2
  subst hqq
  obtain ⟨T1, h1, X1, e1, W1, st1⟩ := putF X hx hZ hown (host := "") (Or.inl (hw _ w)) Via.refl rfl (hR.objs.2.2.2.1 j _ hk) hR.objs.2.2.1 (lw_of hw ((All.mem kS (List.mem_of_getElem? hk)).1) (hm.imp id (fun u => ⟨u.1, hnm.trans u.2⟩))) (hw _ kI) (ty := .int) (by decide) rfl rfl (g := mkF m pc L (.int x :: .ref a :: S)) rfl rfl (hb hby d.1)
  obtain ⟨T', locs', k', n', r, G', g1, g2, g3, g4, g5, g6, g7, g8⟩ := h hw p e s m args below meth c T1 _ L hx hby hml hret hnm hown hZ hf hsz X1 (by rw [e1]; exact hR.putI hw hk W1) (Fr.snoc X1 hF hR.objs.1)
  exact ⟨T', locs', k', n', r, G', g1, g2, g3, g4, g5, g6, g7, fun fs hr => st1 _ (g8 fs hr)⟩
theorem Runs.putZ {x y : Int32} (d : DAt M pc (.putfield idx) 3 q) (w : Jvm.Cond.fieldLink M.1.cls idx K.1 nm "Z" ∈ tables_1) (hk : K.2.1[j]? = some (nm, "Z")) (hm : Mine M nm "Z") (hy : nar .boolean x = y) (h : Runs C M k n q P S (top, (a, qq, sI ob j y) :: H) Q) : Runs C M k n pc P (.int x :: .ref a :: S) (top, (a, qq, ob) :: H) Q := by
  subst hy
  intro hw p e s m args below meth c T locs L hx hby hml hret hnm hown hZ hf hsz X hR hF
  have hqq := d.2
  subst hqq
  obtain ⟨T1, h1, X1, e1, W1, st1⟩ := putFN X hx hZ hown (hw _ w) Via.refl rfl (hR.objs.2.2.2.1 j _ hk) hR.objs.2.2.1 (lw_of hw ((All.mem kS (List.mem_of_getElem? hk)).1) (hm.imp id (fun u => ⟨u.1, hnm.trans u.2⟩))) (hw _ kI) (ty := .boolean) (v' := .int (nar .boolean x)) (by decide) rfl (fits_nar_bool _) (g := mkF m pc L (.int x :: .ref a :: S)) rfl rfl (hb hby d.1)
  obtain ⟨T', locs', k', n', r, G', g1, g2, g3, g4, g5, g6, g7, g8⟩ := h hw p e s m args below meth c T1 _ L hx hby hml hret hnm hown hZ hf hsz X1 (by rw [e1]; exact hR.putI hw hk W1) (Fr.snoc X1 hF hR.objs.1)
  exact ⟨T', locs', k', n', r, G', g1, g2, g3, g4, g5, g6, g7, fun fs hr => st1 _ (g8 fs hr)⟩
theorem Runs.ialoadA {i len : Int32} (d : DAt M pc .iaload 1 q) (hk : K.2.2[j]? = some (nm, .int, len)) (hq : j < qq) (hi : ¬ i < 0 ∧ i < len) (h : Runs C M k n q P (.int (gA ob j i) :: S) (top, (a, qq, ob) :: H) Q) : Runs C M k n pc P (.int i :: .ref (a + 1 + j) :: S) (top, (a, qq, ob) :: H) Q := by
  have hqq := d.2
  subst hqq
  refine Runs.pure d (fun p e s m args below meth c T locs L hw hx hown hZ hd hP hsz hR X => ⟨L, hP, hsz, fun t r => ?_⟩) h
  obtain ⟨cl, A, Sz, V⟩ := (hR.objs.2.2.2.2.1 j _ hk hq).2
  exact X.iaload hx (j := i) (v := .int (gA ob j i)) A.1 (State.isArrayOf_alike hZ.alike A.2.1) A.2.2 (inb_of Sz hi) (V i hi.1 hi.2) (g := mkF m pc L (.int i :: .ref (a + 1 + j) :: S)) rfl rfl hd _ r
theorem Runs.baloadA {i len : Int32} (d : DAt M pc .baload 1 q) (hk : K.2.2[j]? = some (nm, .boolean, len)) (hq : j < qq) (hi : ¬ i < 0 ∧ i < len) (h : Runs C M k n q P (.int (gA ob j i) :: S) (top, (a, qq, ob) :: H) Q) : Runs C M k n pc P (.int i :: .ref (a + 1 + j) :: S) (top, (a, qq, ob) :: H) Q := by
  have hqq := d.2
  subst hqq
  refine Runs.pure d (fun p e s m args below meth c T locs L hw hx hown hZ hd hP hsz hR X => ⟨L, hP, hsz, fun t r => ?_⟩) h
  obtain ⟨cl, A, Sz, V⟩ := (hR.objs.2.2.2.2.1 j _ hk hq).2
  exact X.baloadBooleans hx (j := i) (v := .int (gA ob j i)) A.1 (State.isArrayOf_alike hZ.alike A.2.1) A.2.2 (inb_of Sz hi) (V i hi.1 hi.2) (g := mkF m pc L (.int i :: .ref (a + 1 + j) :: S)) rfl rfl hd _ r
theorem Runs.laloadA {i len : Int32} (d : DAt M pc .laload 1 q) (hk : K.2.2[j]? = some (nm, .long, len)) (hq : j < qq) (hi : ¬ i < 0 ∧ i < len) (h : Runs C M k n q P (.long (gJ ob j i) :: S) (top, (a, qq, ob) :: H) Q) : Runs C M k n pc P (.int i :: .ref (a + 1 + j) :: S) (top, (a, qq, ob) :: H) Q := by
  have hqq := d.2
  subst hqq
  refine Runs.pure d (fun p e s m args below meth c T locs L hw hx hown hZ hd hP hsz hR X => ⟨L, hP, hsz, fun t r => ?_⟩) h
  obtain ⟨cl, A, Sz, V⟩ := (hR.objs.2.2.2.2.1 j _ hk hq).2
  exact X.laload hx (j := i) (v := .long (gJ ob j i)) A.1 (State.isArrayOf_alike hZ.alike A.2.1) A.2.2 (inb_of Sz hi) (V i hi.1 hi.2) (g := mkF m pc L (.int i :: .ref (a + 1 + j) :: S)) rfl rfl hd _ r
theorem Runs.iastoreA {i x len : Int32} (d : DAt M pc .iastore 1 q) (hk : K.2.2[j]? = some (nm, .int, len)) (hq : j < qq) (hi : ¬ i < 0 ∧ i < len) (h : Runs C M k n q P S (top, (a, qq, sA ob j i x) :: H) Q) : Runs C M k n pc P (.int x :: .int i :: .ref (a + 1 + j) :: S) (top, (a, qq, ob) :: H) Q := by
  intro hw p e s m args below meth c T locs L hx hby hml hret hnm hown hZ hf hsz X hR hF
  have hqq := d.2
  subst hqq
  obtain ⟨cl, A, Sz, V⟩ := (hR.objs.2.2.2.2.1 j _ hk hq).2
  obtain ⟨T1, h1, X1, e1, W1, st1⟩ := stI X hx hZ rfl A (j := i) (x := x) (inb_of Sz hi) (g := mkF m pc L (.int x :: .int i :: .ref (a + 1 + j) :: S)) rfl rfl (hb hby d.1)
  obtain ⟨T', locs', k', n', r, G', g1, g2, g3, g4, g5, g6, g7, g8⟩ := h hw p e s m args below meth c T1 _ L hx hby hml hret hnm hown hZ hf hsz X1 (by rw [e1]; exact hR.putA hk hq (by simp) hi W1) (Fr.snoc X1 hF (by have := hR.objs.1; omega))
  exact ⟨T', locs', k', n', r, G', g1, g2, g3, g4, g5, g6, g7, fun fs hr => st1 _ (g8 fs hr)⟩
theorem Runs.bastoreA {i x len : Int32} (d : DAt M pc .bastore 1 q) (hk : K.2.2[j]? = some (nm, .boolean, len)) (hq : j < qq) (hi : ¬ i < 0 ∧ i < len) {y : Int32} (hy : nar .boolean x = y) (h : Runs C M k n q P S (top, (a, qq, sA ob j i y) :: H) Q) : Runs C M k n pc P (.int x :: .int i :: .ref (a + 1 + j) :: S) (top, (a, qq, ob) :: H) Q := by
  subst hy
  intro hw p e s m args below meth c T locs L hx hby hml hret hnm hown hZ hf hsz X hR hF
  have hqq := d.2
  subst hqq
  obtain ⟨cl, A, Sz, V⟩ := (hR.objs.2.2.2.2.1 j _ hk hq).2
  obtain ⟨T1, h1, X1, e1, W1, st1⟩ := stZ X hx hZ rfl A (j := i) (x := x) (inb_of Sz hi) (g := mkF m pc L (.int x :: .int i :: .ref (a + 1 + j) :: S)) rfl rfl (hb hby d.1)
  obtain ⟨T', locs', k', n', r, G', g1, g2, g3, g4, g5, g6, g7, g8⟩ := h hw p e s m args below meth c T1 _ L hx hby hml hret hnm hown hZ hf hsz X1 (by rw [e1]; exact hR.putA hk hq (by simp) hi W1) (Fr.snoc X1 hF (by have := hR.objs.1; omega))
  exact ⟨T', locs', k', n', r, G', g1, g2, g3, g4, g5, g6, g7, fun fs hr => st1 _ (g8 fs hr)⟩
theorem Runs.lastoreA {i len : Int32} {x : Int64} (d : DAt M pc .lastore 1 q) (hk : K.2.2[j]? = some (nm, .long, len)) (hq : j < qq) (hi : ¬ i < 0 ∧ i < len) (h : Runs C M k n q P S (top, (a, qq, sJ ob j i x) :: H) Q) : Runs C M k n pc P (.long x :: .int i :: .ref (a + 1 + j) :: S) (top, (a, qq, ob) :: H) Q := by
  intro hw p e s m args below meth c T locs L hx hby hml hret hnm hown hZ hf hsz X hR hF
  have hqq := d.2
  subst hqq
  obtain ⟨cl, A, Sz, V⟩ := (hR.objs.2.2.2.2.1 j _ hk hq).2
  obtain ⟨T1, h1, X1, e1, W1, st1⟩ := stJ X hx hZ rfl A (j := i) (x := x) (inb_of Sz hi) (g := mkF m pc L (.long x :: .int i :: .ref (a + 1 + j) :: S)) rfl rfl (hb hby d.1)
  obtain ⟨T', locs', k', n', r, G', g1, g2, g3, g4, g5, g6, g7, g8⟩ := h hw p e s m args below meth c T1 _ L hx hby hml hret hnm hown hZ hf hsz X1 (by rw [e1]; exact hR.putJ hk hq rfl hi W1) (Fr.snoc X1 hF (by have := hR.objs.1; omega))
  exact ⟨T', locs', k', n', r, G', g1, g2, g3, g4, g5, g6, g7, fun fs hr => st1 _ (g8 fs hr)⟩
/-- the script: an array that stood before the law began -/
def ScrF (C : Ctx) (sa : Nat) (z : Int32) (f : Int32 → Int32) : Prop := ∃ cl : Cell, Scr C.2.1 C.2.1.heap sa cl z ∧ f = atv cl
theorem Runs.lenS {sa : Nat} {z : Int32} {f : Int32 → Int32} (hs : ScrF C sa z f) (d : DAt M pc .arraylength 1 q) (h : Runs C M k n q P (.int z :: S) G Q) : Runs C M k n pc P (.ref sa :: S) G Q := by
  have hqq := d.2
  subst hqq
  refine Runs.pure d (fun p e s m args below meth c T locs L hw hx hown hZ hd hP hsz hR X => ⟨L, hP, hsz, fun t r => ?_⟩) h
  obtain ⟨cl, F, -⟩ := hs
  obtain ⟨A, Sz, N, V⟩ := F.ext hR.2.1.2
  exact X.arraylength hx A.1 (State.isArrayOf_alike hZ.alike A.2.1) (g := mkF m pc L (.ref sa :: S)) rfl rfl hd _ (by rw [len_of Sz N]; exact r)
theorem Runs.ialoadS {sa : Nat} {z i : Int32} {f : Int32 → Int32} (hs : ScrF C sa z f) (d : DAt M pc .iaload 1 q) (hi : ¬ i < 0 ∧ i < z) (h : Runs C M k n q P (.int (f i) :: S) G Q) : Runs C M k n pc P (.int i :: .ref sa :: S) G Q := by
  have hqq := d.2
  subst hqq
  refine Runs.pure d (fun p e s m args below meth c T locs L hw hx hown hZ hd hP hsz hR X => ⟨L, hP, hsz, fun t r => ?_⟩) h
  obtain ⟨cl, F, rfl⟩ := hs
  obtain ⟨A, Sz, N, V⟩ := F.ext hR.2.1.2
  exact X.iaload hx (j := i) (v := .int (atv cl i)) A.1 (State.isArrayOf_alike hZ.alike A.2.1) A.2.2 (inb_of Sz hi) (V i (inb_of Sz hi)) (g := mkF m pc L (.int i :: .ref sa :: S)) rfl rfl hd _ r
/- leaving -/
theorem Runs.retI {v : Int32} (d : DAt M pc .ireturn 1 q) (hret : M.2.2.2.1 = some .int) (hk : k ≤ M.2.2.2.2.cells ∧ n ≤ M.2.2.2.2.slots) (hQ : Q (some (.int v)) G) : Runs C M k n pc P (.int v :: S) G Q := by
  intro hw p e s m args below meth c T locs L hx hby hml hr0 hnm hown hZ hf hsz X hR hF
  exact ⟨T, locs, k, n, _, G, X, hk.1, hk.2, hR, hF, hQ, (fun u => by rw [hret] at u; cases u), fun fs hr => Jvm.RoadKit.retI X hx (hr0.trans hret) (hb hby d.1) hr⟩
theorem Runs.retZ {v : Int32} (d : DAt M pc .ireturn 1 q) (hret : M.2.2.2.1 = some .boolean) (hk : k ≤ M.2.2.2.2.cells ∧ n ≤ M.2.2.2.2.slots) {y : Int32} (hy : nar .boolean v = y) (hQ : Q (some (.int y)) G) : Runs C M k n pc P (.int v :: S) G Q := by
  subst hy
  intro hw p e s m args below meth c T locs L hx hby hml hr0 hnm hown hZ hf hsz X hR hF
  exact ⟨T, locs, k, n, _, G, X, hk.1, hk.2, hR, hF, hQ, (fun u => by rw [hret] at u; cases u), fun fs hr => retN X hx (t := .boolean) (hr0.trans hret) (by simp) (hb hby d.1) hr⟩
theorem Runs.retJ {v : Int64} (d : DAt M pc .lreturn 1 q) (hret : M.2.2.2.1 = some .long) (hk : k ≤ M.2.2.2.2.cells ∧ n ≤ M.2.2.2.2.slots) (hQ : Q (some (.long v)) G) : Runs C M k n pc P (.long v :: []) G Q := by
  intro hw p e s m args below meth c T locs L hx hby hml hr0 hnm hown hZ hf hsz X hR hF
  exact ⟨T, locs, k, n, _, G, X, hk.1, hk.2, hR, hF, hQ, (fun u => by rw [hret] at u; cases u), fun fs hr => X.lreturnOut hx (hr0.trans hret) (hb hby d.1) hr⟩
theorem Runs.retV (d : DAt M pc .return_ 1 q) (hret : M.2.2.2.1 = none) (hk : k ≤ M.2.2.2.2.cells ∧ n ≤ M.2.2.2.2.slots) (hQ : Q none G) : Runs C M k n pc P [] G Q := by
  intro hw p e s m args below meth c T locs L hx hby hml hr0 hnm hown hZ hf hsz X hR hF
  exact ⟨T, locs, k, n, _, G, X, hk.1, hk.2, hR, hF, hQ, (fun _ => rfl), fun fs hr => X.returnOut hx (hr0.trans hret) (hb hby d.1) hr⟩
/- a new object, and the arrays that its constructor makes -/
theorem Runs.newK (d : DAt M pc (.new idx) 3 q) (w : Jvm.Cond.classLink M.1.cls idx K.1 ∈ tables_1) (hc : k + 1 ≤ M.2.2.2.2.cells ∧ n + kN ≤ M.2.2.2.2.slots) {k' n' : Nat} (hk' : k + 1 = k') (hn' : n + kN = n') {H : List (Nat × Nat × Rec)} (hd : ∀ x ∈ H, x.1 + x.2.1 < top) (h : Runs C M k' n' q P (.ref top :: S) (top + 1, (top, 0, zrec) :: H) Q) : Runs C M k n pc P S (top, H) Q := by
  subst hk' hn'
  intro hw p e s m args below meth c T locs L hx hby hml hr0 hnm hown hZ hf hsz X hR hF
  have hqq := d.2
  subst hqq
  obtain ⟨T2, X2, s2, E2, A2, D2, st2⟩ := new1 X hx hZ hown (hw _ w) (hw _ kI) (hw _ kZ) (g := mkF m pc L S) rfl (hb hby d.1) hc.1 hc.2
  have hs : T.heap.size = top := hR.1
  rw [hs] at A2 D2 st2 s2
  have hR2 : Rep C.2.1 C.2.2.1 T2.heap (top + 1, (top, 0, zrec) :: H) := by
    refine ⟨s2, hR.2.1.ext E2, fun x hx' => ?_, ?_⟩
    · rcases List.mem_cons.mp hx' with rfl | hx'
      · refine ⟨?_, by simp, A2, fun k nd hk => ?_, fun k t hk hq => by simp at hq, fun k t hk hq => ?_⟩
        · have := hR.2.1.2.1; rw [hR.2.1.1] at this; simp only; omega
        · rcases (All.mem kS (List.mem_of_getElem? hk)).2 with e | e
          · have := D2 (laidS hw hk) (ty := .int) (by rw [e]; decide); exact this
          · have := D2 (laidS hw hk) (ty := .boolean) (by rw [e]; decide); exact this
        · have := D2 (laidA hw hk) (pfA hk); exact this
      · obtain ⟨p1, p2, p3⟩ := hR.2.2.1 x hx'
        exact ⟨p1, by simp only at p2 ⊢; omega, p3.ext E2⟩
    · exact List.pairwise_cons.mpr ⟨fun y hy => Or.inr (hd y hy), hR.2.2.2⟩
  obtain ⟨T', locs', k', n', r, G', g1, g2, g3, g4, g5, g6, g7, g8⟩ := h hw p e s m args below meth c T2 _ L hx hby hml hr0 hnm hown hZ hf hsz X2 hR2 hF
  exact ⟨T', locs', k', n', r, G', g1, g2, g3, g4, g5, g6, g7, fun fs hr => st2 _ (g8 fs hr)⟩
/-- newarray and the putfield behind it: the next array of an object that is being made -/
theorem Runs.newArr {aty : ArrayType} {ty : FieldType} {len : Int32} {q1 : Nat} (d : DAt M pc (.newarray aty) 2 q1) (d' : DAt M q1 (.putfield idx) 3 q) (hk : K.2.2[j]? = some (nm, ty, len)) (w : Jvm.Cond.fieldLink M.1.cls idx K.1 nm (aD ty) ∈ tables_1) (ht : newarray.typeOf aty = ty) (wa : Jvm.Cond.arrayClass ty ∈ tables_1) (hm : Mine M nm (aD ty))
    (htop : top = a + 1 + j) (hlen : ¬ len < 0 ∧ len.toNatClampNeg * 8 ≤ 536870912) (hc : k + 1 ≤ M.2.2.2.2.cells ∧ n + len.toNatClampNeg ≤ M.2.2.2.2.slots) (hz : (∀ i, ob.2.1 j i = 0) ∧ (∀ i, ob.2.2 j i = 0)) {j' top' k' n' : Nat} (hj' : j + 1 = j') (ht' : top + 1 = top') (hk' : k + 1 = k') (hn' : n + len.toNatClampNeg = n')
    (h : Runs C M k' n' q P S (top', (a, j', ob) :: H) Q) : Runs C M k n pc P (.int len :: .ref a :: S) (top, (a, j, ob) :: H) Q := by
  subst hj' ht' hk' hn'
  intro hw p e s m args below meth c T locs L hx hby hml hr0 hnm hown hZ hf hsz X hR hF
  have hqq := d.2
  have hqq' := d'.2
  subst hqq hqq' ht
  obtain ⟨T1, cA, X1, s1, E1, A1, st1⟩ := newArr1 X hx hZ (hw _ wa) (g := mkF m pc L (.int len :: .ref a :: S)) rfl (hb hby d.1) rfl hlen.1 hlen.2 hc.1 hc.2
  have hs : T.heap.size = top := hR.1
  rw [hs] at A1 st1 s1
  have O1 := hR.objs.2.2.ext E1
  obtain ⟨T2, h2, X2, e2, W2, st2⟩ := putF X1 hx hZ hown (host := "") (Or.inl (hw _ w)) Via.refl rfl (O1.2.2.2 j _ hk (Nat.le_refl _)) O1.1 (lw_of hw ((All.mem kA (List.mem_of_getElem? hk)).1) (hm.imp id (fun u => ⟨u.1, hnm.trans u.2⟩))) (hw _ kI) (ty := .array (newarray.typeOf aty)) (pfA hk) rfl rfl (g := mkF m (pc + 2) L (.ref top :: .ref a :: S)) rfl rfl (hb hby d'.1)
  have hts : (newarray.typeOf aty = .int ∨ newarray.typeOf aty = .boolean ∨ newarray.typeOf aty = .long) := (All.mem kA (List.mem_of_getElem? hk)).2.1
  have hA := arr_new A1 hts hz
  have hR2 : Rep C.2.1 C.2.2.1 T2.heap (top + 1, (a, j + 1, ob) :: H) := by rw [e2]; exact hR.addA hw E1 s1 htop hk hA W2
  obtain ⟨T', locs', k', n', r, G', g1, g2, g3, g4, g5, g6, g7, g8⟩ := h hw p e s m args below meth c T2 _ L hx hby hml hr0 hnm hown hZ hf hsz X2 hR2 (Fr.snoc X2 hF hR.objs.1)
  exact ⟨T', locs', k', n', r, G', g1, g2, g3, g4, g5, g6, g7, fun fs hr => st1 _ (st2 _ (g8 fs hr))⟩
theorem Runs.initO {W : Nat} (d : DAt M pc (.invokespecial idx) 3 q) (w1 : Jvm.Cond.methodLink M.1.cls idx Lib.objectInit ∈ tables_1) (w2 : Jvm.Cond.instanceMethod Lib.objectInit ∈ tables_1) (w3 : Jvm.Cond.code Lib.objectInit ⟨#[0xb1]⟩ 1 none ∈ tables_1) (hW : (S.map fun v => v.category).sum = W) (hc : 1 ≤ M.2.2.2.2.frames ∧ W + 12 ≤ M.2.2.2.2.locals) (h : Runs C M k n q P S G Q) : Runs C M k n pc P (.ref a :: S) G Q := by
  intro hw p e s m args below meth c T locs L hx hby hml hr0 hnm hown hZ hf hsz X hR hF
  have hqq := d.2
  subst hqq
  obtain ⟨T1, X1, e1, st1⟩ := Jvm.RoadKit.initO X hx hZ hown (hw _ w1) (hw _ w2) (hw _ w3) rfl (g := mkF m pc L (.ref a :: S)) rfl (by rw [hml]; exact hsz) rfl (hb hby d.1) hc.1 (W := W) (by show 2 * 0 + _ ≤ _; omega) hc.2
  obtain ⟨T', locs', k', n', r, G', g1, g2, g3, g4, g5, g6, g7, g8⟩ := h hw p e s m args below meth c T1 _ L hx hby hml hr0 hnm hown hZ hf hsz X1 (by rw [e1]; exact hR) hF
  exact ⟨T', locs', k', n', r, G', g1, g2, g3, g4, g5, g6, g7, fun fs hr => st1 _ (g8 fs hr)⟩
end Heap
/- a body's contract, and the calls that are paid by one -/
def Pays (C : Ctx) (N : Bdy) (as : List Value) (G : AH) (Q : Option Value → AH → Prop) : Prop :=
  Ok C → ∀ h0 : Heap, Rep C.2.1 C.2.2.1 h0 G → ∀ ws : List Jvm.Cond, MetFree C.1 N.1 (head1 (Jvm.Cond.code N.1 N.2.1 N.2.2.1 N.2.2.2.1 :: ws) N.2.2.2.2) (fun a U => a = as.toArray ∧ C.2.1.Warmed39 U.vm ∧ U.heap = h0) (fun _ _ _ _ _ => True)
    (fun _ U o U' => ∃ v L, o = .returned v ∧ (Fr C.2.2.1 L ∧ ∃ G', Rep C.2.1 C.2.2.1 U'.heap G' ∧ Q v G') ∧ FrameEnd U o U' L N.2.2.2.2.cells N.2.2.2.2.slots)
def lay : List Value → List Slot
  | [] => []
  | v :: l => if v.category = 2 then .val v :: .second :: lay l else .val v :: lay l
theorem lay_foldl (l : List Value) : ∀ acc : Array Slot, (l.foldl (fun acc v => if v.category = 2 then (acc.push (.val v)).push .second else acc.push (.val v)) acc).toList = acc.toList ++ lay l := by
  induction l with
  | nil => intro acc; simp [lay]
  | cons v l ih =>
    intro acc
    rw [List.foldl_cons, ih]
    by_cases h : v.category = 2 <;> simp [lay, h]
theorem args_lay (as : List Value) (ml : Nat) : argsToLocals as.toArray ml = (lay as ++ List.replicate (ml - (lay as).length) Slot.unset).toArray := by
  have h := lay_foldl as #[]
  apply Array.ext'
  simp only [argsToLocals, Array.toList_append, List.toList_toArray] at *
  rw [show (as.toArray.foldl (init := #[]) fun acc v => if v.category = 2 then (acc.push (Slot.val v)).push .second else acc.push (.val v)).toList = lay as by simpa using h]
  congr 1
  rw [← Array.length_toList, show (as.toArray.foldl (init := #[]) fun acc v => if v.category = 2 then (acc.push (Slot.val v)).push .second else acc.push (.val v)).toList = lay as by simpa using h]
  simp
def WFL (l : List Slot) : Prop := (∀ i : Nat, l[i]? = some .second → ∃ (j : Nat) (v : Value), i = j + 1 ∧ l[j]? = some (.val v) ∧ v.category = 2) ∧ (∀ (i : Nat) (v : Value), l[i]? = some (.val v) → v.category = 2 → l[i + 1]? = some .second)
theorem WFL.unset (n : Nat) : WFL (List.replicate n Slot.unset) := by
  refine ⟨fun i h => ?_, fun i v h => ?_⟩ <;> (rw [List.getElem?_replicate] at h; split at h <;> cases h)
theorem WFL.one {l : List Slot} {v : Value} (h : WFL l) (hv : v.category ≠ 2) : WFL (.val v :: l) := by
  refine ⟨fun i hi => ?_, fun i w hi hw => ?_⟩
  · cases i with
    | zero => simp at hi
    | succ i =>
      obtain ⟨j, w, e1, e2, e3⟩ := h.1 i (by simpa using hi)
      exact ⟨j + 1, w, by omega, by simpa using e2, e3⟩
  · cases i with
    | zero => simp at hi; subst hi; exact absurd hw hv
    | succ i => have := h.2 i w (by simpa using hi) hw; simpa using this
theorem WFL.two {l : List Slot} {v : Value} (h : WFL l) (hv : v.category = 2) : WFL (.val v :: .second :: l) := by
  refine ⟨fun i hi => ?_, fun i w hi hw => ?_⟩
  · match i, hi with
    | 0, hi => simp at hi
    | 1, hi => exact ⟨0, v, rfl, by simp, hv⟩
    | i + 2, hi =>
      obtain ⟨j, w, e1, e2, e3⟩ := h.1 i (by simpa using hi)
      exact ⟨j + 2, w, by omega, by simpa using e2, e3⟩
  · match i, hi with
    | 0, hi => simp
    | 1, hi => simp at hi
    | i + 2, hi => have := h.2 i w (by simpa using hi) hw; simpa using this
theorem WFL.lay (as : List Value) (n : Nat) : WFL (lay as ++ List.replicate n Slot.unset) := by
  induction as with
  | nil => exact WFL.unset n
  | cons v l ih =>
    by_cases h : v.category = 2
    · simpa [Jvm.Pilot.@@N@@.lay, h] using ih.two h
    · simpa [Jvm.Pilot.@@N@@.lay, h] using ih.one h
def pforget : List Bool → Pat → Pat
  | [], _ => []
  | _, [] => []
  | true :: ms, x :: l => x :: pforget ms l
  | false :: ms, _ :: l => none :: pforget ms l
theorem pforget_get : ∀ (ms : List Bool) (P : Pat) (i : Nat) (s : Slot), pget (pforget ms P) i = some s → pget P i = some s
  | [], _, i, s, h => by simp [pforget, pget] at h
  | _ :: _, [], i, s, h => by simp [pforget, pget] at h
  | true :: ms, x :: l, 0, s, h => h
  | true :: ms, x :: l, i + 1, s, h => pforget_get ms l i s h
  | false :: ms, x :: l, 0, s, h => by simp [pforget, pget] at h
  | false :: ms, x :: l, i + 1, s, h => pforget_get ms l i s h
section Calls
variable {C : Ctx} {M N : Bdy} {k n pc q : Nat} {P P' : Pat} {S S' : List Value} {G G1 : AH} {Q : Option Value → AH → Prop} {top : Nat} {a : Nat} {qq j idx W : Nat} {ob : Rec} {H : List (Nat × Nat × Rec)} {as : List Value}
theorem Runs.forget (ms : List Bool) (hP : pforget ms P = P') (h : Runs C M k n pc P' S G Q) : Runs C M k n pc P S G Q := by
  intro hw p e s m args below meth c T locs L hx hby hml hret hnm hown hZ hf
  subst hP
  exact h hw p e s m args below meth c T locs L hx hby hml hret hnm hown hZ ⟨fun i s hi => hf.1 i s (pforget_get _ _ i s hi), hf.2⟩
theorem Pays.of (hpl : plainName N.1.cls = true) (hml : (lay as).length ≤ N.2.2.1) (x : Nat) (hP : (lay as).map some ++ List.replicate x none = P) (h : Runs C N 0 0 0 P [] G Q) : Pays C N as G Q := by
  intro hw h0 hR ws
  refine MetFree.of_bodySF (plainFor_of_name hpl) hisR ?_
  intro p e s m args below meth c s₁ Bd hml0 hp hK
  obtain ⟨rfl, hZ, hh⟩ := hp
  have X0 : Stand p C.1 e N.2.2.2.2 s m as.toArray below meth c s₁ [] 0 0 := Stand.of_body Bd
  have e0 : s₁.heap = h0 := by rw [← hh, Bd.state]; rfl
  obtain ⟨L, hL⟩ : ∃ L : Array Slot, L = (lay as ++ List.replicate (N.2.2.1 - (lay as).length) Slot.unset).toArray := ⟨_, rfl⟩
  have hfit : Fits P L := by
    subst hP hL
    refine ⟨fun i s hi => ?_, ?_⟩
    · rw [pget_eq] at hi
      cases hq : (lay as)[i]? with
      | none =>
        rw [List.getElem?_append_right (by simpa using hq), List.getElem?_replicate] at hi
        split at hi <;> simp at hi
      | some y =>
        have hlt := (List.getElem?_eq_some_iff.mp hq).1
        rw [List.getElem?_append_left (by simpa using hlt), List.getElem?_map, hq] at hi
        have this : y = s := by simpa using hi
        simp only [List.getElem?_toArray]
        rw [List.getElem?_append_left hlt, hq, this]
    · have := WFL.lay as (N.2.2.1 - (lay as).length)
      refine ⟨fun i hi => ?_, fun i v hi hv => ?_⟩
      · rw [List.getElem?_toArray] at hi
        obtain ⟨j, v, e1, e2, e3⟩ := this.1 i hi
        exact ⟨j, v, e1, by rw [List.getElem?_toArray]; exact e2, e3⟩
      · rw [List.getElem?_toArray] at hi ⊢
        exact this.2 i v hi hv
  obtain ⟨T', locs', k', n', r, G', g1, g2, g3, g4, g5, g6, g7, g8⟩ := h hw p e s m as.toArray below meth c s₁ [] L Bd.exec Bd.bytes hml0 Bd.returns (name_of_methodNamed Bd.named Bd.method).1 (findClass_of_methodNamed Bd.named) hZ hfit (by rw [hL]; simp; omega) X0 (by rw [e0]; exact hR) (Fr.nil _)
  obtain ⟨fs, hr, hrun, hended, hW, hsame⟩ := g1.leave (v := r) (fun u => g7 (by rw [← Bd.returns]; exact u))
  refine ⟨_, _, ?_, hrun, hended, _, _, rfl, ⟨g5, G', ?_, g6⟩, ⟨_, rfl⟩, hW, hsame.mono g2 g3⟩
  · have ef : entryFrame m as.toArray N.2.2.1 = mkF m 0 L [] := by
      rw [hL, ← args_lay]; rfl
    rw [ef]; exact g8 fs hr
  · exact g4
abbrev room_al (M N : Bdy) (W k n : Nat) : Prop := N.2.2.2.2.frames + 1 ≤ M.2.2.2.2.frames ∧ W + (N.2.2.1 + 11) + N.2.2.2.2.locals ≤ M.2.2.2.2.locals ∧ k + N.2.2.2.2.cells ≤ M.2.2.2.2.cells ∧ n + N.2.2.2.2.slots ≤ M.2.2.2.2.slots
abbrev room_ok (M N : Bdy) (W : Nat) : Prop := N.2.2.2.2.frames + 1 ≤ M.2.2.2.2.frames ∧ W + (N.2.2.1 + 11) + N.2.2.2.2.locals ≤ M.2.2.2.2.locals ∧ N.2.2.2.2.cells = 0 ∧ N.2.2.2.2.slots = 0
abbrev full_ok (M : Bdy) (k n : Nat) : Prop := k ≤ M.2.2.2.2.cells ∧ n ≤ M.2.2.2.2.slots
theorem room_ok.al (h : room_ok M N W) (f : full_ok M k n) : room_al M N W k n := ⟨h.1, h.2.1, by rw [h.2.2.1]; exact f.1, by rw [h.2.2.2]; exact f.2⟩
abbrev code_w (N : Bdy) : Prop := Jvm.Cond.code N.1 N.2.1 N.2.2.1 N.2.2.2.1 ∈ tables_1 ∧ Jvm.Cond.initialized N.1.cls ∈ tables_1 ∧ (N.1.cls ≠ "java/lang/invoke/MethodHandle" ∧ N.1.cls ≠ "java/lang/invoke/VarHandle")
def arity (N : Bdy) (na : Nat) : Prop := ∃ ps r, parseMethodDescriptor N.1.desc = some ⟨ps, r⟩ ∧ na = ps.length
theorem arity.len {na : Nat} (h : arity N na) (e : as.length = na) : ∀ sig, parseMethodDescriptor N.1.desc = some sig → as.length = sig.parameters.length := by
  obtain ⟨ps, r, h1, h2⟩ := h
  exact lenOf h1 (e.trans h2)
theorem after_call {v : Option Value} {p : Program} {e : Env} {s : State} {m : MethodId} {args : Array Value} {below : List Frame} {meth : Method} {c : Code} {T T0 : State} {locs : List Loc} {L : Array Slot} {QN : Option Value → AH → Prop} {Lc : List Loc}
    (hw : Ok C) (hx : p.tables.exec = Jvm.exec) (hby : c.code = M.2.1) (hml : c.maxLocals = M.2.2.1) (hret : meth.sig.returnType = M.2.2.2.1) (hnm : meth.name = M.1.name) (hown : s.vm.findClass M.1.cls = some m.cls) (hZ : C.2.1.Warmed39 s.vm) (hf : Fits P L) (hsz : L.size = M.2.2.1) (hF : Fr C.2.2.1 locs)
    (X : Stand p C.1 e M.2.2.2.2 s m args below meth c T (locs ++ Lc) (k + N.2.2.2.2.cells) (n + N.2.2.2.2.slots)) (hQ : Fr C.2.2.1 Lc ∧ ∃ G', Rep C.2.1 C.2.2.1 T.heap G' ∧ QN v G')
    (h : ∀ v G', QN v G' → Runs C M (k + N.2.2.2.2.cells) (n + N.2.2.2.2.slots) (pc + 3) P (v.toList ++ S') G' Q)
    (st : ∀ t, Steps p.tables e below (T.setTop (mkF m (pc + 3) L (v.toList ++ S'))) t → Steps p.tables e below (T0.setTop (mkF m pc L S)) t) :
    ∃ (T' : State) (locs' : List Loc) (k' n' : Nat) (r : Option Value) (G' : AH), Stand p C.1 e M.2.2.2.2 s m args below meth c T' locs' k' n' ∧ k' ≤ M.2.2.2.2.cells ∧ n' ≤ M.2.2.2.2.slots ∧ Rep C.2.1 C.2.2.1 T'.heap G' ∧ Fr C.2.2.1 locs' ∧ Q r G' ∧
      (M.2.2.2.1 = none → r = none) ∧
      ∀ fs : List Frame, (∀ (f : JFrame) (acts : List Action), f.method = m → f.locked = none → f.entered = [] → (doReturn e (T'.setTop f) acts r).1 = T'.setFrames fs) → Steps p.tables e below (T0.setTop (mkF m pc L S)) (T'.setFrames fs) := by
  obtain ⟨f1, G', f2, f3⟩ := hQ
  obtain ⟨T', locs', k', n', r, G'', g1, g2, g3, g4, g5, g6, g7, g8⟩ := h v G' f3 hw p e s m args below meth c T _ L hx hby hml hret hnm hown hZ hf hsz X f2 (Fr.app hF f1)
  exact ⟨T', locs', k', n', r, G'', g1, g2, g3, g4, g5, g6, g7, fun fs hr => st _ (g8 fs hr)⟩
theorem Runs.callS {QN : Option Value → AH → Prop} (d : DAt M pc (.invokestatic idx) 3 q) (wl : Jvm.Cond.methodLink M.1.cls idx N.1 ∈ tables_1) (wt : Jvm.Cond.static N.1 ∈ tables_1) (wc : code_w N) (ar : arity N as.length) (hr0 : room_ok M N W) (hfull : full_ok M k n) (hS : S = as.reverse ++ S') (hW : (S'.map fun v => v.category).sum = W)
    (hN : Pays C N as G QN) (h : ∀ v G', QN v G' → Runs C M k n q P (v.toList ++ S') G' Q) : Runs C M k n pc P S G Q := by
  intro hw p e s m args below meth c T locs L hx hby hml hret hnm hown hZ hf hsz X hR hF
  have hq := d.2
  subst hq hS
  have hr := hr0.al hfull
  obtain ⟨_, _, ⟨T1, L1, k1, n1⟩, -, X1, ⟨Lc, hQ, l1, y1, z1⟩, st⟩ := Jvm.LawKit.callS X hx (y := N.1) hown (mvT hZ (hw _ wl)) (mvT hZ (hw _ wt)) (mvT hZ (hw _ wc.2.1)) (mvT hZ (hw _ wc.1)) wc.2.2 (backOf (W := W) (Q := fun v h L => Fr C.2.2.1 L ∧ ∃ G', Rep C.2.1 C.2.2.1 h G' ∧ QN v G') (hN hw T.heap hR []) hZ (hw _ wc.1) (hw _ wc.2.1) hr.1 hr.2.1) (g := mkF m pc L (as.reverse ++ S')) rfl (by rw [hml]; exact hsz) (argsL := as) (rest := S') (ar.len rfl) rfl (by show 2 * 0 + _ ≤ _; omega) (hb hby d.1) (fun _ _ => ⟨rfl, rfl, hr.2.2.1, hr.2.2.2⟩)
  dsimp only [Pt.U, Pt.locs, Pt.cells, Pt.slots] at X1 l1 y1 z1 st hQ
  subst l1 y1 z1
  exact after_call hw hx hby hml hret hnm hown hZ hf hsz hF X1 hQ (by rw [hr0.2.2.1, hr0.2.2.2]; exact h) (fun t u => st t u)
theorem Runs.callV {QN : Option Value → AH → Prop} (d : DAt M pc (.invokevirtual idx) 3 q) (wl : Jvm.Cond.methodLink M.1.cls idx N.1 ∈ tables_1) (wd : Jvm.Cond.declares N.1 ∈ tables_1) (wi : Jvm.Cond.instanceMethod N.1 ∈ tables_1) (ws : Jvm.Cond.selects K.1 N.1 N.1 ∈ tables_1) (wc : code_w N) (ar : arity N as.length) (hr0 : room_ok M N W) (hfull : full_ok M k n) (hS : S = as.reverse ++ .ref a :: S') (hW : (S'.map fun v => v.category).sum = W)
    (hN : Pays C N (.ref a :: as) (top, (a, qq, ob) :: H) QN) (h : ∀ v G', QN v G' → Runs C M k n q P (v.toList ++ S') G' Q) : Runs C M k n pc P S (top, (a, qq, ob) :: H) Q := by
  intro hw p e s m args below meth c T locs L hx hby hml hret hnm hown hZ hf hsz X hR hF
  have hq := d.2
  subst hq hS
  have hr := hr0.al hfull
  obtain ⟨cB, kB, u1, -, u3⟩ := isOf hZ rfl hR.objs.2.2.1
  obtain ⟨_, _, ⟨T1, L1, k1, n1⟩, -, X1, ⟨Lc, hQ, l1, y1, z1⟩, st⟩ := X.virtualBack hx (y := N.1) (z := N.1) hown (mvT hZ (hw _ wl)) (mvT hZ (hw _ wd)) (notFace_of_selects (args := #[]) (mvT hZ (hw _ ws))) (mvT hZ (hw _ ws)) (mvT hZ (hw _ wi)) wc.2.2 (backOf (W := W) (Q := fun v h L => Fr C.2.2.1 L ∧ ∃ G', Rep C.2.1 C.2.2.1 h G' ∧ QN v G') (hN hw T.heap hR []) hZ (hw _ wc.1) (hw _ wc.2.1) hr.1 hr.2.1) u1 u3 (g := mkF m pc L (as.reverse ++ .ref a :: S')) rfl (by rw [hml]; exact hsz) (Steps.refl _) (argsL := as) (rest := S') (ar.len rfl) rfl (by show 2 * 0 + _ ≤ _; omega) (hb hby d.1) (fun _ _ => ⟨rfl, rfl, hr.2.2.1, hr.2.2.2⟩)
  dsimp only [Pt.U, Pt.locs, Pt.cells, Pt.slots] at X1 l1 y1 z1 st hQ
  subst l1 y1 z1
  exact after_call hw hx hby hml hret hnm hown hZ hf hsz hF X1 hQ (by rw [hr0.2.2.1, hr0.2.2.2]; exact h) (fun t u => st.trans u)
theorem Runs.callP {QN : Option Value → AH → Prop} (d : DAt M pc (.invokevirtual idx) 3 q) (wl : Jvm.Cond.methodLink M.1.cls idx N.1 ∈ tables_1) (wi : Jvm.Cond.instanceMethod N.1 ∈ tables_1) (wp : Jvm.Cond.privateMethod N.1 ∈ tables_1) (wK : N.1.cls = K.1) (wc : code_w N) (ar : arity N as.length) (hr0 : room_ok M N W) (hfull : full_ok M k n) (hS : S = as.reverse ++ .ref a :: S') (hW : (S'.map fun v => v.category).sum = W)
    (hN : Pays C N (.ref a :: as) (top, (a, qq, ob) :: H) QN) (h : ∀ v G', QN v G' → Runs C M k n q P (v.toList ++ S') G' Q) : Runs C M k n pc P S (top, (a, qq, ob) :: H) Q := by
  intro hw p e s m args below meth c T locs L hx hby hml hret hnm hown hZ hf hsz X hR hF
  have hq := d.2
  subst hq hS
  have hr := hr0.al hfull
  obtain ⟨cl, u1, u2⟩ := hR.objs.2.2.1.cell
  have hpr : s.PrivateAt N.1 := Cond.privateMethod_at (mvP hZ (hw _ wp) (args := #[]))
  obtain ⟨c2, k2, i1, i2, i3, i4, -⟩ := Cond.instantiable_spec (mvT (args := args) hZ (hw _ kI))
  have hsel : (Jvm.Cond.selects N.1.cls N.1 N.1).before args s = true := Stand.selects_self_of_private (by rw [wK]; exact i1) i2 (by simp at i4; exact i4.1) hpr (mvT hZ (hw _ wi)) wc.2.2
  obtain ⟨_, _, ⟨T1, L1, k1, n1⟩, -, X1, ⟨Lc, hQ, l1, y1, z1⟩, st⟩ := X.privateBack hx (y := N.1) hown (mvT hZ (hw _ wl)) (mvT hZ (hw _ wi)) hsel hpr (mvT hZ (hw _ wc.1)) wc.2.2 (backOf (W := W) (Q := fun v h L => Fr C.2.2.1 L ∧ ∃ G', Rep C.2.1 C.2.2.1 h G' ∧ QN v G') (hN hw T.heap hR []) hZ (hw _ wc.1) (hw _ wc.2.1) hr.1 hr.2.1) (g := mkF m pc L (as.reverse ++ .ref a :: S')) rfl (by rw [hml]; exact hsz) (Steps.refl _) (a := a) u1 u2 (argsL := as) (rest := S') (ar.len rfl) rfl (by show 2 * 0 + _ ≤ _; omega) (hb hby d.1) (fun _ _ => ⟨rfl, rfl, hr.2.2.1, hr.2.2.2⟩)
  dsimp only [Pt.U, Pt.locs, Pt.cells, Pt.slots] at X1 l1 y1 z1 st hQ
  subst l1 y1 z1
  exact after_call hw hx hby hml hret hnm hown hZ hf hsz hF X1 hQ (by rw [hr0.2.2.1, hr0.2.2.2]; exact h) (fun t u => st.trans u)
theorem Runs.callI {QN : Option Value → AH → Prop} (d : DAt M pc (.invokespecial idx) 3 q) (hi : N.1.name = "<init>") (hn : N.2.2.2.1 = none) (wl : Jvm.Cond.methodLink M.1.cls idx N.1 ∈ tables_1) (wi : Jvm.Cond.instanceMethod N.1 ∈ tables_1) (wc : code_w N) (ar : arity N as.length) (hr : room_al M N W k n) (hS : S = as.reverse ++ .ref a :: S') (hW : (S'.map fun v => v.category).sum = W) {k' n' : Nat} (hk' : k + N.2.2.2.2.cells = k') (hn' : n + N.2.2.2.2.slots = n')
    (hN : Pays C N (.ref a :: as) G QN) (h : ∀ v G', QN v G' → Runs C M k' n' q P (v.toList ++ S') G' Q) : Runs C M k n pc P S G Q := by
  intro hw p e s m args below meth c T locs L hx hby hml hret hnm hown hZ hf hsz X hR hF
  have hq := d.2
  subst hq hS hk' hn'
  have wc1 := hw _ wc.1
  obtain ⟨_, _, ⟨T1, L1, k1, n1⟩, -, X1, ⟨Lc, hQ, l1, y1, z1⟩, st⟩ := X.specialBack hx (y := N.1) hi hown (mvT hZ (hw _ wl)) (mvT hZ (hw _ wi)) (bytes := N.2.1) (maxL := N.2.2.1) (by have := mvT (args := args) hZ wc1; rw [hn] at this; exact this) wc.2.2 (backOf (W := W) (Q := fun v h L => Fr C.2.2.1 L ∧ ∃ G', Rep C.2.1 C.2.2.1 h G' ∧ QN v G') (hN hw T.heap hR []) hZ wc1 (hw _ wc.2.1) hr.1 hr.2.1) (g := mkF m pc L (as.reverse ++ .ref a :: S')) rfl (by rw [hml]; exact hsz) (Steps.refl _) (a := a) (argsL := as) (rest := S') (ar.len rfl) rfl (by show 2 * 0 + _ ≤ _; omega) (hb hby d.1) (fun _ _ => ⟨rfl, rfl, hr.2.2.1, hr.2.2.2⟩)
  dsimp only [Pt.U, Pt.locs, Pt.cells, Pt.slots] at X1 l1 y1 z1 st hQ
  subst l1 y1 z1
  exact after_call hw hx hby hml hret hnm hown hZ hf hsz hF X1 hQ h (fun t u => st.trans u)
/-- the plain form of a contract: one answer, one heap -/
abbrev Ans (r : Option Value) (G1 : AH) : Option Value → AH → Prop := fun v G' => v = r ∧ G' = G1
theorem ans1 {x : Value} {k n : Nat} (h : Runs C M k n pc P (x :: S) G1 Q) : ∀ v G', Ans (some x) G1 v G' → Runs C M k n pc P (v.toList ++ S) G' Q := by
  rintro v G' ⟨rfl, rfl⟩; exact h
theorem ans0 {k n : Nat} (h : Runs C M k n pc P S G1 Q) : ∀ v G', Ans none G1 v G' → Runs C M k n pc P (v.toList ++ S) G' Q := by
  rintro v G' ⟨rfl, rfl⟩; exact h
end Calls
theorem pnK : plainName "LogicalReplicator" = true := by first | (simp [plainName, overriddenIn]; done) | decide +kernel
theorem pnL : plainName "LogicalReplicatorL3" = true := by first | (simp [plainName, overriddenIn]; done) | decide +kernel
theorem w0 : (Jvm.Cond.classLink "LogicalReplicatorL3" (7 : Nat) "LogicalReplicator") ∈ tables_1 := mem1 0 rfl
theorem w3 : (Jvm.Cond.methodLink "LogicalReplicatorL3" (9 : Nat) ({ cls := "LogicalReplicator", name := "<init>", desc := "(IIII)V" } : Jvm.MethodName)) ∈ tables_1 := mem1 3 rfl
theorem w4 : (Jvm.Cond.instanceMethod ({ cls := "LogicalReplicator", name := "<init>", desc := "(IIII)V" } : Jvm.MethodName)) ∈ tables_1 := mem1 4 rfl
theorem w6 : (Jvm.Cond.methodLink "LogicalReplicator" (1 : Nat) ({ cls := "java/lang/Object", name := "<init>", desc := "()V" } : Jvm.MethodName)) ∈ tables_1 := mem1 6 rfl
theorem w7 : (Jvm.Cond.instanceMethod ({ cls := "java/lang/Object", name := "<init>", desc := "()V" } : Jvm.MethodName)) ∈ tables_1 := mem1 7 rfl
theorem w8 : (Jvm.Cond.code ({ cls := "java/lang/Object", name := "<init>", desc := "()V" } : Jvm.MethodName) object_method_1_code (1 : Nat) (Option.none : Option Jvm.ClassFile.FieldType)) ∈ tables_1 := mem1 8 rfl
theorem w9 : (Jvm.Cond.arrayClass Jvm.ClassFile.FieldType.int) ∈ tables_1 := mem1 9 rfl
theorem w10 : (Jvm.Cond.fieldLink "LogicalReplicator" (7 : Nat) "LogicalReplicator" "recKind" "[I") ∈ tables_1 := mem1 10 rfl
theorem w11 : (Jvm.Cond.lays "LogicalReplicator" "LogicalReplicator" "recKind" "[I") ∈ tables_1 := mem1 11 rfl
theorem w12 : (Jvm.Cond.fieldLink "LogicalReplicator" (13 : Nat) "LogicalReplicator" "recSlot" "[I") ∈ tables_1 := mem1 12 rfl
theorem w13 : (Jvm.Cond.lays "LogicalReplicator" "LogicalReplicator" "recSlot" "[I") ∈ tables_1 := mem1 13 rfl
theorem w14 : (Jvm.Cond.fieldLink "LogicalReplicator" (16 : Nat) "LogicalReplicator" "recKey" "[I") ∈ tables_1 := mem1 14 rfl
theorem w15 : (Jvm.Cond.lays "LogicalReplicator" "LogicalReplicator" "recKey" "[I") ∈ tables_1 := mem1 15 rfl
theorem w16 : (Jvm.Cond.fieldLink "LogicalReplicator" (19 : Nat) "LogicalReplicator" "recVal" "[I") ∈ tables_1 := mem1 16 rfl
theorem w17 : (Jvm.Cond.lays "LogicalReplicator" "LogicalReplicator" "recVal" "[I") ∈ tables_1 := mem1 17 rfl
theorem w18 : (Jvm.Cond.fieldLink "LogicalReplicator" (22 : Nat) "LogicalReplicator" "recBegin" "[I") ∈ tables_1 := mem1 18 rfl
theorem w19 : (Jvm.Cond.lays "LogicalReplicator" "LogicalReplicator" "recBegin" "[I") ∈ tables_1 := mem1 19 rfl
theorem w20 : (Jvm.Cond.arrayClass Jvm.ClassFile.FieldType.boolean) ∈ tables_1 := mem1 20 rfl
theorem w21 : (Jvm.Cond.fieldLink "LogicalReplicator" (25 : Nat) "LogicalReplicator" "slotOpen" "[Z") ∈ tables_1 := mem1 21 rfl
theorem w22 : (Jvm.Cond.lays "LogicalReplicator" "LogicalReplicator" "slotOpen" "[Z") ∈ tables_1 := mem1 22 rfl
theorem w23 : (Jvm.Cond.fieldLink "LogicalReplicator" (29 : Nat) "LogicalReplicator" "slotBegin" "[I") ∈ tables_1 := mem1 23 rfl
theorem w24 : (Jvm.Cond.lays "LogicalReplicator" "LogicalReplicator" "slotBegin" "[I") ∈ tables_1 := mem1 24 rfl
theorem w25 : (Jvm.Cond.fieldLink "LogicalReplicator" (32 : Nat) "LogicalReplicator" "pubHas" "[Z") ∈ tables_1 := mem1 25 rfl
theorem w26 : (Jvm.Cond.lays "LogicalReplicator" "LogicalReplicator" "pubHas" "[Z") ∈ tables_1 := mem1 26 rfl
theorem w27 : (Jvm.Cond.fieldLink "LogicalReplicator" (35 : Nat) "LogicalReplicator" "pubVal" "[I") ∈ tables_1 := mem1 27 rfl
theorem w28 : (Jvm.Cond.lays "LogicalReplicator" "LogicalReplicator" "pubVal" "[I") ∈ tables_1 := mem1 28 rfl
theorem w29 : (Jvm.Cond.fieldLink "LogicalReplicator" (38 : Nat) "LogicalReplicator" "subHas" "[Z") ∈ tables_1 := mem1 29 rfl
theorem w30 : (Jvm.Cond.lays "LogicalReplicator" "LogicalReplicator" "subHas" "[Z") ∈ tables_1 := mem1 30 rfl
theorem w31 : (Jvm.Cond.fieldLink "LogicalReplicator" (41 : Nat) "LogicalReplicator" "subVal" "[I") ∈ tables_1 := mem1 31 rfl
theorem w32 : (Jvm.Cond.lays "LogicalReplicator" "LogicalReplicator" "subVal" "[I") ∈ tables_1 := mem1 32 rfl
theorem w33 : (Jvm.Cond.fieldLink "LogicalReplicator" (44 : Nat) "LogicalReplicator" "pendKind" "[I") ∈ tables_1 := mem1 33 rfl
theorem w34 : (Jvm.Cond.lays "LogicalReplicator" "LogicalReplicator" "pendKind" "[I") ∈ tables_1 := mem1 34 rfl
theorem w35 : (Jvm.Cond.fieldLink "LogicalReplicator" (47 : Nat) "LogicalReplicator" "pendVal" "[I") ∈ tables_1 := mem1 35 rfl
theorem w36 : (Jvm.Cond.lays "LogicalReplicator" "LogicalReplicator" "pendVal" "[I") ∈ tables_1 := mem1 36 rfl
theorem w37 : (Jvm.Cond.fieldLink "LogicalReplicator" (50 : Nat) "LogicalReplicator" "qKind" "[I") ∈ tables_1 := mem1 37 rfl
theorem w38 : (Jvm.Cond.lays "LogicalReplicator" "LogicalReplicator" "qKind" "[I") ∈ tables_1 := mem1 38 rfl
theorem w39 : (Jvm.Cond.fieldLink "LogicalReplicator" (53 : Nat) "LogicalReplicator" "qKey" "[I") ∈ tables_1 := mem1 39 rfl
theorem w40 : (Jvm.Cond.lays "LogicalReplicator" "LogicalReplicator" "qKey" "[I") ∈ tables_1 := mem1 40 rfl
theorem w41 : (Jvm.Cond.fieldLink "LogicalReplicator" (56 : Nat) "LogicalReplicator" "qVal" "[I") ∈ tables_1 := mem1 41 rfl
theorem w42 : (Jvm.Cond.lays "LogicalReplicator" "LogicalReplicator" "qVal" "[I") ∈ tables_1 := mem1 42 rfl
theorem w43 : (Jvm.Cond.fieldLink "LogicalReplicator" (59 : Nat) "LogicalReplicator" "qPos" "[I") ∈ tables_1 := mem1 43 rfl
theorem w44 : (Jvm.Cond.lays "LogicalReplicator" "LogicalReplicator" "qPos" "[I") ∈ tables_1 := mem1 44 rfl
theorem w45 : (Jvm.Cond.methodLink "LogicalReplicator" (62 : Nat) ({ cls := "LogicalReplicator", name := "clamp", desc := "(III)I" } : Jvm.MethodName)) ∈ tables_1 := mem1 45 rfl
theorem w46 : (Jvm.Cond.instanceMethod ({ cls := "LogicalReplicator", name := "clamp", desc := "(III)I" } : Jvm.MethodName)) ∈ tables_1 := mem1 46 rfl
theorem w47 : (Jvm.Cond.privateMethod ({ cls := "LogicalReplicator", name := "clamp", desc := "(III)I" } : Jvm.MethodName)) ∈ tables_1 := mem1 47 rfl
theorem w49 : (Jvm.Cond.fieldLink "LogicalReplicator" (66 : Nat) "LogicalReplicator" "nKeys" "I") ∈ tables_1 := mem1 49 rfl
theorem w50 : (Jvm.Cond.lays "LogicalReplicator" "LogicalReplicator" "nKeys" "I") ∈ tables_1 := mem1 50 rfl
theorem w51 : (Jvm.Cond.fieldLink "LogicalReplicator" (70 : Nat) "LogicalReplicator" "nSlots" "I") ∈ tables_1 := mem1 51 rfl
theorem w52 : (Jvm.Cond.lays "LogicalReplicator" "LogicalReplicator" "nSlots" "I") ∈ tables_1 := mem1 52 rfl
theorem w53 : (Jvm.Cond.fieldLink "LogicalReplicator" (73 : Nat) "LogicalReplicator" "logCap" "I") ∈ tables_1 := mem1 53 rfl
theorem w54 : (Jvm.Cond.lays "LogicalReplicator" "LogicalReplicator" "logCap" "I") ∈ tables_1 := mem1 54 rfl
theorem w55 : (Jvm.Cond.fieldLink "LogicalReplicator" (76 : Nat) "LogicalReplicator" "memCap" "I") ∈ tables_1 := mem1 55 rfl
theorem w56 : (Jvm.Cond.lays "LogicalReplicator" "LogicalReplicator" "memCap" "I") ∈ tables_1 := mem1 56 rfl
theorem w57 : (Jvm.Cond.fieldLink "LogicalReplicator" (79 : Nat) "LogicalReplicator" "length" "I") ∈ tables_1 := mem1 57 rfl
theorem w58 : (Jvm.Cond.lays "LogicalReplicator" "LogicalReplicator" "length" "I") ∈ tables_1 := mem1 58 rfl
theorem w59 : (Jvm.Cond.fieldLink "LogicalReplicator" (82 : Nat) "LogicalReplicator" "emittedPos" "I") ∈ tables_1 := mem1 59 rfl
theorem w60 : (Jvm.Cond.lays "LogicalReplicator" "LogicalReplicator" "emittedPos" "I") ∈ tables_1 := mem1 60 rfl
theorem w61 : (Jvm.Cond.fieldLink "LogicalReplicator" (85 : Nat) "LogicalReplicator" "appliedPos" "I") ∈ tables_1 := mem1 61 rfl
theorem w62 : (Jvm.Cond.lays "LogicalReplicator" "LogicalReplicator" "appliedPos" "I") ∈ tables_1 := mem1 62 rfl
theorem w63 : (Jvm.Cond.fieldLink "LogicalReplicator" (88 : Nat) "LogicalReplicator" "confirmedPos" "I") ∈ tables_1 := mem1 63 rfl
theorem w64 : (Jvm.Cond.lays "LogicalReplicator" "LogicalReplicator" "confirmedPos" "I") ∈ tables_1 := mem1 64 rfl
theorem w65 : (Jvm.Cond.fieldLink "LogicalReplicator" (91 : Nat) "LogicalReplicator" "qHead" "I") ∈ tables_1 := mem1 65 rfl
theorem w66 : (Jvm.Cond.lays "LogicalReplicator" "LogicalReplicator" "qHead" "I") ∈ tables_1 := mem1 66 rfl
theorem w67 : (Jvm.Cond.fieldLink "LogicalReplicator" (94 : Nat) "LogicalReplicator" "qCount" "I") ∈ tables_1 := mem1 67 rfl
theorem w68 : (Jvm.Cond.lays "LogicalReplicator" "LogicalReplicator" "qCount" "I") ∈ tables_1 := mem1 68 rfl
theorem w69 : (Jvm.Cond.constantLong "LogicalReplicatorL3" (12 : Nat) (4294967296 : Int64)) ∈ tables_1 := mem1 69 rfl
theorem w70 : (Jvm.Cond.methodLink "LogicalReplicatorL3" (14 : Nat) ({ cls := "LogicalReplicator", name := "begin", desc := "(I)I" } : Jvm.MethodName)) ∈ tables_1 := mem1 70 rfl
theorem w71 : (Jvm.Cond.declares ({ cls := "LogicalReplicator", name := "begin", desc := "(I)I" } : Jvm.MethodName)) ∈ tables_1 := mem1 71 rfl
theorem w72 : (Jvm.Cond.instanceMethod ({ cls := "LogicalReplicator", name := "begin", desc := "(I)I" } : Jvm.MethodName)) ∈ tables_1 := mem1 72 rfl
theorem w73 : (Jvm.Cond.selects "LogicalReplicator" ({ cls := "LogicalReplicator", name := "begin", desc := "(I)I" } : Jvm.MethodName) ({ cls := "LogicalReplicator", name := "begin", desc := "(I)I" } : Jvm.MethodName)) ∈ tables_1 := mem1 73 rfl
theorem w75 : (Jvm.Cond.methodLink "LogicalReplicator" (97 : Nat) ({ cls := "LogicalReplicator", name := "validSlot", desc := "(I)Z" } : Jvm.MethodName)) ∈ tables_1 := mem1 75 rfl
theorem w76 : (Jvm.Cond.instanceMethod ({ cls := "LogicalReplicator", name := "validSlot", desc := "(I)Z" } : Jvm.MethodName)) ∈ tables_1 := mem1 76 rfl
theorem w77 : (Jvm.Cond.privateMethod ({ cls := "LogicalReplicator", name := "validSlot", desc := "(I)Z" } : Jvm.MethodName)) ∈ tables_1 := mem1 77 rfl
theorem w79 : (Jvm.Cond.methodLink "LogicalReplicator" (101 : Nat) ({ cls := "LogicalReplicator", name := "logFull", desc := "()Z" } : Jvm.MethodName)) ∈ tables_1 := mem1 79 rfl
theorem w80 : (Jvm.Cond.instanceMethod ({ cls := "LogicalReplicator", name := "logFull", desc := "()Z" } : Jvm.MethodName)) ∈ tables_1 := mem1 80 rfl
theorem w81 : (Jvm.Cond.privateMethod ({ cls := "LogicalReplicator", name := "logFull", desc := "()Z" } : Jvm.MethodName)) ∈ tables_1 := mem1 81 rfl
theorem w83 : (Jvm.Cond.methodLink "LogicalReplicator" (105 : Nat) ({ cls := "LogicalReplicator", name := "append", desc := "(IIII)I" } : Jvm.MethodName)) ∈ tables_1 := mem1 83 rfl
theorem w84 : (Jvm.Cond.instanceMethod ({ cls := "LogicalReplicator", name := "append", desc := "(IIII)I" } : Jvm.MethodName)) ∈ tables_1 := mem1 84 rfl
theorem w85 : (Jvm.Cond.privateMethod ({ cls := "LogicalReplicator", name := "append", desc := "(IIII)I" } : Jvm.MethodName)) ∈ tables_1 := mem1 85 rfl
theorem w87 : (Jvm.Cond.methodLink "LogicalReplicatorL3" (18 : Nat) ({ cls := "LogicalReplicator", name := "put", desc := "(III)I" } : Jvm.MethodName)) ∈ tables_1 := mem1 87 rfl
theorem w88 : (Jvm.Cond.declares ({ cls := "LogicalReplicator", name := "put", desc := "(III)I" } : Jvm.MethodName)) ∈ tables_1 := mem1 88 rfl
theorem w89 : (Jvm.Cond.instanceMethod ({ cls := "LogicalReplicator", name := "put", desc := "(III)I" } : Jvm.MethodName)) ∈ tables_1 := mem1 89 rfl
theorem w90 : (Jvm.Cond.selects "LogicalReplicator" ({ cls := "LogicalReplicator", name := "put", desc := "(III)I" } : Jvm.MethodName) ({ cls := "LogicalReplicator", name := "put", desc := "(III)I" } : Jvm.MethodName)) ∈ tables_1 := mem1 90 rfl
theorem w92 : (Jvm.Cond.methodLink "LogicalReplicator" (109 : Nat) ({ cls := "LogicalReplicator", name := "write", desc := "(IIII)I" } : Jvm.MethodName)) ∈ tables_1 := mem1 92 rfl
theorem w93 : (Jvm.Cond.instanceMethod ({ cls := "LogicalReplicator", name := "write", desc := "(IIII)I" } : Jvm.MethodName)) ∈ tables_1 := mem1 93 rfl
theorem w94 : (Jvm.Cond.privateMethod ({ cls := "LogicalReplicator", name := "write", desc := "(IIII)I" } : Jvm.MethodName)) ∈ tables_1 := mem1 94 rfl
theorem w96 : (Jvm.Cond.methodLink "LogicalReplicator" (112 : Nat) ({ cls := "LogicalReplicator", name := "checkOpenSlot", desc := "(I)I" } : Jvm.MethodName)) ∈ tables_1 := mem1 96 rfl
theorem w97 : (Jvm.Cond.instanceMethod ({ cls := "LogicalReplicator", name := "checkOpenSlot", desc := "(I)I" } : Jvm.MethodName)) ∈ tables_1 := mem1 97 rfl
theorem w98 : (Jvm.Cond.privateMethod ({ cls := "LogicalReplicator", name := "checkOpenSlot", desc := "(I)I" } : Jvm.MethodName)) ∈ tables_1 := mem1 98 rfl
theorem w100 : (Jvm.Cond.methodLink "LogicalReplicator" (116 : Nat) ({ cls := "LogicalReplicator", name := "validKey", desc := "(I)Z" } : Jvm.MethodName)) ∈ tables_1 := mem1 100 rfl
theorem w101 : (Jvm.Cond.instanceMethod ({ cls := "LogicalReplicator", name := "validKey", desc := "(I)Z" } : Jvm.MethodName)) ∈ tables_1 := mem1 101 rfl
theorem w102 : (Jvm.Cond.privateMethod ({ cls := "LogicalReplicator", name := "validKey", desc := "(I)Z" } : Jvm.MethodName)) ∈ tables_1 := mem1 102 rfl
theorem w104 : (Jvm.Cond.methodLink "LogicalReplicatorL3" (22 : Nat) ({ cls := "LogicalReplicator", name := "commit", desc := "(I)I" } : Jvm.MethodName)) ∈ tables_1 := mem1 104 rfl
theorem w105 : (Jvm.Cond.declares ({ cls := "LogicalReplicator", name := "commit", desc := "(I)I" } : Jvm.MethodName)) ∈ tables_1 := mem1 105 rfl
theorem w106 : (Jvm.Cond.instanceMethod ({ cls := "LogicalReplicator", name := "commit", desc := "(I)I" } : Jvm.MethodName)) ∈ tables_1 := mem1 106 rfl
theorem w107 : (Jvm.Cond.selects "LogicalReplicator" ({ cls := "LogicalReplicator", name := "commit", desc := "(I)I" } : Jvm.MethodName) ({ cls := "LogicalReplicator", name := "commit", desc := "(I)I" } : Jvm.MethodName)) ∈ tables_1 := mem1 107 rfl
theorem w109 : (Jvm.Cond.methodLink "LogicalReplicator" (119 : Nat) ({ cls := "LogicalReplicator", name := "applyToPublisher", desc := "(III)V" } : Jvm.MethodName)) ∈ tables_1 := mem1 109 rfl
theorem w110 : (Jvm.Cond.instanceMethod ({ cls := "LogicalReplicator", name := "applyToPublisher", desc := "(III)V" } : Jvm.MethodName)) ∈ tables_1 := mem1 110 rfl
theorem w111 : (Jvm.Cond.privateMethod ({ cls := "LogicalReplicator", name := "applyToPublisher", desc := "(III)V" } : Jvm.MethodName)) ∈ tables_1 := mem1 111 rfl
theorem w113 : (Jvm.Cond.methodLink "LogicalReplicatorL3" (25 : Nat) ({ cls := "LogicalReplicator", name := "pubRow", desc := "(I)J" } : Jvm.MethodName)) ∈ tables_1 := mem1 113 rfl
theorem w114 : (Jvm.Cond.declares ({ cls := "LogicalReplicator", name := "pubRow", desc := "(I)J" } : Jvm.MethodName)) ∈ tables_1 := mem1 114 rfl
theorem w115 : (Jvm.Cond.instanceMethod ({ cls := "LogicalReplicator", name := "pubRow", desc := "(I)J" } : Jvm.MethodName)) ∈ tables_1 := mem1 115 rfl
theorem w116 : (Jvm.Cond.selects "LogicalReplicator" ({ cls := "LogicalReplicator", name := "pubRow", desc := "(I)J" } : Jvm.MethodName) ({ cls := "LogicalReplicator", name := "pubRow", desc := "(I)J" } : Jvm.MethodName)) ∈ tables_1 := mem1 116 rfl
theorem w118 : (Jvm.Cond.methodLink "LogicalReplicatorL3" (29 : Nat) ({ cls := "LogicalReplicator", name := "stream", desc := "(I)I" } : Jvm.MethodName)) ∈ tables_1 := mem1 118 rfl
theorem w119 : (Jvm.Cond.declares ({ cls := "LogicalReplicator", name := "stream", desc := "(I)I" } : Jvm.MethodName)) ∈ tables_1 := mem1 119 rfl
theorem w120 : (Jvm.Cond.instanceMethod ({ cls := "LogicalReplicator", name := "stream", desc := "(I)I" } : Jvm.MethodName)) ∈ tables_1 := mem1 120 rfl
theorem w121 : (Jvm.Cond.selects "LogicalReplicator" ({ cls := "LogicalReplicator", name := "stream", desc := "(I)I" } : Jvm.MethodName) ({ cls := "LogicalReplicator", name := "stream", desc := "(I)I" } : Jvm.MethodName)) ∈ tables_1 := mem1 121 rfl
theorem w123 : (Jvm.Cond.methodLink "LogicalReplicator" (123 : Nat) ({ cls := "LogicalReplicator", name := "nextCommit", desc := "(I)I" } : Jvm.MethodName)) ∈ tables_1 := mem1 123 rfl
theorem w124 : (Jvm.Cond.instanceMethod ({ cls := "LogicalReplicator", name := "nextCommit", desc := "(I)I" } : Jvm.MethodName)) ∈ tables_1 := mem1 124 rfl
theorem w125 : (Jvm.Cond.privateMethod ({ cls := "LogicalReplicator", name := "nextCommit", desc := "(I)I" } : Jvm.MethodName)) ∈ tables_1 := mem1 125 rfl
theorem w127 : (Jvm.Cond.methodLink "LogicalReplicator" (126 : Nat) ({ cls := "LogicalReplicator", name := "emitTransaction", desc := "(I)V" } : Jvm.MethodName)) ∈ tables_1 := mem1 127 rfl
theorem w128 : (Jvm.Cond.instanceMethod ({ cls := "LogicalReplicator", name := "emitTransaction", desc := "(I)V" } : Jvm.MethodName)) ∈ tables_1 := mem1 128 rfl
theorem w129 : (Jvm.Cond.privateMethod ({ cls := "LogicalReplicator", name := "emitTransaction", desc := "(I)V" } : Jvm.MethodName)) ∈ tables_1 := mem1 129 rfl
theorem w131 : (Jvm.Cond.methodLink "LogicalReplicator" (130 : Nat) ({ cls := "LogicalReplicator", name := "enqueue", desc := "(IIII)V" } : Jvm.MethodName)) ∈ tables_1 := mem1 131 rfl
theorem w132 : (Jvm.Cond.instanceMethod ({ cls := "LogicalReplicator", name := "enqueue", desc := "(IIII)V" } : Jvm.MethodName)) ∈ tables_1 := mem1 132 rfl
theorem w133 : (Jvm.Cond.privateMethod ({ cls := "LogicalReplicator", name := "enqueue", desc := "(IIII)V" } : Jvm.MethodName)) ∈ tables_1 := mem1 133 rfl
theorem w135 : (Jvm.Cond.methodLink "LogicalReplicatorL3" (32 : Nat) ({ cls := "LogicalReplicator", name := "info", desc := "(I)I" } : Jvm.MethodName)) ∈ tables_1 := mem1 135 rfl
theorem w136 : (Jvm.Cond.declares ({ cls := "LogicalReplicator", name := "info", desc := "(I)I" } : Jvm.MethodName)) ∈ tables_1 := mem1 136 rfl
theorem w137 : (Jvm.Cond.instanceMethod ({ cls := "LogicalReplicator", name := "info", desc := "(I)I" } : Jvm.MethodName)) ∈ tables_1 := mem1 137 rfl
theorem w138 : (Jvm.Cond.selects "LogicalReplicator" ({ cls := "LogicalReplicator", name := "info", desc := "(I)I" } : Jvm.MethodName) ({ cls := "LogicalReplicator", name := "info", desc := "(I)I" } : Jvm.MethodName)) ∈ tables_1 := mem1 138 rfl
theorem w140 : (Jvm.Cond.methodLink "LogicalReplicatorL3" (35 : Nat) ({ cls := "LogicalReplicator", name := "apply", desc := "(I)I" } : Jvm.MethodName)) ∈ tables_1 := mem1 140 rfl
theorem w141 : (Jvm.Cond.declares ({ cls := "LogicalReplicator", name := "apply", desc := "(I)I" } : Jvm.MethodName)) ∈ tables_1 := mem1 141 rfl
theorem w142 : (Jvm.Cond.instanceMethod ({ cls := "LogicalReplicator", name := "apply", desc := "(I)I" } : Jvm.MethodName)) ∈ tables_1 := mem1 142 rfl
theorem w143 : (Jvm.Cond.selects "LogicalReplicator" ({ cls := "LogicalReplicator", name := "apply", desc := "(I)I" } : Jvm.MethodName) ({ cls := "LogicalReplicator", name := "apply", desc := "(I)I" } : Jvm.MethodName)) ∈ tables_1 := mem1 143 rfl
theorem w145 : (Jvm.Cond.methodLink "LogicalReplicator" (134 : Nat) ({ cls := "LogicalReplicator", name := "handleHead", desc := "()V" } : Jvm.MethodName)) ∈ tables_1 := mem1 145 rfl
theorem w146 : (Jvm.Cond.instanceMethod ({ cls := "LogicalReplicator", name := "handleHead", desc := "()V" } : Jvm.MethodName)) ∈ tables_1 := mem1 146 rfl
theorem w147 : (Jvm.Cond.privateMethod ({ cls := "LogicalReplicator", name := "handleHead", desc := "()V" } : Jvm.MethodName)) ∈ tables_1 := mem1 147 rfl
theorem w149 : (Jvm.Cond.methodLink "LogicalReplicatorL3" (38 : Nat) ({ cls := "LogicalReplicator", name := "subPending", desc := "(I)J" } : Jvm.MethodName)) ∈ tables_1 := mem1 149 rfl
theorem w150 : (Jvm.Cond.declares ({ cls := "LogicalReplicator", name := "subPending", desc := "(I)J" } : Jvm.MethodName)) ∈ tables_1 := mem1 150 rfl
theorem w151 : (Jvm.Cond.instanceMethod ({ cls := "LogicalReplicator", name := "subPending", desc := "(I)J" } : Jvm.MethodName)) ∈ tables_1 := mem1 151 rfl
theorem w152 : (Jvm.Cond.selects "LogicalReplicator" ({ cls := "LogicalReplicator", name := "subPending", desc := "(I)J" } : Jvm.MethodName) ({ cls := "LogicalReplicator", name := "subPending", desc := "(I)J" } : Jvm.MethodName)) ∈ tables_1 := mem1 152 rfl
theorem w154 : (Jvm.Cond.methodLink "LogicalReplicatorL3" (41 : Nat) ({ cls := "LogicalReplicator", name := "subRow", desc := "(I)J" } : Jvm.MethodName)) ∈ tables_1 := mem1 154 rfl
theorem w155 : (Jvm.Cond.declares ({ cls := "LogicalReplicator", name := "subRow", desc := "(I)J" } : Jvm.MethodName)) ∈ tables_1 := mem1 155 rfl
theorem w156 : (Jvm.Cond.instanceMethod ({ cls := "LogicalReplicator", name := "subRow", desc := "(I)J" } : Jvm.MethodName)) ∈ tables_1 := mem1 156 rfl
theorem w157 : (Jvm.Cond.selects "LogicalReplicator" ({ cls := "LogicalReplicator", name := "subRow", desc := "(I)J" } : Jvm.MethodName) ({ cls := "LogicalReplicator", name := "subRow", desc := "(I)J" } : Jvm.MethodName)) ∈ tables_1 := mem1 157 rfl
theorem w159 : (Jvm.Cond.constantLong "LogicalReplicator" (146 : Nat) (4294967296 : Int64)) ∈ tables_1 := mem1 159 rfl
theorem w160 : (Jvm.Cond.methodLink "LogicalReplicator" (137 : Nat) ({ cls := "LogicalReplicator", name := "applyPending", desc := "()V" } : Jvm.MethodName)) ∈ tables_1 := mem1 160 rfl
theorem w161 : (Jvm.Cond.instanceMethod ({ cls := "LogicalReplicator", name := "applyPending", desc := "()V" } : Jvm.MethodName)) ∈ tables_1 := mem1 161 rfl
theorem w162 : (Jvm.Cond.privateMethod ({ cls := "LogicalReplicator", name := "applyPending", desc := "()V" } : Jvm.MethodName)) ∈ tables_1 := mem1 162 rfl
theorem w164 : (Jvm.Cond.constantLong "LogicalReplicator" (148 : Nat) (4294967298 : Int64)) ∈ tables_1 := mem1 164 rfl
theorem w165 : (Jvm.Cond.constantLong "LogicalReplicatorL3" (44 : Nat) (4294967298 : Int64)) ∈ tables_1 := mem1 165 rfl
theorem w166 : (Jvm.Cond.methodLink "LogicalReplicator" (160 : Nat) ({ cls := "LogicalReplicator", name := "countSubRows", desc := "()I" } : Jvm.MethodName)) ∈ tables_1 := mem1 166 rfl
theorem w167 : (Jvm.Cond.instanceMethod ({ cls := "LogicalReplicator", name := "countSubRows", desc := "()I" } : Jvm.MethodName)) ∈ tables_1 := mem1 167 rfl
theorem w168 : (Jvm.Cond.privateMethod ({ cls := "LogicalReplicator", name := "countSubRows", desc := "()I" } : Jvm.MethodName)) ∈ tables_1 := mem1 168 rfl
theorem w170 : (Jvm.Cond.methodLink "LogicalReplicatorL3" (46 : Nat) ({ cls := "LogicalReplicator", name := "feedback", desc := "()I" } : Jvm.MethodName)) ∈ tables_1 := mem1 170 rfl
theorem w171 : (Jvm.Cond.declares ({ cls := "LogicalReplicator", name := "feedback", desc := "()I" } : Jvm.MethodName)) ∈ tables_1 := mem1 171 rfl
theorem w172 : (Jvm.Cond.instanceMethod ({ cls := "LogicalReplicator", name := "feedback", desc := "()I" } : Jvm.MethodName)) ∈ tables_1 := mem1 172 rfl
theorem w173 : (Jvm.Cond.selects "LogicalReplicator" ({ cls := "LogicalReplicator", name := "feedback", desc := "()I" } : Jvm.MethodName) ({ cls := "LogicalReplicator", name := "feedback", desc := "()I" } : Jvm.MethodName)) ∈ tables_1 := mem1 173 rfl
theorem w175 : (Jvm.Cond.constantLong "LogicalReplicator" (150 : Nat) (4294967297 : Int64)) ∈ tables_1 := mem1 175 rfl
theorem fS_0 : K.2.1[0]? = some ("nKeys", "I") := rfl
theorem fS_1 : K.2.1[1]? = some ("nSlots", "I") := rfl
theorem fS_2 : K.2.1[2]? = some ("logCap", "I") := rfl
theorem fS_3 : K.2.1[3]? = some ("memCap", "I") := rfl
theorem fS_4 : K.2.1[4]? = some ("length", "I") := rfl
theorem fS_5 : K.2.1[5]? = some ("emittedPos", "I") := rfl
theorem fS_6 : K.2.1[6]? = some ("appliedPos", "I") := rfl
theorem fS_7 : K.2.1[7]? = some ("confirmedPos", "I") := rfl
theorem fS_8 : K.2.1[8]? = some ("qHead", "I") := rfl
theorem fS_9 : K.2.1[9]? = some ("qCount", "I") := rfl
theorem fA_0 : K.2.2[0]? = some ("recKind", .int, (129 : Int32)) := rfl
theorem fA_1 : K.2.2[1]? = some ("recSlot", .int, (129 : Int32)) := rfl
theorem fA_2 : K.2.2[2]? = some ("recKey", .int, (129 : Int32)) := rfl
theorem fA_3 : K.2.2[3]? = some ("recVal", .int, (129 : Int32)) := rfl
theorem fA_4 : K.2.2[4]? = some ("recBegin", .int, (129 : Int32)) := rfl
theorem fA_5 : K.2.2[5]? = some ("slotOpen", .boolean, (8 : Int32)) := rfl
theorem fA_6 : K.2.2[6]? = some ("slotBegin", .int, (8 : Int32)) := rfl
theorem fA_7 : K.2.2[7]? = some ("pubHas", .boolean, (32 : Int32)) := rfl
theorem fA_8 : K.2.2[8]? = some ("pubVal", .int, (32 : Int32)) := rfl
theorem fA_9 : K.2.2[9]? = some ("subHas", .boolean, (32 : Int32)) := rfl
theorem fA_10 : K.2.2[10]? = some ("subVal", .int, (32 : Int32)) := rfl
theorem fA_11 : K.2.2[11]? = some ("pendKind", .int, (32 : Int32)) := rfl
theorem fA_12 : K.2.2[12]? = some ("pendVal", .int, (32 : Int32)) := rfl
theorem fA_13 : K.2.2[13]? = some ("qKind", .int, (128 : Int32)) := rfl
theorem fA_14 : K.2.2[14]? = some ("qKey", .int, (128 : Int32)) := rfl
theorem fA_15 : K.2.2[15]? = some ("qVal", .int, (128 : Int32)) := rfl
theorem fA_16 : K.2.2[16]? = some ("qPos", .int, (128 : Int32)) := rfl
theorem cb_m4 : (Int8.ofInt (-4)).toInt32 = (-4 : Int32) := by decide
theorem cb_m3 : (Int8.ofInt (-3)).toInt32 = (-3 : Int32) := by decide
theorem cb_m2 : (Int8.ofInt (-2)).toInt32 = (-2 : Int32) := by decide
theorem cb_6 : (Int8.ofInt 6).toInt32 = (6 : Int32) := by decide
theorem cb_7 : (Int8.ofInt 7).toInt32 = (7 : Int32) := by decide
theorem cb_8 : (Int8.ofInt 8).toInt32 = (8 : Int32) := by decide
theorem cb_16 : (Int8.ofInt 16).toInt32 = (16 : Int32) := by decide
theorem cb_32 : (Int8.ofInt 32).toInt32 = (32 : Int32) := by decide
theorem ci_m1 : Int32.ofInt (-1) = (-1 : Int32) := by decide
theorem ci_0 : Int32.ofInt 0 = (0 : Int32) := by decide
theorem ci_1 : Int32.ofInt 1 = (1 : Int32) := by decide
theorem ci_2 : Int32.ofInt 2 = (2 : Int32) := by decide
theorem ci_3 : Int32.ofInt 3 = (3 : Int32) := by decide
theorem ci_4 : Int32.ofInt 4 = (4 : Int32) := by decide
theorem ci_5 : Int32.ofInt 5 = (5 : Int32) := by decide
theorem cs_128 : (Int16.ofInt 128).toInt32 = (128 : Int32) := by decide
theorem cs_129 : (Int16.ofInt 129).toInt32 = (129 : Int32) := by decide
def B2 : Bdy := ((⟨"LogicalReplicator", "clamp", "(III)I"⟩ : MethodName), prog_1_method_2_code, 4, (some .int), ({ frames := 0, cells := 0, slots := 0, locals := 0 } : Room))
theorem d2_0 : DAt B2 0 (.iload_n 1) 1 1 := ⟨by decide +kernel, rfl⟩
theorem d2_1 : DAt B2 1 (.iload_n 2) 1 2 := ⟨by decide +kernel, rfl⟩
theorem d2_2 : DAt B2 2 (.if_icmp .ge 5) 3 5 := ⟨by decide +kernel, rfl⟩
theorem d2_5 : DAt B2 5 (.iload_n 2) 1 6 := ⟨by decide +kernel, rfl⟩
theorem d2_6 : DAt B2 6 (.ireturn) 1 7 := ⟨by decide +kernel, rfl⟩
theorem d2_7 : DAt B2 7 (.iload_n 1) 1 8 := ⟨by decide +kernel, rfl⟩
theorem d2_8 : DAt B2 8 (.iload_n 3) 1 9 := ⟨by decide +kernel, rfl⟩
theorem d2_9 : DAt B2 9 (.if_icmp .le 5) 3 12 := ⟨by decide +kernel, rfl⟩
theorem d2_12 : DAt B2 12 (.iload_n 3) 1 13 := ⟨by decide +kernel, rfl⟩
theorem d2_13 : DAt B2 13 (.ireturn) 1 14 := ⟨by decide +kernel, rfl⟩
theorem d2_14 : DAt B2 14 (.iload_n 1) 1 15 := ⟨by decide +kernel, rfl⟩
theorem d2_15 : DAt B2 15 (.ireturn) 1 16 := ⟨by decide +kernel, rfl⟩
def B1 : Bdy := ((⟨"LogicalReplicator", "<init>", "(IIII)V"⟩ : MethodName), prog_1_method_1_code, 5, none, ({ frames := 1, cells := 17, slots := 1365, locals := 16 } : Room))
theorem d1_0 : DAt B1 0 (.aload_n 0) 1 1 := ⟨by decide +kernel, rfl⟩
theorem d1_1 : DAt B1 1 (.invokespecial 1) 3 4 := ⟨by decide +kernel, rfl⟩
theorem d1_4 : DAt B1 4 (.aload_n 0) 1 5 := ⟨by decide +kernel, rfl⟩
theorem d1_5 : DAt B1 5 (.sipush 129) 3 8 := ⟨by decide +kernel, rfl⟩
theorem d1_8 : DAt B1 8 (.newarray .int) 2 10 := ⟨by decide +kernel, rfl⟩
theorem d1_10 : DAt B1 10 (.putfield 7) 3 13 := ⟨by decide +kernel, rfl⟩
theorem d1_13 : DAt B1 13 (.aload_n 0) 1 14 := ⟨by decide +kernel, rfl⟩
theorem d1_14 : DAt B1 14 (.sipush 129) 3 17 := ⟨by decide +kernel, rfl⟩
theorem d1_17 : DAt B1 17 (.newarray .int) 2 19 := ⟨by decide +kernel, rfl⟩
theorem d1_19 : DAt B1 19 (.putfield 13) 3 22 := ⟨by decide +kernel, rfl⟩
theorem d1_22 : DAt B1 22 (.aload_n 0) 1 23 := ⟨by decide +kernel, rfl⟩
theorem d1_23 : DAt B1 23 (.sipush 129) 3 26 := ⟨by decide +kernel, rfl⟩
theorem d1_26 : DAt B1 26 (.newarray .int) 2 28 := ⟨by decide +kernel, rfl⟩
theorem d1_28 : DAt B1 28 (.putfield 16) 3 31 := ⟨by decide +kernel, rfl⟩
theorem d1_31 : DAt B1 31 (.aload_n 0) 1 32 := ⟨by decide +kernel, rfl⟩
theorem d1_32 : DAt B1 32 (.sipush 129) 3 35 := ⟨by decide +kernel, rfl⟩
theorem d1_35 : DAt B1 35 (.newarray .int) 2 37 := ⟨by decide +kernel, rfl⟩
theorem d1_37 : DAt B1 37 (.putfield 19) 3 40 := ⟨by decide +kernel, rfl⟩
theorem d1_40 : DAt B1 40 (.aload_n 0) 1 41 := ⟨by decide +kernel, rfl⟩
theorem d1_41 : DAt B1 41 (.sipush 129) 3 44 := ⟨by decide +kernel, rfl⟩
theorem d1_44 : DAt B1 44 (.newarray .int) 2 46 := ⟨by decide +kernel, rfl⟩
theorem d1_46 : DAt B1 46 (.putfield 22) 3 49 := ⟨by decide +kernel, rfl⟩
theorem d1_49 : DAt B1 49 (.aload_n 0) 1 50 := ⟨by decide +kernel, rfl⟩
theorem d1_50 : DAt B1 50 (.bipush 8) 2 52 := ⟨by decide +kernel, rfl⟩
theorem d1_52 : DAt B1 52 (.newarray .boolean) 2 54 := ⟨by decide +kernel, rfl⟩
theorem d1_54 : DAt B1 54 (.putfield 25) 3 57 := ⟨by decide +kernel, rfl⟩
theorem d1_57 : DAt B1 57 (.aload_n 0) 1 58 := ⟨by decide +kernel, rfl⟩
theorem d1_58 : DAt B1 58 (.bipush 8) 2 60 := ⟨by decide +kernel, rfl⟩
theorem d1_60 : DAt B1 60 (.newarray .int) 2 62 := ⟨by decide +kernel, rfl⟩
theorem d1_62 : DAt B1 62 (.putfield 29) 3 65 := ⟨by decide +kernel, rfl⟩
theorem d1_65 : DAt B1 65 (.aload_n 0) 1 66 := ⟨by decide +kernel, rfl⟩
theorem d1_66 : DAt B1 66 (.bipush 32) 2 68 := ⟨by decide +kernel, rfl⟩
theorem d1_68 : DAt B1 68 (.newarray .boolean) 2 70 := ⟨by decide +kernel, rfl⟩
theorem d1_70 : DAt B1 70 (.putfield 32) 3 73 := ⟨by decide +kernel, rfl⟩
theorem d1_73 : DAt B1 73 (.aload_n 0) 1 74 := ⟨by decide +kernel, rfl⟩
theorem d1_74 : DAt B1 74 (.bipush 32) 2 76 := ⟨by decide +kernel, rfl⟩
theorem d1_76 : DAt B1 76 (.newarray .int) 2 78 := ⟨by decide +kernel, rfl⟩
theorem d1_78 : DAt B1 78 (.putfield 35) 3 81 := ⟨by decide +kernel, rfl⟩
theorem d1_81 : DAt B1 81 (.aload_n 0) 1 82 := ⟨by decide +kernel, rfl⟩
theorem d1_82 : DAt B1 82 (.bipush 32) 2 84 := ⟨by decide +kernel, rfl⟩
theorem d1_84 : DAt B1 84 (.newarray .boolean) 2 86 := ⟨by decide +kernel, rfl⟩
theorem d1_86 : DAt B1 86 (.putfield 38) 3 89 := ⟨by decide +kernel, rfl⟩
theorem d1_89 : DAt B1 89 (.aload_n 0) 1 90 := ⟨by decide +kernel, rfl⟩
theorem d1_90 : DAt B1 90 (.bipush 32) 2 92 := ⟨by decide +kernel, rfl⟩
theorem d1_92 : DAt B1 92 (.newarray .int) 2 94 := ⟨by decide +kernel, rfl⟩
theorem d1_94 : DAt B1 94 (.putfield 41) 3 97 := ⟨by decide +kernel, rfl⟩
theorem d1_97 : DAt B1 97 (.aload_n 0) 1 98 := ⟨by decide +kernel, rfl⟩
theorem d1_98 : DAt B1 98 (.bipush 32) 2 100 := ⟨by decide +kernel, rfl⟩
theorem d1_100 : DAt B1 100 (.newarray .int) 2 102 := ⟨by decide +kernel, rfl⟩
theorem d1_102 : DAt B1 102 (.putfield 44) 3 105 := ⟨by decide +kernel, rfl⟩
theorem d1_105 : DAt B1 105 (.aload_n 0) 1 106 := ⟨by decide +kernel, rfl⟩
theorem d1_106 : DAt B1 106 (.bipush 32) 2 108 := ⟨by decide +kernel, rfl⟩
theorem d1_108 : DAt B1 108 (.newarray .int) 2 110 := ⟨by decide +kernel, rfl⟩
theorem d1_110 : DAt B1 110 (.putfield 47) 3 113 := ⟨by decide +kernel, rfl⟩
theorem d1_113 : DAt B1 113 (.aload_n 0) 1 114 := ⟨by decide +kernel, rfl⟩
theorem d1_114 : DAt B1 114 (.sipush 128) 3 117 := ⟨by decide +kernel, rfl⟩
theorem d1_117 : DAt B1 117 (.newarray .int) 2 119 := ⟨by decide +kernel, rfl⟩
theorem d1_119 : DAt B1 119 (.putfield 50) 3 122 := ⟨by decide +kernel, rfl⟩
theorem d1_122 : DAt B1 122 (.aload_n 0) 1 123 := ⟨by decide +kernel, rfl⟩
theorem d1_123 : DAt B1 123 (.sipush 128) 3 126 := ⟨by decide +kernel, rfl⟩
theorem d1_126 : DAt B1 126 (.newarray .int) 2 128 := ⟨by decide +kernel, rfl⟩
theorem d1_128 : DAt B1 128 (.putfield 53) 3 131 := ⟨by decide +kernel, rfl⟩
theorem d1_131 : DAt B1 131 (.aload_n 0) 1 132 := ⟨by decide +kernel, rfl⟩
theorem d1_132 : DAt B1 132 (.sipush 128) 3 135 := ⟨by decide +kernel, rfl⟩
theorem d1_135 : DAt B1 135 (.newarray .int) 2 137 := ⟨by decide +kernel, rfl⟩
theorem d1_137 : DAt B1 137 (.putfield 56) 3 140 := ⟨by decide +kernel, rfl⟩
theorem d1_140 : DAt B1 140 (.aload_n 0) 1 141 := ⟨by decide +kernel, rfl⟩
theorem d1_141 : DAt B1 141 (.sipush 128) 3 144 := ⟨by decide +kernel, rfl⟩
theorem d1_144 : DAt B1 144 (.newarray .int) 2 146 := ⟨by decide +kernel, rfl⟩
theorem d1_146 : DAt B1 146 (.putfield 59) 3 149 := ⟨by decide +kernel, rfl⟩
theorem d1_149 : DAt B1 149 (.aload_n 0) 1 150 := ⟨by decide +kernel, rfl⟩
theorem d1_150 : DAt B1 150 (.aload_n 0) 1 151 := ⟨by decide +kernel, rfl⟩
theorem d1_151 : DAt B1 151 (.iload_n 1) 1 152 := ⟨by decide +kernel, rfl⟩
theorem d1_152 : DAt B1 152 (.bipush 8) 2 154 := ⟨by decide +kernel, rfl⟩
theorem d1_154 : DAt B1 154 (.bipush 32) 2 156 := ⟨by decide +kernel, rfl⟩
theorem d1_156 : DAt B1 156 (.invokevirtual 62) 3 159 := ⟨by decide +kernel, rfl⟩
theorem d1_159 : DAt B1 159 (.putfield 66) 3 162 := ⟨by decide +kernel, rfl⟩
theorem d1_162 : DAt B1 162 (.aload_n 0) 1 163 := ⟨by decide +kernel, rfl⟩
theorem d1_163 : DAt B1 163 (.aload_n 0) 1 164 := ⟨by decide +kernel, rfl⟩
theorem d1_164 : DAt B1 164 (.iload_n 2) 1 165 := ⟨by decide +kernel, rfl⟩
theorem d1_165 : DAt B1 165 (.iconst 2) 1 166 := ⟨by decide +kernel, rfl⟩
theorem d1_166 : DAt B1 166 (.bipush 8) 2 168 := ⟨by decide +kernel, rfl⟩
theorem d1_168 : DAt B1 168 (.invokevirtual 62) 3 171 := ⟨by decide +kernel, rfl⟩
theorem d1_171 : DAt B1 171 (.putfield 70) 3 174 := ⟨by decide +kernel, rfl⟩
theorem d1_174 : DAt B1 174 (.aload_n 0) 1 175 := ⟨by decide +kernel, rfl⟩
theorem d1_175 : DAt B1 175 (.aload_n 0) 1 176 := ⟨by decide +kernel, rfl⟩
theorem d1_176 : DAt B1 176 (.iload_n 3) 1 177 := ⟨by decide +kernel, rfl⟩
theorem d1_177 : DAt B1 177 (.bipush 16) 2 179 := ⟨by decide +kernel, rfl⟩
theorem d1_179 : DAt B1 179 (.sipush 128) 3 182 := ⟨by decide +kernel, rfl⟩
theorem d1_182 : DAt B1 182 (.invokevirtual 62) 3 185 := ⟨by decide +kernel, rfl⟩
theorem d1_185 : DAt B1 185 (.putfield 73) 3 188 := ⟨by decide +kernel, rfl⟩
theorem d1_188 : DAt B1 188 (.aload_n 0) 1 189 := ⟨by decide +kernel, rfl⟩
theorem d1_189 : DAt B1 189 (.aload_n 0) 1 190 := ⟨by decide +kernel, rfl⟩
theorem d1_190 : DAt B1 190 (.iload 4) 2 192 := ⟨by decide +kernel, rfl⟩
theorem d1_192 : DAt B1 192 (.iconst 2) 1 193 := ⟨by decide +kernel, rfl⟩
theorem d1_193 : DAt B1 193 (.bipush 32) 2 195 := ⟨by decide +kernel, rfl⟩
theorem d1_195 : DAt B1 195 (.invokevirtual 62) 3 198 := ⟨by decide +kernel, rfl⟩
theorem d1_198 : DAt B1 198 (.putfield 76) 3 201 := ⟨by decide +kernel, rfl⟩
theorem d1_201 : DAt B1 201 (.aload_n 0) 1 202 := ⟨by decide +kernel, rfl⟩
theorem d1_202 : DAt B1 202 (.iconst 0) 1 203 := ⟨by decide +kernel, rfl⟩
theorem d1_203 : DAt B1 203 (.putfield 79) 3 206 := ⟨by decide +kernel, rfl⟩
theorem d1_206 : DAt B1 206 (.aload_n 0) 1 207 := ⟨by decide +kernel, rfl⟩
theorem d1_207 : DAt B1 207 (.iconst 0) 1 208 := ⟨by decide +kernel, rfl⟩
theorem d1_208 : DAt B1 208 (.putfield 82) 3 211 := ⟨by decide +kernel, rfl⟩
theorem d1_211 : DAt B1 211 (.aload_n 0) 1 212 := ⟨by decide +kernel, rfl⟩
theorem d1_212 : DAt B1 212 (.iconst 0) 1 213 := ⟨by decide +kernel, rfl⟩
theorem d1_213 : DAt B1 213 (.putfield 85) 3 216 := ⟨by decide +kernel, rfl⟩
theorem d1_216 : DAt B1 216 (.aload_n 0) 1 217 := ⟨by decide +kernel, rfl⟩
theorem d1_217 : DAt B1 217 (.iconst 0) 1 218 := ⟨by decide +kernel, rfl⟩
theorem d1_218 : DAt B1 218 (.putfield 88) 3 221 := ⟨by decide +kernel, rfl⟩
theorem d1_221 : DAt B1 221 (.aload_n 0) 1 222 := ⟨by decide +kernel, rfl⟩
theorem d1_222 : DAt B1 222 (.iconst 0) 1 223 := ⟨by decide +kernel, rfl⟩
theorem d1_223 : DAt B1 223 (.putfield 91) 3 226 := ⟨by decide +kernel, rfl⟩
theorem d1_226 : DAt B1 226 (.aload_n 0) 1 227 := ⟨by decide +kernel, rfl⟩
theorem d1_227 : DAt B1 227 (.iconst 0) 1 228 := ⟨by decide +kernel, rfl⟩
theorem d1_228 : DAt B1 228 (.putfield 94) 3 231 := ⟨by decide +kernel, rfl⟩
theorem d1_231 : DAt B1 231 (.return_) 1 232 := ⟨by decide +kernel, rfl⟩
def B4 : Bdy := ((⟨"LogicalReplicator", "validSlot", "(I)Z"⟩ : MethodName), prog_1_method_3_code, 2, (some .boolean), ({ frames := 0, cells := 0, slots := 0, locals := 0 } : Room))
theorem d4_0 : DAt B4 0 (.iload_n 1) 1 1 := ⟨by decide +kernel, rfl⟩
theorem d4_1 : DAt B4 1 (.ifCond .lt 21) 3 4 := ⟨by decide +kernel, rfl⟩
theorem d4_4 : DAt B4 4 (.iload_n 1) 1 5 := ⟨by decide +kernel, rfl⟩
theorem d4_5 : DAt B4 5 (.aload_n 0) 1 6 := ⟨by decide +kernel, rfl⟩
theorem d4_6 : DAt B4 6 (.getfield 70) 3 9 := ⟨by decide +kernel, rfl⟩
theorem d4_9 : DAt B4 9 (.if_icmp .ge 13) 3 12 := ⟨by decide +kernel, rfl⟩
theorem d4_12 : DAt B4 12 (.iload_n 1) 1 13 := ⟨by decide +kernel, rfl⟩
theorem d4_13 : DAt B4 13 (.bipush 8) 2 15 := ⟨by decide +kernel, rfl⟩
theorem d4_15 : DAt B4 15 (.if_icmp .ge 7) 3 18 := ⟨by decide +kernel, rfl⟩
theorem d4_18 : DAt B4 18 (.iconst 1) 1 19 := ⟨by decide +kernel, rfl⟩
theorem d4_19 : DAt B4 19 (.goto 4) 3 22 := ⟨by decide +kernel, rfl⟩
theorem d4_22 : DAt B4 22 (.iconst 0) 1 23 := ⟨by decide +kernel, rfl⟩
theorem d4_23 : DAt B4 23 (.ireturn) 1 24 := ⟨by decide +kernel, rfl⟩
def B5 : Bdy := ((⟨"LogicalReplicator", "logFull", "()Z"⟩ : MethodName), prog_1_method_5_code, 1, (some .boolean), ({ frames := 0, cells := 0, slots := 0, locals := 0 } : Room))
theorem d5_0 : DAt B5 0 (.aload_n 0) 1 1 := ⟨by decide +kernel, rfl⟩
theorem d5_1 : DAt B5 1 (.getfield 79) 3 4 := ⟨by decide +kernel, rfl⟩
theorem d5_4 : DAt B5 4 (.aload_n 0) 1 5 := ⟨by decide +kernel, rfl⟩
theorem d5_5 : DAt B5 5 (.getfield 73) 3 8 := ⟨by decide +kernel, rfl⟩
theorem d5_8 : DAt B5 8 (.if_icmp .ge 13) 3 11 := ⟨by decide +kernel, rfl⟩
theorem d5_11 : DAt B5 11 (.aload_n 0) 1 12 := ⟨by decide +kernel, rfl⟩
theorem d5_12 : DAt B5 12 (.getfield 79) 3 15 := ⟨by decide +kernel, rfl⟩
theorem d5_15 : DAt B5 15 (.sipush 128) 3 18 := ⟨by decide +kernel, rfl⟩
theorem d5_18 : DAt B5 18 (.if_icmp .lt 7) 3 21 := ⟨by decide +kernel, rfl⟩
theorem d5_21 : DAt B5 21 (.iconst 1) 1 22 := ⟨by decide +kernel, rfl⟩
theorem d5_22 : DAt B5 22 (.goto 4) 3 25 := ⟨by decide +kernel, rfl⟩
theorem d5_25 : DAt B5 25 (.iconst 0) 1 26 := ⟨by decide +kernel, rfl⟩
theorem d5_26 : DAt B5 26 (.ireturn) 1 27 := ⟨by decide +kernel, rfl⟩
def B6 : Bdy := ((⟨"LogicalReplicator", "append", "(IIII)I"⟩ : MethodName), prog_1_method_7_code, 5, (some .int), ({ frames := 0, cells := 0, slots := 0, locals := 0 } : Room))
theorem d6_0 : DAt B6 0 (.aload_n 0) 1 1 := ⟨by decide +kernel, rfl⟩
theorem d6_1 : DAt B6 1 (.dup) 1 2 := ⟨by decide +kernel, rfl⟩
theorem d6_2 : DAt B6 2 (.getfield 79) 3 5 := ⟨by decide +kernel, rfl⟩
theorem d6_5 : DAt B6 5 (.iconst 1) 1 6 := ⟨by decide +kernel, rfl⟩
theorem d6_6 : DAt B6 6 (.iadd) 1 7 := ⟨by decide +kernel, rfl⟩
theorem d6_7 : DAt B6 7 (.putfield 79) 3 10 := ⟨by decide +kernel, rfl⟩
theorem d6_10 : DAt B6 10 (.aload_n 0) 1 11 := ⟨by decide +kernel, rfl⟩
theorem d6_11 : DAt B6 11 (.getfield 7) 3 14 := ⟨by decide +kernel, rfl⟩
theorem d6_14 : DAt B6 14 (.aload_n 0) 1 15 := ⟨by decide +kernel, rfl⟩
theorem d6_15 : DAt B6 15 (.getfield 79) 3 18 := ⟨by decide +kernel, rfl⟩
theorem d6_18 : DAt B6 18 (.iload_n 1) 1 19 := ⟨by decide +kernel, rfl⟩
theorem d6_19 : DAt B6 19 (.iastore) 1 20 := ⟨by decide +kernel, rfl⟩
theorem d6_20 : DAt B6 20 (.aload_n 0) 1 21 := ⟨by decide +kernel, rfl⟩
theorem d6_21 : DAt B6 21 (.getfield 13) 3 24 := ⟨by decide +kernel, rfl⟩
theorem d6_24 : DAt B6 24 (.aload_n 0) 1 25 := ⟨by decide +kernel, rfl⟩
theorem d6_25 : DAt B6 25 (.getfield 79) 3 28 := ⟨by decide +kernel, rfl⟩
theorem d6_28 : DAt B6 28 (.iload_n 2) 1 29 := ⟨by decide +kernel, rfl⟩
theorem d6_29 : DAt B6 29 (.iastore) 1 30 := ⟨by decide +kernel, rfl⟩
theorem d6_30 : DAt B6 30 (.aload_n 0) 1 31 := ⟨by decide +kernel, rfl⟩
theorem d6_31 : DAt B6 31 (.getfield 16) 3 34 := ⟨by decide +kernel, rfl⟩
theorem d6_34 : DAt B6 34 (.aload_n 0) 1 35 := ⟨by decide +kernel, rfl⟩
theorem d6_35 : DAt B6 35 (.getfield 79) 3 38 := ⟨by decide +kernel, rfl⟩
theorem d6_38 : DAt B6 38 (.iload_n 3) 1 39 := ⟨by decide +kernel, rfl⟩
theorem d6_39 : DAt B6 39 (.iastore) 1 40 := ⟨by decide +kernel, rfl⟩
theorem d6_40 : DAt B6 40 (.aload_n 0) 1 41 := ⟨by decide +kernel, rfl⟩
theorem d6_41 : DAt B6 41 (.getfield 19) 3 44 := ⟨by decide +kernel, rfl⟩
theorem d6_44 : DAt B6 44 (.aload_n 0) 1 45 := ⟨by decide +kernel, rfl⟩
theorem d6_45 : DAt B6 45 (.getfield 79) 3 48 := ⟨by decide +kernel, rfl⟩
theorem d6_48 : DAt B6 48 (.iload 4) 2 50 := ⟨by decide +kernel, rfl⟩
theorem d6_50 : DAt B6 50 (.iastore) 1 51 := ⟨by decide +kernel, rfl⟩
theorem d6_51 : DAt B6 51 (.aload_n 0) 1 52 := ⟨by decide +kernel, rfl⟩
theorem d6_52 : DAt B6 52 (.getfield 22) 3 55 := ⟨by decide +kernel, rfl⟩
theorem d6_55 : DAt B6 55 (.aload_n 0) 1 56 := ⟨by decide +kernel, rfl⟩
theorem d6_56 : DAt B6 56 (.getfield 79) 3 59 := ⟨by decide +kernel, rfl⟩
theorem d6_59 : DAt B6 59 (.iconst 0) 1 60 := ⟨by decide +kernel, rfl⟩
theorem d6_60 : DAt B6 60 (.iastore) 1 61 := ⟨by decide +kernel, rfl⟩
theorem d6_61 : DAt B6 61 (.aload_n 0) 1 62 := ⟨by decide +kernel, rfl⟩
theorem d6_62 : DAt B6 62 (.getfield 79) 3 65 := ⟨by decide +kernel, rfl⟩
theorem d6_65 : DAt B6 65 (.ireturn) 1 66 := ⟨by decide +kernel, rfl⟩
def B3 : Bdy := ((⟨"LogicalReplicator", "begin", "(I)I"⟩ : MethodName), prog_1_method_8_code, 3, (some .int), ({ frames := 1, cells := 0, slots := 0, locals := 16 } : Room))
theorem d3_0 : DAt B3 0 (.aload_n 0) 1 1 := ⟨by decide +kernel, rfl⟩
theorem d3_1 : DAt B3 1 (.iload_n 1) 1 2 := ⟨by decide +kernel, rfl⟩
theorem d3_2 : DAt B3 2 (.invokevirtual 97) 3 5 := ⟨by decide +kernel, rfl⟩
theorem d3_5 : DAt B3 5 (.ifCond .ne 5) 3 8 := ⟨by decide +kernel, rfl⟩
theorem d3_8 : DAt B3 8 (.iconst (-1)) 1 9 := ⟨by decide +kernel, rfl⟩
theorem d3_9 : DAt B3 9 (.ireturn) 1 10 := ⟨by decide +kernel, rfl⟩
theorem d3_10 : DAt B3 10 (.aload_n 0) 1 11 := ⟨by decide +kernel, rfl⟩
theorem d3_11 : DAt B3 11 (.getfield 25) 3 14 := ⟨by decide +kernel, rfl⟩
theorem d3_14 : DAt B3 14 (.iload_n 1) 1 15 := ⟨by decide +kernel, rfl⟩
theorem d3_15 : DAt B3 15 (.baload) 1 16 := ⟨by decide +kernel, rfl⟩
theorem d3_16 : DAt B3 16 (.ifCond .eq 6) 3 19 := ⟨by decide +kernel, rfl⟩
theorem d3_19 : DAt B3 19 (.bipush (-2)) 2 21 := ⟨by decide +kernel, rfl⟩
theorem d3_21 : DAt B3 21 (.ireturn) 1 22 := ⟨by decide +kernel, rfl⟩
theorem d3_22 : DAt B3 22 (.aload_n 0) 1 23 := ⟨by decide +kernel, rfl⟩
theorem d3_23 : DAt B3 23 (.invokevirtual 101) 3 26 := ⟨by decide +kernel, rfl⟩
theorem d3_26 : DAt B3 26 (.ifCond .eq 6) 3 29 := ⟨by decide +kernel, rfl⟩
theorem d3_29 : DAt B3 29 (.bipush (-4)) 2 31 := ⟨by decide +kernel, rfl⟩
theorem d3_31 : DAt B3 31 (.ireturn) 1 32 := ⟨by decide +kernel, rfl⟩
theorem d3_32 : DAt B3 32 (.aload_n 0) 1 33 := ⟨by decide +kernel, rfl⟩
theorem d3_33 : DAt B3 33 (.iconst 1) 1 34 := ⟨by decide +kernel, rfl⟩
theorem d3_34 : DAt B3 34 (.iload_n 1) 1 35 := ⟨by decide +kernel, rfl⟩
theorem d3_35 : DAt B3 35 (.iconst 0) 1 36 := ⟨by decide +kernel, rfl⟩
theorem d3_36 : DAt B3 36 (.iconst 0) 1 37 := ⟨by decide +kernel, rfl⟩
theorem d3_37 : DAt B3 37 (.invokevirtual 105) 3 40 := ⟨by decide +kernel, rfl⟩
theorem d3_40 : DAt B3 40 (.istore_n 2) 1 41 := ⟨by decide +kernel, rfl⟩
theorem d3_41 : DAt B3 41 (.aload_n 0) 1 42 := ⟨by decide +kernel, rfl⟩
theorem d3_42 : DAt B3 42 (.getfield 25) 3 45 := ⟨by decide +kernel, rfl⟩
theorem d3_45 : DAt B3 45 (.iload_n 1) 1 46 := ⟨by decide +kernel, rfl⟩
theorem d3_46 : DAt B3 46 (.iconst 1) 1 47 := ⟨by decide +kernel, rfl⟩
theorem d3_47 : DAt B3 47 (.bastore) 1 48 := ⟨by decide +kernel, rfl⟩
theorem d3_48 : DAt B3 48 (.aload_n 0) 1 49 := ⟨by decide +kernel, rfl⟩
theorem d3_49 : DAt B3 49 (.getfield 29) 3 52 := ⟨by decide +kernel, rfl⟩
theorem d3_52 : DAt B3 52 (.iload_n 1) 1 53 := ⟨by decide +kernel, rfl⟩
theorem d3_53 : DAt B3 53 (.iload_n 2) 1 54 := ⟨by decide +kernel, rfl⟩
theorem d3_54 : DAt B3 54 (.iastore) 1 55 := ⟨by decide +kernel, rfl⟩
theorem d3_55 : DAt B3 55 (.iload_n 2) 1 56 := ⟨by decide +kernel, rfl⟩
theorem d3_56 : DAt B3 56 (.ireturn) 1 57 := ⟨by decide +kernel, rfl⟩
def B9 : Bdy := ((⟨"LogicalReplicator", "checkOpenSlot", "(I)I"⟩ : MethodName), prog_1_method_6_code, 2, (some .int), ({ frames := 1, cells := 0, slots := 0, locals := 13 } : Room))
theorem d9_0 : DAt B9 0 (.aload_n 0) 1 1 := ⟨by decide +kernel, rfl⟩
theorem d9_1 : DAt B9 1 (.iload_n 1) 1 2 := ⟨by decide +kernel, rfl⟩
theorem d9_2 : DAt B9 2 (.invokevirtual 97) 3 5 := ⟨by decide +kernel, rfl⟩
theorem d9_5 : DAt B9 5 (.ifCond .ne 5) 3 8 := ⟨by decide +kernel, rfl⟩
theorem d9_8 : DAt B9 8 (.iconst (-1)) 1 9 := ⟨by decide +kernel, rfl⟩
theorem d9_9 : DAt B9 9 (.ireturn) 1 10 := ⟨by decide +kernel, rfl⟩
theorem d9_10 : DAt B9 10 (.aload_n 0) 1 11 := ⟨by decide +kernel, rfl⟩
theorem d9_11 : DAt B9 11 (.getfield 25) 3 14 := ⟨by decide +kernel, rfl⟩
theorem d9_14 : DAt B9 14 (.iload_n 1) 1 15 := ⟨by decide +kernel, rfl⟩
theorem d9_15 : DAt B9 15 (.baload) 1 16 := ⟨by decide +kernel, rfl⟩
theorem d9_16 : DAt B9 16 (.ifCond .ne 6) 3 19 := ⟨by decide +kernel, rfl⟩
theorem d9_19 : DAt B9 19 (.bipush (-2)) 2 21 := ⟨by decide +kernel, rfl⟩
theorem d9_21 : DAt B9 21 (.ireturn) 1 22 := ⟨by decide +kernel, rfl⟩
theorem d9_22 : DAt B9 22 (.iconst 0) 1 23 := ⟨by decide +kernel, rfl⟩
theorem d9_23 : DAt B9 23 (.ireturn) 1 24 := ⟨by decide +kernel, rfl⟩
def B10 : Bdy := ((⟨"LogicalReplicator", "validKey", "(I)Z"⟩ : MethodName), prog_1_method_4_code, 2, (some .boolean), ({ frames := 0, cells := 0, slots := 0, locals := 0 } : Room))
theorem d10_0 : DAt B10 0 (.iload_n 1) 1 1 := ⟨by decide +kernel, rfl⟩
theorem d10_1 : DAt B10 1 (.ifCond .lt 21) 3 4 := ⟨by decide +kernel, rfl⟩
theorem d10_4 : DAt B10 4 (.iload_n 1) 1 5 := ⟨by decide +kernel, rfl⟩
theorem d10_5 : DAt B10 5 (.aload_n 0) 1 6 := ⟨by decide +kernel, rfl⟩
theorem d10_6 : DAt B10 6 (.getfield 66) 3 9 := ⟨by decide +kernel, rfl⟩
theorem d10_9 : DAt B10 9 (.if_icmp .ge 13) 3 12 := ⟨by decide +kernel, rfl⟩
theorem d10_12 : DAt B10 12 (.iload_n 1) 1 13 := ⟨by decide +kernel, rfl⟩
theorem d10_13 : DAt B10 13 (.bipush 32) 2 15 := ⟨by decide +kernel, rfl⟩
theorem d10_15 : DAt B10 15 (.if_icmp .ge 7) 3 18 := ⟨by decide +kernel, rfl⟩
theorem d10_18 : DAt B10 18 (.iconst 1) 1 19 := ⟨by decide +kernel, rfl⟩
theorem d10_19 : DAt B10 19 (.goto 4) 3 22 := ⟨by decide +kernel, rfl⟩
theorem d10_22 : DAt B10 22 (.iconst 0) 1 23 := ⟨by decide +kernel, rfl⟩
theorem d10_23 : DAt B10 23 (.ireturn) 1 24 := ⟨by decide +kernel, rfl⟩
def B8 : Bdy := ((⟨"LogicalReplicator", "write", "(IIII)I"⟩ : MethodName), prog_1_method_11_code, 6, (some .int), ({ frames := 2, cells := 0, slots := 0, locals := 26 } : Room))
theorem d8_0 : DAt B8 0 (.aload_n 0) 1 1 := ⟨by decide +kernel, rfl⟩
theorem d8_1 : DAt B8 1 (.iload_n 2) 1 2 := ⟨by decide +kernel, rfl⟩
theorem d8_2 : DAt B8 2 (.invokevirtual 112) 3 5 := ⟨by decide +kernel, rfl⟩
theorem d8_5 : DAt B8 5 (.istore 5) 2 7 := ⟨by decide +kernel, rfl⟩
theorem d8_7 : DAt B8 7 (.iload 5) 2 9 := ⟨by decide +kernel, rfl⟩
theorem d8_9 : DAt B8 9 (.ifCond .eq 6) 3 12 := ⟨by decide +kernel, rfl⟩
theorem d8_12 : DAt B8 12 (.iload 5) 2 14 := ⟨by decide +kernel, rfl⟩
theorem d8_14 : DAt B8 14 (.ireturn) 1 15 := ⟨by decide +kernel, rfl⟩
theorem d8_15 : DAt B8 15 (.aload_n 0) 1 16 := ⟨by decide +kernel, rfl⟩
theorem d8_16 : DAt B8 16 (.iload_n 3) 1 17 := ⟨by decide +kernel, rfl⟩
theorem d8_17 : DAt B8 17 (.invokevirtual 116) 3 20 := ⟨by decide +kernel, rfl⟩
theorem d8_20 : DAt B8 20 (.ifCond .ne 6) 3 23 := ⟨by decide +kernel, rfl⟩
theorem d8_23 : DAt B8 23 (.bipush (-3)) 2 25 := ⟨by decide +kernel, rfl⟩
theorem d8_25 : DAt B8 25 (.ireturn) 1 26 := ⟨by decide +kernel, rfl⟩
theorem d8_26 : DAt B8 26 (.aload_n 0) 1 27 := ⟨by decide +kernel, rfl⟩
theorem d8_27 : DAt B8 27 (.invokevirtual 101) 3 30 := ⟨by decide +kernel, rfl⟩
theorem d8_30 : DAt B8 30 (.ifCond .eq 6) 3 33 := ⟨by decide +kernel, rfl⟩
theorem d8_33 : DAt B8 33 (.bipush (-4)) 2 35 := ⟨by decide +kernel, rfl⟩
theorem d8_35 : DAt B8 35 (.ireturn) 1 36 := ⟨by decide +kernel, rfl⟩
theorem d8_36 : DAt B8 36 (.aload_n 0) 1 37 := ⟨by decide +kernel, rfl⟩
theorem d8_37 : DAt B8 37 (.iload_n 1) 1 38 := ⟨by decide +kernel, rfl⟩
theorem d8_38 : DAt B8 38 (.iload_n 2) 1 39 := ⟨by decide +kernel, rfl⟩
theorem d8_39 : DAt B8 39 (.iload_n 3) 1 40 := ⟨by decide +kernel, rfl⟩
theorem d8_40 : DAt B8 40 (.iload 4) 2 42 := ⟨by decide +kernel, rfl⟩
theorem d8_42 : DAt B8 42 (.invokevirtual 105) 3 45 := ⟨by decide +kernel, rfl⟩
theorem d8_45 : DAt B8 45 (.ireturn) 1 46 := ⟨by decide +kernel, rfl⟩
def B7 : Bdy := ((⟨"LogicalReplicator", "put", "(III)I"⟩ : MethodName), prog_1_method_9_code, 4, (some .int), ({ frames := 3, cells := 0, slots := 0, locals := 43 } : Room))
theorem d7_0 : DAt B7 0 (.aload_n 0) 1 1 := ⟨by decide +kernel, rfl⟩
theorem d7_1 : DAt B7 1 (.iconst 2) 1 2 := ⟨by decide +kernel, rfl⟩
theorem d7_2 : DAt B7 2 (.iload_n 1) 1 3 := ⟨by decide +kernel, rfl⟩
theorem d7_3 : DAt B7 3 (.iload_n 2) 1 4 := ⟨by decide +kernel, rfl⟩
theorem d7_4 : DAt B7 4 (.iload_n 3) 1 5 := ⟨by decide +kernel, rfl⟩
theorem d7_5 : DAt B7 5 (.invokevirtual 109) 3 8 := ⟨by decide +kernel, rfl⟩
theorem d7_8 : DAt B7 8 (.ireturn) 1 9 := ⟨by decide +kernel, rfl⟩
def B12 : Bdy := ((⟨"LogicalReplicator", "applyToPublisher", "(III)V"⟩ : MethodName), prog_1_method_13_code, 7, none, ({ frames := 0, cells := 0, slots := 0, locals := 0 } : Room))
theorem d12_0 : DAt B12 0 (.iload_n 2) 1 1 := ⟨by decide +kernel, rfl⟩
theorem d12_1 : DAt B12 1 (.iconst 1) 1 2 := ⟨by decide +kernel, rfl⟩
theorem d12_2 : DAt B12 2 (.iadd) 1 3 := ⟨by decide +kernel, rfl⟩
theorem d12_3 : DAt B12 3 (.istore 4) 2 5 := ⟨by decide +kernel, rfl⟩
theorem d12_5 : DAt B12 5 (.iload 4) 2 7 := ⟨by decide +kernel, rfl⟩
theorem d12_7 : DAt B12 7 (.iconst 1) 1 8 := ⟨by decide +kernel, rfl⟩
theorem d12_8 : DAt B12 8 (.if_icmp .ge 6) 3 11 := ⟨by decide +kernel, rfl⟩
theorem d12_11 : DAt B12 11 (.iconst 1) 1 12 := ⟨by decide +kernel, rfl⟩
theorem d12_12 : DAt B12 12 (.istore 4) 2 14 := ⟨by decide +kernel, rfl⟩
theorem d12_14 : DAt B12 14 (.iload 4) 2 16 := ⟨by decide +kernel, rfl⟩
theorem d12_16 : DAt B12 16 (.istore 5) 2 18 := ⟨by decide +kernel, rfl⟩
theorem d12_18 : DAt B12 18 (.iload 5) 2 20 := ⟨by decide +kernel, rfl⟩
theorem d12_20 : DAt B12 20 (.iload_n 3) 1 21 := ⟨by decide +kernel, rfl⟩
theorem d12_21 : DAt B12 21 (.if_icmp .ge 110) 3 24 := ⟨by decide +kernel, rfl⟩
theorem d12_24 : DAt B12 24 (.iload 5) 2 26 := ⟨by decide +kernel, rfl⟩
theorem d12_26 : DAt B12 26 (.sipush 129) 3 29 := ⟨by decide +kernel, rfl⟩
theorem d12_29 : DAt B12 29 (.if_icmp .ge 102) 3 32 := ⟨by decide +kernel, rfl⟩
theorem d12_32 : DAt B12 32 (.aload_n 0) 1 33 := ⟨by decide +kernel, rfl⟩
theorem d12_33 : DAt B12 33 (.getfield 13) 3 36 := ⟨by decide +kernel, rfl⟩
theorem d12_36 : DAt B12 36 (.iload 5) 2 38 := ⟨by decide +kernel, rfl⟩
theorem d12_38 : DAt B12 38 (.iaload) 1 39 := ⟨by decide +kernel, rfl⟩
theorem d12_39 : DAt B12 39 (.iload_n 1) 1 40 := ⟨by decide +kernel, rfl⟩
theorem d12_40 : DAt B12 40 (.if_icmp .eq 6) 3 43 := ⟨by decide +kernel, rfl⟩
theorem d12_43 : DAt B12 43 (.goto 82) 3 46 := ⟨by decide +kernel, rfl⟩
theorem d12_46 : DAt B12 46 (.aload_n 0) 1 47 := ⟨by decide +kernel, rfl⟩
theorem d12_47 : DAt B12 47 (.getfield 16) 3 50 := ⟨by decide +kernel, rfl⟩
theorem d12_50 : DAt B12 50 (.iload 5) 2 52 := ⟨by decide +kernel, rfl⟩
theorem d12_52 : DAt B12 52 (.iaload) 1 53 := ⟨by decide +kernel, rfl⟩
theorem d12_53 : DAt B12 53 (.istore 6) 2 55 := ⟨by decide +kernel, rfl⟩
theorem d12_55 : DAt B12 55 (.iload 6) 2 57 := ⟨by decide +kernel, rfl⟩
theorem d12_57 : DAt B12 57 (.ifCond .lt 68) 3 60 := ⟨by decide +kernel, rfl⟩
theorem d12_60 : DAt B12 60 (.iload 6) 2 62 := ⟨by decide +kernel, rfl⟩
theorem d12_62 : DAt B12 62 (.bipush 32) 2 64 := ⟨by decide +kernel, rfl⟩
theorem d12_64 : DAt B12 64 (.if_icmp .lt 6) 3 67 := ⟨by decide +kernel, rfl⟩
theorem d12_67 : DAt B12 67 (.goto 58) 3 70 := ⟨by decide +kernel, rfl⟩
theorem d12_70 : DAt B12 70 (.aload_n 0) 1 71 := ⟨by decide +kernel, rfl⟩
theorem d12_71 : DAt B12 71 (.getfield 7) 3 74 := ⟨by decide +kernel, rfl⟩
theorem d12_74 : DAt B12 74 (.iload 5) 2 76 := ⟨by decide +kernel, rfl⟩
theorem d12_76 : DAt B12 76 (.iaload) 1 77 := ⟨by decide +kernel, rfl⟩
theorem d12_77 : DAt B12 77 (.iconst 2) 1 78 := ⟨by decide +kernel, rfl⟩
theorem d12_78 : DAt B12 78 (.if_icmp .ne 28) 3 81 := ⟨by decide +kernel, rfl⟩
theorem d12_81 : DAt B12 81 (.aload_n 0) 1 82 := ⟨by decide +kernel, rfl⟩
theorem d12_82 : DAt B12 82 (.getfield 32) 3 85 := ⟨by decide +kernel, rfl⟩
theorem d12_85 : DAt B12 85 (.iload 6) 2 87 := ⟨by decide +kernel, rfl⟩
theorem d12_87 : DAt B12 87 (.iconst 1) 1 88 := ⟨by decide +kernel, rfl⟩
theorem d12_88 : DAt B12 88 (.bastore) 1 89 := ⟨by decide +kernel, rfl⟩
theorem d12_89 : DAt B12 89 (.aload_n 0) 1 90 := ⟨by decide +kernel, rfl⟩
theorem d12_90 : DAt B12 90 (.getfield 35) 3 93 := ⟨by decide +kernel, rfl⟩
theorem d12_93 : DAt B12 93 (.iload 6) 2 95 := ⟨by decide +kernel, rfl⟩
theorem d12_95 : DAt B12 95 (.aload_n 0) 1 96 := ⟨by decide +kernel, rfl⟩
theorem d12_96 : DAt B12 96 (.getfield 19) 3 99 := ⟨by decide +kernel, rfl⟩
theorem d12_99 : DAt B12 99 (.iload 5) 2 101 := ⟨by decide +kernel, rfl⟩
theorem d12_101 : DAt B12 101 (.iaload) 1 102 := ⟨by decide +kernel, rfl⟩
theorem d12_102 : DAt B12 102 (.iastore) 1 103 := ⟨by decide +kernel, rfl⟩
theorem d12_103 : DAt B12 103 (.goto 22) 3 106 := ⟨by decide +kernel, rfl⟩
theorem d12_106 : DAt B12 106 (.aload_n 0) 1 107 := ⟨by decide +kernel, rfl⟩
theorem d12_107 : DAt B12 107 (.getfield 7) 3 110 := ⟨by decide +kernel, rfl⟩
theorem d12_110 : DAt B12 110 (.iload 5) 2 112 := ⟨by decide +kernel, rfl⟩
theorem d12_112 : DAt B12 112 (.iaload) 1 113 := ⟨by decide +kernel, rfl⟩
theorem d12_113 : DAt B12 113 (.iconst 3) 1 114 := ⟨by decide +kernel, rfl⟩
theorem d12_114 : DAt B12 114 (.if_icmp .ne 11) 3 117 := ⟨by decide +kernel, rfl⟩
theorem d12_117 : DAt B12 117 (.aload_n 0) 1 118 := ⟨by decide +kernel, rfl⟩
theorem d12_118 : DAt B12 118 (.getfield 32) 3 121 := ⟨by decide +kernel, rfl⟩
theorem d12_121 : DAt B12 121 (.iload 6) 2 123 := ⟨by decide +kernel, rfl⟩
theorem d12_123 : DAt B12 123 (.iconst 0) 1 124 := ⟨by decide +kernel, rfl⟩
theorem d12_124 : DAt B12 124 (.bastore) 1 125 := ⟨by decide +kernel, rfl⟩
theorem d12_125 : DAt B12 125 (.iinc 5 1) 3 128 := ⟨by decide +kernel, rfl⟩
theorem d12_128 : DAt B12 128 (.goto (-110)) 3 131 := ⟨by decide +kernel, rfl⟩
theorem d12_131 : DAt B12 131 (.return_) 1 132 := ⟨by decide +kernel, rfl⟩
def B11 : Bdy := ((⟨"LogicalReplicator", "commit", "(I)I"⟩ : MethodName), prog_1_method_12_code, 5, (some .int), ({ frames := 2, cells := 0, slots := 0, locals := 26 } : Room))
theorem d11_0 : DAt B11 0 (.aload_n 0) 1 1 := ⟨by decide +kernel, rfl⟩
theorem d11_1 : DAt B11 1 (.iload_n 1) 1 2 := ⟨by decide +kernel, rfl⟩
theorem d11_2 : DAt B11 2 (.invokevirtual 112) 3 5 := ⟨by decide +kernel, rfl⟩
theorem d11_5 : DAt B11 5 (.istore_n 2) 1 6 := ⟨by decide +kernel, rfl⟩
theorem d11_6 : DAt B11 6 (.iload_n 2) 1 7 := ⟨by decide +kernel, rfl⟩
theorem d11_7 : DAt B11 7 (.ifCond .eq 5) 3 10 := ⟨by decide +kernel, rfl⟩
theorem d11_10 : DAt B11 10 (.iload_n 2) 1 11 := ⟨by decide +kernel, rfl⟩
theorem d11_11 : DAt B11 11 (.ireturn) 1 12 := ⟨by decide +kernel, rfl⟩
theorem d11_12 : DAt B11 12 (.aload_n 0) 1 13 := ⟨by decide +kernel, rfl⟩
theorem d11_13 : DAt B11 13 (.invokevirtual 101) 3 16 := ⟨by decide +kernel, rfl⟩
theorem d11_16 : DAt B11 16 (.ifCond .eq 6) 3 19 := ⟨by decide +kernel, rfl⟩
theorem d11_19 : DAt B11 19 (.bipush (-4)) 2 21 := ⟨by decide +kernel, rfl⟩
theorem d11_21 : DAt B11 21 (.ireturn) 1 22 := ⟨by decide +kernel, rfl⟩
theorem d11_22 : DAt B11 22 (.aload_n 0) 1 23 := ⟨by decide +kernel, rfl⟩
theorem d11_23 : DAt B11 23 (.getfield 29) 3 26 := ⟨by decide +kernel, rfl⟩
theorem d11_26 : DAt B11 26 (.iload_n 1) 1 27 := ⟨by decide +kernel, rfl⟩
theorem d11_27 : DAt B11 27 (.iaload) 1 28 := ⟨by decide +kernel, rfl⟩
theorem d11_28 : DAt B11 28 (.istore_n 3) 1 29 := ⟨by decide +kernel, rfl⟩
theorem d11_29 : DAt B11 29 (.aload_n 0) 1 30 := ⟨by decide +kernel, rfl⟩
theorem d11_30 : DAt B11 30 (.iconst 4) 1 31 := ⟨by decide +kernel, rfl⟩
theorem d11_31 : DAt B11 31 (.iload_n 1) 1 32 := ⟨by decide +kernel, rfl⟩
theorem d11_32 : DAt B11 32 (.iconst 0) 1 33 := ⟨by decide +kernel, rfl⟩
theorem d11_33 : DAt B11 33 (.iconst 0) 1 34 := ⟨by decide +kernel, rfl⟩
theorem d11_34 : DAt B11 34 (.invokevirtual 105) 3 37 := ⟨by decide +kernel, rfl⟩
theorem d11_37 : DAt B11 37 (.istore 4) 2 39 := ⟨by decide +kernel, rfl⟩
theorem d11_39 : DAt B11 39 (.aload_n 0) 1 40 := ⟨by decide +kernel, rfl⟩
theorem d11_40 : DAt B11 40 (.getfield 22) 3 43 := ⟨by decide +kernel, rfl⟩
theorem d11_43 : DAt B11 43 (.iload 4) 2 45 := ⟨by decide +kernel, rfl⟩
theorem d11_45 : DAt B11 45 (.iload_n 3) 1 46 := ⟨by decide +kernel, rfl⟩
theorem d11_46 : DAt B11 46 (.iastore) 1 47 := ⟨by decide +kernel, rfl⟩
theorem d11_47 : DAt B11 47 (.aload_n 0) 1 48 := ⟨by decide +kernel, rfl⟩
theorem d11_48 : DAt B11 48 (.iload_n 1) 1 49 := ⟨by decide +kernel, rfl⟩
theorem d11_49 : DAt B11 49 (.iload_n 3) 1 50 := ⟨by decide +kernel, rfl⟩
theorem d11_50 : DAt B11 50 (.iload 4) 2 52 := ⟨by decide +kernel, rfl⟩
theorem d11_52 : DAt B11 52 (.invokevirtual 119) 3 55 := ⟨by decide +kernel, rfl⟩
theorem d11_55 : DAt B11 55 (.aload_n 0) 1 56 := ⟨by decide +kernel, rfl⟩
theorem d11_56 : DAt B11 56 (.getfield 25) 3 59 := ⟨by decide +kernel, rfl⟩
theorem d11_59 : DAt B11 59 (.iload_n 1) 1 60 := ⟨by decide +kernel, rfl⟩
theorem d11_60 : DAt B11 60 (.iconst 0) 1 61 := ⟨by decide +kernel, rfl⟩
theorem d11_61 : DAt B11 61 (.bastore) 1 62 := ⟨by decide +kernel, rfl⟩
theorem d11_62 : DAt B11 62 (.iload 4) 2 64 := ⟨by decide +kernel, rfl⟩
theorem d11_64 : DAt B11 64 (.ireturn) 1 65 := ⟨by decide +kernel, rfl⟩
def B13 : Bdy := ((⟨"LogicalReplicator", "pubRow", "(I)J"⟩ : MethodName), prog_1_method_27_code, 2, (some .long), ({ frames := 1, cells := 0, slots := 0, locals := 13 } : Room))
theorem d13_0 : DAt B13 0 (.aload_n 0) 1 1 := ⟨by decide +kernel, rfl⟩
theorem d13_1 : DAt B13 1 (.iload_n 1) 1 2 := ⟨by decide +kernel, rfl⟩
theorem d13_2 : DAt B13 2 (.invokevirtual 116) 3 5 := ⟨by decide +kernel, rfl⟩
theorem d13_5 : DAt B13 5 (.ifCond .ne 7) 3 8 := ⟨by decide +kernel, rfl⟩
theorem d13_8 : DAt B13 8 (.ldc2_w 146) 3 11 := ⟨by decide +kernel, rfl⟩
theorem d13_11 : DAt B13 11 (.lreturn) 1 12 := ⟨by decide +kernel, rfl⟩
theorem d13_12 : DAt B13 12 (.aload_n 0) 1 13 := ⟨by decide +kernel, rfl⟩
theorem d13_13 : DAt B13 13 (.getfield 32) 3 16 := ⟨by decide +kernel, rfl⟩
theorem d13_16 : DAt B13 16 (.iload_n 1) 1 17 := ⟨by decide +kernel, rfl⟩
theorem d13_17 : DAt B13 17 (.baload) 1 18 := ⟨by decide +kernel, rfl⟩
theorem d13_18 : DAt B13 18 (.ifCond .eq 11) 3 21 := ⟨by decide +kernel, rfl⟩
theorem d13_21 : DAt B13 21 (.aload_n 0) 1 22 := ⟨by decide +kernel, rfl⟩
theorem d13_22 : DAt B13 22 (.getfield 35) 3 25 := ⟨by decide +kernel, rfl⟩
theorem d13_25 : DAt B13 25 (.iload_n 1) 1 26 := ⟨by decide +kernel, rfl⟩
theorem d13_26 : DAt B13 26 (.iaload) 1 27 := ⟨by decide +kernel, rfl⟩
theorem d13_27 : DAt B13 27 (.i2l) 1 28 := ⟨by decide +kernel, rfl⟩
theorem d13_28 : DAt B13 28 (.lreturn) 1 29 := ⟨by decide +kernel, rfl⟩
theorem d13_29 : DAt B13 29 (.ldc2_w 146) 3 32 := ⟨by decide +kernel, rfl⟩
theorem d13_32 : DAt B13 32 (.lreturn) 1 33 := ⟨by decide +kernel, rfl⟩
def B15 : Bdy := ((⟨"LogicalReplicator", "nextCommit", "(I)I"⟩ : MethodName), prog_1_method_16_code, 4, (some .int), ({ frames := 0, cells := 0, slots := 0, locals := 0 } : Room))
theorem d15_0 : DAt B15 0 (.iload_n 1) 1 1 := ⟨by decide +kernel, rfl⟩
theorem d15_1 : DAt B15 1 (.iconst 1) 1 2 := ⟨by decide +kernel, rfl⟩
theorem d15_2 : DAt B15 2 (.iadd) 1 3 := ⟨by decide +kernel, rfl⟩
theorem d15_3 : DAt B15 3 (.istore_n 2) 1 4 := ⟨by decide +kernel, rfl⟩
theorem d15_4 : DAt B15 4 (.iload_n 2) 1 5 := ⟨by decide +kernel, rfl⟩
theorem d15_5 : DAt B15 5 (.iconst 1) 1 6 := ⟨by decide +kernel, rfl⟩
theorem d15_6 : DAt B15 6 (.if_icmp .ge 5) 3 9 := ⟨by decide +kernel, rfl⟩
theorem d15_9 : DAt B15 9 (.iconst 1) 1 10 := ⟨by decide +kernel, rfl⟩
theorem d15_10 : DAt B15 10 (.istore_n 2) 1 11 := ⟨by decide +kernel, rfl⟩
theorem d15_11 : DAt B15 11 (.iload_n 2) 1 12 := ⟨by decide +kernel, rfl⟩
theorem d15_12 : DAt B15 12 (.istore_n 3) 1 13 := ⟨by decide +kernel, rfl⟩
theorem d15_13 : DAt B15 13 (.iload_n 3) 1 14 := ⟨by decide +kernel, rfl⟩
theorem d15_14 : DAt B15 14 (.aload_n 0) 1 15 := ⟨by decide +kernel, rfl⟩
theorem d15_15 : DAt B15 15 (.getfield 79) 3 18 := ⟨by decide +kernel, rfl⟩
theorem d15_18 : DAt B15 18 (.if_icmp .gt 28) 3 21 := ⟨by decide +kernel, rfl⟩
theorem d15_21 : DAt B15 21 (.iload_n 3) 1 22 := ⟨by decide +kernel, rfl⟩
theorem d15_22 : DAt B15 22 (.sipush 129) 3 25 := ⟨by decide +kernel, rfl⟩
theorem d15_25 : DAt B15 25 (.if_icmp .ge 21) 3 28 := ⟨by decide +kernel, rfl⟩
theorem d15_28 : DAt B15 28 (.aload_n 0) 1 29 := ⟨by decide +kernel, rfl⟩
theorem d15_29 : DAt B15 29 (.getfield 7) 3 32 := ⟨by decide +kernel, rfl⟩
theorem d15_32 : DAt B15 32 (.iload_n 3) 1 33 := ⟨by decide +kernel, rfl⟩
theorem d15_33 : DAt B15 33 (.iaload) 1 34 := ⟨by decide +kernel, rfl⟩
theorem d15_34 : DAt B15 34 (.iconst 4) 1 35 := ⟨by decide +kernel, rfl⟩
theorem d15_35 : DAt B15 35 (.if_icmp .ne 5) 3 38 := ⟨by decide +kernel, rfl⟩
theorem d15_38 : DAt B15 38 (.iload_n 3) 1 39 := ⟨by decide +kernel, rfl⟩
theorem d15_39 : DAt B15 39 (.ireturn) 1 40 := ⟨by decide +kernel, rfl⟩
theorem d15_40 : DAt B15 40 (.iinc 3 1) 3 43 := ⟨by decide +kernel, rfl⟩
theorem d15_43 : DAt B15 43 (.goto (-30)) 3 46 := ⟨by decide +kernel, rfl⟩
theorem d15_46 : DAt B15 46 (.iconst 0) 1 47 := ⟨by decide +kernel, rfl⟩
theorem d15_47 : DAt B15 47 (.ireturn) 1 48 := ⟨by decide +kernel, rfl⟩
def B17 : Bdy := ((⟨"LogicalReplicator", "enqueue", "(IIII)V"⟩ : MethodName), prog_1_method_18_code, 6, none, ({ frames := 0, cells := 0, slots := 0, locals := 0 } : Room))
theorem d17_0 : DAt B17 0 (.aload_n 0) 1 1 := ⟨by decide +kernel, rfl⟩
theorem d17_1 : DAt B17 1 (.getfield 94) 3 4 := ⟨by decide +kernel, rfl⟩
theorem d17_4 : DAt B17 4 (.sipush 128) 3 7 := ⟨by decide +kernel, rfl⟩
theorem d17_7 : DAt B17 7 (.if_icmp .lt 4) 3 10 := ⟨by decide +kernel, rfl⟩
theorem d17_10 : DAt B17 10 (.return_) 1 11 := ⟨by decide +kernel, rfl⟩
theorem d17_11 : DAt B17 11 (.aload_n 0) 1 12 := ⟨by decide +kernel, rfl⟩
theorem d17_12 : DAt B17 12 (.getfield 91) 3 15 := ⟨by decide +kernel, rfl⟩
theorem d17_15 : DAt B17 15 (.aload_n 0) 1 16 := ⟨by decide +kernel, rfl⟩
theorem d17_16 : DAt B17 16 (.getfield 94) 3 19 := ⟨by decide +kernel, rfl⟩
theorem d17_19 : DAt B17 19 (.iadd) 1 20 := ⟨by decide +kernel, rfl⟩
theorem d17_20 : DAt B17 20 (.sipush 128) 3 23 := ⟨by decide +kernel, rfl⟩
theorem d17_23 : DAt B17 23 (.irem) 1 24 := ⟨by decide +kernel, rfl⟩
theorem d17_24 : DAt B17 24 (.istore 5) 2 26 := ⟨by decide +kernel, rfl⟩
theorem d17_26 : DAt B17 26 (.iload 5) 2 28 := ⟨by decide +kernel, rfl⟩
theorem d17_28 : DAt B17 28 (.ifCond .ge 6) 3 31 := ⟨by decide +kernel, rfl⟩
theorem d17_31 : DAt B17 31 (.iconst 0) 1 32 := ⟨by decide +kernel, rfl⟩
theorem d17_32 : DAt B17 32 (.istore 5) 2 34 := ⟨by decide +kernel, rfl⟩
theorem d17_34 : DAt B17 34 (.aload_n 0) 1 35 := ⟨by decide +kernel, rfl⟩
theorem d17_35 : DAt B17 35 (.getfield 50) 3 38 := ⟨by decide +kernel, rfl⟩
theorem d17_38 : DAt B17 38 (.iload 5) 2 40 := ⟨by decide +kernel, rfl⟩
theorem d17_40 : DAt B17 40 (.iload_n 1) 1 41 := ⟨by decide +kernel, rfl⟩
theorem d17_41 : DAt B17 41 (.iastore) 1 42 := ⟨by decide +kernel, rfl⟩
theorem d17_42 : DAt B17 42 (.aload_n 0) 1 43 := ⟨by decide +kernel, rfl⟩
theorem d17_43 : DAt B17 43 (.getfield 53) 3 46 := ⟨by decide +kernel, rfl⟩
theorem d17_46 : DAt B17 46 (.iload 5) 2 48 := ⟨by decide +kernel, rfl⟩
theorem d17_48 : DAt B17 48 (.iload_n 2) 1 49 := ⟨by decide +kernel, rfl⟩
theorem d17_49 : DAt B17 49 (.iastore) 1 50 := ⟨by decide +kernel, rfl⟩
theorem d17_50 : DAt B17 50 (.aload_n 0) 1 51 := ⟨by decide +kernel, rfl⟩
theorem d17_51 : DAt B17 51 (.getfield 56) 3 54 := ⟨by decide +kernel, rfl⟩
theorem d17_54 : DAt B17 54 (.iload 5) 2 56 := ⟨by decide +kernel, rfl⟩
theorem d17_56 : DAt B17 56 (.iload_n 3) 1 57 := ⟨by decide +kernel, rfl⟩
theorem d17_57 : DAt B17 57 (.iastore) 1 58 := ⟨by decide +kernel, rfl⟩
theorem d17_58 : DAt B17 58 (.aload_n 0) 1 59 := ⟨by decide +kernel, rfl⟩
theorem d17_59 : DAt B17 59 (.getfield 59) 3 62 := ⟨by decide +kernel, rfl⟩
theorem d17_62 : DAt B17 62 (.iload 5) 2 64 := ⟨by decide +kernel, rfl⟩
theorem d17_64 : DAt B17 64 (.iload 4) 2 66 := ⟨by decide +kernel, rfl⟩
theorem d17_66 : DAt B17 66 (.iastore) 1 67 := ⟨by decide +kernel, rfl⟩
theorem d17_67 : DAt B17 67 (.aload_n 0) 1 68 := ⟨by decide +kernel, rfl⟩
theorem d17_68 : DAt B17 68 (.dup) 1 69 := ⟨by decide +kernel, rfl⟩
theorem d17_69 : DAt B17 69 (.getfield 94) 3 72 := ⟨by decide +kernel, rfl⟩
theorem d17_72 : DAt B17 72 (.iconst 1) 1 73 := ⟨by decide +kernel, rfl⟩
theorem d17_73 : DAt B17 73 (.iadd) 1 74 := ⟨by decide +kernel, rfl⟩
theorem d17_74 : DAt B17 74 (.putfield 94) 3 77 := ⟨by decide +kernel, rfl⟩
theorem d17_77 : DAt B17 77 (.return_) 1 78 := ⟨by decide +kernel, rfl⟩
def B16 : Bdy := ((⟨"LogicalReplicator", "emitTransaction", "(I)V"⟩ : MethodName), prog_1_method_17_code, 6, none, ({ frames := 1, cells := 0, slots := 0, locals := 17 } : Room))
theorem d16_0 : DAt B16 0 (.aload_n 0) 1 1 := ⟨by decide +kernel, rfl⟩
theorem d16_1 : DAt B16 1 (.getfield 13) 3 4 := ⟨by decide +kernel, rfl⟩
theorem d16_4 : DAt B16 4 (.iload_n 1) 1 5 := ⟨by decide +kernel, rfl⟩
theorem d16_5 : DAt B16 5 (.iaload) 1 6 := ⟨by decide +kernel, rfl⟩
theorem d16_6 : DAt B16 6 (.istore_n 2) 1 7 := ⟨by decide +kernel, rfl⟩
theorem d16_7 : DAt B16 7 (.aload_n 0) 1 8 := ⟨by decide +kernel, rfl⟩
theorem d16_8 : DAt B16 8 (.getfield 22) 3 11 := ⟨by decide +kernel, rfl⟩
theorem d16_11 : DAt B16 11 (.iload_n 1) 1 12 := ⟨by decide +kernel, rfl⟩
theorem d16_12 : DAt B16 12 (.iaload) 1 13 := ⟨by decide +kernel, rfl⟩
theorem d16_13 : DAt B16 13 (.iconst 1) 1 14 := ⟨by decide +kernel, rfl⟩
theorem d16_14 : DAt B16 14 (.iadd) 1 15 := ⟨by decide +kernel, rfl⟩
theorem d16_15 : DAt B16 15 (.istore_n 3) 1 16 := ⟨by decide +kernel, rfl⟩
theorem d16_16 : DAt B16 16 (.iload_n 3) 1 17 := ⟨by decide +kernel, rfl⟩
theorem d16_17 : DAt B16 17 (.iconst 1) 1 18 := ⟨by decide +kernel, rfl⟩
theorem d16_18 : DAt B16 18 (.if_icmp .ge 5) 3 21 := ⟨by decide +kernel, rfl⟩
theorem d16_21 : DAt B16 21 (.iconst 1) 1 22 := ⟨by decide +kernel, rfl⟩
theorem d16_22 : DAt B16 22 (.istore_n 3) 1 23 := ⟨by decide +kernel, rfl⟩
theorem d16_23 : DAt B16 23 (.iload_n 3) 1 24 := ⟨by decide +kernel, rfl⟩
theorem d16_24 : DAt B16 24 (.istore 4) 2 26 := ⟨by decide +kernel, rfl⟩
theorem d16_26 : DAt B16 26 (.iload 4) 2 28 := ⟨by decide +kernel, rfl⟩
theorem d16_28 : DAt B16 28 (.iload_n 1) 1 29 := ⟨by decide +kernel, rfl⟩
theorem d16_29 : DAt B16 29 (.if_icmp .ge 73) 3 32 := ⟨by decide +kernel, rfl⟩
theorem d16_32 : DAt B16 32 (.iload 4) 2 34 := ⟨by decide +kernel, rfl⟩
theorem d16_34 : DAt B16 34 (.sipush 129) 3 37 := ⟨by decide +kernel, rfl⟩
theorem d16_37 : DAt B16 37 (.if_icmp .ge 65) 3 40 := ⟨by decide +kernel, rfl⟩
theorem d16_40 : DAt B16 40 (.aload_n 0) 1 41 := ⟨by decide +kernel, rfl⟩
theorem d16_41 : DAt B16 41 (.getfield 13) 3 44 := ⟨by decide +kernel, rfl⟩
theorem d16_44 : DAt B16 44 (.iload 4) 2 46 := ⟨by decide +kernel, rfl⟩
theorem d16_46 : DAt B16 46 (.iaload) 1 47 := ⟨by decide +kernel, rfl⟩
theorem d16_47 : DAt B16 47 (.iload_n 2) 1 48 := ⟨by decide +kernel, rfl⟩
theorem d16_48 : DAt B16 48 (.if_icmp .eq 6) 3 51 := ⟨by decide +kernel, rfl⟩
theorem d16_51 : DAt B16 51 (.goto 45) 3 54 := ⟨by decide +kernel, rfl⟩
theorem d16_54 : DAt B16 54 (.aload_n 0) 1 55 := ⟨by decide +kernel, rfl⟩
theorem d16_55 : DAt B16 55 (.getfield 7) 3 58 := ⟨by decide +kernel, rfl⟩
theorem d16_58 : DAt B16 58 (.iload 4) 2 60 := ⟨by decide +kernel, rfl⟩
theorem d16_60 : DAt B16 60 (.iaload) 1 61 := ⟨by decide +kernel, rfl⟩
theorem d16_61 : DAt B16 61 (.istore 5) 2 63 := ⟨by decide +kernel, rfl⟩
theorem d16_63 : DAt B16 63 (.iload 5) 2 65 := ⟨by decide +kernel, rfl⟩
theorem d16_65 : DAt B16 65 (.iconst 2) 1 66 := ⟨by decide +kernel, rfl⟩
theorem d16_66 : DAt B16 66 (.if_icmp .eq 9) 3 69 := ⟨by decide +kernel, rfl⟩
theorem d16_69 : DAt B16 69 (.iload 5) 2 71 := ⟨by decide +kernel, rfl⟩
theorem d16_71 : DAt B16 71 (.iconst 3) 1 72 := ⟨by decide +kernel, rfl⟩
theorem d16_72 : DAt B16 72 (.if_icmp .ne 24) 3 75 := ⟨by decide +kernel, rfl⟩
theorem d16_75 : DAt B16 75 (.aload_n 0) 1 76 := ⟨by decide +kernel, rfl⟩
theorem d16_76 : DAt B16 76 (.iload 5) 2 78 := ⟨by decide +kernel, rfl⟩
theorem d16_78 : DAt B16 78 (.aload_n 0) 1 79 := ⟨by decide +kernel, rfl⟩
theorem d16_79 : DAt B16 79 (.getfield 16) 3 82 := ⟨by decide +kernel, rfl⟩
theorem d16_82 : DAt B16 82 (.iload 4) 2 84 := ⟨by decide +kernel, rfl⟩
theorem d16_84 : DAt B16 84 (.iaload) 1 85 := ⟨by decide +kernel, rfl⟩
theorem d16_85 : DAt B16 85 (.aload_n 0) 1 86 := ⟨by decide +kernel, rfl⟩
theorem d16_86 : DAt B16 86 (.getfield 19) 3 89 := ⟨by decide +kernel, rfl⟩
theorem d16_89 : DAt B16 89 (.iload 4) 2 91 := ⟨by decide +kernel, rfl⟩
theorem d16_91 : DAt B16 91 (.iaload) 1 92 := ⟨by decide +kernel, rfl⟩
theorem d16_92 : DAt B16 92 (.iload_n 1) 1 93 := ⟨by decide +kernel, rfl⟩
theorem d16_93 : DAt B16 93 (.invokevirtual 130) 3 96 := ⟨by decide +kernel, rfl⟩
theorem d16_96 : DAt B16 96 (.iinc 4 1) 3 99 := ⟨by decide +kernel, rfl⟩
theorem d16_99 : DAt B16 99 (.goto (-73)) 3 102 := ⟨by decide +kernel, rfl⟩
theorem d16_102 : DAt B16 102 (.aload_n 0) 1 103 := ⟨by decide +kernel, rfl⟩
theorem d16_103 : DAt B16 103 (.iconst 4) 1 104 := ⟨by decide +kernel, rfl⟩
theorem d16_104 : DAt B16 104 (.iconst 0) 1 105 := ⟨by decide +kernel, rfl⟩
theorem d16_105 : DAt B16 105 (.iconst 0) 1 106 := ⟨by decide +kernel, rfl⟩
theorem d16_106 : DAt B16 106 (.iload_n 1) 1 107 := ⟨by decide +kernel, rfl⟩
theorem d16_107 : DAt B16 107 (.invokevirtual 130) 3 110 := ⟨by decide +kernel, rfl⟩
theorem d16_110 : DAt B16 110 (.return_) 1 111 := ⟨by decide +kernel, rfl⟩
def B14 : Bdy := ((⟨"LogicalReplicator", "stream", "(I)I"⟩ : MethodName), prog_1_method_15_code, 5, (some .int), ({ frames := 2, cells := 0, slots := 0, locals := 34 } : Room))
theorem d14_0 : DAt B14 0 (.iload_n 1) 1 1 := ⟨by decide +kernel, rfl⟩
theorem d14_1 : DAt B14 1 (.ifCond .gt 5) 3 4 := ⟨by decide +kernel, rfl⟩
theorem d14_4 : DAt B14 4 (.iconst 0) 1 5 := ⟨by decide +kernel, rfl⟩
theorem d14_5 : DAt B14 5 (.ireturn) 1 6 := ⟨by decide +kernel, rfl⟩
theorem d14_6 : DAt B14 6 (.iconst 0) 1 7 := ⟨by decide +kernel, rfl⟩
theorem d14_7 : DAt B14 7 (.istore_n 2) 1 8 := ⟨by decide +kernel, rfl⟩
theorem d14_8 : DAt B14 8 (.iconst 0) 1 9 := ⟨by decide +kernel, rfl⟩
theorem d14_9 : DAt B14 9 (.istore_n 3) 1 10 := ⟨by decide +kernel, rfl⟩
theorem d14_10 : DAt B14 10 (.iload_n 3) 1 11 := ⟨by decide +kernel, rfl⟩
theorem d14_11 : DAt B14 11 (.sipush 129) 3 14 := ⟨by decide +kernel, rfl⟩
theorem d14_14 : DAt B14 14 (.if_icmp .ge 47) 3 17 := ⟨by decide +kernel, rfl⟩
theorem d14_17 : DAt B14 17 (.iload_n 2) 1 18 := ⟨by decide +kernel, rfl⟩
theorem d14_18 : DAt B14 18 (.iload_n 1) 1 19 := ⟨by decide +kernel, rfl⟩
theorem d14_19 : DAt B14 19 (.if_icmp .ge 42) 3 22 := ⟨by decide +kernel, rfl⟩
theorem d14_22 : DAt B14 22 (.aload_n 0) 1 23 := ⟨by decide +kernel, rfl⟩
theorem d14_23 : DAt B14 23 (.aload_n 0) 1 24 := ⟨by decide +kernel, rfl⟩
theorem d14_24 : DAt B14 24 (.getfield 82) 3 27 := ⟨by decide +kernel, rfl⟩
theorem d14_27 : DAt B14 27 (.invokevirtual 123) 3 30 := ⟨by decide +kernel, rfl⟩
theorem d14_30 : DAt B14 30 (.istore 4) 2 32 := ⟨by decide +kernel, rfl⟩
theorem d14_32 : DAt B14 32 (.iload 4) 2 34 := ⟨by decide +kernel, rfl⟩
theorem d14_34 : DAt B14 34 (.ifCond .ne 6) 3 37 := ⟨by decide +kernel, rfl⟩
theorem d14_37 : DAt B14 37 (.goto 24) 3 40 := ⟨by decide +kernel, rfl⟩
theorem d14_40 : DAt B14 40 (.aload_n 0) 1 41 := ⟨by decide +kernel, rfl⟩
theorem d14_41 : DAt B14 41 (.iload 4) 2 43 := ⟨by decide +kernel, rfl⟩
theorem d14_43 : DAt B14 43 (.invokevirtual 126) 3 46 := ⟨by decide +kernel, rfl⟩
theorem d14_46 : DAt B14 46 (.aload_n 0) 1 47 := ⟨by decide +kernel, rfl⟩
theorem d14_47 : DAt B14 47 (.iload 4) 2 49 := ⟨by decide +kernel, rfl⟩
theorem d14_49 : DAt B14 49 (.putfield 82) 3 52 := ⟨by decide +kernel, rfl⟩
theorem d14_52 : DAt B14 52 (.iinc 2 1) 3 55 := ⟨by decide +kernel, rfl⟩
theorem d14_55 : DAt B14 55 (.iinc 3 1) 3 58 := ⟨by decide +kernel, rfl⟩
theorem d14_58 : DAt B14 58 (.goto (-48)) 3 61 := ⟨by decide +kernel, rfl⟩
theorem d14_61 : DAt B14 61 (.iload_n 2) 1 62 := ⟨by decide +kernel, rfl⟩
theorem d14_62 : DAt B14 62 (.ireturn) 1 63 := ⟨by decide +kernel, rfl⟩
def B24 : Bdy := ((⟨"LogicalReplicator", "countSubRows", "()I"⟩ : MethodName), prog_1_method_34_code, 3, (some .int), ({ frames := 0, cells := 0, slots := 0, locals := 0 } : Room))
theorem d24_0 : DAt B24 0 (.iconst 0) 1 1 := ⟨by decide +kernel, rfl⟩
theorem d24_1 : DAt B24 1 (.istore_n 1) 1 2 := ⟨by decide +kernel, rfl⟩
theorem d24_2 : DAt B24 2 (.iconst 0) 1 3 := ⟨by decide +kernel, rfl⟩
theorem d24_3 : DAt B24 3 (.istore_n 2) 1 4 := ⟨by decide +kernel, rfl⟩
theorem d24_4 : DAt B24 4 (.iload_n 2) 1 5 := ⟨by decide +kernel, rfl⟩
theorem d24_5 : DAt B24 5 (.aload_n 0) 1 6 := ⟨by decide +kernel, rfl⟩
theorem d24_6 : DAt B24 6 (.getfield 66) 3 9 := ⟨by decide +kernel, rfl⟩
theorem d24_9 : DAt B24 9 (.if_icmp .ge 27) 3 12 := ⟨by decide +kernel, rfl⟩
theorem d24_12 : DAt B24 12 (.iload_n 2) 1 13 := ⟨by decide +kernel, rfl⟩
theorem d24_13 : DAt B24 13 (.bipush 32) 2 15 := ⟨by decide +kernel, rfl⟩
theorem d24_15 : DAt B24 15 (.if_icmp .ge 21) 3 18 := ⟨by decide +kernel, rfl⟩
theorem d24_18 : DAt B24 18 (.aload_n 0) 1 19 := ⟨by decide +kernel, rfl⟩
theorem d24_19 : DAt B24 19 (.getfield 38) 3 22 := ⟨by decide +kernel, rfl⟩
theorem d24_22 : DAt B24 22 (.iload_n 2) 1 23 := ⟨by decide +kernel, rfl⟩
theorem d24_23 : DAt B24 23 (.baload) 1 24 := ⟨by decide +kernel, rfl⟩
theorem d24_24 : DAt B24 24 (.ifCond .eq 6) 3 27 := ⟨by decide +kernel, rfl⟩
theorem d24_27 : DAt B24 27 (.iinc 1 1) 3 30 := ⟨by decide +kernel, rfl⟩
theorem d24_30 : DAt B24 30 (.iinc 2 1) 3 33 := ⟨by decide +kernel, rfl⟩
theorem d24_33 : DAt B24 33 (.goto (-29)) 3 36 := ⟨by decide +kernel, rfl⟩
theorem d24_36 : DAt B24 36 (.iload_n 1) 1 37 := ⟨by decide +kernel, rfl⟩
theorem d24_37 : DAt B24 37 (.ireturn) 1 38 := ⟨by decide +kernel, rfl⟩
def B18 : Bdy := ((⟨"LogicalReplicator", "info", "(I)I"⟩ : MethodName), prog_1_method_31_code, 2, (some .int), ({ frames := 1, cells := 0, slots := 0, locals := 14 } : Room))
theorem d18_0 : DAt B18 0 (.iload_n 1) 1 1 := ⟨by decide +kernel, rfl⟩
theorem d18_1 : DAt B18 1 (.tableswitch 87 0 7 #[47, 52, 57, 62, 67, 72, 77, 82]) 47 48 := ⟨by decide +kernel, rfl⟩
theorem d18_48 : DAt B18 48 (.aload_n 0) 1 49 := ⟨by decide +kernel, rfl⟩
theorem d18_49 : DAt B18 49 (.getfield 79) 3 52 := ⟨by decide +kernel, rfl⟩
theorem d18_52 : DAt B18 52 (.ireturn) 1 53 := ⟨by decide +kernel, rfl⟩
theorem d18_53 : DAt B18 53 (.aload_n 0) 1 54 := ⟨by decide +kernel, rfl⟩
theorem d18_58 : DAt B18 58 (.aload_n 0) 1 59 := ⟨by decide +kernel, rfl⟩
theorem d18_59 : DAt B18 59 (.getfield 82) 3 62 := ⟨by decide +kernel, rfl⟩
theorem d18_62 : DAt B18 62 (.ireturn) 1 63 := ⟨by decide +kernel, rfl⟩
theorem d18_63 : DAt B18 63 (.aload_n 0) 1 64 := ⟨by decide +kernel, rfl⟩
theorem d18_64 : DAt B18 64 (.getfield 94) 3 67 := ⟨by decide +kernel, rfl⟩
theorem d18_67 : DAt B18 67 (.ireturn) 1 68 := ⟨by decide +kernel, rfl⟩
theorem d18_68 : DAt B18 68 (.aload_n 0) 1 69 := ⟨by decide +kernel, rfl⟩
theorem d18_69 : DAt B18 69 (.getfield 85) 3 72 := ⟨by decide +kernel, rfl⟩
theorem d18_72 : DAt B18 72 (.ireturn) 1 73 := ⟨by decide +kernel, rfl⟩
theorem d18_73 : DAt B18 73 (.aload_n 0) 1 74 := ⟨by decide +kernel, rfl⟩
theorem d18_74 : DAt B18 74 (.getfield 88) 3 77 := ⟨by decide +kernel, rfl⟩
theorem d18_77 : DAt B18 77 (.ireturn) 1 78 := ⟨by decide +kernel, rfl⟩
theorem d18_78 : DAt B18 78 (.aload_n 0) 1 79 := ⟨by decide +kernel, rfl⟩
theorem d18_83 : DAt B18 83 (.aload_n 0) 1 84 := ⟨by decide +kernel, rfl⟩
theorem d18_84 : DAt B18 84 (.invokevirtual 160) 3 87 := ⟨by decide +kernel, rfl⟩
theorem d18_87 : DAt B18 87 (.ireturn) 1 88 := ⟨by decide +kernel, rfl⟩
theorem d18_88 : DAt B18 88 (.iconst (-1)) 1 89 := ⟨by decide +kernel, rfl⟩
theorem d18_89 : DAt B18 89 (.ireturn) 1 90 := ⟨by decide +kernel, rfl⟩
def B23 : Bdy := ((⟨"LogicalReplicator", "applyPending", "()V"⟩ : MethodName), prog_1_method_22_code, 2, none, ({ frames := 0, cells := 0, slots := 0, locals := 0 } : Room))
theorem d23_0 : DAt B23 0 (.iconst 0) 1 1 := ⟨by decide +kernel, rfl⟩
theorem d23_1 : DAt B23 1 (.istore_n 1) 1 2 := ⟨by decide +kernel, rfl⟩
theorem d23_2 : DAt B23 2 (.iload_n 1) 1 3 := ⟨by decide +kernel, rfl⟩
theorem d23_3 : DAt B23 3 (.aload_n 0) 1 4 := ⟨by decide +kernel, rfl⟩
theorem d23_4 : DAt B23 4 (.getfield 66) 3 7 := ⟨by decide +kernel, rfl⟩
theorem d23_7 : DAt B23 7 (.if_icmp .ge 78) 3 10 := ⟨by decide +kernel, rfl⟩
theorem d23_10 : DAt B23 10 (.iload_n 1) 1 11 := ⟨by decide +kernel, rfl⟩
theorem d23_11 : DAt B23 11 (.bipush 32) 2 13 := ⟨by decide +kernel, rfl⟩
theorem d23_13 : DAt B23 13 (.if_icmp .ge 72) 3 16 := ⟨by decide +kernel, rfl⟩
theorem d23_16 : DAt B23 16 (.aload_n 0) 1 17 := ⟨by decide +kernel, rfl⟩
theorem d23_17 : DAt B23 17 (.getfield 44) 3 20 := ⟨by decide +kernel, rfl⟩
theorem d23_20 : DAt B23 20 (.iload_n 1) 1 21 := ⟨by decide +kernel, rfl⟩
theorem d23_21 : DAt B23 21 (.iaload) 1 22 := ⟨by decide +kernel, rfl⟩
theorem d23_22 : DAt B23 22 (.iconst 1) 1 23 := ⟨by decide +kernel, rfl⟩
theorem d23_23 : DAt B23 23 (.if_icmp .ne 25) 3 26 := ⟨by decide +kernel, rfl⟩
theorem d23_26 : DAt B23 26 (.aload_n 0) 1 27 := ⟨by decide +kernel, rfl⟩
theorem d23_27 : DAt B23 27 (.getfield 38) 3 30 := ⟨by decide +kernel, rfl⟩
theorem d23_30 : DAt B23 30 (.iload_n 1) 1 31 := ⟨by decide +kernel, rfl⟩
theorem d23_31 : DAt B23 31 (.iconst 1) 1 32 := ⟨by decide +kernel, rfl⟩
theorem d23_32 : DAt B23 32 (.bastore) 1 33 := ⟨by decide +kernel, rfl⟩
theorem d23_33 : DAt B23 33 (.aload_n 0) 1 34 := ⟨by decide +kernel, rfl⟩
theorem d23_34 : DAt B23 34 (.getfield 41) 3 37 := ⟨by decide +kernel, rfl⟩
theorem d23_37 : DAt B23 37 (.iload_n 1) 1 38 := ⟨by decide +kernel, rfl⟩
theorem d23_38 : DAt B23 38 (.aload_n 0) 1 39 := ⟨by decide +kernel, rfl⟩
theorem d23_39 : DAt B23 39 (.getfield 47) 3 42 := ⟨by decide +kernel, rfl⟩
theorem d23_42 : DAt B23 42 (.iload_n 1) 1 43 := ⟨by decide +kernel, rfl⟩
theorem d23_43 : DAt B23 43 (.iaload) 1 44 := ⟨by decide +kernel, rfl⟩
theorem d23_44 : DAt B23 44 (.iastore) 1 45 := ⟨by decide +kernel, rfl⟩
theorem d23_45 : DAt B23 45 (.goto 20) 3 48 := ⟨by decide +kernel, rfl⟩
theorem d23_48 : DAt B23 48 (.aload_n 0) 1 49 := ⟨by decide +kernel, rfl⟩
theorem d23_49 : DAt B23 49 (.getfield 44) 3 52 := ⟨by decide +kernel, rfl⟩
theorem d23_52 : DAt B23 52 (.iload_n 1) 1 53 := ⟨by decide +kernel, rfl⟩
theorem d23_53 : DAt B23 53 (.iaload) 1 54 := ⟨by decide +kernel, rfl⟩
theorem d23_54 : DAt B23 54 (.iconst 2) 1 55 := ⟨by decide +kernel, rfl⟩
theorem d23_55 : DAt B23 55 (.if_icmp .ne 10) 3 58 := ⟨by decide +kernel, rfl⟩
theorem d23_58 : DAt B23 58 (.aload_n 0) 1 59 := ⟨by decide +kernel, rfl⟩
theorem d23_59 : DAt B23 59 (.getfield 38) 3 62 := ⟨by decide +kernel, rfl⟩
theorem d23_62 : DAt B23 62 (.iload_n 1) 1 63 := ⟨by decide +kernel, rfl⟩
theorem d23_63 : DAt B23 63 (.iconst 0) 1 64 := ⟨by decide +kernel, rfl⟩
theorem d23_64 : DAt B23 64 (.bastore) 1 65 := ⟨by decide +kernel, rfl⟩
theorem d23_65 : DAt B23 65 (.aload_n 0) 1 66 := ⟨by decide +kernel, rfl⟩
theorem d23_66 : DAt B23 66 (.getfield 44) 3 69 := ⟨by decide +kernel, rfl⟩
theorem d23_69 : DAt B23 69 (.iload_n 1) 1 70 := ⟨by decide +kernel, rfl⟩
theorem d23_70 : DAt B23 70 (.iconst 0) 1 71 := ⟨by decide +kernel, rfl⟩
theorem d23_71 : DAt B23 71 (.iastore) 1 72 := ⟨by decide +kernel, rfl⟩
theorem d23_72 : DAt B23 72 (.aload_n 0) 1 73 := ⟨by decide +kernel, rfl⟩
theorem d23_73 : DAt B23 73 (.getfield 47) 3 76 := ⟨by decide +kernel, rfl⟩
theorem d23_76 : DAt B23 76 (.iload_n 1) 1 77 := ⟨by decide +kernel, rfl⟩
theorem d23_77 : DAt B23 77 (.iconst 0) 1 78 := ⟨by decide +kernel, rfl⟩
theorem d23_78 : DAt B23 78 (.iastore) 1 79 := ⟨by decide +kernel, rfl⟩
theorem d23_79 : DAt B23 79 (.iinc 1 1) 3 82 := ⟨by decide +kernel, rfl⟩
theorem d23_82 : DAt B23 82 (.goto (-80)) 3 85 := ⟨by decide +kernel, rfl⟩
theorem d23_85 : DAt B23 85 (.return_) 1 86 := ⟨by decide +kernel, rfl⟩
def B20 : Bdy := ((⟨"LogicalReplicator", "handleHead", "()V"⟩ : MethodName), prog_1_method_21_code, 6, none, ({ frames := 1, cells := 0, slots := 0, locals := 13 } : Room))
theorem d20_0 : DAt B20 0 (.aload_n 0) 1 1 := ⟨by decide +kernel, rfl⟩
theorem d20_1 : DAt B20 1 (.getfield 91) 3 4 := ⟨by decide +kernel, rfl⟩
theorem d20_4 : DAt B20 4 (.istore_n 1) 1 5 := ⟨by decide +kernel, rfl⟩
theorem d20_5 : DAt B20 5 (.iload_n 1) 1 6 := ⟨by decide +kernel, rfl⟩
theorem d20_6 : DAt B20 6 (.ifCond .lt 10) 3 9 := ⟨by decide +kernel, rfl⟩
theorem d20_9 : DAt B20 9 (.iload_n 1) 1 10 := ⟨by decide +kernel, rfl⟩
theorem d20_10 : DAt B20 10 (.sipush 128) 3 13 := ⟨by decide +kernel, rfl⟩
theorem d20_13 : DAt B20 13 (.if_icmp .lt 5) 3 16 := ⟨by decide +kernel, rfl⟩
theorem d20_16 : DAt B20 16 (.iconst 0) 1 17 := ⟨by decide +kernel, rfl⟩
theorem d20_17 : DAt B20 17 (.istore_n 1) 1 18 := ⟨by decide +kernel, rfl⟩
theorem d20_18 : DAt B20 18 (.aload_n 0) 1 19 := ⟨by decide +kernel, rfl⟩
theorem d20_19 : DAt B20 19 (.getfield 50) 3 22 := ⟨by decide +kernel, rfl⟩
theorem d20_22 : DAt B20 22 (.iload_n 1) 1 23 := ⟨by decide +kernel, rfl⟩
theorem d20_23 : DAt B20 23 (.iaload) 1 24 := ⟨by decide +kernel, rfl⟩
theorem d20_24 : DAt B20 24 (.istore_n 2) 1 25 := ⟨by decide +kernel, rfl⟩
theorem d20_25 : DAt B20 25 (.aload_n 0) 1 26 := ⟨by decide +kernel, rfl⟩
theorem d20_26 : DAt B20 26 (.getfield 53) 3 29 := ⟨by decide +kernel, rfl⟩
theorem d20_29 : DAt B20 29 (.iload_n 1) 1 30 := ⟨by decide +kernel, rfl⟩
theorem d20_30 : DAt B20 30 (.iaload) 1 31 := ⟨by decide +kernel, rfl⟩
theorem d20_31 : DAt B20 31 (.istore_n 3) 1 32 := ⟨by decide +kernel, rfl⟩
theorem d20_32 : DAt B20 32 (.aload_n 0) 1 33 := ⟨by decide +kernel, rfl⟩
theorem d20_33 : DAt B20 33 (.getfield 56) 3 36 := ⟨by decide +kernel, rfl⟩
theorem d20_36 : DAt B20 36 (.iload_n 1) 1 37 := ⟨by decide +kernel, rfl⟩
theorem d20_37 : DAt B20 37 (.iaload) 1 38 := ⟨by decide +kernel, rfl⟩
theorem d20_38 : DAt B20 38 (.istore 4) 2 40 := ⟨by decide +kernel, rfl⟩
theorem d20_40 : DAt B20 40 (.aload_n 0) 1 41 := ⟨by decide +kernel, rfl⟩
theorem d20_41 : DAt B20 41 (.getfield 59) 3 44 := ⟨by decide +kernel, rfl⟩
theorem d20_44 : DAt B20 44 (.iload_n 1) 1 45 := ⟨by decide +kernel, rfl⟩
theorem d20_45 : DAt B20 45 (.iaload) 1 46 := ⟨by decide +kernel, rfl⟩
theorem d20_46 : DAt B20 46 (.istore 5) 2 48 := ⟨by decide +kernel, rfl⟩
theorem d20_48 : DAt B20 48 (.aload_n 0) 1 49 := ⟨by decide +kernel, rfl⟩
theorem d20_49 : DAt B20 49 (.iload_n 1) 1 50 := ⟨by decide +kernel, rfl⟩
theorem d20_50 : DAt B20 50 (.iconst 1) 1 51 := ⟨by decide +kernel, rfl⟩
theorem d20_51 : DAt B20 51 (.iadd) 1 52 := ⟨by decide +kernel, rfl⟩
theorem d20_52 : DAt B20 52 (.sipush 128) 3 55 := ⟨by decide +kernel, rfl⟩
theorem d20_55 : DAt B20 55 (.irem) 1 56 := ⟨by decide +kernel, rfl⟩
theorem d20_56 : DAt B20 56 (.putfield 91) 3 59 := ⟨by decide +kernel, rfl⟩
theorem d20_59 : DAt B20 59 (.aload_n 0) 1 60 := ⟨by decide +kernel, rfl⟩
theorem d20_60 : DAt B20 60 (.dup) 1 61 := ⟨by decide +kernel, rfl⟩
theorem d20_61 : DAt B20 61 (.getfield 94) 3 64 := ⟨by decide +kernel, rfl⟩
theorem d20_64 : DAt B20 64 (.iconst 1) 1 65 := ⟨by decide +kernel, rfl⟩
theorem d20_65 : DAt B20 65 (.isub) 1 66 := ⟨by decide +kernel, rfl⟩
theorem d20_66 : DAt B20 66 (.putfield 94) 3 69 := ⟨by decide +kernel, rfl⟩
theorem d20_69 : DAt B20 69 (.iload 5) 2 71 := ⟨by decide +kernel, rfl⟩
theorem d20_71 : DAt B20 71 (.aload_n 0) 1 72 := ⟨by decide +kernel, rfl⟩
theorem d20_72 : DAt B20 72 (.getfield 85) 3 75 := ⟨by decide +kernel, rfl⟩
theorem d20_75 : DAt B20 75 (.if_icmp .gt 4) 3 78 := ⟨by decide +kernel, rfl⟩
theorem d20_78 : DAt B20 78 (.return_) 1 79 := ⟨by decide +kernel, rfl⟩
theorem d20_79 : DAt B20 79 (.iload_n 2) 1 80 := ⟨by decide +kernel, rfl⟩
theorem d20_80 : DAt B20 80 (.iconst 4) 1 81 := ⟨by decide +kernel, rfl⟩
theorem d20_81 : DAt B20 81 (.if_icmp .ne 14) 3 84 := ⟨by decide +kernel, rfl⟩
theorem d20_84 : DAt B20 84 (.aload_n 0) 1 85 := ⟨by decide +kernel, rfl⟩
theorem d20_85 : DAt B20 85 (.invokevirtual 137) 3 88 := ⟨by decide +kernel, rfl⟩
theorem d20_88 : DAt B20 88 (.aload_n 0) 1 89 := ⟨by decide +kernel, rfl⟩
theorem d20_89 : DAt B20 89 (.iload 5) 2 91 := ⟨by decide +kernel, rfl⟩
theorem d20_91 : DAt B20 91 (.putfield 85) 3 94 := ⟨by decide +kernel, rfl⟩
theorem d20_94 : DAt B20 94 (.return_) 1 95 := ⟨by decide +kernel, rfl⟩
theorem d20_95 : DAt B20 95 (.iload_n 3) 1 96 := ⟨by decide +kernel, rfl⟩
theorem d20_96 : DAt B20 96 (.ifCond .lt 9) 3 99 := ⟨by decide +kernel, rfl⟩
theorem d20_99 : DAt B20 99 (.iload_n 3) 1 100 := ⟨by decide +kernel, rfl⟩
theorem d20_100 : DAt B20 100 (.bipush 32) 2 102 := ⟨by decide +kernel, rfl⟩
theorem d20_102 : DAt B20 102 (.if_icmp .lt 4) 3 105 := ⟨by decide +kernel, rfl⟩
theorem d20_105 : DAt B20 105 (.return_) 1 106 := ⟨by decide +kernel, rfl⟩
theorem d20_106 : DAt B20 106 (.iload_n 2) 1 107 := ⟨by decide +kernel, rfl⟩
theorem d20_107 : DAt B20 107 (.iconst 2) 1 108 := ⟨by decide +kernel, rfl⟩
theorem d20_108 : DAt B20 108 (.if_icmp .ne 21) 3 111 := ⟨by decide +kernel, rfl⟩
theorem d20_111 : DAt B20 111 (.aload_n 0) 1 112 := ⟨by decide +kernel, rfl⟩
theorem d20_112 : DAt B20 112 (.getfield 44) 3 115 := ⟨by decide +kernel, rfl⟩
theorem d20_115 : DAt B20 115 (.iload_n 3) 1 116 := ⟨by decide +kernel, rfl⟩
theorem d20_116 : DAt B20 116 (.iconst 1) 1 117 := ⟨by decide +kernel, rfl⟩
theorem d20_117 : DAt B20 117 (.iastore) 1 118 := ⟨by decide +kernel, rfl⟩
theorem d20_118 : DAt B20 118 (.aload_n 0) 1 119 := ⟨by decide +kernel, rfl⟩
theorem d20_119 : DAt B20 119 (.getfield 47) 3 122 := ⟨by decide +kernel, rfl⟩
theorem d20_122 : DAt B20 122 (.iload_n 3) 1 123 := ⟨by decide +kernel, rfl⟩
theorem d20_123 : DAt B20 123 (.iload 4) 2 125 := ⟨by decide +kernel, rfl⟩
theorem d20_125 : DAt B20 125 (.iastore) 1 126 := ⟨by decide +kernel, rfl⟩
theorem d20_126 : DAt B20 126 (.goto 22) 3 129 := ⟨by decide +kernel, rfl⟩
theorem d20_129 : DAt B20 129 (.iload_n 2) 1 130 := ⟨by decide +kernel, rfl⟩
theorem d20_130 : DAt B20 130 (.iconst 3) 1 131 := ⟨by decide +kernel, rfl⟩
theorem d20_131 : DAt B20 131 (.if_icmp .ne 17) 3 134 := ⟨by decide +kernel, rfl⟩
theorem d20_134 : DAt B20 134 (.aload_n 0) 1 135 := ⟨by decide +kernel, rfl⟩
theorem d20_135 : DAt B20 135 (.getfield 44) 3 138 := ⟨by decide +kernel, rfl⟩
theorem d20_138 : DAt B20 138 (.iload_n 3) 1 139 := ⟨by decide +kernel, rfl⟩
theorem d20_139 : DAt B20 139 (.iconst 2) 1 140 := ⟨by decide +kernel, rfl⟩
theorem d20_140 : DAt B20 140 (.iastore) 1 141 := ⟨by decide +kernel, rfl⟩
theorem d20_141 : DAt B20 141 (.aload_n 0) 1 142 := ⟨by decide +kernel, rfl⟩
theorem d20_142 : DAt B20 142 (.getfield 47) 3 145 := ⟨by decide +kernel, rfl⟩
theorem d20_145 : DAt B20 145 (.iload_n 3) 1 146 := ⟨by decide +kernel, rfl⟩
theorem d20_146 : DAt B20 146 (.iconst 0) 1 147 := ⟨by decide +kernel, rfl⟩
theorem d20_147 : DAt B20 147 (.iastore) 1 148 := ⟨by decide +kernel, rfl⟩
theorem d20_148 : DAt B20 148 (.return_) 1 149 := ⟨by decide +kernel, rfl⟩
def B19 : Bdy := ((⟨"LogicalReplicator", "apply", "(I)I"⟩ : MethodName), prog_1_method_20_code, 4, (some .int), ({ frames := 2, cells := 0, slots := 0, locals := 30 } : Room))
theorem d19_0 : DAt B19 0 (.iload_n 1) 1 1 := ⟨by decide +kernel, rfl⟩
theorem d19_1 : DAt B19 1 (.ifCond .gt 5) 3 4 := ⟨by decide +kernel, rfl⟩
theorem d19_4 : DAt B19 4 (.iconst 0) 1 5 := ⟨by decide +kernel, rfl⟩
theorem d19_5 : DAt B19 5 (.ireturn) 1 6 := ⟨by decide +kernel, rfl⟩
theorem d19_6 : DAt B19 6 (.iconst 0) 1 7 := ⟨by decide +kernel, rfl⟩
theorem d19_7 : DAt B19 7 (.istore_n 2) 1 8 := ⟨by decide +kernel, rfl⟩
theorem d19_8 : DAt B19 8 (.iconst 0) 1 9 := ⟨by decide +kernel, rfl⟩
theorem d19_9 : DAt B19 9 (.istore_n 3) 1 10 := ⟨by decide +kernel, rfl⟩
theorem d19_10 : DAt B19 10 (.iload_n 3) 1 11 := ⟨by decide +kernel, rfl⟩
theorem d19_11 : DAt B19 11 (.sipush 128) 3 14 := ⟨by decide +kernel, rfl⟩
theorem d19_14 : DAt B19 14 (.if_icmp .gt 28) 3 17 := ⟨by decide +kernel, rfl⟩
theorem d19_17 : DAt B19 17 (.iload_n 2) 1 18 := ⟨by decide +kernel, rfl⟩
theorem d19_18 : DAt B19 18 (.iload_n 1) 1 19 := ⟨by decide +kernel, rfl⟩
theorem d19_19 : DAt B19 19 (.if_icmp .ge 23) 3 22 := ⟨by decide +kernel, rfl⟩
theorem d19_22 : DAt B19 22 (.aload_n 0) 1 23 := ⟨by decide +kernel, rfl⟩
theorem d19_23 : DAt B19 23 (.getfield 94) 3 26 := ⟨by decide +kernel, rfl⟩
theorem d19_26 : DAt B19 26 (.ifCond .le 16) 3 29 := ⟨by decide +kernel, rfl⟩
theorem d19_29 : DAt B19 29 (.aload_n 0) 1 30 := ⟨by decide +kernel, rfl⟩
theorem d19_30 : DAt B19 30 (.invokevirtual 134) 3 33 := ⟨by decide +kernel, rfl⟩
theorem d19_33 : DAt B19 33 (.iinc 2 1) 3 36 := ⟨by decide +kernel, rfl⟩
theorem d19_36 : DAt B19 36 (.iinc 3 1) 3 39 := ⟨by decide +kernel, rfl⟩
theorem d19_39 : DAt B19 39 (.goto (-29)) 3 42 := ⟨by decide +kernel, rfl⟩
theorem d19_42 : DAt B19 42 (.iload_n 2) 1 43 := ⟨by decide +kernel, rfl⟩
theorem d19_43 : DAt B19 43 (.ireturn) 1 44 := ⟨by decide +kernel, rfl⟩
def B21 : Bdy := ((⟨"LogicalReplicator", "subPending", "(I)J"⟩ : MethodName), prog_1_method_29_code, 2, (some .long), ({ frames := 1, cells := 0, slots := 0, locals := 13 } : Room))
theorem d21_0 : DAt B21 0 (.aload_n 0) 1 1 := ⟨by decide +kernel, rfl⟩
theorem d21_1 : DAt B21 1 (.iload_n 1) 1 2 := ⟨by decide +kernel, rfl⟩
theorem d21_2 : DAt B21 2 (.invokevirtual 116) 3 5 := ⟨by decide +kernel, rfl⟩
theorem d21_5 : DAt B21 5 (.ifCond .ne 7) 3 8 := ⟨by decide +kernel, rfl⟩
theorem d21_8 : DAt B21 8 (.ldc2_w 148) 3 11 := ⟨by decide +kernel, rfl⟩
theorem d21_11 : DAt B21 11 (.lreturn) 1 12 := ⟨by decide +kernel, rfl⟩
theorem d21_12 : DAt B21 12 (.aload_n 0) 1 13 := ⟨by decide +kernel, rfl⟩
theorem d21_13 : DAt B21 13 (.getfield 44) 3 16 := ⟨by decide +kernel, rfl⟩
theorem d21_16 : DAt B21 16 (.iload_n 1) 1 17 := ⟨by decide +kernel, rfl⟩
theorem d21_17 : DAt B21 17 (.iaload) 1 18 := ⟨by decide +kernel, rfl⟩
theorem d21_18 : DAt B21 18 (.iconst 1) 1 19 := ⟨by decide +kernel, rfl⟩
theorem d21_19 : DAt B21 19 (.if_icmp .ne 11) 3 22 := ⟨by decide +kernel, rfl⟩
theorem d21_22 : DAt B21 22 (.aload_n 0) 1 23 := ⟨by decide +kernel, rfl⟩
theorem d21_23 : DAt B21 23 (.getfield 47) 3 26 := ⟨by decide +kernel, rfl⟩
theorem d21_26 : DAt B21 26 (.iload_n 1) 1 27 := ⟨by decide +kernel, rfl⟩
theorem d21_27 : DAt B21 27 (.iaload) 1 28 := ⟨by decide +kernel, rfl⟩
theorem d21_28 : DAt B21 28 (.i2l) 1 29 := ⟨by decide +kernel, rfl⟩
theorem d21_29 : DAt B21 29 (.lreturn) 1 30 := ⟨by decide +kernel, rfl⟩
theorem d21_30 : DAt B21 30 (.aload_n 0) 1 31 := ⟨by decide +kernel, rfl⟩
theorem d21_31 : DAt B21 31 (.getfield 44) 3 34 := ⟨by decide +kernel, rfl⟩
theorem d21_34 : DAt B21 34 (.iload_n 1) 1 35 := ⟨by decide +kernel, rfl⟩
theorem d21_35 : DAt B21 35 (.iaload) 1 36 := ⟨by decide +kernel, rfl⟩
theorem d21_36 : DAt B21 36 (.iconst 2) 1 37 := ⟨by decide +kernel, rfl⟩
theorem d21_37 : DAt B21 37 (.if_icmp .ne 7) 3 40 := ⟨by decide +kernel, rfl⟩
theorem d21_40 : DAt B21 40 (.ldc2_w 150) 3 43 := ⟨by decide +kernel, rfl⟩
theorem d21_43 : DAt B21 43 (.lreturn) 1 44 := ⟨by decide +kernel, rfl⟩
theorem d21_44 : DAt B21 44 (.ldc2_w 148) 3 47 := ⟨by decide +kernel, rfl⟩
theorem d21_47 : DAt B21 47 (.lreturn) 1 48 := ⟨by decide +kernel, rfl⟩
def B22 : Bdy := ((⟨"LogicalReplicator", "subRow", "(I)J"⟩ : MethodName), prog_1_method_28_code, 2, (some .long), ({ frames := 1, cells := 0, slots := 0, locals := 13 } : Room))
theorem d22_0 : DAt B22 0 (.aload_n 0) 1 1 := ⟨by decide +kernel, rfl⟩
theorem d22_1 : DAt B22 1 (.iload_n 1) 1 2 := ⟨by decide +kernel, rfl⟩
theorem d22_2 : DAt B22 2 (.invokevirtual 116) 3 5 := ⟨by decide +kernel, rfl⟩
theorem d22_5 : DAt B22 5 (.ifCond .ne 7) 3 8 := ⟨by decide +kernel, rfl⟩
theorem d22_8 : DAt B22 8 (.ldc2_w 146) 3 11 := ⟨by decide +kernel, rfl⟩
theorem d22_11 : DAt B22 11 (.lreturn) 1 12 := ⟨by decide +kernel, rfl⟩
theorem d22_12 : DAt B22 12 (.aload_n 0) 1 13 := ⟨by decide +kernel, rfl⟩
theorem d22_13 : DAt B22 13 (.getfield 38) 3 16 := ⟨by decide +kernel, rfl⟩
theorem d22_16 : DAt B22 16 (.iload_n 1) 1 17 := ⟨by decide +kernel, rfl⟩
theorem d22_17 : DAt B22 17 (.baload) 1 18 := ⟨by decide +kernel, rfl⟩
theorem d22_18 : DAt B22 18 (.ifCond .eq 11) 3 21 := ⟨by decide +kernel, rfl⟩
theorem d22_21 : DAt B22 21 (.aload_n 0) 1 22 := ⟨by decide +kernel, rfl⟩
theorem d22_22 : DAt B22 22 (.getfield 41) 3 25 := ⟨by decide +kernel, rfl⟩
theorem d22_25 : DAt B22 25 (.iload_n 1) 1 26 := ⟨by decide +kernel, rfl⟩
theorem d22_26 : DAt B22 26 (.iaload) 1 27 := ⟨by decide +kernel, rfl⟩
theorem d22_27 : DAt B22 27 (.i2l) 1 28 := ⟨by decide +kernel, rfl⟩
theorem d22_28 : DAt B22 28 (.lreturn) 1 29 := ⟨by decide +kernel, rfl⟩
theorem d22_29 : DAt B22 29 (.ldc2_w 146) 3 32 := ⟨by decide +kernel, rfl⟩
theorem d22_32 : DAt B22 32 (.lreturn) 1 33 := ⟨by decide +kernel, rfl⟩
def B25 : Bdy := ((⟨"LogicalReplicator", "feedback", "()I"⟩ : MethodName), prog_1_method_24_code, 1, (some .int), ({ frames := 0, cells := 0, slots := 0, locals := 0 } : Room))
theorem d25_0 : DAt B25 0 (.aload_n 0) 1 1 := ⟨by decide +kernel, rfl⟩
theorem d25_1 : DAt B25 1 (.aload_n 0) 1 2 := ⟨by decide +kernel, rfl⟩
theorem d25_2 : DAt B25 2 (.getfield 85) 3 5 := ⟨by decide +kernel, rfl⟩
theorem d25_5 : DAt B25 5 (.putfield 88) 3 8 := ⟨by decide +kernel, rfl⟩
theorem d25_8 : DAt B25 8 (.aload_n 0) 1 9 := ⟨by decide +kernel, rfl⟩
theorem d25_9 : DAt B25 9 (.getfield 88) 3 12 := ⟨by decide +kernel, rfl⟩
theorem d25_12 : DAt B25 12 (.ireturn) 1 13 := ⟨by decide +kernel, rfl⟩
def B0 : Bdy := (x, code, maxLocals, ret, room_1)
theorem d0_0 : DAt B0 0 (.new 7) 3 3 := ⟨at_0, rfl⟩
theorem d0_3 : DAt B0 3 (.dup) 1 4 := ⟨at_3, rfl⟩
theorem d0_4 : DAt B0 4 (.bipush 8) 2 6 := ⟨at_4, rfl⟩
theorem d0_6 : DAt B0 6 (.iconst 2) 1 7 := ⟨at_6, rfl⟩
theorem d0_7 : DAt B0 7 (.bipush 16) 2 9 := ⟨at_7, rfl⟩
theorem d0_9 : DAt B0 9 (.iconst 2) 1 10 := ⟨at_9, rfl⟩
theorem d0_10 : DAt B0 10 (.invokespecial 9) 3 13 := ⟨at_10, rfl⟩
theorem d0_13 : DAt B0 13 (.astore 5) 2 15 := ⟨at_13, rfl⟩
theorem d0_15 : DAt B0 15 (.iload_n 0) 1 16 := ⟨at_15, rfl⟩
theorem d0_16 : DAt B0 16 (.bipush 7) 2 18 := ⟨at_16, rfl⟩
theorem d0_18 : DAt B0 18 (.iand) 1 19 := ⟨at_18, rfl⟩
theorem d0_19 : DAt B0 19 (.istore 6) 2 21 := ⟨at_19, rfl⟩
theorem d0_21 : DAt B0 21 (.iload_n 2) 1 22 := ⟨at_21, rfl⟩
theorem d0_22 : DAt B0 22 (.bipush 7) 2 24 := ⟨at_22, rfl⟩
theorem d0_24 : DAt B0 24 (.iand) 1 25 := ⟨at_24, rfl⟩
theorem d0_25 : DAt B0 25 (.istore 7) 2 27 := ⟨at_25, rfl⟩
theorem d0_27 : DAt B0 27 (.iload 6) 2 29 := ⟨at_27, rfl⟩
theorem d0_29 : DAt B0 29 (.iload 7) 2 31 := ⟨at_29, rfl⟩
theorem d0_31 : DAt B0 31 (.if_icmp .ne 8) 3 34 := ⟨at_31, rfl⟩
theorem d0_34 : DAt B0 34 (.iload_n 1) 1 35 := ⟨at_34, rfl⟩
theorem d0_35 : DAt B0 35 (.i2l) 1 36 := ⟨at_35, rfl⟩
theorem d0_36 : DAt B0 36 (.goto 5) 3 39 := ⟨at_36, rfl⟩
theorem d0_39 : DAt B0 39 (.iload_n 3) 1 40 := ⟨at_39, rfl⟩
theorem d0_40 : DAt B0 40 (.i2l) 1 41 := ⟨at_40, rfl⟩
theorem d0_41 : DAt B0 41 (.lstore 8) 2 43 := ⟨at_41, rfl⟩
theorem d0_43 : DAt B0 43 (.ldc2_w 12) 3 46 := ⟨at_43, rfl⟩
theorem d0_46 : DAt B0 46 (.lstore 10) 2 48 := ⟨at_46, rfl⟩
theorem d0_48 : DAt B0 48 (.aload 5) 2 50 := ⟨at_48, rfl⟩
theorem d0_50 : DAt B0 50 (.iconst 0) 1 51 := ⟨at_50, rfl⟩
theorem d0_51 : DAt B0 51 (.invokevirtual 14) 3 54 := ⟨at_51, rfl⟩
theorem d0_54 : DAt B0 54 (.iconst 1) 1 55 := ⟨at_54, rfl⟩
theorem d0_55 : DAt B0 55 (.if_icmp .eq 5) 3 58 := ⟨at_55, rfl⟩
theorem d0_58 : DAt B0 58 (.iconst 0) 1 59 := ⟨at_58, rfl⟩
theorem d0_59 : DAt B0 59 (.ireturn) 1 60 := ⟨at_59, rfl⟩
theorem d0_60 : DAt B0 60 (.aload 5) 2 62 := ⟨at_60, rfl⟩
theorem d0_62 : DAt B0 62 (.iconst 1) 1 63 := ⟨at_62, rfl⟩
theorem d0_63 : DAt B0 63 (.invokevirtual 14) 3 66 := ⟨at_63, rfl⟩
theorem d0_66 : DAt B0 66 (.iconst 2) 1 67 := ⟨at_66, rfl⟩
theorem d0_67 : DAt B0 67 (.if_icmp .eq 5) 3 70 := ⟨at_67, rfl⟩
theorem d0_70 : DAt B0 70 (.iconst 0) 1 71 := ⟨at_70, rfl⟩
theorem d0_71 : DAt B0 71 (.ireturn) 1 72 := ⟨at_71, rfl⟩
theorem d0_72 : DAt B0 72 (.aload 5) 2 74 := ⟨at_72, rfl⟩
theorem d0_74 : DAt B0 74 (.iconst 0) 1 75 := ⟨at_74, rfl⟩
theorem d0_75 : DAt B0 75 (.iload 6) 2 77 := ⟨at_75, rfl⟩
theorem d0_77 : DAt B0 77 (.iload_n 1) 1 78 := ⟨at_77, rfl⟩
theorem d0_78 : DAt B0 78 (.invokevirtual 18) 3 81 := ⟨at_78, rfl⟩
theorem d0_81 : DAt B0 81 (.iconst 3) 1 82 := ⟨at_81, rfl⟩
theorem d0_82 : DAt B0 82 (.if_icmp .eq 5) 3 85 := ⟨at_82, rfl⟩
theorem d0_85 : DAt B0 85 (.iconst 0) 1 86 := ⟨at_85, rfl⟩
theorem d0_86 : DAt B0 86 (.ireturn) 1 87 := ⟨at_86, rfl⟩
theorem d0_87 : DAt B0 87 (.aload 5) 2 89 := ⟨at_87, rfl⟩
theorem d0_89 : DAt B0 89 (.iconst 1) 1 90 := ⟨at_89, rfl⟩
theorem d0_90 : DAt B0 90 (.iload 7) 2 92 := ⟨at_90, rfl⟩
theorem d0_92 : DAt B0 92 (.iload_n 3) 1 93 := ⟨at_92, rfl⟩
theorem d0_93 : DAt B0 93 (.invokevirtual 18) 3 96 := ⟨at_93, rfl⟩
theorem d0_96 : DAt B0 96 (.iconst 4) 1 97 := ⟨at_96, rfl⟩
theorem d0_97 : DAt B0 97 (.if_icmp .eq 5) 3 100 := ⟨at_97, rfl⟩
theorem d0_100 : DAt B0 100 (.iconst 0) 1 101 := ⟨at_100, rfl⟩
theorem d0_101 : DAt B0 101 (.ireturn) 1 102 := ⟨at_101, rfl⟩
theorem d0_102 : DAt B0 102 (.aload 5) 2 104 := ⟨at_102, rfl⟩
theorem d0_104 : DAt B0 104 (.iconst 1) 1 105 := ⟨at_104, rfl⟩
theorem d0_105 : DAt B0 105 (.invokevirtual 22) 3 108 := ⟨at_105, rfl⟩
theorem d0_108 : DAt B0 108 (.iconst 5) 1 109 := ⟨at_108, rfl⟩
theorem d0_109 : DAt B0 109 (.if_icmp .eq 5) 3 112 := ⟨at_109, rfl⟩
theorem d0_112 : DAt B0 112 (.iconst 0) 1 113 := ⟨at_112, rfl⟩
theorem d0_113 : DAt B0 113 (.ireturn) 1 114 := ⟨at_113, rfl⟩
theorem d0_114 : DAt B0 114 (.aload 5) 2 116 := ⟨at_114, rfl⟩
theorem d0_116 : DAt B0 116 (.iconst 0) 1 117 := ⟨at_116, rfl⟩
theorem d0_117 : DAt B0 117 (.invokevirtual 22) 3 120 := ⟨at_117, rfl⟩
theorem d0_120 : DAt B0 120 (.bipush 6) 2 122 := ⟨at_120, rfl⟩
theorem d0_122 : DAt B0 122 (.if_icmp .eq 5) 3 125 := ⟨at_122, rfl⟩
theorem d0_125 : DAt B0 125 (.iconst 0) 1 126 := ⟨at_125, rfl⟩
theorem d0_126 : DAt B0 126 (.ireturn) 1 127 := ⟨at_126, rfl⟩
theorem d0_127 : DAt B0 127 (.aload 5) 2 129 := ⟨at_127, rfl⟩
theorem d0_129 : DAt B0 129 (.iconst 1) 1 130 := ⟨at_129, rfl⟩
theorem d0_130 : DAt B0 130 (.invokevirtual 14) 3 133 := ⟨at_130, rfl⟩
theorem d0_133 : DAt B0 133 (.bipush 7) 2 135 := ⟨at_133, rfl⟩
theorem d0_135 : DAt B0 135 (.if_icmp .eq 5) 3 138 := ⟨at_135, rfl⟩
theorem d0_138 : DAt B0 138 (.iconst 0) 1 139 := ⟨at_138, rfl⟩
theorem d0_139 : DAt B0 139 (.ireturn) 1 140 := ⟨at_139, rfl⟩
theorem d0_140 : DAt B0 140 (.aload 5) 2 142 := ⟨at_140, rfl⟩
theorem d0_142 : DAt B0 142 (.iconst 1) 1 143 := ⟨at_142, rfl⟩
theorem d0_143 : DAt B0 143 (.iload 6) 2 145 := ⟨at_143, rfl⟩
theorem d0_145 : DAt B0 145 (.iload 4) 2 147 := ⟨at_145, rfl⟩
theorem d0_147 : DAt B0 147 (.invokevirtual 18) 3 150 := ⟨at_147, rfl⟩
theorem d0_150 : DAt B0 150 (.bipush 8) 2 152 := ⟨at_150, rfl⟩
theorem d0_152 : DAt B0 152 (.if_icmp .eq 5) 3 155 := ⟨at_152, rfl⟩
theorem d0_155 : DAt B0 155 (.iconst 0) 1 156 := ⟨at_155, rfl⟩
theorem d0_156 : DAt B0 156 (.ireturn) 1 157 := ⟨at_156, rfl⟩
theorem d0_157 : DAt B0 157 (.aload 5) 2 159 := ⟨at_157, rfl⟩
theorem d0_159 : DAt B0 159 (.iload 6) 2 161 := ⟨at_159, rfl⟩
theorem d0_161 : DAt B0 161 (.invokevirtual 25) 3 164 := ⟨at_161, rfl⟩
theorem d0_164 : DAt B0 164 (.iload_n 1) 1 165 := ⟨at_164, rfl⟩
theorem d0_165 : DAt B0 165 (.i2l) 1 166 := ⟨at_165, rfl⟩
theorem d0_166 : DAt B0 166 (.lcmp) 1 167 := ⟨at_166, rfl⟩
theorem d0_167 : DAt B0 167 (.ifCond .eq 5) 3 170 := ⟨at_167, rfl⟩
theorem d0_170 : DAt B0 170 (.iconst 0) 1 171 := ⟨at_170, rfl⟩
theorem d0_171 : DAt B0 171 (.ireturn) 1 172 := ⟨at_171, rfl⟩
theorem d0_172 : DAt B0 172 (.aload 5) 2 174 := ⟨at_172, rfl⟩
theorem d0_174 : DAt B0 174 (.iload 7) 2 176 := ⟨at_174, rfl⟩
theorem d0_176 : DAt B0 176 (.invokevirtual 25) 3 179 := ⟨at_176, rfl⟩
theorem d0_179 : DAt B0 179 (.lload 8) 2 181 := ⟨at_179, rfl⟩
theorem d0_181 : DAt B0 181 (.lcmp) 1 182 := ⟨at_181, rfl⟩
theorem d0_182 : DAt B0 182 (.ifCond .eq 5) 3 185 := ⟨at_182, rfl⟩
theorem d0_185 : DAt B0 185 (.iconst 0) 1 186 := ⟨at_185, rfl⟩
theorem d0_186 : DAt B0 186 (.ireturn) 1 187 := ⟨at_186, rfl⟩
theorem d0_187 : DAt B0 187 (.aload 5) 2 189 := ⟨at_187, rfl⟩
theorem d0_189 : DAt B0 189 (.bipush 8) 2 191 := ⟨at_189, rfl⟩
theorem d0_191 : DAt B0 191 (.invokevirtual 29) 3 194 := ⟨at_191, rfl⟩
theorem d0_194 : DAt B0 194 (.iconst 2) 1 195 := ⟨at_194, rfl⟩
theorem d0_195 : DAt B0 195 (.if_icmp .eq 5) 3 198 := ⟨at_195, rfl⟩
theorem d0_198 : DAt B0 198 (.iconst 0) 1 199 := ⟨at_198, rfl⟩
theorem d0_199 : DAt B0 199 (.ireturn) 1 200 := ⟨at_199, rfl⟩
theorem d0_200 : DAt B0 200 (.aload 5) 2 202 := ⟨at_200, rfl⟩
theorem d0_202 : DAt B0 202 (.iconst 3) 1 203 := ⟨at_202, rfl⟩
theorem d0_203 : DAt B0 203 (.invokevirtual 32) 3 206 := ⟨at_203, rfl⟩
theorem d0_206 : DAt B0 206 (.iconst 4) 1 207 := ⟨at_206, rfl⟩
theorem d0_207 : DAt B0 207 (.if_icmp .eq 5) 3 210 := ⟨at_207, rfl⟩
theorem d0_210 : DAt B0 210 (.iconst 0) 1 211 := ⟨at_210, rfl⟩
theorem d0_211 : DAt B0 211 (.ireturn) 1 212 := ⟨at_211, rfl⟩
theorem d0_212 : DAt B0 212 (.aload 5) 2 214 := ⟨at_212, rfl⟩
theorem d0_214 : DAt B0 214 (.iconst 2) 1 215 := ⟨at_214, rfl⟩
theorem d0_215 : DAt B0 215 (.invokevirtual 32) 3 218 := ⟨at_215, rfl⟩
theorem d0_218 : DAt B0 218 (.bipush 6) 2 220 := ⟨at_218, rfl⟩
theorem d0_220 : DAt B0 220 (.if_icmp .eq 5) 3 223 := ⟨at_220, rfl⟩
theorem d0_223 : DAt B0 223 (.iconst 0) 1 224 := ⟨at_223, rfl⟩
theorem d0_224 : DAt B0 224 (.ireturn) 1 225 := ⟨at_224, rfl⟩
theorem d0_225 : DAt B0 225 (.aload 5) 2 227 := ⟨at_225, rfl⟩
theorem d0_227 : DAt B0 227 (.iconst 1) 1 228 := ⟨at_227, rfl⟩
theorem d0_228 : DAt B0 228 (.invokevirtual 35) 3 231 := ⟨at_228, rfl⟩
theorem d0_231 : DAt B0 231 (.iconst 1) 1 232 := ⟨at_231, rfl⟩
theorem d0_232 : DAt B0 232 (.if_icmp .eq 5) 3 235 := ⟨at_232, rfl⟩
theorem d0_235 : DAt B0 235 (.iconst 0) 1 236 := ⟨at_235, rfl⟩
theorem d0_236 : DAt B0 236 (.ireturn) 1 237 := ⟨at_236, rfl⟩
theorem d0_237 : DAt B0 237 (.aload 5) 2 239 := ⟨at_237, rfl⟩
theorem d0_239 : DAt B0 239 (.iload 7) 2 241 := ⟨at_239, rfl⟩
theorem d0_241 : DAt B0 241 (.invokevirtual 38) 3 244 := ⟨at_241, rfl⟩
theorem d0_244 : DAt B0 244 (.iload_n 3) 1 245 := ⟨at_244, rfl⟩
theorem d0_245 : DAt B0 245 (.i2l) 1 246 := ⟨at_245, rfl⟩
theorem d0_246 : DAt B0 246 (.lcmp) 1 247 := ⟨at_246, rfl⟩
theorem d0_247 : DAt B0 247 (.ifCond .eq 5) 3 250 := ⟨at_247, rfl⟩
theorem d0_250 : DAt B0 250 (.iconst 0) 1 251 := ⟨at_250, rfl⟩
theorem d0_251 : DAt B0 251 (.ireturn) 1 252 := ⟨at_251, rfl⟩
theorem d0_252 : DAt B0 252 (.aload 5) 2 254 := ⟨at_252, rfl⟩
theorem d0_254 : DAt B0 254 (.iload 7) 2 256 := ⟨at_254, rfl⟩
theorem d0_256 : DAt B0 256 (.invokevirtual 41) 3 259 := ⟨at_256, rfl⟩
theorem d0_259 : DAt B0 259 (.lload 10) 2 261 := ⟨at_259, rfl⟩
theorem d0_261 : DAt B0 261 (.lcmp) 1 262 := ⟨at_261, rfl⟩
theorem d0_262 : DAt B0 262 (.ifCond .eq 5) 3 265 := ⟨at_262, rfl⟩
theorem d0_265 : DAt B0 265 (.iconst 0) 1 266 := ⟨at_265, rfl⟩
theorem d0_266 : DAt B0 266 (.ireturn) 1 267 := ⟨at_266, rfl⟩
theorem d0_267 : DAt B0 267 (.aload 5) 2 269 := ⟨at_267, rfl⟩
theorem d0_269 : DAt B0 269 (.iconst 4) 1 270 := ⟨at_269, rfl⟩
theorem d0_270 : DAt B0 270 (.invokevirtual 32) 3 273 := ⟨at_270, rfl⟩
theorem d0_273 : DAt B0 273 (.ifCond .eq 5) 3 276 := ⟨at_273, rfl⟩
theorem d0_276 : DAt B0 276 (.iconst 0) 1 277 := ⟨at_276, rfl⟩
theorem d0_277 : DAt B0 277 (.ireturn) 1 278 := ⟨at_277, rfl⟩
theorem d0_278 : DAt B0 278 (.aload 5) 2 280 := ⟨at_278, rfl⟩
theorem d0_280 : DAt B0 280 (.bipush 8) 2 282 := ⟨at_280, rfl⟩
theorem d0_282 : DAt B0 282 (.invokevirtual 35) 3 285 := ⟨at_282, rfl⟩
theorem d0_285 : DAt B0 285 (.iconst 3) 1 286 := ⟨at_285, rfl⟩
theorem d0_286 : DAt B0 286 (.if_icmp .eq 5) 3 289 := ⟨at_286, rfl⟩
theorem d0_289 : DAt B0 289 (.iconst 0) 1 290 := ⟨at_289, rfl⟩
theorem d0_290 : DAt B0 290 (.ireturn) 1 291 := ⟨at_290, rfl⟩
theorem d0_291 : DAt B0 291 (.aload 5) 2 293 := ⟨at_291, rfl⟩
theorem d0_293 : DAt B0 293 (.iload 6) 2 295 := ⟨at_293, rfl⟩
theorem d0_295 : DAt B0 295 (.invokevirtual 41) 3 298 := ⟨at_295, rfl⟩
theorem d0_298 : DAt B0 298 (.iload_n 1) 1 299 := ⟨at_298, rfl⟩
theorem d0_299 : DAt B0 299 (.i2l) 1 300 := ⟨at_299, rfl⟩
theorem d0_300 : DAt B0 300 (.lcmp) 1 301 := ⟨at_300, rfl⟩
theorem d0_301 : DAt B0 301 (.ifCond .eq 5) 3 304 := ⟨at_301, rfl⟩
theorem d0_304 : DAt B0 304 (.iconst 0) 1 305 := ⟨at_304, rfl⟩
theorem d0_305 : DAt B0 305 (.ireturn) 1 306 := ⟨at_305, rfl⟩
theorem d0_306 : DAt B0 306 (.aload 5) 2 308 := ⟨at_306, rfl⟩
theorem d0_308 : DAt B0 308 (.iload 7) 2 310 := ⟨at_308, rfl⟩
theorem d0_310 : DAt B0 310 (.invokevirtual 41) 3 313 := ⟨at_310, rfl⟩
theorem d0_313 : DAt B0 313 (.lload 8) 2 315 := ⟨at_313, rfl⟩
theorem d0_315 : DAt B0 315 (.lcmp) 1 316 := ⟨at_315, rfl⟩
theorem d0_316 : DAt B0 316 (.ifCond .eq 5) 3 319 := ⟨at_316, rfl⟩
theorem d0_319 : DAt B0 319 (.iconst 0) 1 320 := ⟨at_319, rfl⟩
theorem d0_320 : DAt B0 320 (.ireturn) 1 321 := ⟨at_320, rfl⟩
theorem d0_321 : DAt B0 321 (.aload 5) 2 323 := ⟨at_321, rfl⟩
theorem d0_323 : DAt B0 323 (.iload 6) 2 325 := ⟨at_323, rfl⟩
theorem d0_325 : DAt B0 325 (.invokevirtual 38) 3 328 := ⟨at_325, rfl⟩
theorem d0_328 : DAt B0 328 (.ldc2_w 44) 3 331 := ⟨at_328, rfl⟩
theorem d0_331 : DAt B0 331 (.lcmp) 1 332 := ⟨at_331, rfl⟩
theorem d0_332 : DAt B0 332 (.ifCond .eq 5) 3 335 := ⟨at_332, rfl⟩
theorem d0_335 : DAt B0 335 (.iconst 0) 1 336 := ⟨at_335, rfl⟩
theorem d0_336 : DAt B0 336 (.ireturn) 1 337 := ⟨at_336, rfl⟩
theorem d0_337 : DAt B0 337 (.aload 5) 2 339 := ⟨at_337, rfl⟩
theorem d0_339 : DAt B0 339 (.iconst 4) 1 340 := ⟨at_339, rfl⟩
theorem d0_340 : DAt B0 340 (.invokevirtual 32) 3 343 := ⟨at_340, rfl⟩
theorem d0_343 : DAt B0 343 (.bipush 6) 2 345 := ⟨at_343, rfl⟩
theorem d0_345 : DAt B0 345 (.if_icmp .eq 5) 3 348 := ⟨at_345, rfl⟩
theorem d0_348 : DAt B0 348 (.iconst 0) 1 349 := ⟨at_348, rfl⟩
theorem d0_349 : DAt B0 349 (.ireturn) 1 350 := ⟨at_349, rfl⟩
theorem d0_350 : DAt B0 350 (.aload 5) 2 352 := ⟨at_350, rfl⟩
theorem d0_352 : DAt B0 352 (.iconst 3) 1 353 := ⟨at_352, rfl⟩
theorem d0_353 : DAt B0 353 (.invokevirtual 32) 3 356 := ⟨at_353, rfl⟩
theorem d0_356 : DAt B0 356 (.ifCond .eq 5) 3 359 := ⟨at_356, rfl⟩
theorem d0_359 : DAt B0 359 (.iconst 0) 1 360 := ⟨at_359, rfl⟩
theorem d0_360 : DAt B0 360 (.ireturn) 1 361 := ⟨at_360, rfl⟩
theorem d0_361 : DAt B0 361 (.iload 6) 2 363 := ⟨at_361, rfl⟩
theorem d0_363 : DAt B0 363 (.iload 7) 2 365 := ⟨at_363, rfl⟩
theorem d0_365 : DAt B0 365 (.if_icmp .ne 7) 3 368 := ⟨at_365, rfl⟩
theorem d0_368 : DAt B0 368 (.iconst 1) 1 369 := ⟨at_368, rfl⟩
theorem d0_369 : DAt B0 369 (.goto 4) 3 372 := ⟨at_369, rfl⟩
theorem d0_372 : DAt B0 372 (.iconst 2) 1 373 := ⟨at_372, rfl⟩
theorem d0_373 : DAt B0 373 (.istore 12) 2 375 := ⟨at_373, rfl⟩
theorem d0_375 : DAt B0 375 (.aload 5) 2 377 := ⟨at_375, rfl⟩
theorem d0_377 : DAt B0 377 (.bipush 7) 2 379 := ⟨at_377, rfl⟩
theorem d0_379 : DAt B0 379 (.invokevirtual 32) 3 382 := ⟨at_379, rfl⟩
theorem d0_382 : DAt B0 382 (.iload 12) 2 384 := ⟨at_382, rfl⟩
theorem d0_384 : DAt B0 384 (.if_icmp .eq 5) 3 387 := ⟨at_384, rfl⟩
theorem d0_387 : DAt B0 387 (.iconst 0) 1 388 := ⟨at_387, rfl⟩
theorem d0_388 : DAt B0 388 (.ireturn) 1 389 := ⟨at_388, rfl⟩
theorem d0_389 : DAt B0 389 (.aload 5) 2 391 := ⟨at_389, rfl⟩
theorem d0_391 : DAt B0 391 (.invokevirtual 46) 3 394 := ⟨at_391, rfl⟩
theorem d0_394 : DAt B0 394 (.bipush 6) 2 396 := ⟨at_394, rfl⟩
theorem d0_396 : DAt B0 396 (.if_icmp .eq 5) 3 399 := ⟨at_396, rfl⟩
theorem d0_399 : DAt B0 399 (.iconst 0) 1 400 := ⟨at_399, rfl⟩
theorem d0_400 : DAt B0 400 (.ireturn) 1 401 := ⟨at_400, rfl⟩
theorem d0_401 : DAt B0 401 (.aload 5) 2 403 := ⟨at_401, rfl⟩
theorem d0_403 : DAt B0 403 (.iconst 5) 1 404 := ⟨at_403, rfl⟩
theorem d0_404 : DAt B0 404 (.invokevirtual 32) 3 407 := ⟨at_404, rfl⟩
theorem d0_407 : DAt B0 407 (.bipush 6) 2 409 := ⟨at_407, rfl⟩
theorem d0_409 : DAt B0 409 (.if_icmp .eq 5) 3 412 := ⟨at_409, rfl⟩
theorem d0_412 : DAt B0 412 (.iconst 0) 1 413 := ⟨at_412, rfl⟩
theorem d0_413 : DAt B0 413 (.ireturn) 1 414 := ⟨at_413, rfl⟩
theorem d0_414 : DAt B0 414 (.aload 5) 2 416 := ⟨at_414, rfl⟩
theorem d0_416 : DAt B0 416 (.bipush 8) 2 418 := ⟨at_416, rfl⟩
theorem d0_418 : DAt B0 418 (.invokevirtual 29) 3 421 := ⟨at_418, rfl⟩
theorem d0_421 : DAt B0 421 (.ifCond .ne 7) 3 424 := ⟨at_421, rfl⟩
theorem d0_424 : DAt B0 424 (.iconst 1) 1 425 := ⟨at_424, rfl⟩
theorem d0_425 : DAt B0 425 (.goto 4) 3 428 := ⟨at_425, rfl⟩
theorem d0_428 : DAt B0 428 (.iconst 0) 1 429 := ⟨at_428, rfl⟩
theorem d0_429 : DAt B0 429 (.ireturn) 1 430 := ⟨at_429, rfl⟩
theorem ar1 : arity B1 4 := ⟨[.int, .int, .int, .int], none, by decide +kernel, rfl⟩
theorem ar2 : arity B2 3 := ⟨[.int, .int, .int], some .int, by decide +kernel, rfl⟩
theorem ar3 : arity B3 1 := ⟨[.int], some .int, by decide +kernel, rfl⟩
theorem ar4 : arity B4 1 := ⟨[.int], some .boolean, by decide +kernel, rfl⟩
theorem ar5 : arity B5 0 := ⟨[], some .boolean, by decide +kernel, rfl⟩
theorem ar6 : arity B6 4 := ⟨[.int, .int, .int, .int], some .int, by decide +kernel, rfl⟩
theorem ar7 : arity B7 3 := ⟨[.int, .int, .int], some .int, by decide +kernel, rfl⟩
theorem ar8 : arity B8 4 := ⟨[.int, .int, .int, .int], some .int, by decide +kernel, rfl⟩
theorem ar9 : arity B9 1 := ⟨[.int], some .int, by decide +kernel, rfl⟩
theorem ar10 : arity B10 1 := ⟨[.int], some .boolean, by decide +kernel, rfl⟩
theorem ar11 : arity B11 1 := ⟨[.int], some .int, by decide +kernel, rfl⟩
theorem ar12 : arity B12 3 := ⟨[.int, .int, .int], none, by decide +kernel, rfl⟩
theorem ar13 : arity B13 1 := ⟨[.int], some .long, by decide +kernel, rfl⟩
theorem ar14 : arity B14 1 := ⟨[.int], some .int, by decide +kernel, rfl⟩
theorem ar15 : arity B15 1 := ⟨[.int], some .int, by decide +kernel, rfl⟩
theorem ar16 : arity B16 1 := ⟨[.int], none, by decide +kernel, rfl⟩
theorem ar17 : arity B17 4 := ⟨[.int, .int, .int, .int], none, by decide +kernel, rfl⟩
theorem ar18 : arity B18 1 := ⟨[.int], some .int, by decide +kernel, rfl⟩
theorem ar19 : arity B19 1 := ⟨[.int], some .int, by decide +kernel, rfl⟩
theorem ar20 : arity B20 0 := ⟨[], none, by decide +kernel, rfl⟩
theorem ar21 : arity B21 1 := ⟨[.int], some .long, by decide +kernel, rfl⟩
theorem ar22 : arity B22 1 := ⟨[.int], some .long, by decide +kernel, rfl⟩
theorem ar23 : arity B23 0 := ⟨[], none, by decide +kernel, rfl⟩
theorem ar24 : arity B24 0 := ⟨[], some .int, by decide +kernel, rfl⟩
theorem ar25 : arity B25 0 := ⟨[], some .int, by decide +kernel, rfl⟩
theorem cw1 : code_w B1 := ⟨mem1 5 rfl, mem1 2 rfl, by decide⟩
theorem cw2 : code_w B2 := ⟨mem1 48 rfl, mem1 2 rfl, by decide⟩
theorem cw3 : code_w B3 := ⟨mem1 74 rfl, mem1 2 rfl, by decide⟩
theorem cw4 : code_w B4 := ⟨mem1 78 rfl, mem1 2 rfl, by decide⟩
theorem cw5 : code_w B5 := ⟨mem1 82 rfl, mem1 2 rfl, by decide⟩
theorem cw6 : code_w B6 := ⟨mem1 86 rfl, mem1 2 rfl, by decide⟩
theorem cw7 : code_w B7 := ⟨mem1 91 rfl, mem1 2 rfl, by decide⟩
theorem cw8 : code_w B8 := ⟨mem1 95 rfl, mem1 2 rfl, by decide⟩
theorem cw9 : code_w B9 := ⟨mem1 99 rfl, mem1 2 rfl, by decide⟩
theorem cw10 : code_w B10 := ⟨mem1 103 rfl, mem1 2 rfl, by decide⟩
theorem cw11 : code_w B11 := ⟨mem1 108 rfl, mem1 2 rfl, by decide⟩
theorem cw12 : code_w B12 := ⟨mem1 112 rfl, mem1 2 rfl, by decide⟩
theorem cw13 : code_w B13 := ⟨mem1 117 rfl, mem1 2 rfl, by decide⟩
theorem cw14 : code_w B14 := ⟨mem1 122 rfl, mem1 2 rfl, by decide⟩
theorem cw15 : code_w B15 := ⟨mem1 126 rfl, mem1 2 rfl, by decide⟩
theorem cw16 : code_w B16 := ⟨mem1 130 rfl, mem1 2 rfl, by decide⟩
theorem cw17 : code_w B17 := ⟨mem1 134 rfl, mem1 2 rfl, by decide⟩
theorem cw18 : code_w B18 := ⟨mem1 139 rfl, mem1 2 rfl, by decide⟩
theorem cw19 : code_w B19 := ⟨mem1 144 rfl, mem1 2 rfl, by decide⟩
theorem cw20 : code_w B20 := ⟨mem1 148 rfl, mem1 2 rfl, by decide⟩
theorem cw21 : code_w B21 := ⟨mem1 153 rfl, mem1 2 rfl, by decide⟩
theorem cw22 : code_w B22 := ⟨mem1 158 rfl, mem1 2 rfl, by decide⟩
theorem cw23 : code_w B23 := ⟨mem1 163 rfl, mem1 2 rfl, by decide⟩
theorem cw24 : code_w B24 := ⟨mem1 169 rfl, mem1 2 rfl, by decide⟩
theorem cw25 : code_w B25 := ⟨mem1 174 rfl, mem1 2 rfl, by decide⟩
theorem rk0_3_0 : room_ok B0 B3 0 := by decide
theorem rk0_7_0 : room_ok B0 B7 0 := by decide
theorem rk0_11_0 : room_ok B0 B11 0 := by decide
theorem rk0_13_0 : room_ok B0 B13 0 := by decide
theorem rk0_14_0 : room_ok B0 B14 0 := by decide
theorem rk0_18_0 : room_ok B0 B18 0 := by decide
theorem rk0_19_0 : room_ok B0 B19 0 := by decide
theorem rk0_21_0 : room_ok B0 B21 0 := by decide
theorem rk0_22_0 : room_ok B0 B22 0 := by decide
theorem rk0_25_0 : room_ok B0 B25 0 := by decide
theorem rk1_2_1 : room_ok B1 B2 1 := by decide
theorem rk3_4_0 : room_ok B3 B4 0 := by decide
theorem rk3_5_0 : room_ok B3 B5 0 := by decide
theorem rk3_6_0 : room_ok B3 B6 0 := by decide
theorem rk7_8_0 : room_ok B7 B8 0 := by decide
theorem rk8_5_0 : room_ok B8 B5 0 := by decide
theorem rk8_6_0 : room_ok B8 B6 0 := by decide
theorem rk8_9_0 : room_ok B8 B9 0 := by decide
theorem rk8_10_0 : room_ok B8 B10 0 := by decide
theorem rk9_4_0 : room_ok B9 B4 0 := by decide
theorem rk11_5_0 : room_ok B11 B5 0 := by decide
theorem rk11_6_0 : room_ok B11 B6 0 := by decide
theorem rk11_9_0 : room_ok B11 B9 0 := by decide
theorem rk11_12_0 : room_ok B11 B12 0 := by decide
theorem rk13_10_0 : room_ok B13 B10 0 := by decide
theorem rk14_15_0 : room_ok B14 B15 0 := by decide
theorem rk14_16_0 : room_ok B14 B16 0 := by decide
theorem rk16_17_0 : room_ok B16 B17 0 := by decide
theorem rk18_24_0 : room_ok B18 B24 0 := by decide
theorem rk19_20_0 : room_ok B19 B20 0 := by decide
theorem rk20_23_0 : room_ok B20 B23 0 := by decide
theorem rk21_10_0 : room_ok B21 B10 0 := by decide
theorem rk22_10_0 : room_ok B22 B10 0 := by decide
def X_clamp (ob : Rec) (i1 : Int32) (i2 : Int32) (i3 : Int32) : Option (Int32) :=
  if i1 < i2 then
    some i2
  else
    if i3 < i1 then
      some i3
    else
      some i1
set_option maxRecDepth 65536 in
set_option maxHeartbeats 4000000 in
theorem X_clamp_p {C : Ctx} {top : Nat} {a : Nat} {H : List (Nat × Nat × Rec)} {ob : Rec} {res : Int32} (i1 : Int32) (i2 : Int32) (i3 : Int32) (hf : X_clamp ob i1 i2 i3 = some res) : Runs C B2 0 0 0 [vr a, vi i1, vi i2, vi i3] [] (top, (a, 17, ob) :: H) (Ans (some (.int res)) (top, (a, 17, ob) :: H)) := by
  delta X_clamp at hf
  refine Runs.iloadN d2_0 rfl <| Runs.iloadN d2_1 rfl <| ?_
  refine ite_el hf (fun hc1 hf => ?_) (fun hc1 hf => ?_)
  · refine Runs.icN d2_2 (tlt hc1).2.1 <| ?_
    obtain rfl := Option.some.inj hf
    exact Runs.iloadN d2_5 rfl <| Runs.retI d2_6 rfl ⟨by decide, by decide⟩ ⟨rfl, rfl⟩
  · refine Runs.icY (pc' := 7) d2_2 (flt hc1).2.1 (by decide) <| ?_
    refine Runs.iloadN d2_7 rfl <| Runs.iloadN d2_8 rfl <| ?_
    refine ite_el hf (fun hc2 hf => ?_) (fun hc2 hf => ?_)
    · refine Runs.icN d2_9 (tlt hc2).2.2.2 <| ?_
      obtain rfl := Option.some.inj hf
      exact Runs.iloadN d2_12 rfl <| Runs.retI d2_13 rfl ⟨by decide, by decide⟩ ⟨rfl, rfl⟩
    · refine Runs.icY (pc' := 14) d2_9 (flt hc2).2.2.2 (by decide) <| ?_
      obtain rfl := Option.some.inj hf
      exact Runs.iloadN d2_14 rfl <| Runs.retI d2_15 rfl ⟨by decide, by decide⟩ ⟨rfl, rfl⟩
theorem X_clamp_pay {C : Ctx} {top : Nat} {a : Nat} {H : List (Nat × Nat × Rec)} {ob : Rec} {res : Int32} {i1 : Int32} {i2 : Int32} {i3 : Int32} (hf : X_clamp ob i1 i2 i3 = some res) : Pays C B2 [.ref a, .int i1, .int i2, .int i3] (top, (a, 17, ob) :: H) (Ans (some (.int res)) (top, (a, 17, ob) :: H)) :=
  Pays.of pnK (Nat.le_of_ble_eq_true rfl) (P := [vr a, vi i1, vi i2, vi i3]) 0 rfl (X_clamp_p i1 i2 i3 hf)
def X_init (i1 : Int32) (i2 : Int32) (i3 : Int32) (i4 : Int32) : Option (Rec) :=
  (X_clamp zrec i1 (8 : Int32) (32 : Int32)).bind fun r1 =>
  (X_clamp (sI zrec 0 r1) i2 (2 : Int32) (8 : Int32)).bind fun r3 =>
  (X_clamp (sI (sI zrec 0 r1) 1 r3) i3 (16 : Int32) (128 : Int32)).bind fun r5 =>
  (X_clamp (sI (sI (sI zrec 0 r1) 1 r3) 2 r5) i4 (2 : Int32) (32 : Int32)).bind fun r7 =>
  some (sI (sI (sI (sI (sI (sI (sI (sI (sI (sI zrec 0 r1) 1 r3) 2 r5) 3 r7) 4 (0 : Int32)) 5 (0 : Int32)) 6 (0 : Int32)) 7 (0 : Int32)) 8 (0 : Int32)) 9 (0 : Int32))
set_option maxRecDepth 65536 in
set_option maxHeartbeats 4000000 in
theorem X_init_p {C : Ctx} {a : Nat} {H : List (Nat × Nat × Rec)} {res : Rec} (i1 : Int32) (i2 : Int32) (i3 : Int32) (i4 : Int32) (hf : X_init i1 i2 i3 i4 = some res) : Runs C B1 0 0 0 [vr a, vi i1, vi i2, vi i3, vi i4] [] (a + 1, (a, 0, zrec) :: H) (Ans none (a + 1 + 17, (a, 17, res) :: H)) := by
  delta X_init at hf
  refine Runs.aloadN d1_0 rfl <| Runs.initO (W := 0) d1_1 w6 w7 w8 rfl (by decide) <| Runs.aloadN d1_4 rfl <| Runs.sipush d1_5 cs_129 <| Runs.newArr (j' := 1) (top' := a + 1 + 1) (k' := 1) (n' := 129) d1_8 d1_10 fA_0 w10 rfl w9 (Or.inl w11) rfl (by decide) ⟨by decide, by decide⟩ ⟨fun _ => rfl, fun _ => rfl⟩ rfl rfl rfl (by decide) <| Runs.aloadN d1_13 rfl <| Runs.sipush d1_14 cs_129 <| Runs.newArr (j' := 2) (top' := a + 1 + 2) (k' := 2) (n' := 258) d1_17 d1_19 fA_1 w12 rfl w9 (Or.inl w13) rfl (by decide) ⟨by decide, by decide⟩ ⟨fun _ => rfl, fun _ => rfl⟩ rfl rfl rfl (by decide) <| Runs.aloadN d1_22 rfl <| Runs.sipush d1_23 cs_129 <| Runs.newArr (j' := 3) (top' := a + 1 + 3) (k' := 3) (n' := 387) d1_26 d1_28 fA_2 w14 rfl w9 (Or.inl w15) rfl (by decide) ⟨by decide, by decide⟩ ⟨fun _ => rfl, fun _ => rfl⟩ rfl rfl rfl (by decide) <| Runs.aloadN d1_31 rfl <| ?_
  refine Runs.sipush d1_32 cs_129 <| Runs.newArr (j' := 4) (top' := a + 1 + 4) (k' := 4) (n' := 516) d1_35 d1_37 fA_3 w16 rfl w9 (Or.inl w17) rfl (by decide) ⟨by decide, by decide⟩ ⟨fun _ => rfl, fun _ => rfl⟩ rfl rfl rfl (by decide) <| Runs.aloadN d1_40 rfl <| Runs.sipush d1_41 cs_129 <| Runs.newArr (j' := 5) (top' := a + 1 + 5) (k' := 5) (n' := 645) d1_44 d1_46 fA_4 w18 rfl w9 (Or.inl w19) rfl (by decide) ⟨by decide, by decide⟩ ⟨fun _ => rfl, fun _ => rfl⟩ rfl rfl rfl (by decide) <| Runs.aloadN d1_49 rfl <| Runs.bipush d1_50 cb_8 <| Runs.newArr (j' := 6) (top' := a + 1 + 6) (k' := 6) (n' := 653) d1_52 d1_54 fA_5 w21 rfl w20 (Or.inl w22) rfl (by decide) ⟨by decide, by decide⟩ ⟨fun _ => rfl, fun _ => rfl⟩ rfl rfl rfl (by decide) <| Runs.aloadN d1_57 rfl <| Runs.bipush d1_58 cb_8 <| Runs.newArr (j' := 7) (top' := a + 1 + 7) (k' := 7) (n' := 661) d1_60 d1_62 fA_6 w23 rfl w9 (Or.inl w24) rfl (by decide) ⟨by decide, by decide⟩ ⟨fun _ => rfl, fun _ => rfl⟩ rfl rfl rfl (by decide) <| Runs.aloadN d1_65 rfl <| ?_
  refine Runs.bipush d1_66 cb_32 <| Runs.newArr (j' := 8) (top' := a + 1 + 8) (k' := 8) (n' := 693) d1_68 d1_70 fA_7 w25 rfl w20 (Or.inl w26) rfl (by decide) ⟨by decide, by decide⟩ ⟨fun _ => rfl, fun _ => rfl⟩ rfl rfl rfl (by decide) <| Runs.aloadN d1_73 rfl <| Runs.bipush d1_74 cb_32 <| Runs.newArr (j' := 9) (top' := a + 1 + 9) (k' := 9) (n' := 725) d1_76 d1_78 fA_8 w27 rfl w9 (Or.inl w28) rfl (by decide) ⟨by decide, by decide⟩ ⟨fun _ => rfl, fun _ => rfl⟩ rfl rfl rfl (by decide) <| Runs.aloadN d1_81 rfl <| Runs.bipush d1_82 cb_32 <| Runs.newArr (j' := 10) (top' := a + 1 + 10) (k' := 10) (n' := 757) d1_84 d1_86 fA_9 w29 rfl w20 (Or.inl w30) rfl (by decide) ⟨by decide, by decide⟩ ⟨fun _ => rfl, fun _ => rfl⟩ rfl rfl rfl (by decide) <| Runs.aloadN d1_89 rfl <| Runs.bipush d1_90 cb_32 <| Runs.newArr (j' := 11) (top' := a + 1 + 11) (k' := 11) (n' := 789) d1_92 d1_94 fA_10 w31 rfl w9 (Or.inl w32) rfl (by decide) ⟨by decide, by decide⟩ ⟨fun _ => rfl, fun _ => rfl⟩ rfl rfl rfl (by decide) <| Runs.aloadN d1_97 rfl <| ?_
  refine Runs.bipush d1_98 cb_32 <| Runs.newArr (j' := 12) (top' := a + 1 + 12) (k' := 12) (n' := 821) d1_100 d1_102 fA_11 w33 rfl w9 (Or.inl w34) rfl (by decide) ⟨by decide, by decide⟩ ⟨fun _ => rfl, fun _ => rfl⟩ rfl rfl rfl (by decide) <| Runs.aloadN d1_105 rfl <| Runs.bipush d1_106 cb_32 <| Runs.newArr (j' := 13) (top' := a + 1 + 13) (k' := 13) (n' := 853) d1_108 d1_110 fA_12 w35 rfl w9 (Or.inl w36) rfl (by decide) ⟨by decide, by decide⟩ ⟨fun _ => rfl, fun _ => rfl⟩ rfl rfl rfl (by decide) <| Runs.aloadN d1_113 rfl <| Runs.sipush d1_114 cs_128 <| Runs.newArr (j' := 14) (top' := a + 1 + 14) (k' := 14) (n' := 981) d1_117 d1_119 fA_13 w37 rfl w9 (Or.inl w38) rfl (by decide) ⟨by decide, by decide⟩ ⟨fun _ => rfl, fun _ => rfl⟩ rfl rfl rfl (by decide) <| Runs.aloadN d1_122 rfl <| Runs.sipush d1_123 cs_128 <| Runs.newArr (j' := 15) (top' := a + 1 + 15) (k' := 15) (n' := 1109) d1_126 d1_128 fA_14 w39 rfl w9 (Or.inl w40) rfl (by decide) ⟨by decide, by decide⟩ ⟨fun _ => rfl, fun _ => rfl⟩ rfl rfl rfl (by decide) <| Runs.aloadN d1_131 rfl <| ?_
  refine Runs.sipush d1_132 cs_128 <| Runs.newArr (j' := 16) (top' := a + 1 + 16) (k' := 16) (n' := 1237) d1_135 d1_137 fA_15 w41 rfl w9 (Or.inl w42) rfl (by decide) ⟨by decide, by decide⟩ ⟨fun _ => rfl, fun _ => rfl⟩ rfl rfl rfl (by decide) <| Runs.aloadN d1_140 rfl <| Runs.sipush d1_141 cs_128 <| Runs.newArr (j' := 17) (top' := a + 1 + 17) (k' := 17) (n' := 1365) d1_144 d1_146 fA_16 w43 rfl w9 (Or.inl w44) rfl (by decide) ⟨by decide, by decide⟩ ⟨fun _ => rfl, fun _ => rfl⟩ rfl rfl rfl (by decide) <| Runs.aloadN d1_149 rfl <| Runs.aloadN d1_150 rfl <| Runs.iloadN d1_151 rfl <| Runs.bipush d1_152 cb_8 <| Runs.bipush d1_154 cb_32 <| ?_
  refine bind_el hf fun r1 hg2 hf => ?_
  refine Runs.callP (N := B2) (W := 1) (as := [.int i1, .int (8 : Int32), .int (32 : Int32)]) (S' := [.ref a]) d1_156 w45 w46 w47 rfl cw2 ar2 rk1_2_1 (by decide) rfl rfl (X_clamp_pay hg2) <| ans1 <| Runs.putI d1_159 w49 fS_0 (Or.inl w50) <| Runs.aloadN d1_162 rfl <| Runs.aloadN d1_163 rfl <| Runs.iloadN d1_164 rfl <| Runs.iconst d1_165 ci_2 <| Runs.bipush d1_166 cb_8 <| ?_
  refine bind_el hf fun r3 hg4 hf => ?_
  refine Runs.callP (N := B2) (W := 1) (as := [.int i2, .int (2 : Int32), .int (8 : Int32)]) (S' := [.ref a]) d1_168 w45 w46 w47 rfl cw2 ar2 rk1_2_1 (by decide) rfl rfl (X_clamp_pay hg4) <| ans1 <| Runs.putI d1_171 w51 fS_1 (Or.inl w52) <| Runs.aloadN d1_174 rfl <| Runs.aloadN d1_175 rfl <| Runs.iloadN d1_176 rfl <| Runs.bipush d1_177 cb_16 <| Runs.sipush d1_179 cs_128 <| ?_
  refine bind_el hf fun r5 hg6 hf => ?_
  refine Runs.callP (N := B2) (W := 1) (as := [.int i3, .int (16 : Int32), .int (128 : Int32)]) (S' := [.ref a]) d1_182 w45 w46 w47 rfl cw2 ar2 rk1_2_1 (by decide) rfl rfl (X_clamp_pay hg6) <| ans1 <| Runs.putI d1_185 w53 fS_2 (Or.inl w54) <| Runs.aloadN d1_188 rfl <| Runs.aloadN d1_189 rfl <| Runs.iload d1_190 rfl <| Runs.iconst d1_192 ci_2 <| Runs.bipush d1_193 cb_32 <| ?_
  refine bind_el hf fun r7 hg8 hf => ?_
  refine Runs.callP (N := B2) (W := 1) (as := [.int i4, .int (2 : Int32), .int (32 : Int32)]) (S' := [.ref a]) d1_195 w45 w46 w47 rfl cw2 ar2 rk1_2_1 (by decide) rfl rfl (X_clamp_pay hg8) <| ans1 <| Runs.putI d1_198 w55 fS_3 (Or.inl w56) <| Runs.aloadN d1_201 rfl <| Runs.iconst d1_202 ci_0 <| Runs.putI d1_203 w57 fS_4 (Or.inl w58) <| Runs.aloadN d1_206 rfl <| Runs.iconst d1_207 ci_0 <| Runs.putI d1_208 w59 fS_5 (Or.inl w60) <| Runs.aloadN d1_211 rfl <| Runs.iconst d1_212 ci_0 <| Runs.putI d1_213 w61 fS_6 (Or.inl w62) <| Runs.aloadN d1_216 rfl <| ?_
  obtain rfl := Option.some.inj hf
  exact Runs.iconst d1_217 ci_0 <| Runs.putI d1_218 w63 fS_7 (Or.inl w64) <| Runs.aloadN d1_221 rfl <| Runs.iconst d1_222 ci_0 <| Runs.putI d1_223 w65 fS_8 (Or.inl w66) <| Runs.aloadN d1_226 rfl <| Runs.iconst d1_227 ci_0 <| Runs.putI d1_228 w67 fS_9 (Or.inl w68) <| Runs.retV d1_231 rfl ⟨by decide, by decide⟩ ⟨rfl, rfl⟩
theorem X_init_pay {C : Ctx} {a : Nat} {H : List (Nat × Nat × Rec)} {res : Rec} {i1 : Int32} {i2 : Int32} {i3 : Int32} {i4 : Int32} (hf : X_init i1 i2 i3 i4 = some res) : Pays C B1 [.ref a, .int i1, .int i2, .int i3, .int i4] (a + 1, (a, 0, zrec) :: H) (Ans none (a + 1 + 17, (a, 17, res) :: H)) :=
  Pays.of pnK (Nat.le_of_ble_eq_true rfl) (P := [vr a, vi i1, vi i2, vi i3, vi i4]) 0 rfl (X_init_p i1 i2 i3 i4 hf)
def X_validSlot (ob : Rec) (i1 : Int32) : Option (Int32) :=
  if i1 < (0 : Int32) then
    some (0 : Int32)
  else
    if i1 < (gI ob 1) then
      if i1 < (8 : Int32) then
        some (1 : Int32)
      else
        some (0 : Int32)
    else
      some (0 : Int32)
set_option maxRecDepth 65536 in
set_option maxHeartbeats 4000000 in
theorem X_validSlot_p {C : Ctx} {top : Nat} {a : Nat} {H : List (Nat × Nat × Rec)} {ob : Rec} {res : Int32} (i1 : Int32) (hf : X_validSlot ob i1 = some res) : Runs C B4 0 0 0 [vr a, vi i1] [] (top, (a, 17, ob) :: H) (Ans (some (.int res)) (top, (a, 17, ob) :: H)) := by
  delta X_validSlot at hf
  refine Runs.iloadN d4_0 rfl <| ?_
  refine ite_el hf (fun hc1 hf => ?_) (fun hc1 hf => ?_)
  · refine Runs.ifY (pc' := 22) d4_1 (tlt hc1).1 (by decide) <| ?_
    obtain rfl := Option.some.inj hf
    exact Runs.iconst d4_22 ci_0 <| Runs.retZ (y := (0 : Int32)) d4_23 rfl ⟨by decide, by decide⟩ rfl ⟨rfl, rfl⟩
  · refine Runs.ifN d4_1 (flt hc1).1 <| ?_
    refine Runs.iloadN d4_4 rfl <| Runs.aloadN d4_5 rfl <| Runs.getI d4_6 w51 fS_1 <| ?_
    refine ite_el hf (fun hc2 hf => ?_) (fun hc2 hf => ?_)
    · refine Runs.icN d4_9 (tlt hc2).2.1 <| ?_
      refine Runs.iloadN d4_12 rfl <| Runs.bipush d4_13 cb_8 <| ?_
      refine ite_el hf (fun hc3 hf => ?_) (fun hc3 hf => ?_)
      · refine Runs.icN d4_15 (tlt hc3).2.1 <| ?_
        obtain rfl := Option.some.inj hf
        exact Runs.iconst d4_18 ci_1 <| Runs.goto (pc' := 23) d4_19 (by decide) <| Runs.retZ (y := (1 : Int32)) d4_23 rfl ⟨by decide, by decide⟩ rfl ⟨rfl, rfl⟩
      · refine Runs.icY (pc' := 22) d4_15 (flt hc3).2.1 (by decide) <| ?_
        obtain rfl := Option.some.inj hf
        exact Runs.iconst d4_22 ci_0 <| Runs.retZ (y := (0 : Int32)) d4_23 rfl ⟨by decide, by decide⟩ rfl ⟨rfl, rfl⟩
    · refine Runs.icY (pc' := 22) d4_9 (flt hc2).2.1 (by decide) <| ?_
      obtain rfl := Option.some.inj hf
      exact Runs.iconst d4_22 ci_0 <| Runs.retZ (y := (0 : Int32)) d4_23 rfl ⟨by decide, by decide⟩ rfl ⟨rfl, rfl⟩
theorem X_validSlot_pay {C : Ctx} {top : Nat} {a : Nat} {H : List (Nat × Nat × Rec)} {ob : Rec} {res : Int32} {i1 : Int32} (hf : X_validSlot ob i1 = some res) : Pays C B4 [.ref a, .int i1] (top, (a, 17, ob) :: H) (Ans (some (.int res)) (top, (a, 17, ob) :: H)) :=
  Pays.of pnK (Nat.le_of_ble_eq_true rfl) (P := [vr a, vi i1]) 0 rfl (X_validSlot_p i1 hf)
def X_logFull (ob : Rec) : Option (Int32) :=
  if (gI ob 4) < (gI ob 2) then
    if (gI ob 4) < (128 : Int32) then
      some (0 : Int32)
    else
      some (1 : Int32)
  else
    some (1 : Int32)
set_option maxRecDepth 65536 in
set_option maxHeartbeats 4000000 in
theorem X_logFull_p {C : Ctx} {top : Nat} {a : Nat} {H : List (Nat × Nat × Rec)} {ob : Rec} {res : Int32} (hf : X_logFull ob = some res) : Runs C B5 0 0 0 [vr a] [] (top, (a, 17, ob) :: H) (Ans (some (.int res)) (top, (a, 17, ob) :: H)) := by
  delta X_logFull at hf
  refine Runs.aloadN d5_0 rfl <| Runs.getI d5_1 w57 fS_4 <| Runs.aloadN d5_4 rfl <| Runs.getI d5_5 w53 fS_2 <| ?_
  refine ite_el hf (fun hc1 hf => ?_) (fun hc1 hf => ?_)
  · refine Runs.icN d5_8 (tlt hc1).2.1 <| ?_
    refine Runs.aloadN d5_11 rfl <| Runs.getI d5_12 w57 fS_4 <| Runs.sipush d5_15 cs_128 <| ?_
    refine ite_el hf (fun hc2 hf => ?_) (fun hc2 hf => ?_)
    · refine Runs.icY (pc' := 25) d5_18 (tlt hc2).1 (by decide) <| ?_
      obtain rfl := Option.some.inj hf
      exact Runs.iconst d5_25 ci_0 <| Runs.retZ (y := (0 : Int32)) d5_26 rfl ⟨by decide, by decide⟩ rfl ⟨rfl, rfl⟩
    · refine Runs.icN d5_18 (flt hc2).1 <| ?_
      obtain rfl := Option.some.inj hf
      exact Runs.iconst d5_21 ci_1 <| Runs.goto (pc' := 26) d5_22 (by decide) <| Runs.retZ (y := (1 : Int32)) d5_26 rfl ⟨by decide, by decide⟩ rfl ⟨rfl, rfl⟩
  · refine Runs.icY (pc' := 21) d5_8 (flt hc1).2.1 (by decide) <| ?_
    obtain rfl := Option.some.inj hf
    exact Runs.iconst d5_21 ci_1 <| Runs.goto (pc' := 26) d5_22 (by decide) <| Runs.retZ (y := (1 : Int32)) d5_26 rfl ⟨by decide, by decide⟩ rfl ⟨rfl, rfl⟩
theorem X_logFull_pay {C : Ctx} {top : Nat} {a : Nat} {H : List (Nat × Nat × Rec)} {ob : Rec} {res : Int32} (hf : X_logFull ob = some res) : Pays C B5 [.ref a] (top, (a, 17, ob) :: H) (Ans (some (.int res)) (top, (a, 17, ob) :: H)) :=
  Pays.of pnK (Nat.le_of_ble_eq_true rfl) (P := [vr a]) 0 rfl (X_logFull_p hf)
def X_append (ob : Rec) (i1 : Int32) (i2 : Int32) (i3 : Int32) (i4 : Int32) : Option (Int32 × Rec) :=
  chk (129 : Int32) ((gI ob 4) + (1 : Int32)) <|
  chk (129 : Int32) ((gI ob 4) + (1 : Int32)) <|
  chk (129 : Int32) ((gI ob 4) + (1 : Int32)) <|
  chk (129 : Int32) ((gI ob 4) + (1 : Int32)) <|
  chk (129 : Int32) ((gI ob 4) + (1 : Int32)) <|
  some (((gI ob 4) + (1 : Int32)), (sA (sA (sA (sA (sA (sI ob 4 ((gI ob 4) + (1 : Int32))) 0 ((gI ob 4) + (1 : Int32)) i1) 1 ((gI ob 4) + (1 : Int32)) i2) 2 ((gI ob 4) + (1 : Int32)) i3) 3 ((gI ob 4) + (1 : Int32)) i4) 4 ((gI ob 4) + (1 : Int32)) (0 : Int32)))
set_option maxRecDepth 65536 in
set_option maxHeartbeats 4000000 in
theorem X_append_p {C : Ctx} {top : Nat} {a : Nat} {H : List (Nat × Nat × Rec)} {res : Int32 × Rec} (ob : Rec) (i1 : Int32) (i2 : Int32) (i3 : Int32) (i4 : Int32) (hf : X_append ob i1 i2 i3 i4 = some res) : Runs C B6 0 0 0 [vr a, vi i1, vi i2, vi i3, vi i4] [] (top, (a, 17, ob) :: H) (Ans (some (.int res.1)) (top, (a, 17, res.2) :: H)) := by
  delta X_append at hf
  refine Runs.aloadN d6_0 rfl <| Runs.dup d6_1 rfl <| Runs.getI d6_2 w57 fS_4 <| Runs.iconst d6_5 ci_1 <| Runs.iadd d6_6 <| Runs.putI d6_7 w57 fS_4 (Or.inl w58) <| Runs.aloadN d6_10 rfl <| Runs.getA d6_11 fA_0 w10 (by decide) <| Runs.aloadN d6_14 rfl <| Runs.getI d6_15 w57 fS_4 <| Runs.iloadN d6_18 rfl <| ?_
  refine chk_el hf fun hi1 hf => ?_
  refine Runs.iastoreA d6_19 fA_0 (by decide) hi1 <| Runs.aloadN d6_20 rfl <| Runs.getA d6_21 fA_1 w12 (by decide) <| Runs.aloadN d6_24 rfl <| Runs.getI d6_25 w57 fS_4 <| Runs.iloadN d6_28 rfl <| ?_
  refine chk_el hf fun hi2 hf => ?_
  refine Runs.iastoreA d6_29 fA_1 (by decide) hi2 <| Runs.aloadN d6_30 rfl <| Runs.getA d6_31 fA_2 w14 (by decide) <| Runs.aloadN d6_34 rfl <| Runs.getI d6_35 w57 fS_4 <| Runs.iloadN d6_38 rfl <| ?_
  refine chk_el hf fun hi3 hf => ?_
  refine Runs.iastoreA d6_39 fA_2 (by decide) hi3 <| Runs.aloadN d6_40 rfl <| Runs.getA d6_41 fA_3 w16 (by decide) <| Runs.aloadN d6_44 rfl <| Runs.getI d6_45 w57 fS_4 <| Runs.iload d6_48 rfl <| ?_
  refine chk_el hf fun hi4 hf => ?_
  refine Runs.iastoreA d6_50 fA_3 (by decide) hi4 <| Runs.aloadN d6_51 rfl <| Runs.getA d6_52 fA_4 w18 (by decide) <| Runs.aloadN d6_55 rfl <| Runs.getI d6_56 w57 fS_4 <| Runs.iconst d6_59 ci_0 <| ?_
  refine chk_el hf fun hi5 hf => ?_
  obtain rfl := Option.some.inj hf
  exact Runs.iastoreA d6_60 fA_4 (by decide) hi5 <| Runs.aloadN d6_61 rfl <| Runs.getI d6_62 w57 fS_4 <| Runs.retI d6_65 rfl ⟨by decide, by decide⟩ ⟨rfl, rfl⟩
theorem X_append_pay {C : Ctx} {top : Nat} {a : Nat} {H : List (Nat × Nat × Rec)} {res : Int32 × Rec} {ob : Rec} {i1 : Int32} {i2 : Int32} {i3 : Int32} {i4 : Int32} (hf : X_append ob i1 i2 i3 i4 = some res) : Pays C B6 [.ref a, .int i1, .int i2, .int i3, .int i4] (top, (a, 17, ob) :: H) (Ans (some (.int res.1)) (top, (a, 17, res.2) :: H)) :=
  Pays.of pnK (Nat.le_of_ble_eq_true rfl) (P := [vr a, vi i1, vi i2, vi i3, vi i4]) 0 rfl (X_append_p ob i1 i2 i3 i4 hf)
def X_begin (ob : Rec) (i1 : Int32) : Option (Int32 × Rec) :=
  (X_validSlot ob i1).bind fun r1 =>
  if r1 = (0 : Int32) then
    some ((-1 : Int32), ob)
  else
    chk (8 : Int32) i1 <|
    if (gA ob 5 i1) = (0 : Int32) then
      (X_logFull ob).bind fun r6 =>
      if r6 = (0 : Int32) then
        bind2 (X_append ob (1 : Int32) i1 (0 : Int32) (0 : Int32)) fun r9 q10 =>
        chk (8 : Int32) i1 <|
        chk (8 : Int32) i1 <|
        some (r9, (sA (sA q10 5 i1 (1 : Int32)) 6 i1 r9))
      else
        some ((-4 : Int32), ob)
    else
      some ((-2 : Int32), ob)
set_option maxRecDepth 65536 in
set_option maxHeartbeats 4000000 in
theorem X_begin_p {C : Ctx} {top : Nat} {a : Nat} {H : List (Nat × Nat × Rec)} {res : Int32 × Rec} (ob : Rec) (i1 : Int32) (hf : X_begin ob i1 = some res) : Runs C B3 0 0 0 [vr a, vi i1, vn] [] (top, (a, 17, ob) :: H) (Ans (some (.int res.1)) (top, (a, 17, res.2) :: H)) := by
  delta X_begin at hf
  refine Runs.aloadN d3_0 rfl <| Runs.iloadN d3_1 rfl <| ?_
  refine bind_el hf fun r1 hg2 hf => ?_
  refine Runs.callP (N := B4) (W := 0) (as := [.int i1]) (S' := []) d3_2 w75 w76 w77 rfl cw4 ar4 rk3_4_0 (by decide) rfl rfl (X_validSlot_pay hg2) <| ans1 <| ?_
  refine ite_el hf (fun hc3 hf => ?_) (fun hc3 hf => ?_)
  · refine Runs.ifN d3_5 (teq hc3).2 <| ?_
    obtain rfl := Option.some.inj hf
    exact Runs.iconst d3_8 ci_m1 <| Runs.retI d3_9 rfl ⟨by decide, by decide⟩ ⟨rfl, rfl⟩
  · refine Runs.ifY (pc' := 10) d3_5 (feq hc3).2 (by decide) <| ?_
    refine Runs.aloadN d3_10 rfl <| Runs.getA d3_11 fA_5 w21 (by decide) <| Runs.iloadN d3_14 rfl <| ?_
    refine chk_el hf fun hi4 hf => ?_
    refine Runs.baloadA d3_15 fA_5 (by decide) hi4 <| ?_
    refine ite_el hf (fun hc5 hf => ?_) (fun hc5 hf => ?_)
    · refine Runs.ifY (pc' := 22) d3_16 (teq hc5).1 (by decide) <| ?_
      refine Runs.aloadN d3_22 rfl <| ?_
      refine bind_el hf fun r6 hg7 hf => ?_
      refine Runs.callP (N := B5) (W := 0) (as := []) (S' := []) d3_23 w79 w80 w81 rfl cw5 ar5 rk3_5_0 (by decide) rfl rfl (X_logFull_pay hg7) <| ans1 <| ?_
      refine ite_el hf (fun hc8 hf => ?_) (fun hc8 hf => ?_)
      · refine Runs.ifY (pc' := 32) d3_26 (teq hc8).1 (by decide) <| ?_
        refine Runs.aloadN d3_32 rfl <| Runs.iconst d3_33 ci_1 <| Runs.iloadN d3_34 rfl <| Runs.iconst d3_35 ci_0 <| Runs.iconst d3_36 ci_0 <| ?_
        refine bind2_el hf fun r9 q10 hg11 hf => ?_
        refine Runs.callP (N := B6) (W := 0) (as := [.int (1 : Int32), .int i1, .int (0 : Int32), .int (0 : Int32)]) (S' := []) d3_37 w83 w84 w85 rfl cw6 ar6 rk3_6_0 (by decide) rfl rfl (X_append_pay hg11) <| ans1 <| Runs.istoreN (P' := [vr a, vi i1, vi r9]) d3_40 (by decide) rfl <| Runs.aloadN d3_41 rfl <| Runs.getA d3_42 fA_5 w21 (by decide) <| Runs.iloadN d3_45 rfl <| Runs.iconst d3_46 ci_1 <| ?_
        refine chk_el hf fun hi12 hf => ?_
        refine Runs.bastoreA (y := (1 : Int32)) d3_47 fA_5 (by decide) hi12 rfl <| Runs.aloadN d3_48 rfl <| Runs.getA d3_49 fA_6 w23 (by decide) <| Runs.iloadN d3_52 rfl <| Runs.iloadN d3_53 rfl <| ?_
        refine chk_el hf fun hi13 hf => ?_
        obtain rfl := Option.some.inj hf
        exact Runs.iastoreA d3_54 fA_6 (by decide) hi13 <| Runs.iloadN d3_55 rfl <| Runs.retI d3_56 rfl ⟨by decide, by decide⟩ ⟨rfl, rfl⟩
      · refine Runs.ifN d3_26 (feq hc8).1 <| ?_
        obtain rfl := Option.some.inj hf
        exact Runs.bipush d3_29 cb_m4 <| Runs.retI d3_31 rfl ⟨by decide, by decide⟩ ⟨rfl, rfl⟩
    · refine Runs.ifN d3_16 (feq hc5).1 <| ?_
      obtain rfl := Option.some.inj hf
      exact Runs.bipush d3_19 cb_m2 <| Runs.retI d3_21 rfl ⟨by decide, by decide⟩ ⟨rfl, rfl⟩
theorem X_begin_pay {C : Ctx} {top : Nat} {a : Nat} {H : List (Nat × Nat × Rec)} {res : Int32 × Rec} {ob : Rec} {i1 : Int32} (hf : X_begin ob i1 = some res) : Pays C B3 [.ref a, .int i1] (top, (a, 17, ob) :: H) (Ans (some (.int res.1)) (top, (a, 17, res.2) :: H)) :=
  Pays.of pnK (Nat.le_of_ble_eq_true rfl) (P := [vr a, vi i1, vn]) 1 rfl (X_begin_p ob i1 hf)
def X_checkOpenSlot (ob : Rec) (i1 : Int32) : Option (Int32) :=
  (X_validSlot ob i1).bind fun r1 =>
  if r1 = (0 : Int32) then
    some (-1 : Int32)
  else
    chk (8 : Int32) i1 <|
    if (gA ob 5 i1) = (0 : Int32) then
      some (-2 : Int32)
    else
      some (0 : Int32)
set_option maxRecDepth 65536 in
set_option maxHeartbeats 4000000 in
theorem X_checkOpenSlot_p {C : Ctx} {top : Nat} {a : Nat} {H : List (Nat × Nat × Rec)} {ob : Rec} {res : Int32} (i1 : Int32) (hf : X_checkOpenSlot ob i1 = some res) : Runs C B9 0 0 0 [vr a, vi i1] [] (top, (a, 17, ob) :: H) (Ans (some (.int res)) (top, (a, 17, ob) :: H)) := by
  delta X_checkOpenSlot at hf
  refine Runs.aloadN d9_0 rfl <| Runs.iloadN d9_1 rfl <| ?_
  refine bind_el hf fun r1 hg2 hf => ?_
  refine Runs.callP (N := B4) (W := 0) (as := [.int i1]) (S' := []) d9_2 w75 w76 w77 rfl cw4 ar4 rk9_4_0 (by decide) rfl rfl (X_validSlot_pay hg2) <| ans1 <| ?_
  refine ite_el hf (fun hc3 hf => ?_) (fun hc3 hf => ?_)
  · refine Runs.ifN d9_5 (teq hc3).2 <| ?_
    obtain rfl := Option.some.inj hf
    exact Runs.iconst d9_8 ci_m1 <| Runs.retI d9_9 rfl ⟨by decide, by decide⟩ ⟨rfl, rfl⟩
  · refine Runs.ifY (pc' := 10) d9_5 (feq hc3).2 (by decide) <| ?_
    refine Runs.aloadN d9_10 rfl <| Runs.getA d9_11 fA_5 w21 (by decide) <| Runs.iloadN d9_14 rfl <| ?_
    refine chk_el hf fun hi4 hf => ?_
    refine Runs.baloadA d9_15 fA_5 (by decide) hi4 <| ?_
    refine ite_el hf (fun hc5 hf => ?_) (fun hc5 hf => ?_)
    · refine Runs.ifN d9_16 (teq hc5).2 <| ?_
      obtain rfl := Option.some.inj hf
      exact Runs.bipush d9_19 cb_m2 <| Runs.retI d9_21 rfl ⟨by decide, by decide⟩ ⟨rfl, rfl⟩
    · refine Runs.ifY (pc' := 22) d9_16 (feq hc5).2 (by decide) <| ?_
      obtain rfl := Option.some.inj hf
      exact Runs.iconst d9_22 ci_0 <| Runs.retI d9_23 rfl ⟨by decide, by decide⟩ ⟨rfl, rfl⟩
theorem X_checkOpenSlot_pay {C : Ctx} {top : Nat} {a : Nat} {H : List (Nat × Nat × Rec)} {ob : Rec} {res : Int32} {i1 : Int32} (hf : X_checkOpenSlot ob i1 = some res) : Pays C B9 [.ref a, .int i1] (top, (a, 17, ob) :: H) (Ans (some (.int res)) (top, (a, 17, ob) :: H)) :=
  Pays.of pnK (Nat.le_of_ble_eq_true rfl) (P := [vr a, vi i1]) 0 rfl (X_checkOpenSlot_p i1 hf)
def X_validKey (ob : Rec) (i1 : Int32) : Option (Int32) :=
  if i1 < (0 : Int32) then
    some (0 : Int32)
  else
    if i1 < (gI ob 0) then
      if i1 < (32 : Int32) then
        some (1 : Int32)
      else
        some (0 : Int32)
    else
      some (0 : Int32)
set_option maxRecDepth 65536 in
set_option maxHeartbeats 4000000 in
theorem X_validKey_p {C : Ctx} {top : Nat} {a : Nat} {H : List (Nat × Nat × Rec)} {ob : Rec} {res : Int32} (i1 : Int32) (hf : X_validKey ob i1 = some res) : Runs C B10 0 0 0 [vr a, vi i1] [] (top, (a, 17, ob) :: H) (Ans (some (.int res)) (top, (a, 17, ob) :: H)) := by
  delta X_validKey at hf
  refine Runs.iloadN d10_0 rfl <| ?_
  refine ite_el hf (fun hc1 hf => ?_) (fun hc1 hf => ?_)
  · refine Runs.ifY (pc' := 22) d10_1 (tlt hc1).1 (by decide) <| ?_
    obtain rfl := Option.some.inj hf
    exact Runs.iconst d10_22 ci_0 <| Runs.retZ (y := (0 : Int32)) d10_23 rfl ⟨by decide, by decide⟩ rfl ⟨rfl, rfl⟩
  · refine Runs.ifN d10_1 (flt hc1).1 <| ?_
    refine Runs.iloadN d10_4 rfl <| Runs.aloadN d10_5 rfl <| Runs.getI d10_6 w49 fS_0 <| ?_
    refine ite_el hf (fun hc2 hf => ?_) (fun hc2 hf => ?_)
    · refine Runs.icN d10_9 (tlt hc2).2.1 <| ?_
      refine Runs.iloadN d10_12 rfl <| Runs.bipush d10_13 cb_32 <| ?_
      refine ite_el hf (fun hc3 hf => ?_) (fun hc3 hf => ?_)
      · refine Runs.icN d10_15 (tlt hc3).2.1 <| ?_
        obtain rfl := Option.some.inj hf
        exact Runs.iconst d10_18 ci_1 <| Runs.goto (pc' := 23) d10_19 (by decide) <| Runs.retZ (y := (1 : Int32)) d10_23 rfl ⟨by decide, by decide⟩ rfl ⟨rfl, rfl⟩
      · refine Runs.icY (pc' := 22) d10_15 (flt hc3).2.1 (by decide) <| ?_
        obtain rfl := Option.some.inj hf
        exact Runs.iconst d10_22 ci_0 <| Runs.retZ (y := (0 : Int32)) d10_23 rfl ⟨by decide, by decide⟩ rfl ⟨rfl, rfl⟩
    · refine Runs.icY (pc' := 22) d10_9 (flt hc2).2.1 (by decide) <| ?_
      obtain rfl := Option.some.inj hf
      exact Runs.iconst d10_22 ci_0 <| Runs.retZ (y := (0 : Int32)) d10_23 rfl ⟨by decide, by decide⟩ rfl ⟨rfl, rfl⟩
theorem X_validKey_pay {C : Ctx} {top : Nat} {a : Nat} {H : List (Nat × Nat × Rec)} {ob : Rec} {res : Int32} {i1 : Int32} (hf : X_validKey ob i1 = some res) : Pays C B10 [.ref a, .int i1] (top, (a, 17, ob) :: H) (Ans (some (.int res)) (top, (a, 17, ob) :: H)) :=
  Pays.of pnK (Nat.le_of_ble_eq_true rfl) (P := [vr a, vi i1]) 0 rfl (X_validKey_p i1 hf)
def X_write (ob : Rec) (i1 : Int32) (i2 : Int32) (i3 : Int32) (i4 : Int32) : Option (Int32 × Rec) :=
  (X_checkOpenSlot ob i2).bind fun r1 =>
  if r1 = (0 : Int32) then
    (X_validKey ob i3).bind fun r4 =>
    if r4 = (0 : Int32) then
      some ((-3 : Int32), ob)
    else
      (X_logFull ob).bind fun r7 =>
      if r7 = (0 : Int32) then
        bind2 (X_append ob i1 i2 i3 i4) fun r10 q11 =>
        some (r10, q11)
      else
        some ((-4 : Int32), ob)
  else
    some (r1, ob)
set_option maxRecDepth 65536 in
set_option maxHeartbeats 4000000 in
theorem X_write_p {C : Ctx} {top : Nat} {a : Nat} {H : List (Nat × Nat × Rec)} {res : Int32 × Rec} (ob : Rec) (i1 : Int32) (i2 : Int32) (i3 : Int32) (i4 : Int32) (hf : X_write ob i1 i2 i3 i4 = some res) : Runs C B8 0 0 0 [vr a, vi i1, vi i2, vi i3, vi i4, vn] [] (top, (a, 17, ob) :: H) (Ans (some (.int res.1)) (top, (a, 17, res.2) :: H)) := by
  delta X_write at hf
  refine Runs.aloadN d8_0 rfl <| Runs.iloadN d8_1 rfl <| ?_
  refine bind_el hf fun r1 hg2 hf => ?_
  refine Runs.callP (N := B9) (W := 0) (as := [.int i2]) (S' := []) d8_2 w96 w97 w98 rfl cw9 ar9 rk8_9_0 (by decide) rfl rfl (X_checkOpenSlot_pay hg2) <| ans1 <| Runs.istore (P' := [vr a, vi i1, vi i2, vi i3, vi i4, vi r1]) d8_5 (by decide) rfl <| Runs.iload d8_7 rfl <| ?_
  refine ite_el hf (fun hc3 hf => ?_) (fun hc3 hf => ?_)
  · refine Runs.ifY (pc' := 15) d8_9 (teq hc3).1 (by decide) <| ?_
    refine Runs.aloadN d8_15 rfl <| Runs.iloadN d8_16 rfl <| ?_
    refine bind_el hf fun r4 hg5 hf => ?_
    refine Runs.callP (N := B10) (W := 0) (as := [.int i3]) (S' := []) d8_17 w100 w101 w102 rfl cw10 ar10 rk8_10_0 (by decide) rfl rfl (X_validKey_pay hg5) <| ans1 <| ?_
    refine ite_el hf (fun hc6 hf => ?_) (fun hc6 hf => ?_)
    · refine Runs.ifN d8_20 (teq hc6).2 <| ?_
      obtain rfl := Option.some.inj hf
      exact Runs.bipush d8_23 cb_m3 <| Runs.retI d8_25 rfl ⟨by decide, by decide⟩ ⟨rfl, rfl⟩
    · refine Runs.ifY (pc' := 26) d8_20 (feq hc6).2 (by decide) <| ?_
      refine Runs.aloadN d8_26 rfl <| ?_
      refine bind_el hf fun r7 hg8 hf => ?_
      refine Runs.callP (N := B5) (W := 0) (as := []) (S' := []) d8_27 w79 w80 w81 rfl cw5 ar5 rk8_5_0 (by decide) rfl rfl (X_logFull_pay hg8) <| ans1 <| ?_
      refine ite_el hf (fun hc9 hf => ?_) (fun hc9 hf => ?_)
      · refine Runs.ifY (pc' := 36) d8_30 (teq hc9).1 (by decide) <| ?_
        refine Runs.aloadN d8_36 rfl <| Runs.iloadN d8_37 rfl <| Runs.iloadN d8_38 rfl <| Runs.iloadN d8_39 rfl <| Runs.iload d8_40 rfl <| ?_
        refine bind2_el hf fun r10 q11 hg12 hf => ?_
        obtain rfl := Option.some.inj hf
        exact Runs.callP (N := B6) (W := 0) (as := [.int i1, .int i2, .int i3, .int i4]) (S' := []) d8_42 w83 w84 w85 rfl cw6 ar6 rk8_6_0 (by decide) rfl rfl (X_append_pay hg12) <| ans1 <| Runs.retI d8_45 rfl ⟨by decide, by decide⟩ ⟨rfl, rfl⟩
      · refine Runs.ifN d8_30 (feq hc9).1 <| ?_
        obtain rfl := Option.some.inj hf
        exact Runs.bipush d8_33 cb_m4 <| Runs.retI d8_35 rfl ⟨by decide, by decide⟩ ⟨rfl, rfl⟩
  · refine Runs.ifN d8_9 (feq hc3).1 <| ?_
    obtain rfl := Option.some.inj hf
    exact Runs.iload d8_12 rfl <| Runs.retI d8_14 rfl ⟨by decide, by decide⟩ ⟨rfl, rfl⟩
theorem X_write_pay {C : Ctx} {top : Nat} {a : Nat} {H : List (Nat × Nat × Rec)} {res : Int32 × Rec} {ob : Rec} {i1 : Int32} {i2 : Int32} {i3 : Int32} {i4 : Int32} (hf : X_write ob i1 i2 i3 i4 = some res) : Pays C B8 [.ref a, .int i1, .int i2, .int i3, .int i4] (top, (a, 17, ob) :: H) (Ans (some (.int res.1)) (top, (a, 17, res.2) :: H)) :=
  Pays.of pnK (Nat.le_of_ble_eq_true rfl) (P := [vr a, vi i1, vi i2, vi i3, vi i4, vn]) 1 rfl (X_write_p ob i1 i2 i3 i4 hf)
def X_put (ob : Rec) (i1 : Int32) (i2 : Int32) (i3 : Int32) : Option (Int32 × Rec) :=
  bind2 (X_write ob (2 : Int32) i1 i2 i3) fun r1 q2 =>
  some (r1, q2)
set_option maxRecDepth 65536 in
set_option maxHeartbeats 4000000 in
theorem X_put_p {C : Ctx} {top : Nat} {a : Nat} {H : List (Nat × Nat × Rec)} {res : Int32 × Rec} (ob : Rec) (i1 : Int32) (i2 : Int32) (i3 : Int32) (hf : X_put ob i1 i2 i3 = some res) : Runs C B7 0 0 0 [vr a, vi i1, vi i2, vi i3] [] (top, (a, 17, ob) :: H) (Ans (some (.int res.1)) (top, (a, 17, res.2) :: H)) := by
  delta X_put at hf
  refine Runs.aloadN d7_0 rfl <| Runs.iconst d7_1 ci_2 <| Runs.iloadN d7_2 rfl <| Runs.iloadN d7_3 rfl <| Runs.iloadN d7_4 rfl <| ?_
  refine bind2_el hf fun r1 q2 hg3 hf => ?_
  obtain rfl := Option.some.inj hf
  exact Runs.callP (N := B8) (W := 0) (as := [.int (2 : Int32), .int i1, .int i2, .int i3]) (S' := []) d7_5 w92 w93 w94 rfl cw8 ar8 rk7_8_0 (by decide) rfl rfl (X_write_pay hg3) <| ans1 <| Runs.retI d7_8 rfl ⟨by decide, by decide⟩ ⟨rfl, rfl⟩
theorem X_put_pay {C : Ctx} {top : Nat} {a : Nat} {H : List (Nat × Nat × Rec)} {res : Int32 × Rec} {ob : Rec} {i1 : Int32} {i2 : Int32} {i3 : Int32} (hf : X_put ob i1 i2 i3 = some res) : Pays C B7 [.ref a, .int i1, .int i2, .int i3] (top, (a, 17, ob) :: H) (Ans (some (.int res.1)) (top, (a, 17, res.2) :: H)) :=
  Pays.of pnK (Nat.le_of_ble_eq_true rfl) (P := [vr a, vi i1, vi i2, vi i3]) 0 rfl (X_put_p ob i1 i2 i3 hf)
def X_applyToPublisher_w18 (NF : Nat) (k18 : Rec → Int32 → Int32 → Int32 → Option (Rec)) (ob : Rec) (i1 : Int32) (i3 : Int32) (i5 : Int32) : Option (Rec) :=
  if i5 < i3 then
    if i5 < (129 : Int32) then
      chk (129 : Int32) i5 <|
      if (gA ob 1 i5) = i1 then
        chk (129 : Int32) i5 <|
        if (gA ob 2 i5) < (0 : Int32) then
          k18 ob i1 i3 (i5 + (1 : Int32))
        else
          if (gA ob 2 i5) < (32 : Int32) then
            chk (129 : Int32) i5 <|
            if (gA ob 0 i5) = (2 : Int32) then
              chk (32 : Int32) (gA ob 2 i5) <|
              chk (129 : Int32) i5 <|
              chk (32 : Int32) (gA ob 2 i5) <|
              k18 (sA (sA ob 7 (gA ob 2 i5) (1 : Int32)) 8 (gA ob 2 i5) (gA ob 3 i5)) i1 i3 (i5 + (1 : Int32))
            else
              chk (129 : Int32) i5 <|
              if (gA ob 0 i5) = (3 : Int32) then
                chk (32 : Int32) (gA ob 2 i5) <|
                k18 (sA ob 7 (gA ob 2 i5) (0 : Int32)) i1 i3 (i5 + (1 : Int32))
              else
                k18 ob i1 i3 (i5 + (1 : Int32))
          else
            k18 ob i1 i3 (i5 + (1 : Int32))
      else
        k18 ob i1 i3 (i5 + (1 : Int32))
    else
      some ob
  else
    some ob
def X_applyToPublisher_l18 (NF : Nat) : Nat → Rec → Int32 → Int32 → Int32 → Option (Rec)
  | 0, _, _, _, _ => none
  | n + 1, ob, i1, i3, i5 => X_applyToPublisher_w18 NF (X_applyToPublisher_l18 NF n) ob i1 i3 i5
set_option maxRecDepth 65536 in
set_option maxHeartbeats 4000000 in
theorem X_applyToPublisher_w18_p {C : Ctx} {top : Nat} {a : Nat} {H : List (Nat × Nat × Rec)} {res : Rec} {NF : Nat} (k18 : Rec → Int32 → Int32 → Int32 → Option (Rec)) (hk18 : ∀ (ob : Rec) (i1 : Int32) (i3 : Int32) (i5 : Int32), k18 ob i1 i3 i5 = some res → Runs C B12 0 0 18 [vr a, vi i1, vn, vi i3, vn, vi i5, vn] [] (top, (a, 17, ob) :: H) (Ans none (top, (a, 17, res) :: H))) (ob : Rec) (i1 : Int32) (i3 : Int32) (i5 : Int32) (hf : X_applyToPublisher_w18 NF k18 ob i1 i3 i5 = some res) : Runs C B12 0 0 18 [vr a, vi i1, vn, vi i3, vn, vi i5, vn] [] (top, (a, 17, ob) :: H) (Ans none (top, (a, 17, res) :: H)) := by
  delta X_applyToPublisher_w18 at hf
  refine Runs.iload d12_18 rfl <| Runs.iloadN d12_20 rfl <| ?_
  refine ite_el hf (fun hc1 hf => ?_) (fun hc1 hf => ?_)
  · refine Runs.icN d12_21 (tlt hc1).2.1 <| ?_
    refine Runs.iload d12_24 rfl <| Runs.sipush d12_26 cs_129 <| ?_
    refine ite_el hf (fun hc2 hf => ?_) (fun hc2 hf => ?_)
    · refine Runs.icN d12_29 (tlt hc2).2.1 <| ?_
      refine Runs.aloadN d12_32 rfl <| Runs.getA d12_33 fA_1 w12 (by decide) <| Runs.iload d12_36 rfl <| ?_
      refine chk_el hf fun hi3 hf => ?_
      refine Runs.ialoadA d12_38 fA_1 (by decide) hi3 <| Runs.iloadN d12_39 rfl <| ?_
      refine ite_el hf (fun hc4 hf => ?_) (fun hc4 hf => ?_)
      · refine Runs.icY (pc' := 46) d12_40 (teq hc4).1 (by decide) <| ?_
        refine Runs.aloadN d12_46 rfl <| Runs.getA d12_47 fA_2 w14 (by decide) <| Runs.iload d12_50 rfl <| ?_
        refine chk_el hf fun hi5 hf => ?_
        refine Runs.ialoadA d12_52 fA_2 (by decide) hi5 <| Runs.istore (P' := [vr a, vi i1, vn, vi i3, vn, vi i5, vi (gA ob 2 i5)]) d12_53 (by decide) rfl <| Runs.iload d12_55 rfl <| ?_
        refine ite_el hf (fun hc6 hf => ?_) (fun hc6 hf => ?_)
        · refine Runs.ifY (pc' := 125) d12_57 (tlt hc6).1 (by decide) <| ?_
          exact Runs.iinc (P' := [vr a, vi i1, vn, vi i3, vn, vi (i5 + (1 : Int32)), vi (gA ob 2 i5)]) d12_125 ci_1 rfl (by decide) rfl <| Runs.goto (pc' := 18) d12_128 (by decide) <| Runs.forget [true, true, false, true, false, true, false] rfl <| hk18 ob i1 i3 (i5 + (1 : Int32)) hf
        · refine Runs.ifN d12_57 (flt hc6).1 <| ?_
          refine Runs.iload d12_60 rfl <| Runs.bipush d12_62 cb_32 <| ?_
          refine ite_el hf (fun hc7 hf => ?_) (fun hc7 hf => ?_)
          · refine Runs.icY (pc' := 70) d12_64 (tlt hc7).1 (by decide) <| ?_
            refine Runs.aloadN d12_70 rfl <| Runs.getA d12_71 fA_0 w10 (by decide) <| Runs.iload d12_74 rfl <| ?_
            refine chk_el hf fun hi8 hf => ?_
            refine Runs.ialoadA d12_76 fA_0 (by decide) hi8 <| Runs.iconst d12_77 ci_2 <| ?_
            refine ite_el hf (fun hc9 hf => ?_) (fun hc9 hf => ?_)
            · refine Runs.icN d12_78 (teq hc9).2 <| ?_
              refine Runs.aloadN d12_81 rfl <| Runs.getA d12_82 fA_7 w25 (by decide) <| Runs.iload d12_85 rfl <| Runs.iconst d12_87 ci_1 <| ?_
              refine chk_el hf fun hi10 hf => ?_
              refine Runs.bastoreA (y := (1 : Int32)) d12_88 fA_7 (by decide) hi10 rfl <| Runs.aloadN d12_89 rfl <| Runs.getA d12_90 fA_8 w27 (by decide) <| Runs.iload d12_93 rfl <| Runs.aloadN d12_95 rfl <| Runs.getA d12_96 fA_3 w16 (by decide) <| Runs.iload d12_99 rfl <| ?_
              refine chk_el hf fun hi11 hf => ?_
              refine Runs.ialoadA d12_101 fA_3 (by decide) hi11 <| ?_
              refine chk_el hf fun hi12 hf => ?_
              exact Runs.iastoreA d12_102 fA_8 (by decide) hi12 <| Runs.goto (pc' := 125) d12_103 (by decide) <| Runs.iinc (P' := [vr a, vi i1, vn, vi i3, vn, vi (i5 + (1 : Int32)), vi (gA ob 2 i5)]) d12_125 ci_1 rfl (by decide) rfl <| Runs.goto (pc' := 18) d12_128 (by decide) <| Runs.forget [true, true, false, true, false, true, false] rfl <| hk18 (sA (sA ob 7 (gA ob 2 i5) (1 : Int32)) 8 (gA ob 2 i5) (gA ob 3 i5)) i1 i3 (i5 + (1 : Int32)) hf
            · refine Runs.icY (pc' := 106) d12_78 (feq hc9).2 (by decide) <| ?_
              refine Runs.aloadN d12_106 rfl <| Runs.getA d12_107 fA_0 w10 (by decide) <| Runs.iload d12_110 rfl <| ?_
              refine chk_el hf fun hi13 hf => ?_
              refine Runs.ialoadA d12_112 fA_0 (by decide) hi13 <| Runs.iconst d12_113 ci_3 <| ?_
              refine ite_el hf (fun hc14 hf => ?_) (fun hc14 hf => ?_)
              · refine Runs.icN d12_114 (teq hc14).2 <| ?_
                refine Runs.aloadN d12_117 rfl <| Runs.getA d12_118 fA_7 w25 (by decide) <| Runs.iload d12_121 rfl <| Runs.iconst d12_123 ci_0 <| ?_
                refine chk_el hf fun hi15 hf => ?_
                exact Runs.bastoreA (y := (0 : Int32)) d12_124 fA_7 (by decide) hi15 rfl <| Runs.iinc (P' := [vr a, vi i1, vn, vi i3, vn, vi (i5 + (1 : Int32)), vi (gA ob 2 i5)]) d12_125 ci_1 rfl (by decide) rfl <| Runs.goto (pc' := 18) d12_128 (by decide) <| Runs.forget [true, true, false, true, false, true, false] rfl <| hk18 (sA ob 7 (gA ob 2 i5) (0 : Int32)) i1 i3 (i5 + (1 : Int32)) hf
              · refine Runs.icY (pc' := 125) d12_114 (feq hc14).2 (by decide) <| ?_
                exact Runs.iinc (P' := [vr a, vi i1, vn, vi i3, vn, vi (i5 + (1 : Int32)), vi (gA ob 2 i5)]) d12_125 ci_1 rfl (by decide) rfl <| Runs.goto (pc' := 18) d12_128 (by decide) <| Runs.forget [true, true, false, true, false, true, false] rfl <| hk18 ob i1 i3 (i5 + (1 : Int32)) hf
          · refine Runs.icN d12_64 (flt hc7).1 <| ?_
            exact Runs.goto (pc' := 125) d12_67 (by decide) <| Runs.iinc (P' := [vr a, vi i1, vn, vi i3, vn, vi (i5 + (1 : Int32)), vi (gA ob 2 i5)]) d12_125 ci_1 rfl (by decide) rfl <| Runs.goto (pc' := 18) d12_128 (by decide) <| Runs.forget [true, true, false, true, false, true, false] rfl <| hk18 ob i1 i3 (i5 + (1 : Int32)) hf
      · refine Runs.icN d12_40 (feq hc4).1 <| ?_
        exact Runs.goto (pc' := 125) d12_43 (by decide) <| Runs.iinc (P' := [vr a, vi i1, vn, vi i3, vn, vi (i5 + (1 : Int32)), vn]) d12_125 ci_1 rfl (by decide) rfl <| Runs.goto (pc' := 18) d12_128 (by decide) <| hk18 ob i1 i3 (i5 + (1 : Int32)) hf
    · refine Runs.icY (pc' := 131) d12_29 (flt hc2).2.1 (by decide) <| ?_
      obtain rfl := Option.some.inj hf
      exact Runs.retV d12_131 rfl ⟨by decide, by decide⟩ ⟨rfl, rfl⟩
  · refine Runs.icY (pc' := 131) d12_21 (flt hc1).2.1 (by decide) <| ?_
    obtain rfl := Option.some.inj hf
    exact Runs.retV d12_131 rfl ⟨by decide, by decide⟩ ⟨rfl, rfl⟩
theorem X_applyToPublisher_l18_p {C : Ctx} {top : Nat} {a : Nat} {H : List (Nat × Nat × Rec)} {res : Rec} {NF : Nat} (n : Nat) (ob : Rec) (i1 : Int32) (i3 : Int32) (i5 : Int32) (hf : X_applyToPublisher_l18 NF n ob i1 i3 i5 = some res) : Runs C B12 0 0 18 [vr a, vi i1, vn, vi i3, vn, vi i5, vn] [] (top, (a, 17, ob) :: H) (Ans none (top, (a, 17, res) :: H)) := by
  induction n generalizing ob i1 i3 i5 with
  | zero => cases (show (none : Option (Rec)) = some res from hf)
  | succ n ih => exact X_applyToPublisher_w18_p (X_applyToPublisher_l18 NF n) (fun ob i1 i3 i5 h => ih _ _ _ _ h) ob i1 i3 i5 hf
def X_applyToPublisher (NF : Nat) (ob : Rec) (i1 : Int32) (i2 : Int32) (i3 : Int32) : Option (Rec) :=
  if (i2 + (1 : Int32)) < (1 : Int32) then
    X_applyToPublisher_l18 NF NF ob i1 i3 (1 : Int32)
  else
    X_applyToPublisher_l18 NF NF ob i1 i3 (i2 + (1 : Int32))
set_option maxRecDepth 65536 in
set_option maxHeartbeats 4000000 in
theorem X_applyToPublisher_p {C : Ctx} {top : Nat} {a : Nat} {H : List (Nat × Nat × Rec)} {res : Rec} {NF : Nat} (ob : Rec) (i1 : Int32) (i2 : Int32) (i3 : Int32) (hf : X_applyToPublisher NF ob i1 i2 i3 = some res) : Runs C B12 0 0 0 [vr a, vi i1, vi i2, vi i3, vn, vn, vn] [] (top, (a, 17, ob) :: H) (Ans none (top, (a, 17, res) :: H)) := by
  delta X_applyToPublisher at hf
  refine Runs.iloadN d12_0 rfl <| Runs.iconst d12_1 ci_1 <| Runs.iadd d12_2 <| Runs.istore (P' := [vr a, vi i1, vi i2, vi i3, vi (i2 + (1 : Int32)), vn, vn]) d12_3 (by decide) rfl <| Runs.iload d12_5 rfl <| Runs.iconst d12_7 ci_1 <| ?_
  refine ite_el hf (fun hc16 hf => ?_) (fun hc16 hf => ?_)
  · refine Runs.icN d12_8 (tlt hc16).2.1 <| ?_
    exact Runs.iconst d12_11 ci_1 <| Runs.istore (P' := [vr a, vi i1, vi i2, vi i3, vi (1 : Int32), vn, vn]) d12_12 (by decide) rfl <| Runs.iload d12_14 rfl <| Runs.istore (P' := [vr a, vi i1, vi i2, vi i3, vi (1 : Int32), vi (1 : Int32), vn]) d12_16 (by decide) rfl <| Runs.forget [true, true, false, true, false, true, false] rfl <| X_applyToPublisher_l18_p NF ob i1 i3 (1 : Int32) hf
  · refine Runs.icY (pc' := 14) d12_8 (flt hc16).2.1 (by decide) <| ?_
    exact Runs.iload d12_14 rfl <| Runs.istore (P' := [vr a, vi i1, vi i2, vi i3, vi (i2 + (1 : Int32)), vi (i2 + (1 : Int32)), vn]) d12_16 (by decide) rfl <| Runs.forget [true, true, false, true, false, true, false] rfl <| X_applyToPublisher_l18_p NF ob i1 i3 (i2 + (1 : Int32)) hf
theorem X_applyToPublisher_pay {C : Ctx} {top : Nat} {a : Nat} {H : List (Nat × Nat × Rec)} {res : Rec} {NF : Nat} {ob : Rec} {i1 : Int32} {i2 : Int32} {i3 : Int32} (hf : X_applyToPublisher NF ob i1 i2 i3 = some res) : Pays C B12 [.ref a, .int i1, .int i2, .int i3] (top, (a, 17, ob) :: H) (Ans none (top, (a, 17, res) :: H)) :=
  Pays.of pnK (Nat.le_of_ble_eq_true rfl) (P := [vr a, vi i1, vi i2, vi i3, vn, vn, vn]) 3 rfl (X_applyToPublisher_p ob i1 i2 i3 hf)
def X_commit (NF : Nat) (ob : Rec) (i1 : Int32) : Option (Int32 × Rec) :=
  (X_checkOpenSlot ob i1).bind fun r1 =>
  if r1 = (0 : Int32) then
    (X_logFull ob).bind fun r4 =>
    if r4 = (0 : Int32) then
      chk (8 : Int32) i1 <|
      bind2 (X_append ob (4 : Int32) i1 (0 : Int32) (0 : Int32)) fun r8 q9 =>
      chk (129 : Int32) r8 <|
      (X_applyToPublisher NF (sA q9 4 r8 (gA ob 6 i1)) i1 (gA ob 6 i1) r8).bind fun q12 =>
      chk (8 : Int32) i1 <|
      some (r8, (sA q12 5 i1 (0 : Int32)))
    else
      some ((-4 : Int32), ob)
  else
    some (r1, ob)
set_option maxRecDepth 65536 in
set_option maxHeartbeats 4000000 in
theorem X_commit_p {C : Ctx} {top : Nat} {a : Nat} {H : List (Nat × Nat × Rec)} {res : Int32 × Rec} {NF : Nat} (ob : Rec) (i1 : Int32) (hf : X_commit NF ob i1 = some res) : Runs C B11 0 0 0 [vr a, vi i1, vn, vn, vn] [] (top, (a, 17, ob) :: H) (Ans (some (.int res.1)) (top, (a, 17, res.2) :: H)) := by
  delta X_commit at hf
  refine Runs.aloadN d11_0 rfl <| Runs.iloadN d11_1 rfl <| ?_
  refine bind_el hf fun r1 hg2 hf => ?_
  refine Runs.callP (N := B9) (W := 0) (as := [.int i1]) (S' := []) d11_2 w96 w97 w98 rfl cw9 ar9 rk11_9_0 (by decide) rfl rfl (X_checkOpenSlot_pay hg2) <| ans1 <| Runs.istoreN (P' := [vr a, vi i1, vi r1, vn, vn]) d11_5 (by decide) rfl <| Runs.iloadN d11_6 rfl <| ?_
  refine ite_el hf (fun hc3 hf => ?_) (fun hc3 hf => ?_)
  · refine Runs.ifY (pc' := 12) d11_7 (teq hc3).1 (by decide) <| ?_
    refine Runs.aloadN d11_12 rfl <| ?_
    refine bind_el hf fun r4 hg5 hf => ?_
    refine Runs.callP (N := B5) (W := 0) (as := []) (S' := []) d11_13 w79 w80 w81 rfl cw5 ar5 rk11_5_0 (by decide) rfl rfl (X_logFull_pay hg5) <| ans1 <| ?_
    refine ite_el hf (fun hc6 hf => ?_) (fun hc6 hf => ?_)
    · refine Runs.ifY (pc' := 22) d11_16 (teq hc6).1 (by decide) <| ?_
      refine Runs.aloadN d11_22 rfl <| Runs.getA d11_23 fA_6 w23 (by decide) <| Runs.iloadN d11_26 rfl <| ?_
      refine chk_el hf fun hi7 hf => ?_
      refine Runs.ialoadA d11_27 fA_6 (by decide) hi7 <| Runs.istoreN (P' := [vr a, vi i1, vi r1, vi (gA ob 6 i1), vn]) d11_28 (by decide) rfl <| Runs.aloadN d11_29 rfl <| Runs.iconst d11_30 ci_4 <| Runs.iloadN d11_31 rfl <| Runs.iconst d11_32 ci_0 <| Runs.iconst d11_33 ci_0 <| ?_
      refine bind2_el hf fun r8 q9 hg10 hf => ?_
      refine Runs.callP (N := B6) (W := 0) (as := [.int (4 : Int32), .int i1, .int (0 : Int32), .int (0 : Int32)]) (S' := []) d11_34 w83 w84 w85 rfl cw6 ar6 rk11_6_0 (by decide) rfl rfl (X_append_pay hg10) <| ans1 <| Runs.istore (P' := [vr a, vi i1, vi r1, vi (gA ob 6 i1), vi r8]) d11_37 (by decide) rfl <| Runs.aloadN d11_39 rfl <| Runs.getA d11_40 fA_4 w18 (by decide) <| Runs.iload d11_43 rfl <| Runs.iloadN d11_45 rfl <| ?_
      refine chk_el hf fun hi11 hf => ?_
      refine Runs.iastoreA d11_46 fA_4 (by decide) hi11 <| Runs.aloadN d11_47 rfl <| Runs.iloadN d11_48 rfl <| Runs.iloadN d11_49 rfl <| Runs.iload d11_50 rfl <| ?_
      refine bind_el hf fun q12 hg13 hf => ?_
      refine Runs.callP (N := B12) (W := 0) (as := [.int i1, .int (gA ob 6 i1), .int r8]) (S' := []) d11_52 w109 w110 w111 rfl cw12 ar12 rk11_12_0 (by decide) rfl rfl (X_applyToPublisher_pay hg13) <| ans0 <| Runs.aloadN d11_55 rfl <| Runs.getA d11_56 fA_5 w21 (by decide) <| Runs.iloadN d11_59 rfl <| Runs.iconst d11_60 ci_0 <| ?_
      refine chk_el hf fun hi14 hf => ?_
      obtain rfl := Option.some.inj hf
      exact Runs.bastoreA (y := (0 : Int32)) d11_61 fA_5 (by decide) hi14 rfl <| Runs.iload d11_62 rfl <| Runs.retI d11_64 rfl ⟨by decide, by decide⟩ ⟨rfl, rfl⟩
    · refine Runs.ifN d11_16 (feq hc6).1 <| ?_
      obtain rfl := Option.some.inj hf
      exact Runs.bipush d11_19 cb_m4 <| Runs.retI d11_21 rfl ⟨by decide, by decide⟩ ⟨rfl, rfl⟩
  · refine Runs.ifN d11_7 (feq hc3).1 <| ?_
    obtain rfl := Option.some.inj hf
    exact Runs.iloadN d11_10 rfl <| Runs.retI d11_11 rfl ⟨by decide, by decide⟩ ⟨rfl, rfl⟩
theorem X_commit_pay {C : Ctx} {top : Nat} {a : Nat} {H : List (Nat × Nat × Rec)} {res : Int32 × Rec} {NF : Nat} {ob : Rec} {i1 : Int32} (hf : X_commit NF ob i1 = some res) : Pays C B11 [.ref a, .int i1] (top, (a, 17, ob) :: H) (Ans (some (.int res.1)) (top, (a, 17, res.2) :: H)) :=
  Pays.of pnK (Nat.le_of_ble_eq_true rfl) (P := [vr a, vi i1, vn, vn, vn]) 3 rfl (X_commit_p ob i1 hf)
def X_pubRow (ob : Rec) (i1 : Int32) : Option (Int64) :=
  (X_validKey ob i1).bind fun r1 =>
  if r1 = (0 : Int32) then
    some (4294967296 : Int64)
  else
    chk (32 : Int32) i1 <|
    if (gA ob 7 i1) = (0 : Int32) then
      some (4294967296 : Int64)
    else
      chk (32 : Int32) i1 <|
      some (gA ob 8 i1).toInt64
set_option maxRecDepth 65536 in
set_option maxHeartbeats 4000000 in
theorem X_pubRow_p {C : Ctx} {top : Nat} {a : Nat} {H : List (Nat × Nat × Rec)} {ob : Rec} {res : Int64} (i1 : Int32) (hf : X_pubRow ob i1 = some res) : Runs C B13 0 0 0 [vr a, vi i1] [] (top, (a, 17, ob) :: H) (Ans (some (.long res)) (top, (a, 17, ob) :: H)) := by
  delta X_pubRow at hf
  refine Runs.aloadN d13_0 rfl <| Runs.iloadN d13_1 rfl <| ?_
  refine bind_el hf fun r1 hg2 hf => ?_
  refine Runs.callP (N := B10) (W := 0) (as := [.int i1]) (S' := []) d13_2 w100 w101 w102 rfl cw10 ar10 rk13_10_0 (by decide) rfl rfl (X_validKey_pay hg2) <| ans1 <| ?_
  refine ite_el hf (fun hc3 hf => ?_) (fun hc3 hf => ?_)
  · refine Runs.ifN d13_5 (teq hc3).2 <| ?_
    obtain rfl := Option.some.inj hf
    exact Runs.ldc2 d13_8 w159 <| Runs.retJ d13_11 rfl ⟨by decide, by decide⟩ ⟨rfl, rfl⟩
  · refine Runs.ifY (pc' := 12) d13_5 (feq hc3).2 (by decide) <| ?_
    refine Runs.aloadN d13_12 rfl <| Runs.getA d13_13 fA_7 w25 (by decide) <| Runs.iloadN d13_16 rfl <| ?_
    refine chk_el hf fun hi4 hf => ?_
    refine Runs.baloadA d13_17 fA_7 (by decide) hi4 <| ?_
    refine ite_el hf (fun hc5 hf => ?_) (fun hc5 hf => ?_)
    · refine Runs.ifY (pc' := 29) d13_18 (teq hc5).1 (by decide) <| ?_
      obtain rfl := Option.some.inj hf
      exact Runs.ldc2 d13_29 w159 <| Runs.retJ d13_32 rfl ⟨by decide, by decide⟩ ⟨rfl, rfl⟩
    · refine Runs.ifN d13_18 (feq hc5).1 <| ?_
      refine Runs.aloadN d13_21 rfl <| Runs.getA d13_22 fA_8 w27 (by decide) <| Runs.iloadN d13_25 rfl <| ?_
      refine chk_el hf fun hi6 hf => ?_
      obtain rfl := Option.some.inj hf
      exact Runs.ialoadA d13_26 fA_8 (by decide) hi6 <| Runs.i2l d13_27 <| Runs.retJ d13_28 rfl ⟨by decide, by decide⟩ ⟨rfl, rfl⟩
theorem X_pubRow_pay {C : Ctx} {top : Nat} {a : Nat} {H : List (Nat × Nat × Rec)} {ob : Rec} {res : Int64} {i1 : Int32} (hf : X_pubRow ob i1 = some res) : Pays C B13 [.ref a, .int i1] (top, (a, 17, ob) :: H) (Ans (some (.long res)) (top, (a, 17, ob) :: H)) :=
  Pays.of pnK (Nat.le_of_ble_eq_true rfl) (P := [vr a, vi i1]) 0 rfl (X_pubRow_p i1 hf)
def X_nextCommit_w13 (NF : Nat) (ob : Rec) (k13 : Int32 → Option (Int32)) (i3 : Int32) : Option (Int32) :=
  if (gI ob 4) < i3 then
    some (0 : Int32)
  else
    if i3 < (129 : Int32) then
      chk (129 : Int32) i3 <|
      if (gA ob 0 i3) = (4 : Int32) then
        some i3
      else
        k13 (i3 + (1 : Int32))
    else
      some (0 : Int32)
def X_nextCommit_l13 (NF : Nat) (ob : Rec) : Nat → Int32 → Option (Int32)
  | 0, _ => none
  | n + 1, i3 => X_nextCommit_w13 NF ob (X_nextCommit_l13 NF ob n) i3
set_option maxRecDepth 65536 in
set_option maxHeartbeats 4000000 in
theorem X_nextCommit_w13_p {C : Ctx} {top : Nat} {a : Nat} {H : List (Nat × Nat × Rec)} {ob : Rec} {res : Int32} {NF : Nat} (k13 : Int32 → Option (Int32)) (hk13 : ∀ (i3 : Int32), k13 i3 = some res → Runs C B15 0 0 13 [vr a, vn, vn, vi i3] [] (top, (a, 17, ob) :: H) (Ans (some (.int res)) (top, (a, 17, ob) :: H))) (i3 : Int32) (hf : X_nextCommit_w13 NF ob k13 i3 = some res) : Runs C B15 0 0 13 [vr a, vn, vn, vi i3] [] (top, (a, 17, ob) :: H) (Ans (some (.int res)) (top, (a, 17, ob) :: H)) := by
  delta X_nextCommit_w13 at hf
  refine Runs.iloadN d15_13 rfl <| Runs.aloadN d15_14 rfl <| Runs.getI d15_15 w57 fS_4 <| ?_
  refine ite_el hf (fun hc1 hf => ?_) (fun hc1 hf => ?_)
  · refine Runs.icY (pc' := 46) d15_18 (tlt hc1).2.2.1 (by decide) <| ?_
    obtain rfl := Option.some.inj hf
    exact Runs.iconst d15_46 ci_0 <| Runs.retI d15_47 rfl ⟨by decide, by decide⟩ ⟨rfl, rfl⟩
  · refine Runs.icN d15_18 (flt hc1).2.2.1 <| ?_
    refine Runs.iloadN d15_21 rfl <| Runs.sipush d15_22 cs_129 <| ?_
    refine ite_el hf (fun hc2 hf => ?_) (fun hc2 hf => ?_)
    · refine Runs.icN d15_25 (tlt hc2).2.1 <| ?_
      refine Runs.aloadN d15_28 rfl <| Runs.getA d15_29 fA_0 w10 (by decide) <| Runs.iloadN d15_32 rfl <| ?_
      refine chk_el hf fun hi3 hf => ?_
      refine Runs.ialoadA d15_33 fA_0 (by decide) hi3 <| Runs.iconst d15_34 ci_4 <| ?_
      refine ite_el hf (fun hc4 hf => ?_) (fun hc4 hf => ?_)
      · refine Runs.icN d15_35 (teq hc4).2 <| ?_
        obtain rfl := Option.some.inj hf
        exact Runs.iloadN d15_38 rfl <| Runs.retI d15_39 rfl ⟨by decide, by decide⟩ ⟨rfl, rfl⟩
      · refine Runs.icY (pc' := 40) d15_35 (feq hc4).2 (by decide) <| ?_
        exact Runs.iinc (P' := [vr a, vn, vn, vi (i3 + (1 : Int32))]) d15_40 ci_1 rfl (by decide) rfl <| Runs.goto (pc' := 13) d15_43 (by decide) <| hk13 (i3 + (1 : Int32)) hf
    · refine Runs.icY (pc' := 46) d15_25 (flt hc2).2.1 (by decide) <| ?_
      obtain rfl := Option.some.inj hf
      exact Runs.iconst d15_46 ci_0 <| Runs.retI d15_47 rfl ⟨by decide, by decide⟩ ⟨rfl, rfl⟩
theorem X_nextCommit_l13_p {C : Ctx} {top : Nat} {a : Nat} {H : List (Nat × Nat × Rec)} {ob : Rec} {res : Int32} {NF : Nat} (n : Nat) (i3 : Int32) (hf : X_nextCommit_l13 NF ob n i3 = some res) : Runs C B15 0 0 13 [vr a, vn, vn, vi i3] [] (top, (a, 17, ob) :: H) (Ans (some (.int res)) (top, (a, 17, ob) :: H)) := by
  induction n generalizing i3 with
  | zero => cases (show (none : Option (Int32)) = some res from hf)
  | succ n ih => exact X_nextCommit_w13_p (X_nextCommit_l13 NF ob n) (fun i3 h => ih _ h) i3 hf
def X_nextCommit (NF : Nat) (ob : Rec) (i1 : Int32) : Option (Int32) :=
  if (i1 + (1 : Int32)) < (1 : Int32) then
    X_nextCommit_l13 NF ob NF (1 : Int32)
  else
    X_nextCommit_l13 NF ob NF (i1 + (1 : Int32))
set_option maxRecDepth 65536 in
set_option maxHeartbeats 4000000 in
theorem X_nextCommit_p {C : Ctx} {top : Nat} {a : Nat} {H : List (Nat × Nat × Rec)} {ob : Rec} {res : Int32} {NF : Nat} (i1 : Int32) (hf : X_nextCommit NF ob i1 = some res) : Runs C B15 0 0 0 [vr a, vi i1, vn, vn] [] (top, (a, 17, ob) :: H) (Ans (some (.int res)) (top, (a, 17, ob) :: H)) := by
  delta X_nextCommit at hf
  refine Runs.iloadN d15_0 rfl <| Runs.iconst d15_1 ci_1 <| Runs.iadd d15_2 <| Runs.istoreN (P' := [vr a, vi i1, vi (i1 + (1 : Int32)), vn]) d15_3 (by decide) rfl <| Runs.iloadN d15_4 rfl <| Runs.iconst d15_5 ci_1 <| ?_
  refine ite_el hf (fun hc5 hf => ?_) (fun hc5 hf => ?_)
  · refine Runs.icN d15_6 (tlt hc5).2.1 <| ?_
    exact Runs.iconst d15_9 ci_1 <| Runs.istoreN (P' := [vr a, vi i1, vi (1 : Int32), vn]) d15_10 (by decide) rfl <| Runs.iloadN d15_11 rfl <| Runs.istoreN (P' := [vr a, vi i1, vi (1 : Int32), vi (1 : Int32)]) d15_12 (by decide) rfl <| Runs.forget [true, false, false, true] rfl <| X_nextCommit_l13_p NF (1 : Int32) hf
  · refine Runs.icY (pc' := 11) d15_6 (flt hc5).2.1 (by decide) <| ?_
    exact Runs.iloadN d15_11 rfl <| Runs.istoreN (P' := [vr a, vi i1, vi (i1 + (1 : Int32)), vi (i1 + (1 : Int32))]) d15_12 (by decide) rfl <| Runs.forget [true, false, false, true] rfl <| X_nextCommit_l13_p NF (i1 + (1 : Int32)) hf
theorem X_nextCommit_pay {C : Ctx} {top : Nat} {a : Nat} {H : List (Nat × Nat × Rec)} {ob : Rec} {res : Int32} {NF : Nat} {i1 : Int32} (hf : X_nextCommit NF ob i1 = some res) : Pays C B15 [.ref a, .int i1] (top, (a, 17, ob) :: H) (Ans (some (.int res)) (top, (a, 17, ob) :: H)) :=
  Pays.of pnK (Nat.le_of_ble_eq_true rfl) (P := [vr a, vi i1, vn, vn]) 2 rfl (X_nextCommit_p i1 hf)
def X_enqueue_b34 (ob : Rec) (i1 : Int32) (i2 : Int32) (i3 : Int32) (i4 : Int32) (i5 : Int32) : Option (Rec) :=
  chk (128 : Int32) i5 <|
  chk (128 : Int32) i5 <|
  chk (128 : Int32) i5 <|
  chk (128 : Int32) i5 <|
  some (sI (sA (sA (sA (sA ob 13 i5 i1) 14 i5 i2) 15 i5 i3) 16 i5 i4) 9 ((gI ob 9) + (1 : Int32)))
set_option maxRecDepth 65536 in
set_option maxHeartbeats 4000000 in
theorem X_enqueue_b34_p {C : Ctx} {top : Nat} {a : Nat} {H : List (Nat × Nat × Rec)} {res : Rec} (ob : Rec) (i1 : Int32) (i2 : Int32) (i3 : Int32) (i4 : Int32) (i5 : Int32) (hf : X_enqueue_b34 ob i1 i2 i3 i4 i5 = some res) : Runs C B17 0 0 34 [vr a, vi i1, vi i2, vi i3, vi i4, vi i5] [] (top, (a, 17, ob) :: H) (Ans none (top, (a, 17, res) :: H)) := by
  delta X_enqueue_b34 at hf
  refine Runs.aloadN d17_34 rfl <| Runs.getA d17_35 fA_13 w37 (by decide) <| Runs.iload d17_38 rfl <| Runs.iloadN d17_40 rfl <| ?_
  refine chk_el hf fun hi1 hf => ?_
  refine Runs.iastoreA d17_41 fA_13 (by decide) hi1 <| Runs.aloadN d17_42 rfl <| Runs.getA d17_43 fA_14 w39 (by decide) <| Runs.iload d17_46 rfl <| Runs.iloadN d17_48 rfl <| ?_
  refine chk_el hf fun hi2 hf => ?_
  refine Runs.iastoreA d17_49 fA_14 (by decide) hi2 <| Runs.aloadN d17_50 rfl <| Runs.getA d17_51 fA_15 w41 (by decide) <| Runs.iload d17_54 rfl <| Runs.iloadN d17_56 rfl <| ?_
  refine chk_el hf fun hi3 hf => ?_
  refine Runs.iastoreA d17_57 fA_15 (by decide) hi3 <| Runs.aloadN d17_58 rfl <| Runs.getA d17_59 fA_16 w43 (by decide) <| Runs.iload d17_62 rfl <| Runs.iload d17_64 rfl <| ?_
  refine chk_el hf fun hi4 hf => ?_
  obtain rfl := Option.some.inj hf
  exact Runs.iastoreA d17_66 fA_16 (by decide) hi4 <| Runs.aloadN d17_67 rfl <| Runs.dup d17_68 rfl <| Runs.getI d17_69 w67 fS_9 <| Runs.iconst d17_72 ci_1 <| Runs.iadd d17_73 <| Runs.putI d17_74 w67 fS_9 (Or.inl w68) <| Runs.retV d17_77 rfl ⟨by decide, by decide⟩ ⟨rfl, rfl⟩
def X_enqueue (ob : Rec) (i1 : Int32) (i2 : Int32) (i3 : Int32) (i4 : Int32) : Option (Rec) :=
  if (gI ob 9) < (128 : Int32) then
    if (((gI ob 8) + (gI ob 9)) % (128 : Int32)) < (0 : Int32) then
      X_enqueue_b34 ob i1 i2 i3 i4 (0 : Int32)
    else
      X_enqueue_b34 ob i1 i2 i3 i4 (((gI ob 8) + (gI ob 9)) % (128 : Int32))
  else
    some ob
set_option maxRecDepth 65536 in
set_option maxHeartbeats 4000000 in
theorem X_enqueue_p {C : Ctx} {top : Nat} {a : Nat} {H : List (Nat × Nat × Rec)} {res : Rec} (ob : Rec) (i1 : Int32) (i2 : Int32) (i3 : Int32) (i4 : Int32) (hf : X_enqueue ob i1 i2 i3 i4 = some res) : Runs C B17 0 0 0 [vr a, vi i1, vi i2, vi i3, vi i4, vn] [] (top, (a, 17, ob) :: H) (Ans none (top, (a, 17, res) :: H)) := by
  delta X_enqueue at hf
  refine Runs.aloadN d17_0 rfl <| Runs.getI d17_1 w67 fS_9 <| Runs.sipush d17_4 cs_128 <| ?_
  refine ite_el hf (fun hc5 hf => ?_) (fun hc5 hf => ?_)
  · refine Runs.icY (pc' := 11) d17_7 (tlt hc5).1 (by decide) <| ?_
    refine Runs.aloadN d17_11 rfl <| Runs.getI d17_12 w65 fS_8 <| Runs.aloadN d17_15 rfl <| Runs.getI d17_16 w67 fS_9 <| Runs.iadd d17_19 <| Runs.sipush d17_20 cs_128 <| Runs.irem d17_23 (by decide) <| Runs.istore (P' := [vr a, vi i1, vi i2, vi i3, vi i4, vi (((gI ob 8) + (gI ob 9)) % (128 : Int32))]) d17_24 (by decide) rfl <| Runs.iload d17_26 rfl <| ?_
    refine ite_el hf (fun hc6 hf => ?_) (fun hc6 hf => ?_)
    · refine Runs.ifN d17_28 (tlt hc6).2.1 <| ?_
      exact Runs.iconst d17_31 ci_0 <| Runs.istore (P' := [vr a, vi i1, vi i2, vi i3, vi i4, vi (0 : Int32)]) d17_32 (by decide) rfl <| X_enqueue_b34_p ob i1 i2 i3 i4 (0 : Int32) hf
    · exact Runs.ifY (pc' := 34) d17_28 (flt hc6).2.1 (by decide) <| X_enqueue_b34_p ob i1 i2 i3 i4 (((gI ob 8) + (gI ob 9)) % (128 : Int32)) hf
  · refine Runs.icN d17_7 (flt hc5).1 <| ?_
    obtain rfl := Option.some.inj hf
    exact Runs.retV d17_10 rfl ⟨by decide, by decide⟩ ⟨rfl, rfl⟩
theorem X_enqueue_pay {C : Ctx} {top : Nat} {a : Nat} {H : List (Nat × Nat × Rec)} {res : Rec} {ob : Rec} {i1 : Int32} {i2 : Int32} {i3 : Int32} {i4 : Int32} (hf : X_enqueue ob i1 i2 i3 i4 = some res) : Pays C B17 [.ref a, .int i1, .int i2, .int i3, .int i4] (top, (a, 17, ob) :: H) (Ans none (top, (a, 17, res) :: H)) :=
  Pays.of pnK (Nat.le_of_ble_eq_true rfl) (P := [vr a, vi i1, vi i2, vi i3, vi i4, vn]) 1 rfl (X_enqueue_p ob i1 i2 i3 i4 hf)
def X_emitTransaction_b75 (NF : Nat) (k26 : Rec → Int32 → Int32 → Int32 → Option (Rec)) (ob : Rec) (i1 : Int32) (i2 : Int32) (i4 : Int32) (i5 : Int32) : Option (Rec) :=
  chk (129 : Int32) i4 <|
  chk (129 : Int32) i4 <|
  (X_enqueue ob i5 (gA ob 2 i4) (gA ob 3 i4) i1).bind fun q10 =>
  k26 q10 i1 i2 (i4 + (1 : Int32))
set_option maxRecDepth 65536 in
set_option maxHeartbeats 4000000 in
theorem X_emitTransaction_b75_p {C : Ctx} {top : Nat} {a : Nat} {H : List (Nat × Nat × Rec)} {res : Rec} {NF : Nat} (k26 : Rec → Int32 → Int32 → Int32 → Option (Rec)) (hk26 : ∀ (ob : Rec) (i1 : Int32) (i2 : Int32) (i4 : Int32), k26 ob i1 i2 i4 = some res → Runs C B16 0 0 26 [vr a, vi i1, vi i2, vn, vi i4, vn] [] (top, (a, 17, ob) :: H) (Ans none (top, (a, 17, res) :: H))) (ob : Rec) (i1 : Int32) (i2 : Int32) (i4 : Int32) (i5 : Int32) (hf : X_emitTransaction_b75 NF k26 ob i1 i2 i4 i5 = some res) : Runs C B16 0 0 75 [vr a, vi i1, vi i2, vn, vi i4, vi i5] [] (top, (a, 17, ob) :: H) (Ans none (top, (a, 17, res) :: H)) := by
  delta X_emitTransaction_b75 at hf
  refine Runs.aloadN d16_75 rfl <| Runs.iload d16_76 rfl <| Runs.aloadN d16_78 rfl <| Runs.getA d16_79 fA_2 w14 (by decide) <| Runs.iload d16_82 rfl <| ?_
  refine chk_el hf fun hi8 hf => ?_
  refine Runs.ialoadA d16_84 fA_2 (by decide) hi8 <| Runs.aloadN d16_85 rfl <| Runs.getA d16_86 fA_3 w16 (by decide) <| Runs.iload d16_89 rfl <| ?_
  refine chk_el hf fun hi9 hf => ?_
  refine Runs.ialoadA d16_91 fA_3 (by decide) hi9 <| Runs.iloadN d16_92 rfl <| ?_
  refine bind_el hf fun q10 hg11 hf => ?_
  exact Runs.callP (N := B17) (W := 0) (as := [.int i5, .int (gA ob 2 i4), .int (gA ob 3 i4), .int i1]) (S' := []) d16_93 w131 w132 w133 rfl cw17 ar17 rk16_17_0 (by decide) rfl rfl (X_enqueue_pay hg11) <| ans0 <| Runs.iinc (P' := [vr a, vi i1, vi i2, vn, vi (i4 + (1 : Int32)), vi i5]) d16_96 ci_1 rfl (by decide) rfl <| Runs.goto (pc' := 26) d16_99 (by decide) <| Runs.forget [true, true, true, false, true, false] rfl <| hk26 q10 i1 i2 (i4 + (1 : Int32)) hf
def X_emitTransaction_b102 (NF : Nat) (ob : Rec) (i1 : Int32) : Option (Rec) :=
  (X_enqueue ob (4 : Int32) (0 : Int32) (0 : Int32) i1).bind fun q12 =>
  some q12
set_option maxRecDepth 65536 in
set_option maxHeartbeats 4000000 in
theorem X_emitTransaction_b102_p {C : Ctx} {top : Nat} {a : Nat} {H : List (Nat × Nat × Rec)} {res : Rec} {NF : Nat} (ob : Rec) (i1 : Int32) (hf : X_emitTransaction_b102 NF ob i1 = some res) : Runs C B16 0 0 102 [vr a, vi i1, vn, vn, vn, vn] [] (top, (a, 17, ob) :: H) (Ans none (top, (a, 17, res) :: H)) := by
  delta X_emitTransaction_b102 at hf
  refine Runs.aloadN d16_102 rfl <| Runs.iconst d16_103 ci_4 <| Runs.iconst d16_104 ci_0 <| Runs.iconst d16_105 ci_0 <| Runs.iloadN d16_106 rfl <| ?_
  refine bind_el hf fun q12 hg13 hf => ?_
  obtain rfl := Option.some.inj hf
  exact Runs.callP (N := B17) (W := 0) (as := [.int (4 : Int32), .int (0 : Int32), .int (0 : Int32), .int i1]) (S' := []) d16_107 w131 w132 w133 rfl cw17 ar17 rk16_17_0 (by decide) rfl rfl (X_enqueue_pay hg13) <| ans0 <| Runs.retV d16_110 rfl ⟨by decide, by decide⟩ ⟨rfl, rfl⟩
def X_emitTransaction_w26 (NF : Nat) (k26 : Rec → Int32 → Int32 → Int32 → Option (Rec)) (ob : Rec) (i1 : Int32) (i2 : Int32) (i4 : Int32) : Option (Rec) :=
  if i4 < i1 then
    if i4 < (129 : Int32) then
      chk (129 : Int32) i4 <|
      if (gA ob 1 i4) = i2 then
        chk (129 : Int32) i4 <|
        if (gA ob 0 i4) = (2 : Int32) then
          X_emitTransaction_b75 NF k26 ob i1 i2 i4 (gA ob 0 i4)
        else
          if (gA ob 0 i4) = (3 : Int32) then
            X_emitTransaction_b75 NF k26 ob i1 i2 i4 (gA ob 0 i4)
          else
            k26 ob i1 i2 (i4 + (1 : Int32))
      else
        k26 ob i1 i2 (i4 + (1 : Int32))
    else
      X_emitTransaction_b102 NF ob i1
  else
    X_emitTransaction_b102 NF ob i1
def X_emitTransaction_l26 (NF : Nat) : Nat → Rec → Int32 → Int32 → Int32 → Option (Rec)
  | 0, _, _, _, _ => none
  | n + 1, ob, i1, i2, i4 => X_emitTransaction_w26 NF (X_emitTransaction_l26 NF n) ob i1 i2 i4
set_option maxRecDepth 65536 in
set_option maxHeartbeats 4000000 in
theorem X_emitTransaction_w26_p {C : Ctx} {top : Nat} {a : Nat} {H : List (Nat × Nat × Rec)} {res : Rec} {NF : Nat} (k26 : Rec → Int32 → Int32 → Int32 → Option (Rec)) (hk26 : ∀ (ob : Rec) (i1 : Int32) (i2 : Int32) (i4 : Int32), k26 ob i1 i2 i4 = some res → Runs C B16 0 0 26 [vr a, vi i1, vi i2, vn, vi i4, vn] [] (top, (a, 17, ob) :: H) (Ans none (top, (a, 17, res) :: H))) (ob : Rec) (i1 : Int32) (i2 : Int32) (i4 : Int32) (hf : X_emitTransaction_w26 NF k26 ob i1 i2 i4 = some res) : Runs C B16 0 0 26 [vr a, vi i1, vi i2, vn, vi i4, vn] [] (top, (a, 17, ob) :: H) (Ans none (top, (a, 17, res) :: H)) := by
  delta X_emitTransaction_w26 at hf
  refine Runs.iload d16_26 rfl <| Runs.iloadN d16_28 rfl <| ?_
  refine ite_el hf (fun hc1 hf => ?_) (fun hc1 hf => ?_)
  · refine Runs.icN d16_29 (tlt hc1).2.1 <| ?_
    refine Runs.iload d16_32 rfl <| Runs.sipush d16_34 cs_129 <| ?_
    refine ite_el hf (fun hc2 hf => ?_) (fun hc2 hf => ?_)
    · refine Runs.icN d16_37 (tlt hc2).2.1 <| ?_
      refine Runs.aloadN d16_40 rfl <| Runs.getA d16_41 fA_1 w12 (by decide) <| Runs.iload d16_44 rfl <| ?_
      refine chk_el hf fun hi3 hf => ?_
      refine Runs.ialoadA d16_46 fA_1 (by decide) hi3 <| Runs.iloadN d16_47 rfl <| ?_
      refine ite_el hf (fun hc4 hf => ?_) (fun hc4 hf => ?_)
      · refine Runs.icY (pc' := 54) d16_48 (teq hc4).1 (by decide) <| ?_
        refine Runs.aloadN d16_54 rfl <| Runs.getA d16_55 fA_0 w10 (by decide) <| Runs.iload d16_58 rfl <| ?_
        refine chk_el hf fun hi5 hf => ?_
        refine Runs.ialoadA d16_60 fA_0 (by decide) hi5 <| Runs.istore (P' := [vr a, vi i1, vi i2, vn, vi i4, vi (gA ob 0 i4)]) d16_61 (by decide) rfl <| Runs.iload d16_63 rfl <| Runs.iconst d16_65 ci_2 <| ?_
        refine ite_el hf (fun hc6 hf => ?_) (fun hc6 hf => ?_)
        · exact Runs.icY (pc' := 75) d16_66 (teq hc6).1 (by decide) <| X_emitTransaction_b75_p k26 hk26 ob i1 i2 i4 (gA ob 0 i4) hf
        · refine Runs.icN d16_66 (feq hc6).1 <| ?_
          refine Runs.iload d16_69 rfl <| Runs.iconst d16_71 ci_3 <| ?_
          refine ite_el hf (fun hc7 hf => ?_) (fun hc7 hf => ?_)
          · exact Runs.icN d16_72 (teq hc7).2 <| X_emitTransaction_b75_p k26 hk26 ob i1 i2 i4 (gA ob 0 i4) hf
          · refine Runs.icY (pc' := 96) d16_72 (feq hc7).2 (by decide) <| ?_
            exact Runs.iinc (P' := [vr a, vi i1, vi i2, vn, vi (i4 + (1 : Int32)), vi (gA ob 0 i4)]) d16_96 ci_1 rfl (by decide) rfl <| Runs.goto (pc' := 26) d16_99 (by decide) <| Runs.forget [true, true, true, false, true, false] rfl <| hk26 ob i1 i2 (i4 + (1 : Int32)) hf
      · refine Runs.icN d16_48 (feq hc4).1 <| ?_
        exact Runs.goto (pc' := 96) d16_51 (by decide) <| Runs.iinc (P' := [vr a, vi i1, vi i2, vn, vi (i4 + (1 : Int32)), vn]) d16_96 ci_1 rfl (by decide) rfl <| Runs.goto (pc' := 26) d16_99 (by decide) <| hk26 ob i1 i2 (i4 + (1 : Int32)) hf
    · exact Runs.icY (pc' := 102) d16_37 (flt hc2).2.1 (by decide) <| Runs.forget [true, true, false, false, false, false] rfl <| X_emitTransaction_b102_p ob i1 hf
  · exact Runs.icY (pc' := 102) d16_29 (flt hc1).2.1 (by decide) <| Runs.forget [true, true, false, false, false, false] rfl <| X_emitTransaction_b102_p ob i1 hf
theorem X_emitTransaction_l26_p {C : Ctx} {top : Nat} {a : Nat} {H : List (Nat × Nat × Rec)} {res : Rec} {NF : Nat} (n : Nat) (ob : Rec) (i1 : Int32) (i2 : Int32) (i4 : Int32) (hf : X_emitTransaction_l26 NF n ob i1 i2 i4 = some res) : Runs C B16 0 0 26 [vr a, vi i1, vi i2, vn, vi i4, vn] [] (top, (a, 17, ob) :: H) (Ans none (top, (a, 17, res) :: H)) := by
  induction n generalizing ob i1 i2 i4 with
  | zero => cases (show (none : Option (Rec)) = some res from hf)
  | succ n ih => exact X_emitTransaction_w26_p (X_emitTransaction_l26 NF n) (fun ob i1 i2 i4 h => ih _ _ _ _ h) ob i1 i2 i4 hf
def X_emitTransaction (NF : Nat) (ob : Rec) (i1 : Int32) : Option (Rec) :=
  chk (129 : Int32) i1 <|
  chk (129 : Int32) i1 <|
  if ((gA ob 4 i1) + (1 : Int32)) < (1 : Int32) then
    X_emitTransaction_l26 NF NF ob i1 (gA ob 1 i1) (1 : Int32)
  else
    X_emitTransaction_l26 NF NF ob i1 (gA ob 1 i1) ((gA ob 4 i1) + (1 : Int32))
set_option maxRecDepth 65536 in
set_option maxHeartbeats 4000000 in
theorem X_emitTransaction_p {C : Ctx} {top : Nat} {a : Nat} {H : List (Nat × Nat × Rec)} {res : Rec} {NF : Nat} (ob : Rec) (i1 : Int32) (hf : X_emitTransaction NF ob i1 = some res) : Runs C B16 0 0 0 [vr a, vi i1, vn, vn, vn, vn] [] (top, (a, 17, ob) :: H) (Ans none (top, (a, 17, res) :: H)) := by
  delta X_emitTransaction at hf
  refine Runs.aloadN d16_0 rfl <| Runs.getA d16_1 fA_1 w12 (by decide) <| Runs.iloadN d16_4 rfl <| ?_
  refine chk_el hf fun hi14 hf => ?_
  refine Runs.ialoadA d16_5 fA_1 (by decide) hi14 <| Runs.istoreN (P' := [vr a, vi i1, vi (gA ob 1 i1), vn, vn, vn]) d16_6 (by decide) rfl <| Runs.aloadN d16_7 rfl <| Runs.getA d16_8 fA_4 w18 (by decide) <| Runs.iloadN d16_11 rfl <| ?_
  refine chk_el hf fun hi15 hf => ?_
  refine Runs.ialoadA d16_12 fA_4 (by decide) hi15 <| Runs.iconst d16_13 ci_1 <| Runs.iadd d16_14 <| Runs.istoreN (P' := [vr a, vi i1, vi (gA ob 1 i1), vi ((gA ob 4 i1) + (1 : Int32)), vn, vn]) d16_15 (by decide) rfl <| Runs.iloadN d16_16 rfl <| Runs.iconst d16_17 ci_1 <| ?_
  refine ite_el hf (fun hc16 hf => ?_) (fun hc16 hf => ?_)
  · refine Runs.icN d16_18 (tlt hc16).2.1 <| ?_
    exact Runs.iconst d16_21 ci_1 <| Runs.istoreN (P' := [vr a, vi i1, vi (gA ob 1 i1), vi (1 : Int32), vn, vn]) d16_22 (by decide) rfl <| Runs.iloadN d16_23 rfl <| Runs.istore (P' := [vr a, vi i1, vi (gA ob 1 i1), vi (1 : Int32), vi (1 : Int32), vn]) d16_24 (by decide) rfl <| Runs.forget [true, true, true, false, true, false] rfl <| X_emitTransaction_l26_p NF ob i1 (gA ob 1 i1) (1 : Int32) hf
  · refine Runs.icY (pc' := 23) d16_18 (flt hc16).2.1 (by decide) <| ?_
    exact Runs.iloadN d16_23 rfl <| Runs.istore (P' := [vr a, vi i1, vi (gA ob 1 i1), vi ((gA ob 4 i1) + (1 : Int32)), vi ((gA ob 4 i1) + (1 : Int32)), vn]) d16_24 (by decide) rfl <| Runs.forget [true, true, true, false, true, false] rfl <| X_emitTransaction_l26_p NF ob i1 (gA ob 1 i1) ((gA ob 4 i1) + (1 : Int32)) hf
theorem X_emitTransaction_pay {C : Ctx} {top : Nat} {a : Nat} {H : List (Nat × Nat × Rec)} {res : Rec} {NF : Nat} {ob : Rec} {i1 : Int32} (hf : X_emitTransaction NF ob i1 = some res) : Pays C B16 [.ref a, .int i1] (top, (a, 17, ob) :: H) (Ans none (top, (a, 17, res) :: H)) :=
  Pays.of pnK (Nat.le_of_ble_eq_true rfl) (P := [vr a, vi i1, vn, vn, vn, vn]) 4 rfl (X_emitTransaction_p ob i1 hf)
def X_stream_w10 (NF : Nat) (k10 : Rec → Int32 → Int32 → Int32 → Option (Int32 × Rec)) (ob : Rec) (i1 : Int32) (i2 : Int32) (i3 : Int32) : Option (Int32 × Rec) :=
  if i3 < (129 : Int32) then
    if i2 < i1 then
      (X_nextCommit NF ob (gI ob 5)).bind fun r3 =>
      if r3 = (0 : Int32) then
        some (i2, ob)
      else
        (X_emitTransaction NF ob r3).bind fun q6 =>
        k10 (sI q6 5 r3) i1 (i2 + (1 : Int32)) (i3 + (1 : Int32))
    else
      some (i2, ob)
  else
    some (i2, ob)
def X_stream_l10 (NF : Nat) : Nat → Rec → Int32 → Int32 → Int32 → Option (Int32 × Rec)
  | 0, _, _, _, _ => none
  | n + 1, ob, i1, i2, i3 => X_stream_w10 NF (X_stream_l10 NF n) ob i1 i2 i3
set_option maxRecDepth 65536 in
set_option maxHeartbeats 4000000 in
theorem X_stream_w10_p {C : Ctx} {top : Nat} {a : Nat} {H : List (Nat × Nat × Rec)} {res : Int32 × Rec} {NF : Nat} (k10 : Rec → Int32 → Int32 → Int32 → Option (Int32 × Rec)) (hk10 : ∀ (ob : Rec) (i1 : Int32) (i2 : Int32) (i3 : Int32), k10 ob i1 i2 i3 = some res → Runs C B14 0 0 10 [vr a, vi i1, vi i2, vi i3, vn] [] (top, (a, 17, ob) :: H) (Ans (some (.int res.1)) (top, (a, 17, res.2) :: H))) (ob : Rec) (i1 : Int32) (i2 : Int32) (i3 : Int32) (hf : X_stream_w10 NF k10 ob i1 i2 i3 = some res) : Runs C B14 0 0 10 [vr a, vi i1, vi i2, vi i3, vn] [] (top, (a, 17, ob) :: H) (Ans (some (.int res.1)) (top, (a, 17, res.2) :: H)) := by
  delta X_stream_w10 at hf
  refine Runs.iloadN d14_10 rfl <| Runs.sipush d14_11 cs_129 <| ?_
  refine ite_el hf (fun hc1 hf => ?_) (fun hc1 hf => ?_)
  · refine Runs.icN d14_14 (tlt hc1).2.1 <| ?_
    refine Runs.iloadN d14_17 rfl <| Runs.iloadN d14_18 rfl <| ?_
    refine ite_el hf (fun hc2 hf => ?_) (fun hc2 hf => ?_)
    · refine Runs.icN d14_19 (tlt hc2).2.1 <| ?_
      refine Runs.aloadN d14_22 rfl <| Runs.aloadN d14_23 rfl <| Runs.getI d14_24 w59 fS_5 <| ?_
      refine bind_el hf fun r3 hg4 hf => ?_
      refine Runs.callP (N := B15) (W := 0) (as := [.int (gI ob 5)]) (S' := []) d14_27 w123 w124 w125 rfl cw15 ar15 rk14_15_0 (by decide) rfl rfl (X_nextCommit_pay hg4) <| ans1 <| Runs.istore (P' := [vr a, vi i1, vi i2, vi i3, vi r3]) d14_30 (by decide) rfl <| Runs.iload d14_32 rfl <| ?_
      refine ite_el hf (fun hc5 hf => ?_) (fun hc5 hf => ?_)
      · refine Runs.ifN d14_34 (teq hc5).2 <| ?_
        obtain rfl := Option.some.inj hf
        exact Runs.goto (pc' := 61) d14_37 (by decide) <| Runs.iloadN d14_61 rfl <| Runs.retI d14_62 rfl ⟨by decide, by decide⟩ ⟨rfl, rfl⟩
      · refine Runs.ifY (pc' := 40) d14_34 (feq hc5).2 (by decide) <| ?_
        refine Runs.aloadN d14_40 rfl <| Runs.iload d14_41 rfl <| ?_
        refine bind_el hf fun q6 hg7 hf => ?_
        exact Runs.callP (N := B16) (W := 0) (as := [.int r3]) (S' := []) d14_43 w127 w128 w129 rfl cw16 ar16 rk14_16_0 (by decide) rfl rfl (X_emitTransaction_pay hg7) <| ans0 <| Runs.aloadN d14_46 rfl <| Runs.iload d14_47 rfl <| Runs.putI d14_49 w59 fS_5 (Or.inl w60) <| Runs.iinc (P' := [vr a, vi i1, vi (i2 + (1 : Int32)), vi i3, vi r3]) d14_52 ci_1 rfl (by decide) rfl <| Runs.iinc (P' := [vr a, vi i1, vi (i2 + (1 : Int32)), vi (i3 + (1 : Int32)), vi r3]) d14_55 ci_1 rfl (by decide) rfl <| Runs.goto (pc' := 10) d14_58 (by decide) <| Runs.forget [true, true, true, true, false] rfl <| hk10 (sI q6 5 r3) i1 (i2 + (1 : Int32)) (i3 + (1 : Int32)) hf
    · refine Runs.icY (pc' := 61) d14_19 (flt hc2).2.1 (by decide) <| ?_
      obtain rfl := Option.some.inj hf
      exact Runs.iloadN d14_61 rfl <| Runs.retI d14_62 rfl ⟨by decide, by decide⟩ ⟨rfl, rfl⟩
  · refine Runs.icY (pc' := 61) d14_14 (flt hc1).2.1 (by decide) <| ?_
    obtain rfl := Option.some.inj hf
    exact Runs.iloadN d14_61 rfl <| Runs.retI d14_62 rfl ⟨by decide, by decide⟩ ⟨rfl, rfl⟩
theorem X_stream_l10_p {C : Ctx} {top : Nat} {a : Nat} {H : List (Nat × Nat × Rec)} {res : Int32 × Rec} {NF : Nat} (n : Nat) (ob : Rec) (i1 : Int32) (i2 : Int32) (i3 : Int32) (hf : X_stream_l10 NF n ob i1 i2 i3 = some res) : Runs C B14 0 0 10 [vr a, vi i1, vi i2, vi i3, vn] [] (top, (a, 17, ob) :: H) (Ans (some (.int res.1)) (top, (a, 17, res.2) :: H)) := by
  induction n generalizing ob i1 i2 i3 with
  | zero => cases (show (none : Option (Int32 × Rec)) = some res from hf)
  | succ n ih => exact X_stream_w10_p (X_stream_l10 NF n) (fun ob i1 i2 i3 h => ih _ _ _ _ h) ob i1 i2 i3 hf
def X_stream (NF : Nat) (ob : Rec) (i1 : Int32) : Option (Int32 × Rec) :=
  if (0 : Int32) < i1 then
    X_stream_l10 NF NF ob i1 (0 : Int32) (0 : Int32)
  else
    some ((0 : Int32), ob)
set_option maxRecDepth 65536 in
set_option maxHeartbeats 4000000 in
theorem X_stream_p {C : Ctx} {top : Nat} {a : Nat} {H : List (Nat × Nat × Rec)} {res : Int32 × Rec} {NF : Nat} (ob : Rec) (i1 : Int32) (hf : X_stream NF ob i1 = some res) : Runs C B14 0 0 0 [vr a, vi i1, vn, vn, vn] [] (top, (a, 17, ob) :: H) (Ans (some (.int res.1)) (top, (a, 17, res.2) :: H)) := by
  delta X_stream at hf
  refine Runs.iloadN d14_0 rfl <| ?_
  refine ite_el hf (fun hc8 hf => ?_) (fun hc8 hf => ?_)
  · refine Runs.ifY (pc' := 6) d14_1 (tlt hc8).2.2.1 (by decide) <| ?_
    exact Runs.iconst d14_6 ci_0 <| Runs.istoreN (P' := [vr a, vi i1, vi (0 : Int32), vn, vn]) d14_7 (by decide) rfl <| Runs.iconst d14_8 ci_0 <| Runs.istoreN (P' := [vr a, vi i1, vi (0 : Int32), vi (0 : Int32), vn]) d14_9 (by decide) rfl <| X_stream_l10_p NF ob i1 (0 : Int32) (0 : Int32) hf
  · refine Runs.ifN d14_1 (flt hc8).2.2.1 <| ?_
    obtain rfl := Option.some.inj hf
    exact Runs.iconst d14_4 ci_0 <| Runs.retI d14_5 rfl ⟨by decide, by decide⟩ ⟨rfl, rfl⟩
theorem X_stream_pay {C : Ctx} {top : Nat} {a : Nat} {H : List (Nat × Nat × Rec)} {res : Int32 × Rec} {NF : Nat} {ob : Rec} {i1 : Int32} (hf : X_stream NF ob i1 = some res) : Pays C B14 [.ref a, .int i1] (top, (a, 17, ob) :: H) (Ans (some (.int res.1)) (top, (a, 17, res.2) :: H)) :=
  Pays.of pnK (Nat.le_of_ble_eq_true rfl) (P := [vr a, vi i1, vn, vn, vn]) 3 rfl (X_stream_p ob i1 hf)
def X_countSubRows_w4 (NF : Nat) (ob : Rec) (k4 : Int32 → Int32 → Option (Int32)) (i1 : Int32) (i2 : Int32) : Option (Int32) :=
  if i2 < (gI ob 0) then
    if i2 < (32 : Int32) then
      chk (32 : Int32) i2 <|
      if (gA ob 9 i2) = (0 : Int32) then
        k4 i1 (i2 + (1 : Int32))
      else
        k4 (i1 + (1 : Int32)) (i2 + (1 : Int32))
    else
      some i1
  else
    some i1
def X_countSubRows_l4 (NF : Nat) (ob : Rec) : Nat → Int32 → Int32 → Option (Int32)
  | 0, _, _ => none
  | n + 1, i1, i2 => X_countSubRows_w4 NF ob (X_countSubRows_l4 NF ob n) i1 i2
set_option maxRecDepth 65536 in
set_option maxHeartbeats 4000000 in
theorem X_countSubRows_w4_p {C : Ctx} {top : Nat} {a : Nat} {H : List (Nat × Nat × Rec)} {ob : Rec} {res : Int32} {NF : Nat} (k4 : Int32 → Int32 → Option (Int32)) (hk4 : ∀ (i1 : Int32) (i2 : Int32), k4 i1 i2 = some res → Runs C B24 0 0 4 [vr a, vi i1, vi i2] [] (top, (a, 17, ob) :: H) (Ans (some (.int res)) (top, (a, 17, ob) :: H))) (i1 : Int32) (i2 : Int32) (hf : X_countSubRows_w4 NF ob k4 i1 i2 = some res) : Runs C B24 0 0 4 [vr a, vi i1, vi i2] [] (top, (a, 17, ob) :: H) (Ans (some (.int res)) (top, (a, 17, ob) :: H)) := by
  delta X_countSubRows_w4 at hf
  refine Runs.iloadN d24_4 rfl <| Runs.aloadN d24_5 rfl <| Runs.getI d24_6 w49 fS_0 <| ?_
  refine ite_el hf (fun hc1 hf => ?_) (fun hc1 hf => ?_)
  · refine Runs.icN d24_9 (tlt hc1).2.1 <| ?_
    refine Runs.iloadN d24_12 rfl <| Runs.bipush d24_13 cb_32 <| ?_
    refine ite_el hf (fun hc2 hf => ?_) (fun hc2 hf => ?_)
    · refine Runs.icN d24_15 (tlt hc2).2.1 <| ?_
      refine Runs.aloadN d24_18 rfl <| Runs.getA d24_19 fA_9 w29 (by decide) <| Runs.iloadN d24_22 rfl <| ?_
      refine chk_el hf fun hi3 hf => ?_
      refine Runs.baloadA d24_23 fA_9 (by decide) hi3 <| ?_
      refine ite_el hf (fun hc4 hf => ?_) (fun hc4 hf => ?_)
      · refine Runs.ifY (pc' := 30) d24_24 (teq hc4).1 (by decide) <| ?_
        exact Runs.iinc (P' := [vr a, vi i1, vi (i2 + (1 : Int32))]) d24_30 ci_1 rfl (by decide) rfl <| Runs.goto (pc' := 4) d24_33 (by decide) <| hk4 i1 (i2 + (1 : Int32)) hf
      · refine Runs.ifN d24_24 (feq hc4).1 <| ?_
        exact Runs.iinc (P' := [vr a, vi (i1 + (1 : Int32)), vi i2]) d24_27 ci_1 rfl (by decide) rfl <| Runs.iinc (P' := [vr a, vi (i1 + (1 : Int32)), vi (i2 + (1 : Int32))]) d24_30 ci_1 rfl (by decide) rfl <| Runs.goto (pc' := 4) d24_33 (by decide) <| hk4 (i1 + (1 : Int32)) (i2 + (1 : Int32)) hf
    · refine Runs.icY (pc' := 36) d24_15 (flt hc2).2.1 (by decide) <| ?_
      obtain rfl := Option.some.inj hf
      exact Runs.iloadN d24_36 rfl <| Runs.retI d24_37 rfl ⟨by decide, by decide⟩ ⟨rfl, rfl⟩
  · refine Runs.icY (pc' := 36) d24_9 (flt hc1).2.1 (by decide) <| ?_
    obtain rfl := Option.some.inj hf
    exact Runs.iloadN d24_36 rfl <| Runs.retI d24_37 rfl ⟨by decide, by decide⟩ ⟨rfl, rfl⟩
theorem X_countSubRows_l4_p {C : Ctx} {top : Nat} {a : Nat} {H : List (Nat × Nat × Rec)} {ob : Rec} {res : Int32} {NF : Nat} (n : Nat) (i1 : Int32) (i2 : Int32) (hf : X_countSubRows_l4 NF ob n i1 i2 = some res) : Runs C B24 0 0 4 [vr a, vi i1, vi i2] [] (top, (a, 17, ob) :: H) (Ans (some (.int res)) (top, (a, 17, ob) :: H)) := by
  induction n generalizing i1 i2 with
  | zero => cases (show (none : Option (Int32)) = some res from hf)
  | succ n ih => exact X_countSubRows_w4_p (X_countSubRows_l4 NF ob n) (fun i1 i2 h => ih _ _ h) i1 i2 hf
def X_countSubRows (NF : Nat) (ob : Rec) : Option (Int32) :=
  X_countSubRows_l4 NF ob NF (0 : Int32) (0 : Int32)
set_option maxRecDepth 65536 in
set_option maxHeartbeats 4000000 in
theorem X_countSubRows_p {C : Ctx} {top : Nat} {a : Nat} {H : List (Nat × Nat × Rec)} {ob : Rec} {res : Int32} {NF : Nat} (hf : X_countSubRows NF ob = some res) : Runs C B24 0 0 0 [vr a, vn, vn] [] (top, (a, 17, ob) :: H) (Ans (some (.int res)) (top, (a, 17, ob) :: H)) := by
  delta X_countSubRows at hf
  exact Runs.iconst d24_0 ci_0 <| Runs.istoreN (P' := [vr a, vi (0 : Int32), vn]) d24_1 (by decide) rfl <| Runs.iconst d24_2 ci_0 <| Runs.istoreN (P' := [vr a, vi (0 : Int32), vi (0 : Int32)]) d24_3 (by decide) rfl <| X_countSubRows_l4_p NF (0 : Int32) (0 : Int32) hf
theorem X_countSubRows_pay {C : Ctx} {top : Nat} {a : Nat} {H : List (Nat × Nat × Rec)} {ob : Rec} {res : Int32} {NF : Nat} (hf : X_countSubRows NF ob = some res) : Pays C B24 [.ref a] (top, (a, 17, ob) :: H) (Ans (some (.int res)) (top, (a, 17, ob) :: H)) :=
  Pays.of pnK (Nat.le_of_ble_eq_true rfl) (P := [vr a, vn, vn]) 2 rfl (X_countSubRows_p hf)
def X_info (NF : Nat) (ob : Rec) (i1 : Int32) : Option (Int32) :=
  if i1 = (0 : Int32) then
    some (gI ob 4)
  else
  if i1 = (1 : Int32) then
    none
  else
  if i1 = (2 : Int32) then
    some (gI ob 5)
  else
  if i1 = (3 : Int32) then
    some (gI ob 9)
  else
  if i1 = (4 : Int32) then
    some (gI ob 6)
  else
  if i1 = (5 : Int32) then
    some (gI ob 7)
  else
  if i1 = (6 : Int32) then
    none
  else
  if i1 = (7 : Int32) then
    (X_countSubRows NF ob).bind fun r9 =>
    some r9
  else
    some (-1 : Int32)
set_option maxRecDepth 65536 in
set_option maxHeartbeats 4000000 in
theorem X_info_p {C : Ctx} {top : Nat} {a : Nat} {H : List (Nat × Nat × Rec)} {ob : Rec} {res : Int32} {NF : Nat} (i1 : Int32) (hf : X_info NF ob i1 = some res) : Runs C B18 0 0 0 [vr a, vi i1] [] (top, (a, 17, ob) :: H) (Ans (some (.int res)) (top, (a, 17, ob) :: H)) := by
  delta X_info at hf
  refine Runs.iloadN d18_0 rfl <| ?_
  refine ite_el hf (fun hc1 hf => ?_) (fun hc1 hf => ?_)
  · refine Runs.tswI (pc' := 48) d18_1 (by rw [hc1]; decide) (by rw [hc1]; rfl) (by decide) <| ?_
    obtain rfl := Option.some.inj hf
    exact Runs.aloadN d18_48 rfl <| Runs.getI d18_49 w57 fS_4 <| Runs.retI d18_52 rfl ⟨by decide, by decide⟩ ⟨rfl, rfl⟩
  refine ite_el hf (fun hc2 hf => ?_) (fun hc2 hf => ?_)
  · refine Runs.tswI (pc' := 53) d18_1 (by rw [hc2]; decide) (by rw [hc2]; rfl) (by decide) <| ?_
    cases hf
  refine ite_el hf (fun hc3 hf => ?_) (fun hc3 hf => ?_)
  · refine Runs.tswI (pc' := 58) d18_1 (by rw [hc3]; decide) (by rw [hc3]; rfl) (by decide) <| ?_
    obtain rfl := Option.some.inj hf
    exact Runs.aloadN d18_58 rfl <| Runs.getI d18_59 w59 fS_5 <| Runs.retI d18_62 rfl ⟨by decide, by decide⟩ ⟨rfl, rfl⟩
  refine ite_el hf (fun hc4 hf => ?_) (fun hc4 hf => ?_)
  · refine Runs.tswI (pc' := 63) d18_1 (by rw [hc4]; decide) (by rw [hc4]; rfl) (by decide) <| ?_
    obtain rfl := Option.some.inj hf
    exact Runs.aloadN d18_63 rfl <| Runs.getI d18_64 w67 fS_9 <| Runs.retI d18_67 rfl ⟨by decide, by decide⟩ ⟨rfl, rfl⟩
  refine ite_el hf (fun hc5 hf => ?_) (fun hc5 hf => ?_)
  · refine Runs.tswI (pc' := 68) d18_1 (by rw [hc5]; decide) (by rw [hc5]; rfl) (by decide) <| ?_
    obtain rfl := Option.some.inj hf
    exact Runs.aloadN d18_68 rfl <| Runs.getI d18_69 w61 fS_6 <| Runs.retI d18_72 rfl ⟨by decide, by decide⟩ ⟨rfl, rfl⟩
  refine ite_el hf (fun hc6 hf => ?_) (fun hc6 hf => ?_)
  · refine Runs.tswI (pc' := 73) d18_1 (by rw [hc6]; decide) (by rw [hc6]; rfl) (by decide) <| ?_
    obtain rfl := Option.some.inj hf
    exact Runs.aloadN d18_73 rfl <| Runs.getI d18_74 w63 fS_7 <| Runs.retI d18_77 rfl ⟨by decide, by decide⟩ ⟨rfl, rfl⟩
  refine ite_el hf (fun hc7 hf => ?_) (fun hc7 hf => ?_)
  · refine Runs.tswI (pc' := 78) d18_1 (by rw [hc7]; decide) (by rw [hc7]; rfl) (by decide) <| ?_
    cases hf
  refine ite_el hf (fun hc8 hf => ?_) (fun hc8 hf => ?_)
  · refine Runs.tswI (pc' := 83) d18_1 (by rw [hc8]; decide) (by rw [hc8]; rfl) (by decide) <| ?_
    refine Runs.aloadN d18_83 rfl <| ?_
    refine bind_el hf fun r9 hg10 hf => ?_
    obtain rfl := Option.some.inj hf
    exact Runs.callP (N := B24) (W := 0) (as := []) (S' := []) d18_84 w166 w167 w168 rfl cw24 ar24 rk18_24_0 (by decide) rfl rfl (X_countSubRows_pay hg10) <| ans1 <| Runs.retI d18_87 rfl ⟨by decide, by decide⟩ ⟨rfl, rfl⟩
  refine Runs.tswO (pc' := 88) d18_1 (by have u0 : Int32.toInt i1 ≠ 0 := fun u => hc1 (Int32.toInt_inj.mp (u.trans (by decide))); have u1 : Int32.toInt i1 ≠ 1 := fun u => hc2 (Int32.toInt_inj.mp (u.trans (by decide))); have u2 : Int32.toInt i1 ≠ 2 := fun u => hc3 (Int32.toInt_inj.mp (u.trans (by decide))); have u3 : Int32.toInt i1 ≠ 3 := fun u => hc4 (Int32.toInt_inj.mp (u.trans (by decide))); have u4 : Int32.toInt i1 ≠ 4 := fun u => hc5 (Int32.toInt_inj.mp (u.trans (by decide))); have u5 : Int32.toInt i1 ≠ 5 := fun u => hc6 (Int32.toInt_inj.mp (u.trans (by decide))); have u6 : Int32.toInt i1 ≠ 6 := fun u => hc7 (Int32.toInt_inj.mp (u.trans (by decide))); have u7 : Int32.toInt i1 ≠ 7 := fun u => hc8 (Int32.toInt_inj.mp (u.trans (by decide))); omega) (by decide) <| ?_
  obtain rfl := Option.some.inj hf
  exact Runs.iconst d18_88 ci_m1 <| Runs.retI d18_89 rfl ⟨by decide, by decide⟩ ⟨rfl, rfl⟩
theorem X_info_pay {C : Ctx} {top : Nat} {a : Nat} {H : List (Nat × Nat × Rec)} {ob : Rec} {res : Int32} {NF : Nat} {i1 : Int32} (hf : X_info NF ob i1 = some res) : Pays C B18 [.ref a, .int i1] (top, (a, 17, ob) :: H) (Ans (some (.int res)) (top, (a, 17, ob) :: H)) :=
  Pays.of pnK (Nat.le_of_ble_eq_true rfl) (P := [vr a, vi i1]) 0 rfl (X_info_p i1 hf)
def X_applyPending_w2 (NF : Nat) (k2 : Rec → Int32 → Option (Rec)) (ob : Rec) (i1 : Int32) : Option (Rec) :=
  if i1 < (gI ob 0) then
    if i1 < (32 : Int32) then
      chk (32 : Int32) i1 <|
      if (gA ob 11 i1) = (1 : Int32) then
        chk (32 : Int32) i1 <|
        chk (32 : Int32) i1 <|
        chk (32 : Int32) i1 <|
        chk (32 : Int32) i1 <|
        chk (32 : Int32) i1 <|
        k2 (sA (sA (sA (sA ob 9 i1 (1 : Int32)) 10 i1 (gA ob 12 i1)) 11 i1 (0 : Int32)) 12 i1 (0 : Int32)) (i1 + (1 : Int32))
      else
        chk (32 : Int32) i1 <|
        if (gA ob 11 i1) = (2 : Int32) then
          chk (32 : Int32) i1 <|
          chk (32 : Int32) i1 <|
          chk (32 : Int32) i1 <|
          k2 (sA (sA (sA ob 9 i1 (0 : Int32)) 11 i1 (0 : Int32)) 12 i1 (0 : Int32)) (i1 + (1 : Int32))
        else
          chk (32 : Int32) i1 <|
          chk (32 : Int32) i1 <|
          k2 (sA (sA ob 11 i1 (0 : Int32)) 12 i1 (0 : Int32)) (i1 + (1 : Int32))
    else
      some ob
  else
    some ob
def X_applyPending_l2 (NF : Nat) : Nat → Rec → Int32 → Option (Rec)
  | 0, _, _ => none
  | n + 1, ob, i1 => X_applyPending_w2 NF (X_applyPending_l2 NF n) ob i1
set_option maxRecDepth 65536 in
set_option maxHeartbeats 4000000 in
theorem X_applyPending_w2_p {C : Ctx} {top : Nat} {a : Nat} {H : List (Nat × Nat × Rec)} {res : Rec} {NF : Nat} (k2 : Rec → Int32 → Option (Rec)) (hk2 : ∀ (ob : Rec) (i1 : Int32), k2 ob i1 = some res → Runs C B23 0 0 2 [vr a, vi i1] [] (top, (a, 17, ob) :: H) (Ans none (top, (a, 17, res) :: H))) (ob : Rec) (i1 : Int32) (hf : X_applyPending_w2 NF k2 ob i1 = some res) : Runs C B23 0 0 2 [vr a, vi i1] [] (top, (a, 17, ob) :: H) (Ans none (top, (a, 17, res) :: H)) := by
  delta X_applyPending_w2 at hf
  refine Runs.iloadN d23_2 rfl <| Runs.aloadN d23_3 rfl <| Runs.getI d23_4 w49 fS_0 <| ?_
  refine ite_el hf (fun hc1 hf => ?_) (fun hc1 hf => ?_)
  · refine Runs.icN d23_7 (tlt hc1).2.1 <| ?_
    refine Runs.iloadN d23_10 rfl <| Runs.bipush d23_11 cb_32 <| ?_
    refine ite_el hf (fun hc2 hf => ?_) (fun hc2 hf => ?_)
    · refine Runs.icN d23_13 (tlt hc2).2.1 <| ?_
      refine Runs.aloadN d23_16 rfl <| Runs.getA d23_17 fA_11 w33 (by decide) <| Runs.iloadN d23_20 rfl <| ?_
      refine chk_el hf fun hi3 hf => ?_
      refine Runs.ialoadA d23_21 fA_11 (by decide) hi3 <| Runs.iconst d23_22 ci_1 <| ?_
      refine ite_el hf (fun hc4 hf => ?_) (fun hc4 hf => ?_)
      · refine Runs.icN d23_23 (teq hc4).2 <| ?_
        refine Runs.aloadN d23_26 rfl <| Runs.getA d23_27 fA_9 w29 (by decide) <| Runs.iloadN d23_30 rfl <| Runs.iconst d23_31 ci_1 <| ?_
        refine chk_el hf fun hi5 hf => ?_
        refine Runs.bastoreA (y := (1 : Int32)) d23_32 fA_9 (by decide) hi5 rfl <| Runs.aloadN d23_33 rfl <| Runs.getA d23_34 fA_10 w31 (by decide) <| Runs.iloadN d23_37 rfl <| Runs.aloadN d23_38 rfl <| Runs.getA d23_39 fA_12 w35 (by decide) <| Runs.iloadN d23_42 rfl <| ?_
        refine chk_el hf fun hi6 hf => ?_
        refine Runs.ialoadA d23_43 fA_12 (by decide) hi6 <| ?_
        refine chk_el hf fun hi7 hf => ?_
        refine Runs.iastoreA d23_44 fA_10 (by decide) hi7 <| Runs.goto (pc' := 65) d23_45 (by decide) <| Runs.aloadN d23_65 rfl <| Runs.getA d23_66 fA_11 w33 (by decide) <| Runs.iloadN d23_69 rfl <| Runs.iconst d23_70 ci_0 <| ?_
        refine chk_el hf fun hi8 hf => ?_
        refine Runs.iastoreA d23_71 fA_11 (by decide) hi8 <| Runs.aloadN d23_72 rfl <| Runs.getA d23_73 fA_12 w35 (by decide) <| Runs.iloadN d23_76 rfl <| Runs.iconst d23_77 ci_0 <| ?_
        refine chk_el hf fun hi9 hf => ?_
        exact Runs.iastoreA d23_78 fA_12 (by decide) hi9 <| Runs.iinc (P' := [vr a, vi (i1 + (1 : Int32))]) d23_79 ci_1 rfl (by decide) rfl <| Runs.goto (pc' := 2) d23_82 (by decide) <| hk2 (sA (sA (sA (sA ob 9 i1 (1 : Int32)) 10 i1 (gA ob 12 i1)) 11 i1 (0 : Int32)) 12 i1 (0 : Int32)) (i1 + (1 : Int32)) hf
      · refine Runs.icY (pc' := 48) d23_23 (feq hc4).2 (by decide) <| ?_
        refine Runs.aloadN d23_48 rfl <| Runs.getA d23_49 fA_11 w33 (by decide) <| Runs.iloadN d23_52 rfl <| ?_
        refine chk_el hf fun hi10 hf => ?_
        refine Runs.ialoadA d23_53 fA_11 (by decide) hi10 <| Runs.iconst d23_54 ci_2 <| ?_
        refine ite_el hf (fun hc11 hf => ?_) (fun hc11 hf => ?_)
        · refine Runs.icN d23_55 (teq hc11).2 <| ?_
          refine Runs.aloadN d23_58 rfl <| Runs.getA d23_59 fA_9 w29 (by decide) <| Runs.iloadN d23_62 rfl <| Runs.iconst d23_63 ci_0 <| ?_
          refine chk_el hf fun hi12 hf => ?_
          refine Runs.bastoreA (y := (0 : Int32)) d23_64 fA_9 (by decide) hi12 rfl <| Runs.aloadN d23_65 rfl <| Runs.getA d23_66 fA_11 w33 (by decide) <| Runs.iloadN d23_69 rfl <| Runs.iconst d23_70 ci_0 <| ?_
          refine chk_el hf fun hi13 hf => ?_
          refine Runs.iastoreA d23_71 fA_11 (by decide) hi13 <| Runs.aloadN d23_72 rfl <| Runs.getA d23_73 fA_12 w35 (by decide) <| Runs.iloadN d23_76 rfl <| Runs.iconst d23_77 ci_0 <| ?_
          refine chk_el hf fun hi14 hf => ?_
          exact Runs.iastoreA d23_78 fA_12 (by decide) hi14 <| Runs.iinc (P' := [vr a, vi (i1 + (1 : Int32))]) d23_79 ci_1 rfl (by decide) rfl <| Runs.goto (pc' := 2) d23_82 (by decide) <| hk2 (sA (sA (sA ob 9 i1 (0 : Int32)) 11 i1 (0 : Int32)) 12 i1 (0 : Int32)) (i1 + (1 : Int32)) hf
        · refine Runs.icY (pc' := 65) d23_55 (feq hc11).2 (by decide) <| ?_
          refine Runs.aloadN d23_65 rfl <| Runs.getA d23_66 fA_11 w33 (by decide) <| Runs.iloadN d23_69 rfl <| Runs.iconst d23_70 ci_0 <| ?_
          refine chk_el hf fun hi15 hf => ?_
          refine Runs.iastoreA d23_71 fA_11 (by decide) hi15 <| Runs.aloadN d23_72 rfl <| Runs.getA d23_73 fA_12 w35 (by decide) <| Runs.iloadN d23_76 rfl <| Runs.iconst d23_77 ci_0 <| ?_
          refine chk_el hf fun hi16 hf => ?_
          exact Runs.iastoreA d23_78 fA_12 (by decide) hi16 <| Runs.iinc (P' := [vr a, vi (i1 + (1 : Int32))]) d23_79 ci_1 rfl (by decide) rfl <| Runs.goto (pc' := 2) d23_82 (by decide) <| hk2 (sA (sA ob 11 i1 (0 : Int32)) 12 i1 (0 : Int32)) (i1 + (1 : Int32)) hf
    · refine Runs.icY (pc' := 85) d23_13 (flt hc2).2.1 (by decide) <| ?_
      obtain rfl := Option.some.inj hf
      exact Runs.retV d23_85 rfl ⟨by decide, by decide⟩ ⟨rfl, rfl⟩
  · refine Runs.icY (pc' := 85) d23_7 (flt hc1).2.1 (by decide) <| ?_
    obtain rfl := Option.some.inj hf
    exact Runs.retV d23_85 rfl ⟨by decide, by decide⟩ ⟨rfl, rfl⟩
theorem X_applyPending_l2_p {C : Ctx} {top : Nat} {a : Nat} {H : List (Nat × Nat × Rec)} {res : Rec} {NF : Nat} (n : Nat) (ob : Rec) (i1 : Int32) (hf : X_applyPending_l2 NF n ob i1 = some res) : Runs C B23 0 0 2 [vr a, vi i1] [] (top, (a, 17, ob) :: H) (Ans none (top, (a, 17, res) :: H)) := by
  induction n generalizing ob i1 with
  | zero => cases (show (none : Option (Rec)) = some res from hf)
  | succ n ih => exact X_applyPending_w2_p (X_applyPending_l2 NF n) (fun ob i1 h => ih _ _ h) ob i1 hf
def X_applyPending (NF : Nat) (ob : Rec) : Option (Rec) :=
  X_applyPending_l2 NF NF ob (0 : Int32)
set_option maxRecDepth 65536 in
set_option maxHeartbeats 4000000 in
theorem X_applyPending_p {C : Ctx} {top : Nat} {a : Nat} {H : List (Nat × Nat × Rec)} {res : Rec} {NF : Nat} (ob : Rec) (hf : X_applyPending NF ob = some res) : Runs C B23 0 0 0 [vr a, vn] [] (top, (a, 17, ob) :: H) (Ans none (top, (a, 17, res) :: H)) := by
  delta X_applyPending at hf
  exact Runs.iconst d23_0 ci_0 <| Runs.istoreN (P' := [vr a, vi (0 : Int32)]) d23_1 (by decide) rfl <| X_applyPending_l2_p NF ob (0 : Int32) hf
theorem X_applyPending_pay {C : Ctx} {top : Nat} {a : Nat} {H : List (Nat × Nat × Rec)} {res : Rec} {NF : Nat} {ob : Rec} (hf : X_applyPending NF ob = some res) : Pays C B23 [.ref a] (top, (a, 17, ob) :: H) (Ans none (top, (a, 17, res) :: H)) :=
  Pays.of pnK (Nat.le_of_ble_eq_true rfl) (P := [vr a, vn]) 1 rfl (X_applyPending_p ob hf)
def X_handleHead_b18 (NF : Nat) (ob : Rec) (i1 : Int32) : Option (Rec) :=
  chk (128 : Int32) i1 <|
  chk (128 : Int32) i1 <|
  chk (128 : Int32) i1 <|
  chk (128 : Int32) i1 <|
  if (gI ob 6) < (gA ob 16 i1) then
    if (gA ob 13 i1) = (4 : Int32) then
      (X_applyPending NF (sI (sI ob 8 ((i1 + (1 : Int32)) % (128 : Int32))) 9 ((gI ob 9) - (1 : Int32)))).bind fun q7 =>
      some (sI q7 6 (gA ob 16 i1))
    else
      if (gA ob 14 i1) < (0 : Int32) then
        some (sI (sI ob 8 ((i1 + (1 : Int32)) % (128 : Int32))) 9 ((gI ob 9) - (1 : Int32)))
      else
        if (gA ob 14 i1) < (32 : Int32) then
          if (gA ob 13 i1) = (2 : Int32) then
            chk (32 : Int32) (gA ob 14 i1) <|
            chk (32 : Int32) (gA ob 14 i1) <|
            some (sA (sA (sI (sI ob 8 ((i1 + (1 : Int32)) % (128 : Int32))) 9 ((gI ob 9) - (1 : Int32))) 11 (gA ob 14 i1) (1 : Int32)) 12 (gA ob 14 i1) (gA ob 15 i1))
          else
            if (gA ob 13 i1) = (3 : Int32) then
              chk (32 : Int32) (gA ob 14 i1) <|
              chk (32 : Int32) (gA ob 14 i1) <|
              some (sA (sA (sI (sI ob 8 ((i1 + (1 : Int32)) % (128 : Int32))) 9 ((gI ob 9) - (1 : Int32))) 11 (gA ob 14 i1) (2 : Int32)) 12 (gA ob 14 i1) (0 : Int32))
            else
              some (sI (sI ob 8 ((i1 + (1 : Int32)) % (128 : Int32))) 9 ((gI ob 9) - (1 : Int32)))
        else
          some (sI (sI ob 8 ((i1 + (1 : Int32)) % (128 : Int32))) 9 ((gI ob 9) - (1 : Int32)))
  else
    some (sI (sI ob 8 ((i1 + (1 : Int32)) % (128 : Int32))) 9 ((gI ob 9) - (1 : Int32)))
set_option maxRecDepth 65536 in
set_option maxHeartbeats 4000000 in
theorem X_handleHead_b18_p {C : Ctx} {top : Nat} {a : Nat} {H : List (Nat × Nat × Rec)} {res : Rec} {NF : Nat} (ob : Rec) (i1 : Int32) (hf : X_handleHead_b18 NF ob i1 = some res) : Runs C B20 0 0 18 [vr a, vi i1, vn, vn, vn, vn] [] (top, (a, 17, ob) :: H) (Ans none (top, (a, 17, res) :: H)) := by
  delta X_handleHead_b18 at hf
  refine Runs.aloadN d20_18 rfl <| Runs.getA d20_19 fA_13 w37 (by decide) <| Runs.iloadN d20_22 rfl <| ?_
  refine chk_el hf fun hi1 hf => ?_
  refine Runs.ialoadA d20_23 fA_13 (by decide) hi1 <| Runs.istoreN (P' := [vr a, vi i1, vi (gA ob 13 i1), vn, vn, vn]) d20_24 (by decide) rfl <| Runs.aloadN d20_25 rfl <| Runs.getA d20_26 fA_14 w39 (by decide) <| Runs.iloadN d20_29 rfl <| ?_
  refine chk_el hf fun hi2 hf => ?_
  refine Runs.ialoadA d20_30 fA_14 (by decide) hi2 <| Runs.istoreN (P' := [vr a, vi i1, vi (gA ob 13 i1), vi (gA ob 14 i1), vn, vn]) d20_31 (by decide) rfl <| Runs.aloadN d20_32 rfl <| Runs.getA d20_33 fA_15 w41 (by decide) <| Runs.iloadN d20_36 rfl <| ?_
  refine chk_el hf fun hi3 hf => ?_
  refine Runs.ialoadA d20_37 fA_15 (by decide) hi3 <| Runs.istore (P' := [vr a, vi i1, vi (gA ob 13 i1), vi (gA ob 14 i1), vi (gA ob 15 i1), vn]) d20_38 (by decide) rfl <| Runs.aloadN d20_40 rfl <| Runs.getA d20_41 fA_16 w43 (by decide) <| Runs.iloadN d20_44 rfl <| ?_
  refine chk_el hf fun hi4 hf => ?_
  refine Runs.ialoadA d20_45 fA_16 (by decide) hi4 <| Runs.istore (P' := [vr a, vi i1, vi (gA ob 13 i1), vi (gA ob 14 i1), vi (gA ob 15 i1), vi (gA ob 16 i1)]) d20_46 (by decide) rfl <| Runs.aloadN d20_48 rfl <| Runs.iloadN d20_49 rfl <| Runs.iconst d20_50 ci_1 <| Runs.iadd d20_51 <| Runs.sipush d20_52 cs_128 <| Runs.irem d20_55 (by decide) <| Runs.putI d20_56 w65 fS_8 (Or.inl w66) <| Runs.aloadN d20_59 rfl <| Runs.dup d20_60 rfl <| Runs.getI d20_61 w67 fS_9 <| ?_
  refine Runs.iconst d20_64 ci_1 <| Runs.isub d20_65 <| Runs.putI d20_66 w67 fS_9 (Or.inl w68) <| Runs.iload d20_69 rfl <| Runs.aloadN d20_71 rfl <| Runs.getI d20_72 w61 fS_6 <| ?_
  refine ite_el hf (fun hc5 hf => ?_) (fun hc5 hf => ?_)
  · refine Runs.icY (pc' := 79) d20_75 (tlt hc5).2.2.1 (by decide) <| ?_
    refine Runs.iloadN d20_79 rfl <| Runs.iconst d20_80 ci_4 <| ?_
    refine ite_el hf (fun hc6 hf => ?_) (fun hc6 hf => ?_)
    · refine Runs.icN d20_81 (teq hc6).2 <| ?_
      refine Runs.aloadN d20_84 rfl <| ?_
      refine bind_el hf fun q7 hg8 hf => ?_
      obtain rfl := Option.some.inj hf
      exact Runs.callP (N := B23) (W := 0) (as := []) (S' := []) d20_85 w160 w161 w162 rfl cw23 ar23 rk20_23_0 (by decide) rfl rfl (X_applyPending_pay hg8) <| ans0 <| Runs.aloadN d20_88 rfl <| Runs.iload d20_89 rfl <| Runs.putI d20_91 w61 fS_6 (Or.inl w62) <| Runs.retV d20_94 rfl ⟨by decide, by decide⟩ ⟨rfl, rfl⟩
    · refine Runs.icY (pc' := 95) d20_81 (feq hc6).2 (by decide) <| ?_
      refine Runs.iloadN d20_95 rfl <| ?_
      refine ite_el hf (fun hc9 hf => ?_) (fun hc9 hf => ?_)
      · refine Runs.ifY (pc' := 105) d20_96 (tlt hc9).1 (by decide) <| ?_
        obtain rfl := Option.some.inj hf
        exact Runs.retV d20_105 rfl ⟨by decide, by decide⟩ ⟨rfl, rfl⟩
      · refine Runs.ifN d20_96 (flt hc9).1 <| ?_
        refine Runs.iloadN d20_99 rfl <| Runs.bipush d20_100 cb_32 <| ?_
        refine ite_el hf (fun hc10 hf => ?_) (fun hc10 hf => ?_)
        · refine Runs.icY (pc' := 106) d20_102 (tlt hc10).1 (by decide) <| ?_
          refine Runs.iloadN d20_106 rfl <| Runs.iconst d20_107 ci_2 <| ?_
          refine ite_el hf (fun hc11 hf => ?_) (fun hc11 hf => ?_)
          · refine Runs.icN d20_108 (teq hc11).2 <| ?_
            refine Runs.aloadN d20_111 rfl <| Runs.getA d20_112 fA_11 w33 (by decide) <| Runs.iloadN d20_115 rfl <| Runs.iconst d20_116 ci_1 <| ?_
            refine chk_el hf fun hi12 hf => ?_
            refine Runs.iastoreA d20_117 fA_11 (by decide) hi12 <| Runs.aloadN d20_118 rfl <| Runs.getA d20_119 fA_12 w35 (by decide) <| Runs.iloadN d20_122 rfl <| Runs.iload d20_123 rfl <| ?_
            refine chk_el hf fun hi13 hf => ?_
            obtain rfl := Option.some.inj hf
            exact Runs.iastoreA d20_125 fA_12 (by decide) hi13 <| Runs.goto (pc' := 148) d20_126 (by decide) <| Runs.retV d20_148 rfl ⟨by decide, by decide⟩ ⟨rfl, rfl⟩
          · refine Runs.icY (pc' := 129) d20_108 (feq hc11).2 (by decide) <| ?_
            refine Runs.iloadN d20_129 rfl <| Runs.iconst d20_130 ci_3 <| ?_
            refine ite_el hf (fun hc14 hf => ?_) (fun hc14 hf => ?_)
            · refine Runs.icN d20_131 (teq hc14).2 <| ?_
              refine Runs.aloadN d20_134 rfl <| Runs.getA d20_135 fA_11 w33 (by decide) <| Runs.iloadN d20_138 rfl <| Runs.iconst d20_139 ci_2 <| ?_
              refine chk_el hf fun hi15 hf => ?_
              refine Runs.iastoreA d20_140 fA_11 (by decide) hi15 <| Runs.aloadN d20_141 rfl <| Runs.getA d20_142 fA_12 w35 (by decide) <| Runs.iloadN d20_145 rfl <| Runs.iconst d20_146 ci_0 <| ?_
              refine chk_el hf fun hi16 hf => ?_
              obtain rfl := Option.some.inj hf
              exact Runs.iastoreA d20_147 fA_12 (by decide) hi16 <| Runs.retV d20_148 rfl ⟨by decide, by decide⟩ ⟨rfl, rfl⟩
            · refine Runs.icY (pc' := 148) d20_131 (feq hc14).2 (by decide) <| ?_
              obtain rfl := Option.some.inj hf
              exact Runs.retV d20_148 rfl ⟨by decide, by decide⟩ ⟨rfl, rfl⟩
        · refine Runs.icN d20_102 (flt hc10).1 <| ?_
          obtain rfl := Option.some.inj hf
          exact Runs.retV d20_105 rfl ⟨by decide, by decide⟩ ⟨rfl, rfl⟩
  · refine Runs.icN d20_75 (flt hc5).2.2.1 <| ?_
    obtain rfl := Option.some.inj hf
    exact Runs.retV d20_78 rfl ⟨by decide, by decide⟩ ⟨rfl, rfl⟩
def X_handleHead (NF : Nat) (ob : Rec) : Option (Rec) :=
  if (gI ob 8) < (0 : Int32) then
    X_handleHead_b18 NF ob (0 : Int32)
  else
    if (gI ob 8) < (128 : Int32) then
      X_handleHead_b18 NF ob (gI ob 8)
    else
      X_handleHead_b18 NF ob (0 : Int32)
set_option maxRecDepth 65536 in
set_option maxHeartbeats 4000000 in
theorem X_handleHead_p {C : Ctx} {top : Nat} {a : Nat} {H : List (Nat × Nat × Rec)} {res : Rec} {NF : Nat} (ob : Rec) (hf : X_handleHead NF ob = some res) : Runs C B20 0 0 0 [vr a, vn, vn, vn, vn, vn] [] (top, (a, 17, ob) :: H) (Ans none (top, (a, 17, res) :: H)) := by
  delta X_handleHead at hf
  refine Runs.aloadN d20_0 rfl <| Runs.getI d20_1 w65 fS_8 <| Runs.istoreN (P' := [vr a, vi (gI ob 8), vn, vn, vn, vn]) d20_4 (by decide) rfl <| Runs.iloadN d20_5 rfl <| ?_
  refine ite_el hf (fun hc17 hf => ?_) (fun hc17 hf => ?_)
  · refine Runs.ifY (pc' := 16) d20_6 (tlt hc17).1 (by decide) <| ?_
    exact Runs.iconst d20_16 ci_0 <| Runs.istoreN (P' := [vr a, vi (0 : Int32), vn, vn, vn, vn]) d20_17 (by decide) rfl <| X_handleHead_b18_p ob (0 : Int32) hf
  · refine Runs.ifN d20_6 (flt hc17).1 <| ?_
    refine Runs.iloadN d20_9 rfl <| Runs.sipush d20_10 cs_128 <| ?_
    refine ite_el hf (fun hc18 hf => ?_) (fun hc18 hf => ?_)
    · exact Runs.icY (pc' := 18) d20_13 (tlt hc18).1 (by decide) <| X_handleHead_b18_p ob (gI ob 8) hf
    · refine Runs.icN d20_13 (flt hc18).1 <| ?_
      exact Runs.iconst d20_16 ci_0 <| Runs.istoreN (P' := [vr a, vi (0 : Int32), vn, vn, vn, vn]) d20_17 (by decide) rfl <| X_handleHead_b18_p ob (0 : Int32) hf
theorem X_handleHead_pay {C : Ctx} {top : Nat} {a : Nat} {H : List (Nat × Nat × Rec)} {res : Rec} {NF : Nat} {ob : Rec} (hf : X_handleHead NF ob = some res) : Pays C B20 [.ref a] (top, (a, 17, ob) :: H) (Ans none (top, (a, 17, res) :: H)) :=
  Pays.of pnK (Nat.le_of_ble_eq_true rfl) (P := [vr a, vn, vn, vn, vn, vn]) 5 rfl (X_handleHead_p ob hf)
def X_apply_w10 (NF : Nat) (k10 : Rec → Int32 → Int32 → Int32 → Option (Int32 × Rec)) (ob : Rec) (i1 : Int32) (i2 : Int32) (i3 : Int32) : Option (Int32 × Rec) :=
  if (128 : Int32) < i3 then
    some (i2, ob)
  else
    if i2 < i1 then
      if (0 : Int32) < (gI ob 9) then
        (X_handleHead NF ob).bind fun q4 =>
        k10 q4 i1 (i2 + (1 : Int32)) (i3 + (1 : Int32))
      else
        some (i2, ob)
    else
      some (i2, ob)
def X_apply_l10 (NF : Nat) : Nat → Rec → Int32 → Int32 → Int32 → Option (Int32 × Rec)
  | 0, _, _, _, _ => none
  | n + 1, ob, i1, i2, i3 => X_apply_w10 NF (X_apply_l10 NF n) ob i1 i2 i3
set_option maxRecDepth 65536 in
set_option maxHeartbeats 4000000 in
theorem X_apply_w10_p {C : Ctx} {top : Nat} {a : Nat} {H : List (Nat × Nat × Rec)} {res : Int32 × Rec} {NF : Nat} (k10 : Rec → Int32 → Int32 → Int32 → Option (Int32 × Rec)) (hk10 : ∀ (ob : Rec) (i1 : Int32) (i2 : Int32) (i3 : Int32), k10 ob i1 i2 i3 = some res → Runs C B19 0 0 10 [vr a, vi i1, vi i2, vi i3] [] (top, (a, 17, ob) :: H) (Ans (some (.int res.1)) (top, (a, 17, res.2) :: H))) (ob : Rec) (i1 : Int32) (i2 : Int32) (i3 : Int32) (hf : X_apply_w10 NF k10 ob i1 i2 i3 = some res) : Runs C B19 0 0 10 [vr a, vi i1, vi i2, vi i3] [] (top, (a, 17, ob) :: H) (Ans (some (.int res.1)) (top, (a, 17, res.2) :: H)) := by
  delta X_apply_w10 at hf
  refine Runs.iloadN d19_10 rfl <| Runs.sipush d19_11 cs_128 <| ?_
  refine ite_el hf (fun hc1 hf => ?_) (fun hc1 hf => ?_)
  · refine Runs.icY (pc' := 42) d19_14 (tlt hc1).2.2.1 (by decide) <| ?_
    obtain rfl := Option.some.inj hf
    exact Runs.iloadN d19_42 rfl <| Runs.retI d19_43 rfl ⟨by decide, by decide⟩ ⟨rfl, rfl⟩
  · refine Runs.icN d19_14 (flt hc1).2.2.1 <| ?_
    refine Runs.iloadN d19_17 rfl <| Runs.iloadN d19_18 rfl <| ?_
    refine ite_el hf (fun hc2 hf => ?_) (fun hc2 hf => ?_)
    · refine Runs.icN d19_19 (tlt hc2).2.1 <| ?_
      refine Runs.aloadN d19_22 rfl <| Runs.getI d19_23 w67 fS_9 <| ?_
      refine ite_el hf (fun hc3 hf => ?_) (fun hc3 hf => ?_)
      · refine Runs.ifN d19_26 (tlt hc3).2.2.2 <| ?_
        refine Runs.aloadN d19_29 rfl <| ?_
        refine bind_el hf fun q4 hg5 hf => ?_
        exact Runs.callP (N := B20) (W := 0) (as := []) (S' := []) d19_30 w145 w146 w147 rfl cw20 ar20 rk19_20_0 (by decide) rfl rfl (X_handleHead_pay hg5) <| ans0 <| Runs.iinc (P' := [vr a, vi i1, vi (i2 + (1 : Int32)), vi i3]) d19_33 ci_1 rfl (by decide) rfl <| Runs.iinc (P' := [vr a, vi i1, vi (i2 + (1 : Int32)), vi (i3 + (1 : Int32))]) d19_36 ci_1 rfl (by decide) rfl <| Runs.goto (pc' := 10) d19_39 (by decide) <| hk10 q4 i1 (i2 + (1 : Int32)) (i3 + (1 : Int32)) hf
      · refine Runs.ifY (pc' := 42) d19_26 (flt hc3).2.2.2 (by decide) <| ?_
        obtain rfl := Option.some.inj hf
        exact Runs.iloadN d19_42 rfl <| Runs.retI d19_43 rfl ⟨by decide, by decide⟩ ⟨rfl, rfl⟩
    · refine Runs.icY (pc' := 42) d19_19 (flt hc2).2.1 (by decide) <| ?_
      obtain rfl := Option.some.inj hf
      exact Runs.iloadN d19_42 rfl <| Runs.retI d19_43 rfl ⟨by decide, by decide⟩ ⟨rfl, rfl⟩
theorem X_apply_l10_p {C : Ctx} {top : Nat} {a : Nat} {H : List (Nat × Nat × Rec)} {res : Int32 × Rec} {NF : Nat} (n : Nat) (ob : Rec) (i1 : Int32) (i2 : Int32) (i3 : Int32) (hf : X_apply_l10 NF n ob i1 i2 i3 = some res) : Runs C B19 0 0 10 [vr a, vi i1, vi i2, vi i3] [] (top, (a, 17, ob) :: H) (Ans (some (.int res.1)) (top, (a, 17, res.2) :: H)) := by
  induction n generalizing ob i1 i2 i3 with
  | zero => cases (show (none : Option (Int32 × Rec)) = some res from hf)
  | succ n ih => exact X_apply_w10_p (X_apply_l10 NF n) (fun ob i1 i2 i3 h => ih _ _ _ _ h) ob i1 i2 i3 hf
def X_apply (NF : Nat) (ob : Rec) (i1 : Int32) : Option (Int32 × Rec) :=
  if (0 : Int32) < i1 then
    X_apply_l10 NF NF ob i1 (0 : Int32) (0 : Int32)
  else
    some ((0 : Int32), ob)
set_option maxRecDepth 65536 in
set_option maxHeartbeats 4000000 in
theorem X_apply_p {C : Ctx} {top : Nat} {a : Nat} {H : List (Nat × Nat × Rec)} {res : Int32 × Rec} {NF : Nat} (ob : Rec) (i1 : Int32) (hf : X_apply NF ob i1 = some res) : Runs C B19 0 0 0 [vr a, vi i1, vn, vn] [] (top, (a, 17, ob) :: H) (Ans (some (.int res.1)) (top, (a, 17, res.2) :: H)) := by
  delta X_apply at hf
  refine Runs.iloadN d19_0 rfl <| ?_
  refine ite_el hf (fun hc6 hf => ?_) (fun hc6 hf => ?_)
  · refine Runs.ifY (pc' := 6) d19_1 (tlt hc6).2.2.1 (by decide) <| ?_
    exact Runs.iconst d19_6 ci_0 <| Runs.istoreN (P' := [vr a, vi i1, vi (0 : Int32), vn]) d19_7 (by decide) rfl <| Runs.iconst d19_8 ci_0 <| Runs.istoreN (P' := [vr a, vi i1, vi (0 : Int32), vi (0 : Int32)]) d19_9 (by decide) rfl <| X_apply_l10_p NF ob i1 (0 : Int32) (0 : Int32) hf
  · refine Runs.ifN d19_1 (flt hc6).2.2.1 <| ?_
    obtain rfl := Option.some.inj hf
    exact Runs.iconst d19_4 ci_0 <| Runs.retI d19_5 rfl ⟨by decide, by decide⟩ ⟨rfl, rfl⟩
theorem X_apply_pay {C : Ctx} {top : Nat} {a : Nat} {H : List (Nat × Nat × Rec)} {res : Int32 × Rec} {NF : Nat} {ob : Rec} {i1 : Int32} (hf : X_apply NF ob i1 = some res) : Pays C B19 [.ref a, .int i1] (top, (a, 17, ob) :: H) (Ans (some (.int res.1)) (top, (a, 17, res.2) :: H)) :=
  Pays.of pnK (Nat.le_of_ble_eq_true rfl) (P := [vr a, vi i1, vn, vn]) 2 rfl (X_apply_p ob i1 hf)
def X_subPending (ob : Rec) (i1 : Int32) : Option (Int64) :=
  (X_validKey ob i1).bind fun r1 =>
  if r1 = (0 : Int32) then
    some (4294967298 : Int64)
  else
    chk (32 : Int32) i1 <|
    if (gA ob 11 i1) = (1 : Int32) then
      chk (32 : Int32) i1 <|
      some (gA ob 12 i1).toInt64
    else
      chk (32 : Int32) i1 <|
      if (gA ob 11 i1) = (2 : Int32) then
        some (4294967297 : Int64)
      else
        some (4294967298 : Int64)
set_option maxRecDepth 65536 in
set_option maxHeartbeats 4000000 in
theorem X_subPending_p {C : Ctx} {top : Nat} {a : Nat} {H : List (Nat × Nat × Rec)} {ob : Rec} {res : Int64} (i1 : Int32) (hf : X_subPending ob i1 = some res) : Runs C B21 0 0 0 [vr a, vi i1] [] (top, (a, 17, ob) :: H) (Ans (some (.long res)) (top, (a, 17, ob) :: H)) := by
  delta X_subPending at hf
  refine Runs.aloadN d21_0 rfl <| Runs.iloadN d21_1 rfl <| ?_
  refine bind_el hf fun r1 hg2 hf => ?_
  refine Runs.callP (N := B10) (W := 0) (as := [.int i1]) (S' := []) d21_2 w100 w101 w102 rfl cw10 ar10 rk21_10_0 (by decide) rfl rfl (X_validKey_pay hg2) <| ans1 <| ?_
  refine ite_el hf (fun hc3 hf => ?_) (fun hc3 hf => ?_)
  · refine Runs.ifN d21_5 (teq hc3).2 <| ?_
    obtain rfl := Option.some.inj hf
    exact Runs.ldc2 d21_8 w164 <| Runs.retJ d21_11 rfl ⟨by decide, by decide⟩ ⟨rfl, rfl⟩
  · refine Runs.ifY (pc' := 12) d21_5 (feq hc3).2 (by decide) <| ?_
    refine Runs.aloadN d21_12 rfl <| Runs.getA d21_13 fA_11 w33 (by decide) <| Runs.iloadN d21_16 rfl <| ?_
    refine chk_el hf fun hi4 hf => ?_
    refine Runs.ialoadA d21_17 fA_11 (by decide) hi4 <| Runs.iconst d21_18 ci_1 <| ?_
    refine ite_el hf (fun hc5 hf => ?_) (fun hc5 hf => ?_)
    · refine Runs.icN d21_19 (teq hc5).2 <| ?_
      refine Runs.aloadN d21_22 rfl <| Runs.getA d21_23 fA_12 w35 (by decide) <| Runs.iloadN d21_26 rfl <| ?_
      refine chk_el hf fun hi6 hf => ?_
      obtain rfl := Option.some.inj hf
      exact Runs.ialoadA d21_27 fA_12 (by decide) hi6 <| Runs.i2l d21_28 <| Runs.retJ d21_29 rfl ⟨by decide, by decide⟩ ⟨rfl, rfl⟩
    · refine Runs.icY (pc' := 30) d21_19 (feq hc5).2 (by decide) <| ?_
      refine Runs.aloadN d21_30 rfl <| Runs.getA d21_31 fA_11 w33 (by decide) <| Runs.iloadN d21_34 rfl <| ?_
      refine chk_el hf fun hi7 hf => ?_
      refine Runs.ialoadA d21_35 fA_11 (by decide) hi7 <| Runs.iconst d21_36 ci_2 <| ?_
      refine ite_el hf (fun hc8 hf => ?_) (fun hc8 hf => ?_)
      · refine Runs.icN d21_37 (teq hc8).2 <| ?_
        obtain rfl := Option.some.inj hf
        exact Runs.ldc2 d21_40 w175 <| Runs.retJ d21_43 rfl ⟨by decide, by decide⟩ ⟨rfl, rfl⟩
      · refine Runs.icY (pc' := 44) d21_37 (feq hc8).2 (by decide) <| ?_
        obtain rfl := Option.some.inj hf
        exact Runs.ldc2 d21_44 w164 <| Runs.retJ d21_47 rfl ⟨by decide, by decide⟩ ⟨rfl, rfl⟩
theorem X_subPending_pay {C : Ctx} {top : Nat} {a : Nat} {H : List (Nat × Nat × Rec)} {ob : Rec} {res : Int64} {i1 : Int32} (hf : X_subPending ob i1 = some res) : Pays C B21 [.ref a, .int i1] (top, (a, 17, ob) :: H) (Ans (some (.long res)) (top, (a, 17, ob) :: H)) :=
  Pays.of pnK (Nat.le_of_ble_eq_true rfl) (P := [vr a, vi i1]) 0 rfl (X_subPending_p i1 hf)
def X_subRow (ob : Rec) (i1 : Int32) : Option (Int64) :=
  (X_validKey ob i1).bind fun r1 =>
  if r1 = (0 : Int32) then
    some (4294967296 : Int64)
  else
    chk (32 : Int32) i1 <|
    if (gA ob 9 i1) = (0 : Int32) then
      some (4294967296 : Int64)
    else
      chk (32 : Int32) i1 <|
      some (gA ob 10 i1).toInt64
set_option maxRecDepth 65536 in
set_option maxHeartbeats 4000000 in
theorem X_subRow_p {C : Ctx} {top : Nat} {a : Nat} {H : List (Nat × Nat × Rec)} {ob : Rec} {res : Int64} (i1 : Int32) (hf : X_subRow ob i1 = some res) : Runs C B22 0 0 0 [vr a, vi i1] [] (top, (a, 17, ob) :: H) (Ans (some (.long res)) (top, (a, 17, ob) :: H)) := by
  delta X_subRow at hf
  refine Runs.aloadN d22_0 rfl <| Runs.iloadN d22_1 rfl <| ?_
  refine bind_el hf fun r1 hg2 hf => ?_
  refine Runs.callP (N := B10) (W := 0) (as := [.int i1]) (S' := []) d22_2 w100 w101 w102 rfl cw10 ar10 rk22_10_0 (by decide) rfl rfl (X_validKey_pay hg2) <| ans1 <| ?_
  refine ite_el hf (fun hc3 hf => ?_) (fun hc3 hf => ?_)
  · refine Runs.ifN d22_5 (teq hc3).2 <| ?_
    obtain rfl := Option.some.inj hf
    exact Runs.ldc2 d22_8 w159 <| Runs.retJ d22_11 rfl ⟨by decide, by decide⟩ ⟨rfl, rfl⟩
  · refine Runs.ifY (pc' := 12) d22_5 (feq hc3).2 (by decide) <| ?_
    refine Runs.aloadN d22_12 rfl <| Runs.getA d22_13 fA_9 w29 (by decide) <| Runs.iloadN d22_16 rfl <| ?_
    refine chk_el hf fun hi4 hf => ?_
    refine Runs.baloadA d22_17 fA_9 (by decide) hi4 <| ?_
    refine ite_el hf (fun hc5 hf => ?_) (fun hc5 hf => ?_)
    · refine Runs.ifY (pc' := 29) d22_18 (teq hc5).1 (by decide) <| ?_
      obtain rfl := Option.some.inj hf
      exact Runs.ldc2 d22_29 w159 <| Runs.retJ d22_32 rfl ⟨by decide, by decide⟩ ⟨rfl, rfl⟩
    · refine Runs.ifN d22_18 (feq hc5).1 <| ?_
      refine Runs.aloadN d22_21 rfl <| Runs.getA d22_22 fA_10 w31 (by decide) <| Runs.iloadN d22_25 rfl <| ?_
      refine chk_el hf fun hi6 hf => ?_
      obtain rfl := Option.some.inj hf
      exact Runs.ialoadA d22_26 fA_10 (by decide) hi6 <| Runs.i2l d22_27 <| Runs.retJ d22_28 rfl ⟨by decide, by decide⟩ ⟨rfl, rfl⟩
theorem X_subRow_pay {C : Ctx} {top : Nat} {a : Nat} {H : List (Nat × Nat × Rec)} {ob : Rec} {res : Int64} {i1 : Int32} (hf : X_subRow ob i1 = some res) : Pays C B22 [.ref a, .int i1] (top, (a, 17, ob) :: H) (Ans (some (.long res)) (top, (a, 17, ob) :: H)) :=
  Pays.of pnK (Nat.le_of_ble_eq_true rfl) (P := [vr a, vi i1]) 0 rfl (X_subRow_p i1 hf)
def X_feedback (ob : Rec) : Option (Int32 × Rec) :=
  some ((gI ob 6), (sI ob 7 (gI ob 6)))
set_option maxRecDepth 65536 in
set_option maxHeartbeats 4000000 in
theorem X_feedback_p {C : Ctx} {top : Nat} {a : Nat} {H : List (Nat × Nat × Rec)} {res : Int32 × Rec} (ob : Rec) (hf : X_feedback ob = some res) : Runs C B25 0 0 0 [vr a] [] (top, (a, 17, ob) :: H) (Ans (some (.int res.1)) (top, (a, 17, res.2) :: H)) := by
  delta X_feedback at hf
  obtain rfl := Option.some.inj hf
  exact Runs.aloadN d25_0 rfl <| Runs.aloadN d25_1 rfl <| Runs.getI d25_2 w61 fS_6 <| Runs.putI d25_5 w63 fS_7 (Or.inl w64) <| Runs.aloadN d25_8 rfl <| Runs.getI d25_9 w63 fS_7 <| Runs.retI d25_12 rfl ⟨by decide, by decide⟩ ⟨rfl, rfl⟩
theorem X_feedback_pay {C : Ctx} {top : Nat} {a : Nat} {H : List (Nat × Nat × Rec)} {res : Int32 × Rec} {ob : Rec} (hf : X_feedback ob = some res) : Pays C B25 [.ref a] (top, (a, 17, ob) :: H) (Ans (some (.int res.1)) (top, (a, 17, res.2) :: H)) :=
  Pays.of pnK (Nat.le_of_ble_eq_true rfl) (P := [vr a]) 0 rfl (X_feedback_p ob hf)
def L_law_b373 (NF : Nat) (ob : Rec) (t0 : Int32) : Option (Int32) :=
  (X_info NF ob (7 : Int32)).bind fun r82 =>
  if r82 = t0 then
    bind2 (X_feedback ob) fun r85 q86 =>
    if r85 = (6 : Int32) then
      (X_info NF q86 (5 : Int32)).bind fun r89 =>
      if r89 = (6 : Int32) then
        bind2 (X_stream NF q86 (8 : Int32)) fun r92 q93 =>
        if r92 = (0 : Int32) then
          some (1 : Int32)
        else
          some (0 : Int32)
      else
        some (0 : Int32)
    else
      some (0 : Int32)
  else
    some (0 : Int32)
set_option maxRecDepth 65536 in
set_option maxHeartbeats 4000000 in
theorem L_law_b373_p {C : Ctx} {res : Int32} {NF : Nat} (ob : Rec) (t0 : Int32) (hf : L_law_b373 NF ob t0 = some res) : Runs C B0 18 1392 373 [vn, vn, vn, vn, vn, vr C.2.2.1, vn, vn, vn, vn, vn, vn, vn] [.int t0] (C.2.2.1 + 1 + 17, (C.2.2.1, 17, ob) :: []) (fun v _ => v = (some (.int res))) := by
  delta L_law_b373 at hf
  refine Runs.istore (P' := [vn, vn, vn, vn, vn, vr C.2.2.1, vn, vn, vn, vn, vn, vn, vi t0]) d0_373 (by decide) rfl <| Runs.aload d0_375 rfl <| Runs.bipush d0_377 cb_7 <| ?_
  refine bind_el hf fun r82 hg83 hf => ?_
  refine Runs.callV (N := B18) (W := 0) (as := [.int (7 : Int32)]) (S' := []) d0_379 w135 w136 w137 w138 cw18 ar18 rk0_18_0 (by decide) rfl rfl (X_info_pay hg83) <| ans1 <| Runs.iload d0_382 rfl <| ?_
  refine ite_el hf (fun hc84 hf => ?_) (fun hc84 hf => ?_)
  · refine Runs.icY (pc' := 389) d0_384 (teq hc84).1 (by decide) <| ?_
    refine Runs.aload d0_389 rfl <| ?_
    refine bind2_el hf fun r85 q86 hg87 hf => ?_
    refine Runs.callV (N := B25) (W := 0) (as := []) (S' := []) d0_391 w170 w171 w172 w173 cw25 ar25 rk0_25_0 (by decide) rfl rfl (X_feedback_pay hg87) <| ans1 <| Runs.bipush d0_394 cb_6 <| ?_
    refine ite_el hf (fun hc88 hf => ?_) (fun hc88 hf => ?_)
    · refine Runs.icY (pc' := 401) d0_396 (teq hc88).1 (by decide) <| ?_
      refine Runs.aload d0_401 rfl <| Runs.iconst d0_403 ci_5 <| ?_
      refine bind_el hf fun r89 hg90 hf => ?_
      refine Runs.callV (N := B18) (W := 0) (as := [.int (5 : Int32)]) (S' := []) d0_404 w135 w136 w137 w138 cw18 ar18 rk0_18_0 (by decide) rfl rfl (X_info_pay hg90) <| ans1 <| Runs.bipush d0_407 cb_6 <| ?_
      refine ite_el hf (fun hc91 hf => ?_) (fun hc91 hf => ?_)
      · refine Runs.icY (pc' := 414) d0_409 (teq hc91).1 (by decide) <| ?_
        refine Runs.aload d0_414 rfl <| Runs.bipush d0_416 cb_8 <| ?_
        refine bind2_el hf fun r92 q93 hg94 hf => ?_
        refine Runs.callV (N := B14) (W := 0) (as := [.int (8 : Int32)]) (S' := []) d0_418 w118 w119 w120 w121 cw14 ar14 rk0_14_0 (by decide) rfl rfl (X_stream_pay hg94) <| ans1 <| ?_
        refine ite_el hf (fun hc95 hf => ?_) (fun hc95 hf => ?_)
        · refine Runs.ifN d0_421 (teq hc95).2 <| ?_
          obtain rfl := Option.some.inj hf
          exact Runs.iconst d0_424 ci_1 <| Runs.goto (pc' := 429) d0_425 (by decide) <| Runs.retZ (y := (1 : Int32)) d0_429 rfl ⟨by decide, by decide⟩ rfl rfl
        · refine Runs.ifY (pc' := 428) d0_421 (feq hc95).2 (by decide) <| ?_
          obtain rfl := Option.some.inj hf
          exact Runs.iconst d0_428 ci_0 <| Runs.retZ (y := (0 : Int32)) d0_429 rfl ⟨by decide, by decide⟩ rfl rfl
      · refine Runs.icN d0_409 (feq hc91).1 <| ?_
        obtain rfl := Option.some.inj hf
        exact Runs.iconst d0_412 ci_0 <| Runs.retZ (y := (0 : Int32)) d0_413 rfl ⟨by decide, by decide⟩ rfl rfl
    · refine Runs.icN d0_396 (feq hc88).1 <| ?_
      obtain rfl := Option.some.inj hf
      exact Runs.iconst d0_399 ci_0 <| Runs.retZ (y := (0 : Int32)) d0_400 rfl ⟨by decide, by decide⟩ rfl rfl
  · refine Runs.icN d0_384 (feq hc84).1 <| ?_
    obtain rfl := Option.some.inj hf
    exact Runs.iconst d0_387 ci_0 <| Runs.retZ (y := (0 : Int32)) d0_388 rfl ⟨by decide, by decide⟩ rfl rfl
def L_law_b41 (NF : Nat) (ob : Rec) (i1 : Int32) (i3 : Int32) (i4 : Int32) (i6 : Int32) (i7 : Int32) (t0 : Int64) : Option (Int32) :=
  bind2 (X_begin ob (0 : Int32)) fun r1 q2 =>
  if r1 = (1 : Int32) then
    bind2 (X_begin q2 (1 : Int32)) fun r5 q6 =>
    if r5 = (2 : Int32) then
      bind2 (X_put q6 (0 : Int32) i6 i1) fun r9 q10 =>
      if r9 = (3 : Int32) then
        bind2 (X_put q10 (1 : Int32) i7 i3) fun r13 q14 =>
        if r13 = (4 : Int32) then
          bind2 (X_commit NF q14 (1 : Int32)) fun r17 q18 =>
          if r17 = (5 : Int32) then
            bind2 (X_commit NF q18 (0 : Int32)) fun r21 q22 =>
            if r21 = (6 : Int32) then
              bind2 (X_begin q22 (1 : Int32)) fun r25 q26 =>
              if r25 = (7 : Int32) then
                bind2 (X_put q26 (1 : Int32) i6 i4) fun r29 q30 =>
                if r29 = (8 : Int32) then
                  (X_pubRow q30 i6).bind fun r33 =>
                  if r33 = i1.toInt64 then
                    (X_pubRow q30 i7).bind fun r36 =>
                    if r36 = t0 then
                      bind2 (X_stream NF q30 (8 : Int32)) fun r39 q40 =>
                      if r39 = (2 : Int32) then
                        (X_info NF q40 (3 : Int32)).bind fun r43 =>
                        if r43 = (4 : Int32) then
                          (X_info NF q40 (2 : Int32)).bind fun r46 =>
                          if r46 = (6 : Int32) then
                            bind2 (X_apply NF q40 (1 : Int32)) fun r49 q50 =>
                            if r49 = (1 : Int32) then
                              (X_subPending q50 i7).bind fun r53 =>
                              if r53 = i3.toInt64 then
                                (X_subRow q50 i7).bind fun r56 =>
                                if r56 = (4294967296 : Int64) then
                                  (X_info NF q50 (4 : Int32)).bind fun r59 =>
                                  if r59 = (0 : Int32) then
                                    bind2 (X_apply NF q50 (8 : Int32)) fun r62 q63 =>
                                    if r62 = (3 : Int32) then
                                      (X_subRow q63 i6).bind fun r66 =>
                                      if r66 = i1.toInt64 then
                                        (X_subRow q63 i7).bind fun r69 =>
                                        if r69 = t0 then
                                          (X_subPending q63 i6).bind fun r72 =>
                                          if r72 = (4294967298 : Int64) then
                                            (X_info NF q63 (4 : Int32)).bind fun r75 =>
                                            if r75 = (6 : Int32) then
                                              (X_info NF q63 (3 : Int32)).bind fun r78 =>
                                              if r78 = (0 : Int32) then
                                                if i6 = i7 then
                                                  L_law_b373 NF q63 (1 : Int32)
                                                else
                                                  L_law_b373 NF q63 (2 : Int32)
                                              else
                                                some (0 : Int32)
                                            else
                                              some (0 : Int32)
                                          else
                                            some (0 : Int32)
                                        else
                                          some (0 : Int32)
                                      else
                                        some (0 : Int32)
                                    else
                                      some (0 : Int32)
                                  else
                                    some (0 : Int32)
                                else
                                  some (0 : Int32)
                              else
                                some (0 : Int32)
                            else
                              some (0 : Int32)
                          else
                            some (0 : Int32)
                        else
                          some (0 : Int32)
                      else
                        some (0 : Int32)
                    else
                      some (0 : Int32)
                  else
                    some (0 : Int32)
                else
                  some (0 : Int32)
              else
                some (0 : Int32)
            else
              some (0 : Int32)
          else
            some (0 : Int32)
        else
          some (0 : Int32)
      else
        some (0 : Int32)
    else
      some (0 : Int32)
  else
    some (0 : Int32)
set_option maxRecDepth 65536 in
set_option maxHeartbeats 4000000 in
theorem L_law_b41_p {C : Ctx} {res : Int32} {NF : Nat} (ob : Rec) (i1 : Int32) (i3 : Int32) (i4 : Int32) (i6 : Int32) (i7 : Int32) (t0 : Int64) (hf : L_law_b41 NF ob i1 i3 i4 i6 i7 t0 = some res) : Runs C B0 18 1392 41 [vn, vi i1, vn, vi i3, vi i4, vr C.2.2.1, vi i6, vi i7, vn, vn, vn, vn, vn] [.long t0] (C.2.2.1 + 1 + 17, (C.2.2.1, 17, ob) :: []) (fun v _ => v = (some (.int res))) := by
  delta L_law_b41 at hf
  refine Runs.lstore (P' := [vn, vi i1, vn, vi i3, vi i4, vr C.2.2.1, vi i6, vi i7, vl t0, v2, vn, vn, vn]) d0_41 (by decide) rfl <| Runs.ldc2 d0_43 w69 <| Runs.lstore (P' := [vn, vi i1, vn, vi i3, vi i4, vr C.2.2.1, vi i6, vi i7, vl t0, v2, vl (4294967296 : Int64), v2, vn]) d0_46 (by decide) rfl <| Runs.aload d0_48 rfl <| Runs.iconst d0_50 ci_0 <| ?_
  refine bind2_el hf fun r1 q2 hg3 hf => ?_
  refine Runs.callV (N := B3) (W := 0) (as := [.int (0 : Int32)]) (S' := []) d0_51 w70 w71 w72 w73 cw3 ar3 rk0_3_0 (by decide) rfl rfl (X_begin_pay hg3) <| ans1 <| Runs.iconst d0_54 ci_1 <| ?_
  refine ite_el hf (fun hc4 hf => ?_) (fun hc4 hf => ?_)
  · refine Runs.icY (pc' := 60) d0_55 (teq hc4).1 (by decide) <| ?_
    refine Runs.aload d0_60 rfl <| Runs.iconst d0_62 ci_1 <| ?_
    refine bind2_el hf fun r5 q6 hg7 hf => ?_
    refine Runs.callV (N := B3) (W := 0) (as := [.int (1 : Int32)]) (S' := []) d0_63 w70 w71 w72 w73 cw3 ar3 rk0_3_0 (by decide) rfl rfl (X_begin_pay hg7) <| ans1 <| Runs.iconst d0_66 ci_2 <| ?_
    refine ite_el hf (fun hc8 hf => ?_) (fun hc8 hf => ?_)
    · refine Runs.icY (pc' := 72) d0_67 (teq hc8).1 (by decide) <| ?_
      refine Runs.aload d0_72 rfl <| Runs.iconst d0_74 ci_0 <| Runs.iload d0_75 rfl <| Runs.iloadN d0_77 rfl <| ?_
      refine bind2_el hf fun r9 q10 hg11 hf => ?_
      refine Runs.callV (N := B7) (W := 0) (as := [.int (0 : Int32), .int i6, .int i1]) (S' := []) d0_78 w87 w88 w89 w90 cw7 ar7 rk0_7_0 (by decide) rfl rfl (X_put_pay hg11) <| ans1 <| Runs.iconst d0_81 ci_3 <| ?_
      refine ite_el hf (fun hc12 hf => ?_) (fun hc12 hf => ?_)
      · refine Runs.icY (pc' := 87) d0_82 (teq hc12).1 (by decide) <| ?_
        refine Runs.aload d0_87 rfl <| Runs.iconst d0_89 ci_1 <| Runs.iload d0_90 rfl <| Runs.iloadN d0_92 rfl <| ?_
        refine bind2_el hf fun r13 q14 hg15 hf => ?_
        refine Runs.callV (N := B7) (W := 0) (as := [.int (1 : Int32), .int i7, .int i3]) (S' := []) d0_93 w87 w88 w89 w90 cw7 ar7 rk0_7_0 (by decide) rfl rfl (X_put_pay hg15) <| ans1 <| Runs.iconst d0_96 ci_4 <| ?_
        refine ite_el hf (fun hc16 hf => ?_) (fun hc16 hf => ?_)
        · refine Runs.icY (pc' := 102) d0_97 (teq hc16).1 (by decide) <| ?_
          refine Runs.aload d0_102 rfl <| Runs.iconst d0_104 ci_1 <| ?_
          refine bind2_el hf fun r17 q18 hg19 hf => ?_
          refine Runs.callV (N := B11) (W := 0) (as := [.int (1 : Int32)]) (S' := []) d0_105 w104 w105 w106 w107 cw11 ar11 rk0_11_0 (by decide) rfl rfl (X_commit_pay hg19) <| ans1 <| Runs.iconst d0_108 ci_5 <| ?_
          refine ite_el hf (fun hc20 hf => ?_) (fun hc20 hf => ?_)
          · refine Runs.icY (pc' := 114) d0_109 (teq hc20).1 (by decide) <| ?_
            refine Runs.aload d0_114 rfl <| Runs.iconst d0_116 ci_0 <| ?_
            refine bind2_el hf fun r21 q22 hg23 hf => ?_
            refine Runs.callV (N := B11) (W := 0) (as := [.int (0 : Int32)]) (S' := []) d0_117 w104 w105 w106 w107 cw11 ar11 rk0_11_0 (by decide) rfl rfl (X_commit_pay hg23) <| ans1 <| Runs.bipush d0_120 cb_6 <| ?_
            refine ite_el hf (fun hc24 hf => ?_) (fun hc24 hf => ?_)
            · refine Runs.icY (pc' := 127) d0_122 (teq hc24).1 (by decide) <| ?_
              refine Runs.aload d0_127 rfl <| Runs.iconst d0_129 ci_1 <| ?_
              refine bind2_el hf fun r25 q26 hg27 hf => ?_
              refine Runs.callV (N := B3) (W := 0) (as := [.int (1 : Int32)]) (S' := []) d0_130 w70 w71 w72 w73 cw3 ar3 rk0_3_0 (by decide) rfl rfl (X_begin_pay hg27) <| ans1 <| Runs.bipush d0_133 cb_7 <| ?_
              refine ite_el hf (fun hc28 hf => ?_) (fun hc28 hf => ?_)
              · refine Runs.icY (pc' := 140) d0_135 (teq hc28).1 (by decide) <| ?_
                refine Runs.aload d0_140 rfl <| Runs.iconst d0_142 ci_1 <| Runs.iload d0_143 rfl <| Runs.iload d0_145 rfl <| ?_
                refine bind2_el hf fun r29 q30 hg31 hf => ?_
                refine Runs.callV (N := B7) (W := 0) (as := [.int (1 : Int32), .int i6, .int i4]) (S' := []) d0_147 w87 w88 w89 w90 cw7 ar7 rk0_7_0 (by decide) rfl rfl (X_put_pay hg31) <| ans1 <| Runs.bipush d0_150 cb_8 <| ?_
                refine ite_el hf (fun hc32 hf => ?_) (fun hc32 hf => ?_)
                · refine Runs.icY (pc' := 157) d0_152 (teq hc32).1 (by decide) <| ?_
                  refine Runs.aload d0_157 rfl <| Runs.iload d0_159 rfl <| ?_
                  refine bind_el hf fun r33 hg34 hf => ?_
                  refine Runs.callV (N := B13) (W := 0) (as := [.int i6]) (S' := []) d0_161 w113 w114 w115 w116 cw13 ar13 rk0_13_0 (by decide) rfl rfl (X_pubRow_pay hg34) <| ans1 <| Runs.iloadN d0_164 rfl <| Runs.i2l d0_165 <| Runs.lcmp d0_166 <| ?_
                  refine ite_el hf (fun hc35 hf => ?_) (fun hc35 hf => ?_)
                  · refine Runs.ifY (pc' := 172) d0_167 (teq ((lw_eq _ _).mpr hc35)).1 (by decide) <| ?_
                    refine Runs.aload d0_172 rfl <| Runs.iload d0_174 rfl <| ?_
                    refine bind_el hf fun r36 hg37 hf => ?_
                    refine Runs.callV (N := B13) (W := 0) (as := [.int i7]) (S' := []) d0_176 w113 w114 w115 w116 cw13 ar13 rk0_13_0 (by decide) rfl rfl (X_pubRow_pay hg37) <| ans1 <| Runs.lload d0_179 rfl <| Runs.lcmp d0_181 <| ?_
                    refine ite_el hf (fun hc38 hf => ?_) (fun hc38 hf => ?_)
                    · refine Runs.ifY (pc' := 187) d0_182 (teq ((lw_eq _ _).mpr hc38)).1 (by decide) <| ?_
                      refine Runs.aload d0_187 rfl <| Runs.bipush d0_189 cb_8 <| ?_
                      refine bind2_el hf fun r39 q40 hg41 hf => ?_
                      refine Runs.callV (N := B14) (W := 0) (as := [.int (8 : Int32)]) (S' := []) d0_191 w118 w119 w120 w121 cw14 ar14 rk0_14_0 (by decide) rfl rfl (X_stream_pay hg41) <| ans1 <| Runs.iconst d0_194 ci_2 <| ?_
                      refine ite_el hf (fun hc42 hf => ?_) (fun hc42 hf => ?_)
                      · refine Runs.icY (pc' := 200) d0_195 (teq hc42).1 (by decide) <| ?_
                        refine Runs.aload d0_200 rfl <| Runs.iconst d0_202 ci_3 <| ?_
                        refine bind_el hf fun r43 hg44 hf => ?_
                        refine Runs.callV (N := B18) (W := 0) (as := [.int (3 : Int32)]) (S' := []) d0_203 w135 w136 w137 w138 cw18 ar18 rk0_18_0 (by decide) rfl rfl (X_info_pay hg44) <| ans1 <| Runs.iconst d0_206 ci_4 <| ?_
                        refine ite_el hf (fun hc45 hf => ?_) (fun hc45 hf => ?_)
                        · refine Runs.icY (pc' := 212) d0_207 (teq hc45).1 (by decide) <| ?_
                          refine Runs.aload d0_212 rfl <| Runs.iconst d0_214 ci_2 <| ?_
                          refine bind_el hf fun r46 hg47 hf => ?_
                          refine Runs.callV (N := B18) (W := 0) (as := [.int (2 : Int32)]) (S' := []) d0_215 w135 w136 w137 w138 cw18 ar18 rk0_18_0 (by decide) rfl rfl (X_info_pay hg47) <| ans1 <| Runs.bipush d0_218 cb_6 <| ?_
                          refine ite_el hf (fun hc48 hf => ?_) (fun hc48 hf => ?_)
                          · refine Runs.icY (pc' := 225) d0_220 (teq hc48).1 (by decide) <| ?_
                            refine Runs.aload d0_225 rfl <| Runs.iconst d0_227 ci_1 <| ?_
                            refine bind2_el hf fun r49 q50 hg51 hf => ?_
                            refine Runs.callV (N := B19) (W := 0) (as := [.int (1 : Int32)]) (S' := []) d0_228 w140 w141 w142 w143 cw19 ar19 rk0_19_0 (by decide) rfl rfl (X_apply_pay hg51) <| ans1 <| Runs.iconst d0_231 ci_1 <| ?_
                            refine ite_el hf (fun hc52 hf => ?_) (fun hc52 hf => ?_)
                            · refine Runs.icY (pc' := 237) d0_232 (teq hc52).1 (by decide) <| ?_
                              refine Runs.aload d0_237 rfl <| Runs.iload d0_239 rfl <| ?_
                              refine bind_el hf fun r53 hg54 hf => ?_
                              refine Runs.callV (N := B21) (W := 0) (as := [.int i7]) (S' := []) d0_241 w149 w150 w151 w152 cw21 ar21 rk0_21_0 (by decide) rfl rfl (X_subPending_pay hg54) <| ans1 <| Runs.iloadN d0_244 rfl <| Runs.i2l d0_245 <| Runs.lcmp d0_246 <| ?_
                              refine ite_el hf (fun hc55 hf => ?_) (fun hc55 hf => ?_)
                              · refine Runs.ifY (pc' := 252) d0_247 (teq ((lw_eq _ _).mpr hc55)).1 (by decide) <| ?_
                                refine Runs.aload d0_252 rfl <| Runs.iload d0_254 rfl <| ?_
                                refine bind_el hf fun r56 hg57 hf => ?_
                                refine Runs.callV (N := B22) (W := 0) (as := [.int i7]) (S' := []) d0_256 w154 w155 w156 w157 cw22 ar22 rk0_22_0 (by decide) rfl rfl (X_subRow_pay hg57) <| ans1 <| Runs.lload d0_259 rfl <| Runs.lcmp d0_261 <| ?_
                                refine ite_el hf (fun hc58 hf => ?_) (fun hc58 hf => ?_)
                                · refine Runs.ifY (pc' := 267) d0_262 (teq ((lw_eq _ _).mpr hc58)).1 (by decide) <| ?_
                                  refine Runs.aload d0_267 rfl <| Runs.iconst d0_269 ci_4 <| ?_
                                  refine bind_el hf fun r59 hg60 hf => ?_
                                  refine Runs.callV (N := B18) (W := 0) (as := [.int (4 : Int32)]) (S' := []) d0_270 w135 w136 w137 w138 cw18 ar18 rk0_18_0 (by decide) rfl rfl (X_info_pay hg60) <| ans1 <| ?_
                                  refine ite_el hf (fun hc61 hf => ?_) (fun hc61 hf => ?_)
                                  · refine Runs.ifY (pc' := 278) d0_273 (teq hc61).1 (by decide) <| ?_
                                    refine Runs.aload d0_278 rfl <| Runs.bipush d0_280 cb_8 <| ?_
                                    refine bind2_el hf fun r62 q63 hg64 hf => ?_
                                    refine Runs.callV (N := B19) (W := 0) (as := [.int (8 : Int32)]) (S' := []) d0_282 w140 w141 w142 w143 cw19 ar19 rk0_19_0 (by decide) rfl rfl (X_apply_pay hg64) <| ans1 <| Runs.iconst d0_285 ci_3 <| ?_
                                    refine ite_el hf (fun hc65 hf => ?_) (fun hc65 hf => ?_)
                                    · refine Runs.icY (pc' := 291) d0_286 (teq hc65).1 (by decide) <| ?_
                                      refine Runs.aload d0_291 rfl <| Runs.iload d0_293 rfl <| ?_
                                      refine bind_el hf fun r66 hg67 hf => ?_
                                      refine Runs.callV (N := B22) (W := 0) (as := [.int i6]) (S' := []) d0_295 w154 w155 w156 w157 cw22 ar22 rk0_22_0 (by decide) rfl rfl (X_subRow_pay hg67) <| ans1 <| Runs.iloadN d0_298 rfl <| Runs.i2l d0_299 <| Runs.lcmp d0_300 <| ?_
                                      refine ite_el hf (fun hc68 hf => ?_) (fun hc68 hf => ?_)
                                      · refine Runs.ifY (pc' := 306) d0_301 (teq ((lw_eq _ _).mpr hc68)).1 (by decide) <| ?_
                                        refine Runs.aload d0_306 rfl <| Runs.iload d0_308 rfl <| ?_
                                        refine bind_el hf fun r69 hg70 hf => ?_
                                        refine Runs.callV (N := B22) (W := 0) (as := [.int i7]) (S' := []) d0_310 w154 w155 w156 w157 cw22 ar22 rk0_22_0 (by decide) rfl rfl (X_subRow_pay hg70) <| ans1 <| Runs.lload d0_313 rfl <| Runs.lcmp d0_315 <| ?_
                                        refine ite_el hf (fun hc71 hf => ?_) (fun hc71 hf => ?_)
                                        · refine Runs.ifY (pc' := 321) d0_316 (teq ((lw_eq _ _).mpr hc71)).1 (by decide) <| ?_
                                          refine Runs.aload d0_321 rfl <| Runs.iload d0_323 rfl <| ?_
                                          refine bind_el hf fun r72 hg73 hf => ?_
                                          refine Runs.callV (N := B21) (W := 0) (as := [.int i6]) (S' := []) d0_325 w149 w150 w151 w152 cw21 ar21 rk0_21_0 (by decide) rfl rfl (X_subPending_pay hg73) <| ans1 <| Runs.ldc2 d0_328 w165 <| Runs.lcmp d0_331 <| ?_
                                          refine ite_el hf (fun hc74 hf => ?_) (fun hc74 hf => ?_)
                                          · refine Runs.ifY (pc' := 337) d0_332 (teq ((lw_eq _ _).mpr hc74)).1 (by decide) <| ?_
                                            refine Runs.aload d0_337 rfl <| Runs.iconst d0_339 ci_4 <| ?_
                                            refine bind_el hf fun r75 hg76 hf => ?_
                                            refine Runs.callV (N := B18) (W := 0) (as := [.int (4 : Int32)]) (S' := []) d0_340 w135 w136 w137 w138 cw18 ar18 rk0_18_0 (by decide) rfl rfl (X_info_pay hg76) <| ans1 <| Runs.bipush d0_343 cb_6 <| ?_
                                            refine ite_el hf (fun hc77 hf => ?_) (fun hc77 hf => ?_)
                                            · refine Runs.icY (pc' := 350) d0_345 (teq hc77).1 (by decide) <| ?_
                                              refine Runs.aload d0_350 rfl <| Runs.iconst d0_352 ci_3 <| ?_
                                              refine bind_el hf fun r78 hg79 hf => ?_
                                              refine Runs.callV (N := B18) (W := 0) (as := [.int (3 : Int32)]) (S' := []) d0_353 w135 w136 w137 w138 cw18 ar18 rk0_18_0 (by decide) rfl rfl (X_info_pay hg79) <| ans1 <| ?_
                                              refine ite_el hf (fun hc80 hf => ?_) (fun hc80 hf => ?_)
                                              · refine Runs.ifY (pc' := 361) d0_356 (teq hc80).1 (by decide) <| ?_
                                                refine Runs.iload d0_361 rfl <| Runs.iload d0_363 rfl <| ?_
                                                refine ite_el hf (fun hc81 hf => ?_) (fun hc81 hf => ?_)
                                                · refine Runs.icN d0_365 (teq hc81).2 <| ?_
                                                  exact Runs.iconst d0_368 ci_1 <| Runs.goto (pc' := 373) d0_369 (by decide) <| Runs.forget [false, false, false, false, false, true, false, false, false, false, false, false, false] rfl <| L_law_b373_p q63 (1 : Int32) hf
                                                · refine Runs.icY (pc' := 372) d0_365 (feq hc81).2 (by decide) <| ?_
                                                  exact Runs.iconst d0_372 ci_2 <| Runs.forget [false, false, false, false, false, true, false, false, false, false, false, false, false] rfl <| L_law_b373_p q63 (2 : Int32) hf
                                              · refine Runs.ifN d0_356 (feq hc80).1 <| ?_
                                                obtain rfl := Option.some.inj hf
                                                exact Runs.iconst d0_359 ci_0 <| Runs.retZ (y := (0 : Int32)) d0_360 rfl ⟨by decide, by decide⟩ rfl rfl
                                            · refine Runs.icN d0_345 (feq hc77).1 <| ?_
                                              obtain rfl := Option.some.inj hf
                                              exact Runs.iconst d0_348 ci_0 <| Runs.retZ (y := (0 : Int32)) d0_349 rfl ⟨by decide, by decide⟩ rfl rfl
                                          · refine Runs.ifN d0_332 (feq (fun u => hc74 ((lw_eq _ _).mp u))).1 <| ?_
                                            obtain rfl := Option.some.inj hf
                                            exact Runs.iconst d0_335 ci_0 <| Runs.retZ (y := (0 : Int32)) d0_336 rfl ⟨by decide, by decide⟩ rfl rfl
                                        · refine Runs.ifN d0_316 (feq (fun u => hc71 ((lw_eq _ _).mp u))).1 <| ?_
                                          obtain rfl := Option.some.inj hf
                                          exact Runs.iconst d0_319 ci_0 <| Runs.retZ (y := (0 : Int32)) d0_320 rfl ⟨by decide, by decide⟩ rfl rfl
                                      · refine Runs.ifN d0_301 (feq (fun u => hc68 ((lw_eq _ _).mp u))).1 <| ?_
                                        obtain rfl := Option.some.inj hf
                                        exact Runs.iconst d0_304 ci_0 <| Runs.retZ (y := (0 : Int32)) d0_305 rfl ⟨by decide, by decide⟩ rfl rfl
                                    · refine Runs.icN d0_286 (feq hc65).1 <| ?_
                                      obtain rfl := Option.some.inj hf
                                      exact Runs.iconst d0_289 ci_0 <| Runs.retZ (y := (0 : Int32)) d0_290 rfl ⟨by decide, by decide⟩ rfl rfl
                                  · refine Runs.ifN d0_273 (feq hc61).1 <| ?_
                                    obtain rfl := Option.some.inj hf
                                    exact Runs.iconst d0_276 ci_0 <| Runs.retZ (y := (0 : Int32)) d0_277 rfl ⟨by decide, by decide⟩ rfl rfl
                                · refine Runs.ifN d0_262 (feq (fun u => hc58 ((lw_eq _ _).mp u))).1 <| ?_
                                  obtain rfl := Option.some.inj hf
                                  exact Runs.iconst d0_265 ci_0 <| Runs.retZ (y := (0 : Int32)) d0_266 rfl ⟨by decide, by decide⟩ rfl rfl
                              · refine Runs.ifN d0_247 (feq (fun u => hc55 ((lw_eq _ _).mp u))).1 <| ?_
                                obtain rfl := Option.some.inj hf
                                exact Runs.iconst d0_250 ci_0 <| Runs.retZ (y := (0 : Int32)) d0_251 rfl ⟨by decide, by decide⟩ rfl rfl
                            · refine Runs.icN d0_232 (feq hc52).1 <| ?_
                              obtain rfl := Option.some.inj hf
                              exact Runs.iconst d0_235 ci_0 <| Runs.retZ (y := (0 : Int32)) d0_236 rfl ⟨by decide, by decide⟩ rfl rfl
                          · refine Runs.icN d0_220 (feq hc48).1 <| ?_
                            obtain rfl := Option.some.inj hf
                            exact Runs.iconst d0_223 ci_0 <| Runs.retZ (y := (0 : Int32)) d0_224 rfl ⟨by decide, by decide⟩ rfl rfl
                        · refine Runs.icN d0_207 (feq hc45).1 <| ?_
                          obtain rfl := Option.some.inj hf
                          exact Runs.iconst d0_210 ci_0 <| Runs.retZ (y := (0 : Int32)) d0_211 rfl ⟨by decide, by decide⟩ rfl rfl
                      · refine Runs.icN d0_195 (feq hc42).1 <| ?_
                        obtain rfl := Option.some.inj hf
                        exact Runs.iconst d0_198 ci_0 <| Runs.retZ (y := (0 : Int32)) d0_199 rfl ⟨by decide, by decide⟩ rfl rfl
                    · refine Runs.ifN d0_182 (feq (fun u => hc38 ((lw_eq _ _).mp u))).1 <| ?_
                      obtain rfl := Option.some.inj hf
                      exact Runs.iconst d0_185 ci_0 <| Runs.retZ (y := (0 : Int32)) d0_186 rfl ⟨by decide, by decide⟩ rfl rfl
                  · refine Runs.ifN d0_167 (feq (fun u => hc35 ((lw_eq _ _).mp u))).1 <| ?_
                    obtain rfl := Option.some.inj hf
                    exact Runs.iconst d0_170 ci_0 <| Runs.retZ (y := (0 : Int32)) d0_171 rfl ⟨by decide, by decide⟩ rfl rfl
                · refine Runs.icN d0_152 (feq hc32).1 <| ?_
                  obtain rfl := Option.some.inj hf
                  exact Runs.iconst d0_155 ci_0 <| Runs.retZ (y := (0 : Int32)) d0_156 rfl ⟨by decide, by decide⟩ rfl rfl
              · refine Runs.icN d0_135 (feq hc28).1 <| ?_
                obtain rfl := Option.some.inj hf
                exact Runs.iconst d0_138 ci_0 <| Runs.retZ (y := (0 : Int32)) d0_139 rfl ⟨by decide, by decide⟩ rfl rfl
            · refine Runs.icN d0_122 (feq hc24).1 <| ?_
              obtain rfl := Option.some.inj hf
              exact Runs.iconst d0_125 ci_0 <| Runs.retZ (y := (0 : Int32)) d0_126 rfl ⟨by decide, by decide⟩ rfl rfl
          · refine Runs.icN d0_109 (feq hc20).1 <| ?_
            obtain rfl := Option.some.inj hf
            exact Runs.iconst d0_112 ci_0 <| Runs.retZ (y := (0 : Int32)) d0_113 rfl ⟨by decide, by decide⟩ rfl rfl
        · refine Runs.icN d0_97 (feq hc16).1 <| ?_
          obtain rfl := Option.some.inj hf
          exact Runs.iconst d0_100 ci_0 <| Runs.retZ (y := (0 : Int32)) d0_101 rfl ⟨by decide, by decide⟩ rfl rfl
      · refine Runs.icN d0_82 (feq hc12).1 <| ?_
        obtain rfl := Option.some.inj hf
        exact Runs.iconst d0_85 ci_0 <| Runs.retZ (y := (0 : Int32)) d0_86 rfl ⟨by decide, by decide⟩ rfl rfl
    · refine Runs.icN d0_67 (feq hc8).1 <| ?_
      obtain rfl := Option.some.inj hf
      exact Runs.iconst d0_70 ci_0 <| Runs.retZ (y := (0 : Int32)) d0_71 rfl ⟨by decide, by decide⟩ rfl rfl
  · refine Runs.icN d0_55 (feq hc4).1 <| ?_
    obtain rfl := Option.some.inj hf
    exact Runs.iconst d0_58 ci_0 <| Runs.retZ (y := (0 : Int32)) d0_59 rfl ⟨by decide, by decide⟩ rfl rfl
def L_law (NF : Nat) (i0 : Int32) (i1 : Int32) (i2 : Int32) (i3 : Int32) (i4 : Int32) : Option (Int32) :=
  (X_init (8 : Int32) (2 : Int32) (16 : Int32) (2 : Int32)).bind fun q96 =>
  if (i0 &&& (7 : Int32)) = (i2 &&& (7 : Int32)) then
    L_law_b41 NF q96 i1 i3 i4 (i0 &&& (7 : Int32)) (i2 &&& (7 : Int32)) i1.toInt64
  else
    L_law_b41 NF q96 i1 i3 i4 (i0 &&& (7 : Int32)) (i2 &&& (7 : Int32)) i3.toInt64
set_option maxRecDepth 65536 in
set_option maxHeartbeats 4000000 in
theorem L_law_p {C : Ctx} {res : Int32} {NF : Nat} (i0 : Int32) (i1 : Int32) (i2 : Int32) (i3 : Int32) (i4 : Int32) (hf : L_law NF i0 i1 i2 i3 i4 = some res) : Runs C B0 0 0 0 [vi i0, vi i1, vi i2, vi i3, vi i4, vn, vn, vn, vn, vn, vn, vn, vn] [] (C.2.2.1, []) (fun v _ => v = (some (.int res))) := by
  delta L_law at hf
  refine Runs.newK (k' := 1) (n' := 27) d0_0 w0 ⟨by decide, by decide⟩ rfl rfl (by intro x hx; cases hx) <| Runs.dup d0_3 rfl <| Runs.bipush d0_4 cb_8 <| Runs.iconst d0_6 ci_2 <| Runs.bipush d0_7 cb_16 <| Runs.iconst d0_9 ci_2 <| ?_
  refine bind_el hf fun q96 hg97 hf => ?_
  refine Runs.callI (N := B1) (k' := 18) (n' := 1392) (W := 1) (as := [.int (8 : Int32), .int (2 : Int32), .int (16 : Int32), .int (2 : Int32)]) (S' := [.ref C.2.2.1]) d0_10 rfl rfl w3 w4 cw1 ar1 (by decide) rfl rfl rfl rfl (X_init_pay hg97) <| ans0 <| Runs.astore (P' := [vi i0, vi i1, vi i2, vi i3, vi i4, vr C.2.2.1, vn, vn, vn, vn, vn, vn, vn]) d0_13 (by decide) rfl <| Runs.iloadN d0_15 rfl <| Runs.bipush d0_16 cb_7 <| Runs.iand d0_18 <| Runs.istore (P' := [vi i0, vi i1, vi i2, vi i3, vi i4, vr C.2.2.1, vi (i0 &&& (7 : Int32)), vn, vn, vn, vn, vn, vn]) d0_19 (by decide) rfl <| Runs.iloadN d0_21 rfl <| Runs.bipush d0_22 cb_7 <| Runs.iand d0_24 <| Runs.istore (P' := [vi i0, vi i1, vi i2, vi i3, vi i4, vr C.2.2.1, vi (i0 &&& (7 : Int32)), vi (i2 &&& (7 : Int32)), vn, vn, vn, vn, vn]) d0_25 (by decide) rfl <| Runs.iload d0_27 rfl <| Runs.iload d0_29 rfl <| ?_
  refine ite_el hf (fun hc98 hf => ?_) (fun hc98 hf => ?_)
  · refine Runs.icN d0_31 (teq hc98).2 <| ?_
    exact Runs.iloadN d0_34 rfl <| Runs.i2l d0_35 <| Runs.goto (pc' := 41) d0_36 (by decide) <| Runs.forget [false, true, false, true, true, true, true, true, false, false, false, false, false] rfl <| L_law_b41_p q96 i1 i3 i4 (i0 &&& (7 : Int32)) (i2 &&& (7 : Int32)) i1.toInt64 hf
  · refine Runs.icY (pc' := 39) d0_31 (feq hc98).2 (by decide) <| ?_
    exact Runs.iloadN d0_39 rfl <| Runs.i2l d0_40 <| Runs.forget [false, true, false, true, true, true, true, true, false, false, false, false, false] rfl <| L_law_b41_p q96 i1 i3 i4 (i0 &&& (7 : Int32)) (i2 &&& (7 : Int32)) i3.toInt64 hf
theorem L_law_pay {C : Ctx} {res : Int32} {NF : Nat} {i0 : Int32} {i1 : Int32} {i2 : Int32} {i3 : Int32} {i4 : Int32} (hf : L_law NF i0 i1 i2 i3 i4 = some res) : Pays C B0 [.int i0, .int i1, .int i2, .int i3, .int i4] (C.2.2.1, []) (fun v _ => v = (some (.int res))) :=
  Pays.of pnL (Nat.le_of_ble_eq_true rfl) (P := [vi i0, vi i1, vi i2, vi i3, vi i4, vn, vn, vn, vn, vn, vn, vn, vn]) 8 rfl (L_law_p i0 i1 i2 i3 i4 hf)
-- no word: X_info at 54: method #153
-- no word: X_info at 79: method #157
--OWED--
theorem gI_sI (ob : Rec) (k j : Nat) (v : Int32) : gI (sI ob k v) j = if j = k then v else gI ob j := rfl
theorem gI_sA (ob : Rec) (k j : Nat) (i v : Int32) : gI (sA ob k i v) j = gI ob j := rfl
theorem gI_sJ (ob : Rec) (k j : Nat) (i : Int32) (v : Int64) : gI (sJ ob k i v) j = gI ob j := rfl
theorem gA_sI (ob : Rec) (k j : Nat) (v x : Int32) : gA (sI ob k v) j x = gA ob j x := rfl
theorem gA_sA (ob : Rec) (k j : Nat) (i v x : Int32) : gA (sA ob k i v) j x = if j = k ∧ x = i then v else gA ob j x := rfl
theorem gA_sJ (ob : Rec) (k j : Nat) (i x : Int32) (v : Int64) : gA (sJ ob k i v) j x = gA ob j x := rfl
theorem gJ_sI (ob : Rec) (k j : Nat) (v x : Int32) : gJ (sI ob k v) j x = gJ ob j x := rfl
theorem gJ_sA (ob : Rec) (k j : Nat) (i v x : Int32) : gJ (sA ob k i v) j x = gJ ob j x := rfl
theorem gJ_sJ (ob : Rec) (k j : Nat) (i x : Int32) (v : Int64) : gJ (sJ ob k i v) j x = if j = k ∧ x = i then v else gJ ob j x := rfl
theorem gI_z (k : Nat) : gI zrec k = 0 := rfl
theorem gA_z (k : Nat) (i : Int32) : gA zrec k i = 0 := rfl
theorem gJ_z (k : Nat) (i : Int32) : gJ zrec k i = 0 := rfl
theorem chk_ok {γ : Type} {n i : Int32} {A : Option γ} (h : 0 ≤ i.toInt ∧ i.toInt < n.toInt) : chk n i A = A := by
  have h0 : ¬ i < 0 := by rw [Int32.lt_iff_toInt_lt]; show ¬ i.toInt < 0; omega
  have h1 : i < n := by rw [Int32.lt_iff_toInt_lt]; exact h.2
  unfold chk; rw [if_neg h0, if_pos h1]
theorem lt_i {x y : Int32} : x < y ↔ x.toInt < y.toInt := Int32.lt_iff_toInt_lt
theorem le_i {x y : Int32} : x ≤ y ↔ x.toInt ≤ y.toInt := Int32.le_iff_toInt_le
theorem eq_i32 {x y : Int32} : x = y ↔ x.toInt = y.toInt := Int32.toInt_inj.symm
theorem bm_id {n : Int} (h : -2147483648 ≤ n ∧ n < 2147483648) : n.bmod (2 ^ 32) = n := Int.bmod_eq_of_le (by omega) (by omega)
theorem ad {x y : Int32} (h : -2147483648 ≤ x.toInt + y.toInt ∧ x.toInt + y.toInt < 2147483648) : (x + y).toInt = x.toInt + y.toInt := by rw [Int32.toInt_add, bm_id h]
theorem sb {x y : Int32} (h : -2147483648 ≤ x.toInt - y.toInt ∧ x.toInt - y.toInt < 2147483648) : (x - y).toInt = x.toInt - y.toInt := by rw [Int32.toInt_sub, bm_id h]
theorem ml {x y : Int32} (h : -2147483648 ≤ x.toInt * y.toInt ∧ x.toInt * y.toInt < 2147483648) : (x * y).toInt = x.toInt * y.toInt := by rw [Int32.toInt_mul, bm_id h]
theorem bind2_some {α β γ : Type} (a : α) (b : β) (f : α → β → Option γ) : bind2 (some (a, b)) f = f a b := rfl
theorem and_b (x m : Int32) (k : Nat) (hm : m.toBitVec.toNat = k) (hk : k < 2147483648) : 0 ≤ (x &&& m).toInt ∧ (x &&& m).toInt ≤ (k : Int) := by
  have h1 : (x &&& m).toBitVec.toNat = x.toBitVec.toNat &&& m.toBitVec.toNat := by rw [Int32.toBitVec_and, BitVec.toNat_and]
  have h2 : (x &&& m).toBitVec.toNat ≤ k := by rw [h1, hm]; exact Nat.and_le_right
  have h3 : (x &&& m).toInt = ((x &&& m).toBitVec.toNat : Int) := by
    show (x &&& m).toBitVec.toInt = _
    exact BitVec.toInt_eq_toNat_of_lt (by omega)
  rw [h3]; omega
theorem mem8 (x : Int32) : (x &&& 7) ∈ ([0, 1, 2, 3, 4, 5, 6, 7] : List Int32) := by
  have h := and_b x 7 7 rfl (by omega)
  simp only [List.mem_cons, eq_i32, Int32.reduceToInt, List.not_mem_nil, or_false]
  omega
theorem mem2 (x : Int32) : (x &&& 1) ∈ ([0, 1] : List Int32) := by
  have h := and_b x 1 1 rfl (by omega)
  simp only [List.mem_cons, eq_i32, Int32.reduceToInt, List.not_mem_nil, or_false]
  omega
-- USE: bits
theorem t0 : (0 : Int32).toInt = 0 := rfl
theorem t1 : (1 : Int32).toInt = 1 := rfl
theorem t8 : (8 : Int32).toInt = 8 := rfl
theorem t32 : (32 : Int32).toInt = 32 := rfl
theorem t128 : (128 : Int32).toInt = 128 := rfl
theorem t129 : (129 : Int32).toInt = 129 := rfl
theorem succ8 {i : Int32} (h : 0 ≤ i.toInt ∧ i.toInt < 1000) : (i + 1).toInt = i.toInt + 1 := by rw [ad (by rw [t1]; omega), t1]
def R0 : Rec := sI (sI (sI (sI (sI (sI (sI (sI (sI (sI zrec 0 8) 1 2) 2 16) 3 2) 4 0) 5 0) 6 0) 7 0) 8 0) 9 0
theorem init_c : X_init 8 2 16 2 = some R0 := rfl
def en (ob : Rec) (n k s key v : Int32) : Rec := sA (sA (sA (sA (sA (sI ob 4 n) 0 n k) 1 n s) 2 n key) 3 n v) 4 n 0
theorem app_e (ob : Rec) (m n k s key v : Int32) (h : gI ob 4 = m) (hn : m + 1 = n) (hb : 0 ≤ n.toInt ∧ n.toInt < 129) : X_append ob k s key v = some (n, en ob n k s key v) := by
  unfold X_append
  have q : ∀ A : Option (Int32 × Rec), chk 129 n A = A := fun A => chk_ok hb
  rw [h, hn, q, q, q, q, q]; rfl
theorem lf_e (ob : Rec) (m : Int32) (h : gI ob 4 = m) (h2 : gI ob 2 = 16) (hm : m < 16) (hm' : m < 128) : X_logFull ob = some 0 := by
  unfold X_logFull; rw [h, h2, if_pos hm, if_pos hm']
abbrev S01 (s : Int32) : Prop := s = 0 ∨ s = 1
theorem chk8 {γ : Type} {s : Int32} (hs : S01 s) (A : Option γ) : chk 8 s A = A := by
  rcases hs with rfl | rfl <;> exact chk_ok (by decide)
theorem vs_e (ob : Rec) (s : Int32) (h1 : gI ob 1 = 2) (hs : S01 s) : X_validSlot ob s = some 1 := by
  unfold X_validSlot; rw [h1]
  rcases hs with rfl | rfl <;> rw [if_neg (by decide), if_pos (by decide), if_pos (by decide)]
theorem bg_e (ob : Rec) (m n s : Int32) (h1 : gI ob 1 = 2) (h2 : gI ob 2 = 16) (h4 : gI ob 4 = m) (h5 : gA ob 5 s = 0) (hs : S01 s) (hn : m + 1 = n) (hm : m < 16) (hm' : m < 128) (hb : 0 ≤ n.toInt ∧ n.toInt < 129) : X_begin ob s = some (n, sA (sA (en ob n 1 s 0 0) 5 s 1) 6 s n) := by
  unfold X_begin
  rw [vs_e ob s h1 hs, Option.bind_some, if_neg (by decide), chk8 hs, h5, if_pos rfl, lf_e ob m h4 h2 hm hm', Option.bind_some, if_pos rfl, app_e ob m n 1 s 0 0 h4 hn hb, bind2_some, chk8 hs, chk8 hs]
theorem co_e (ob : Rec) (s : Int32) (h1 : gI ob 1 = 2) (h5 : gA ob 5 s = 1) (hs : S01 s) : X_checkOpenSlot ob s = some 0 := by
  unfold X_checkOpenSlot
  rw [vs_e ob s h1 hs, Option.bind_some, if_neg (by decide), chk8 hs, h5, if_neg (by decide)]
abbrev K8 (k : Int32) : Prop := 0 ≤ k.toInt ∧ k.toInt < 8
theorem vk_e (ob : Rec) (k : Int32) (h0 : gI ob 0 = 8) (hk : K8 k) : X_validKey ob k = some 1 := by
  have := hk.1; have := hk.2
  unfold X_validKey; rw [h0, if_neg (by rw [lt_i, t0]; omega), if_pos (by rw [lt_i, t8]; omega), if_pos (by rw [lt_i, t32]; omega)]
theorem pt_e (ob : Rec) (s key v m n : Int32) (h0 : gI ob 0 = 8) (h1 : gI ob 1 = 2) (h2 : gI ob 2 = 16) (h4 : gI ob 4 = m) (h5 : gA ob 5 s = 1) (hs : S01 s) (hn : m + 1 = n) (hm : m < 16) (hm' : m < 128) (hb : 0 ≤ n.toInt ∧ n.toInt < 129) (hk : K8 key) : X_put ob s key v = some (n, en ob n 2 s key v) := by
  unfold X_put X_write
  rw [co_e ob s h1 h5 hs, Option.bind_some, if_pos rfl, vk_e ob key h0 hk, Option.bind_some, if_neg (by decide), lf_e ob m h4 h2 hm hm', Option.bind_some, if_pos rfl, app_e ob m n 2 s key v h4 hn hb]; rfl
theorem apE (NF n : Nat) (ob : Rec) (s L i : Int32) (h : ¬ i < L) : X_applyToPublisher_l18 NF (n + 1) ob s L i = some ob := by
  show X_applyToPublisher_w18 NF _ ob s L i = _
  unfold X_applyToPublisher_w18; rw [if_neg h]
theorem apS (NF n : Nat) (ob : Rec) (s s' L i : Int32) (h : i < L) (h1 : i < 129) (h0 : 0 ≤ i.toInt) (e1 : gA ob 1 i = s') (ne : ¬ s' = s) : X_applyToPublisher_l18 NF (n + 1) ob s L i = X_applyToPublisher_l18 NF n ob s L (i + 1) := by
  show X_applyToPublisher_w18 NF _ ob s L i = _
  unfold X_applyToPublisher_w18; rw [if_pos h, if_pos h1, chk_ok ⟨h0, lt_i.mp h1⟩, e1, if_neg ne]
theorem ap2 (NF n : Nat) (ob : Rec) (s L i key v : Int32) (h : i < L) (h1 : i < 129) (h0 : 0 ≤ i.toInt) (e1 : gA ob 1 i = s) (e2 : gA ob 2 i = key) (hk : K8 key) (e0 : gA ob 0 i = 2) (e3 : gA ob 3 i = v) : X_applyToPublisher_l18 NF (n + 1) ob s L i = X_applyToPublisher_l18 NF n (sA (sA ob 7 key 1) 8 key v) s L (i + 1) := by
  show X_applyToPublisher_w18 NF _ ob s L i = _
  have := hk.1; have := hk.2
  have q : ∀ A : Option Rec, chk 129 i A = A := fun A => chk_ok ⟨h0, lt_i.mp h1⟩
  have q' : ∀ A : Option Rec, chk 32 key A = A := fun A => chk_ok (by rw [t32]; omega)
  unfold X_applyToPublisher_w18; rw [if_pos h, if_pos h1, q, q, e1, e2, if_pos rfl, if_neg (by rw [lt_i, t0]; omega), if_pos (by rw [lt_i, t32]; omega), q, e0, if_pos rfl, q', q, q', e3]
theorem com_e (ob q : Rec) (s m n b b' : Int32) (h1 : gI ob 1 = 2) (h2 : gI ob 2 = 16) (h4 : gI ob 4 = m) (h5 : gA ob 5 s = 1) (hs : S01 s) (h6 : gA ob 6 s = b) (hb' : b + 1 = b') (hb1 : ¬ b' < 1) (hn : m + 1 = n) (hm : m < 16) (hm' : m < 128) (hb : 0 ≤ n.toInt ∧ n.toInt < 129) (ha : X_applyToPublisher_l18 60 60 (sA (en ob n 4 s 0 0) 4 n b) s n b' = some q) : X_commit 60 ob s = some (n, sA q 5 s 0) := by
  unfold X_commit
  rw [co_e ob s h1 h5 hs, Option.bind_some, if_pos rfl, lf_e ob m h4 h2 hm hm', Option.bind_some, if_pos rfl, chk8 hs, app_e ob m n 4 s 0 0 h4 hn hb, bind2_some, h6, chk_ok hb]
  unfold X_applyToPublisher
  rw [hb', if_neg hb1, ha, Option.bind_some, chk8 hs]
def R1 : Rec := sA (sA (en R0 1 1 0 0 0) 5 0 1) 6 0 1
def R2 : Rec := sA (sA (en R1 2 1 1 0 0) 5 1 1) 6 1 2
def R3 (a v1 : Int32) : Rec := en R2 3 2 0 a v1
def R4 (a b v1 v2 : Int32) : Rec := en (R3 a v1) 4 2 1 b v2
def R5 (a b v1 v2 : Int32) : Rec := sA (sA (sA (sA (en (R4 a b v1 v2) 5 4 1 0 0) 4 5 2) 7 b 1) 8 b v2) 5 1 0
def R6 (a b v1 v2 : Int32) : Rec := sA (sA (sA (sA (en (R5 a b v1 v2) 6 4 0 0 0) 4 6 1) 7 a 1) 8 a v1) 5 0 0
def R7 (a b v1 v2 : Int32) : Rec := sA (sA (en (R6 a b v1 v2) 7 1 1 0 0) 5 1 1) 6 1 7
def R8 (a b v1 v2 v3 : Int32) : Rec := en (R7 a b v1 v2) 8 2 1 a v3
theorem s1 : X_begin R0 0 = some (1, R1) := bg_e R0 0 1 0 rfl rfl rfl rfl (Or.inl rfl) rfl (by decide) (by decide) (by decide)
theorem s2 : X_begin R1 1 = some (2, R2) := bg_e R1 1 2 1 rfl rfl rfl rfl (Or.inr rfl) rfl (by decide) (by decide) (by decide)
theorem s3 (a v1 : Int32) (ha : K8 a) : X_put R2 0 a v1 = some (3, R3 a v1) := pt_e R2 0 a v1 2 3 rfl rfl rfl rfl rfl (Or.inl rfl) rfl (by decide) (by decide) (by decide) ha
theorem s4 (a b v1 v2 : Int32) (hb : K8 b) : X_put (R3 a v1) 1 b v2 = some (4, R4 a b v1 v2) := pt_e (R3 a v1) 1 b v2 3 4 rfl rfl rfl rfl rfl (Or.inr rfl) rfl (by decide) (by decide) (by decide) hb
theorem s5 (a b v1 v2 : Int32) (hb : K8 b) : X_commit 60 (R4 a b v1 v2) 1 = some (5, R5 a b v1 v2) := by
  refine com_e (R4 a b v1 v2) (sA (sA (sA (en (R4 a b v1 v2) 5 4 1 0 0) 4 5 2) 7 b 1) 8 b v2) 1 4 5 2 3 rfl rfl rfl rfl (Or.inr rfl) rfl rfl (by decide) rfl (by decide) (by decide) (by decide) ?_
  rw [apS 60 59 _ 1 0 5 3 (by decide) (by decide) (by decide) rfl (by decide), ap2 60 58 _ 1 5 (3 + 1) b v2 (by decide) (by decide) (by decide) rfl rfl hb rfl rfl, apE 60 57 _ _ _ _ (by decide)]
theorem s6 (a b v1 v2 : Int32) (ha : K8 a) : X_commit 60 (R5 a b v1 v2) 0 = some (6, R6 a b v1 v2) := by
  refine com_e (R5 a b v1 v2) (sA (sA (sA (en (R5 a b v1 v2) 6 4 0 0 0) 4 6 1) 7 a 1) 8 a v1) 0 5 6 1 2 rfl rfl rfl rfl (Or.inl rfl) rfl rfl (by decide) rfl (by decide) (by decide) (by decide) ?_
  rw [apS 60 59 _ 0 1 6 2 (by decide) (by decide) (by decide) rfl (by decide), ap2 60 58 _ 0 6 (2 + 1) a v1 (by decide) (by decide) (by decide) rfl rfl ha rfl rfl, apS 60 57 _ 0 1 6 (2 + 1 + 1) (by decide) (by decide) (by decide) rfl (by decide), apS 60 56 _ 0 1 6 (2 + 1 + 1 + 1) (by decide) (by decide) (by decide) rfl (by decide), apE 60 55 _ _ _ _ (by decide)]
theorem s7 (a b v1 v2 : Int32) : X_begin (R6 a b v1 v2) 1 = some (7, R7 a b v1 v2) := bg_e (R6 a b v1 v2) 6 7 1 rfl rfl rfl rfl (Or.inr rfl) rfl (by decide) (by decide) (by decide)
theorem s8 (a b v1 v2 v3 : Int32) (ha : K8 a) : X_put (R7 a b v1 v2) 1 a v3 = some (8, R8 a b v1 v2 v3) := pt_e (R7 a b v1 v2) 1 a v3 7 8 rfl rfl rfl rfl rfl (Or.inr rfl) rfl (by decide) (by decide) (by decide) ha
theorem pub_e {ob : Rec} {k v : Int32} (h0 : gI ob 0 = 8) (hk : K8 k) (h7 : gA ob 7 k = 1) (h8 : gA ob 8 k = v) : X_pubRow ob k = some v.toInt64 := by
  have := hk.1; have := hk.2
  have q : ∀ A : Option Int64, chk 32 k A = A := fun A => chk_ok (by rw [t32]; omega)
  unfold X_pubRow; rw [vk_e ob k h0 hk, Option.bind_some, if_neg (by decide), q, h7, if_neg (by decide), q, h8]
theorem ncS (NF n : Nat) (ob : Rec) (i k : Int32) (h : ¬ gI ob 4 < i) (h1 : i < 129) (h0 : 0 ≤ i.toInt) (e : gA ob 0 i = k) (ne : ¬ k = 4) : X_nextCommit_l13 NF ob (n + 1) i = X_nextCommit_l13 NF ob n (i + 1) := by
  show X_nextCommit_w13 NF ob _ i = _
  unfold X_nextCommit_w13; rw [if_neg h, if_pos h1, chk_ok ⟨h0, lt_i.mp h1⟩, e, if_neg ne]
theorem ncY (NF n : Nat) (ob : Rec) (i : Int32) (h : ¬ gI ob 4 < i) (h1 : i < 129) (h0 : 0 ≤ i.toInt) (e : gA ob 0 i = 4) : X_nextCommit_l13 NF ob (n + 1) i = some i := by
  show X_nextCommit_w13 NF ob _ i = _
  unfold X_nextCommit_w13; rw [if_neg h, if_pos h1, chk_ok ⟨h0, lt_i.mp h1⟩, e, if_pos rfl]
theorem ncE (NF n : Nat) (ob : Rec) (i : Int32) (h : gI ob 4 < i) : X_nextCommit_l13 NF ob (n + 1) i = some 0 := by
  show X_nextCommit_w13 NF ob _ i = _
  unfold X_nextCommit_w13; rw [if_pos h]
theorem nc_e (ob : Rec) (c c' : Int32) (h : c + 1 = c') (h' : ¬ c' < 1) : X_nextCommit 60 ob c = X_nextCommit_l13 60 ob 60 c' := by
  unfold X_nextCommit; rw [h, if_neg h']
def eq_ (ob : Rec) (p k key v l c : Int32) : Rec := sI (sA (sA (sA (sA ob 13 p k) 14 p key) 15 p v) 16 p l) 9 c
theorem enq_e (ob : Rec) (k key v l c p c' : Int32) (h9 : gI ob 9 = c) (h8 : gI ob 8 = 0) (hc : c < 128) (hp : (0 + c) % 128 = p) (hp0 : ¬ p < 0) (hb : 0 ≤ p.toInt ∧ p.toInt < 128) (hc' : c + 1 = c') : X_enqueue ob k key v l = some (eq_ ob p k key v l c') := by
  have q : ∀ A : Option Rec, chk 128 p A = A := fun A => chk_ok (by rw [t128]; omega)
  unfold X_enqueue X_enqueue_b34; rw [h9, h8, hp, if_pos hc, if_neg hp0, q, q, q, q, hc']; rfl
theorem emS (NF n : Nat) (ob : Rec) (L s s' i : Int32) (h : i < L) (h1 : i < 129) (h0 : 0 ≤ i.toInt) (e1 : gA ob 1 i = s') (ne : ¬ s' = s) : X_emitTransaction_l26 NF (n + 1) ob L s i = X_emitTransaction_l26 NF n ob L s (i + 1) := by
  show X_emitTransaction_w26 NF _ ob L s i = _
  unfold X_emitTransaction_w26; rw [if_pos h, if_pos h1, chk_ok ⟨h0, lt_i.mp h1⟩, e1, if_neg ne]
theorem em2 (NF n : Nat) (ob q : Rec) (L s i key v : Int32) (h : i < L) (h1 : i < 129) (h0 : 0 ≤ i.toInt) (e1 : gA ob 1 i = s) (e0 : gA ob 0 i = 2) (e2 : gA ob 2 i = key) (e3 : gA ob 3 i = v) (he : X_enqueue ob 2 key v L = some q) : X_emitTransaction_l26 NF (n + 1) ob L s i = X_emitTransaction_l26 NF n q L s (i + 1) := by
  show X_emitTransaction_w26 NF _ ob L s i = _
  have c : ∀ A : Option Rec, chk 129 i A = A := fun A => chk_ok ⟨h0, lt_i.mp h1⟩
  unfold X_emitTransaction_w26 X_emitTransaction_b75; rw [if_pos h, if_pos h1, c, c, e1, e0, if_pos rfl, if_pos rfl, c, c, e2, e3, he, Option.bind_some]
theorem emE (NF n : Nat) (ob q : Rec) (L s i : Int32) (h : ¬ i < L) (he : X_enqueue ob 4 0 0 L = some q) : X_emitTransaction_l26 NF (n + 1) ob L s i = some q := by
  show X_emitTransaction_w26 NF _ ob L s i = _
  unfold X_emitTransaction_w26 X_emitTransaction_b102; rw [if_neg h, he, Option.bind_some]
theorem em_e (ob : Rec) (r s b b' : Int32) (hr : 0 ≤ r.toInt ∧ r.toInt < 129) (h1 : gA ob 1 r = s) (h4 : gA ob 4 r = b) (hb : b + 1 = b') (hb1 : ¬ b' < 1) : X_emitTransaction 60 ob r = X_emitTransaction_l26 60 60 ob r s b' := by
  have c : ∀ A : Option Rec, chk 129 r A = A := fun A => chk_ok (by rw [t129]; omega)
  unfold X_emitTransaction; rw [c, c, h1, h4, hb, if_neg hb1]
def S2 (a b v1 v2 v3 : Int32) : Rec := eq_ (eq_ (R8 a b v1 v2 v3) 0 2 b v2 5 1) 1 4 0 0 5 2
def S3 (a b v1 v2 v3 : Int32) : Rec := sI (S2 a b v1 v2 v3) 5 5
def S5 (a b v1 v2 v3 : Int32) : Rec := eq_ (eq_ (S3 a b v1 v2 v3) 2 2 a v1 6 3) 3 4 0 0 6 4
def R9 (a b v1 v2 v3 : Int32) : Rec := sI (S5 a b v1 v2 v3) 5 6
theorem n1 (a b v1 v2 v3 : Int32) : X_nextCommit 60 (R8 a b v1 v2 v3) (gI (R8 a b v1 v2 v3) 5) = some 5 := by
  rw [nc_e _ _ 1 rfl (by decide), ncS 60 59 _ 1 1 (by show ¬ (8 : Int32) < 1; decide) (by decide) (by decide) rfl (by decide), ncS 60 58 _ (1 + 1) 1 (by show ¬ (8 : Int32) < 1 + 1; decide) (by decide) (by decide) rfl (by decide), ncS 60 57 _ (1 + 1 + 1) 2 (by show ¬ (8 : Int32) < 1 + 1 + 1; decide) (by decide) (by decide) rfl (by decide), ncS 60 56 _ (1 + 1 + 1 + 1) 2 (by show ¬ (8 : Int32) < 1 + 1 + 1 + 1; decide) (by decide) (by decide) rfl (by decide), ncY 60 55 _ (1 + 1 + 1 + 1 + 1) (by show ¬ (8 : Int32) < 1 + 1 + 1 + 1 + 1; decide) (by decide) (by decide) rfl]
  rfl
theorem e1 (a b v1 v2 v3 : Int32) : X_emitTransaction 60 (R8 a b v1 v2 v3) 5 = some (S2 a b v1 v2 v3) := by
  rw [em_e _ 5 1 2 3 (by decide) rfl rfl rfl (by decide), emS 60 59 _ 5 1 0 3 (by decide) (by decide) (by decide) rfl (by decide), em2 60 58 _ (eq_ (R8 a b v1 v2 v3) 0 2 b v2 5 1) 5 1 (3 + 1) b v2 (by decide) (by decide) (by decide) rfl rfl rfl rfl (enq_e _ _ _ _ _ 0 0 1 rfl rfl (by decide) (by decide) (by decide) (by decide) rfl), emE 60 57 _ (S2 a b v1 v2 v3) 5 1 (3 + 1 + 1) (by decide) (enq_e _ _ _ _ _ 1 1 2 rfl rfl (by decide) (by decide) (by decide) (by decide) rfl)]
theorem n2 (a b v1 v2 v3 : Int32) : X_nextCommit 60 (S3 a b v1 v2 v3) (gI (S3 a b v1 v2 v3) 5) = some 6 := by
  rw [nc_e _ _ 6 rfl (by decide), ncY 60 59 _ 6 (by show ¬ (8 : Int32) < 6; decide) (by decide) (by decide) rfl]
theorem e2 (a b v1 v2 v3 : Int32) : X_emitTransaction 60 (S3 a b v1 v2 v3) 6 = some (S5 a b v1 v2 v3) := by
  rw [em_e _ 6 0 1 2 (by decide) rfl rfl rfl (by decide), emS 60 59 _ 6 0 1 2 (by decide) (by decide) (by decide) rfl (by decide), em2 60 58 _ (eq_ (S3 a b v1 v2 v3) 2 2 a v1 6 3) 6 0 (2 + 1) a v1 (by decide) (by decide) (by decide) rfl rfl rfl rfl (enq_e _ _ _ _ _ 2 2 3 rfl rfl (by decide) (by decide) (by decide) (by decide) rfl), emS 60 57 _ 6 0 1 (2 + 1 + 1) (by decide) (by decide) (by decide) rfl (by decide), emS 60 56 _ 6 0 1 (2 + 1 + 1 + 1) (by decide) (by decide) (by decide) rfl (by decide), emE 60 55 _ (S5 a b v1 v2 v3) 6 0 (2 + 1 + 1 + 1 + 1) (by decide) (enq_e _ _ _ _ _ 3 3 4 rfl rfl (by decide) (by decide) (by decide) (by decide) rfl)]
theorem nc9 (ob : Rec) (h5 : gI ob 5 = 6) (h4 : gI ob 4 = 8) (k7 : gA ob 0 7 = 1) (k8 : gA ob 0 8 = 2) : X_nextCommit 60 ob (gI ob 5) = some 0 := by
  rw [h5, nc_e _ _ 7 rfl (by decide), ncS 60 59 _ 7 1 (by rw [h4]; decide) (by decide) (by decide) k7 (by decide), ncS 60 58 _ (7 + 1) 2 (by rw [h4]; decide) (by decide) (by decide) k8 (by decide), ncE 60 57 _ (7 + 1 + 1) (by rw [h4]; decide)]
theorem st_e (a b v1 v2 v3 : Int32) : X_stream 60 (R8 a b v1 v2 v3) 8 = some (2, R9 a b v1 v2 v3) := by
  unfold X_stream; rw [if_pos (by decide)]
  show X_stream_w10 60 (X_stream_l10 60 59) (R8 a b v1 v2 v3) 8 0 0 = _
  unfold X_stream_w10; rw [if_pos (by decide), if_pos (by decide), n1, Option.bind_some, if_neg (by decide), e1, Option.bind_some]
  show X_stream_w10 60 (X_stream_l10 60 58) (S3 a b v1 v2 v3) 8 (0 + 1) (0 + 1) = _
  unfold X_stream_w10; rw [if_pos (by decide), if_pos (by decide), n2, Option.bind_some, if_neg (by decide), e2, Option.bind_some]
  show X_stream_w10 60 (X_stream_l10 60 57) (R9 a b v1 v2 v3) 8 (0 + 1 + 1) (0 + 1 + 1) = _
  unfold X_stream_w10; rw [if_pos (by decide), if_pos (by decide), nc9 _ rfl rfl rfl rfl, Option.bind_some, if_pos rfl]
  rfl
theorem hh (ob : Rec) (h : Int32) (h8 : gI ob 8 = h) (hb : 0 ≤ h.toInt ∧ h.toInt < 128) : X_handleHead 60 ob = X_handleHead_b18 60 ob h := by
  unfold X_handleHead; rw [h8, if_neg (by rw [lt_i, t0]; omega), if_pos (by rw [lt_i, t128]; omega)]
theorem hhP (ob : Rec) (h c h' c' key v l : Int32) (h8 : gI ob 8 = h) (h9 : gI ob 9 = c) (hb : 0 ≤ h.toInt ∧ h.toInt < 128) (l16 : gA ob 16 h = l) (hl : gI ob 6 < l) (k13 : gA ob 13 h = 2) (k14 : gA ob 14 h = key) (hk : K8 key) (k15 : gA ob 15 h = v) (eh : (h + 1) % 128 = h') (ec : c - 1 = c') : X_handleHead 60 ob = some (sA (sA (sI (sI ob 8 h') 9 c') 11 key 1) 12 key v) := by
  have := hk.1; have := hk.2
  have q : ∀ A : Option Rec, chk 128 h A = A := fun A => chk_ok (by rw [t128]; omega)
  have q' : ∀ A : Option Rec, chk 32 key A = A := fun A => chk_ok (by rw [t32]; omega)
  rw [hh ob h h8 hb]
  unfold X_handleHead_b18
  rw [q, q, q, q, l16, if_pos hl, k13, k14, k15, h9, eh, ec, if_neg (by decide), if_neg (by rw [lt_i, t0]; omega), if_pos (by rw [lt_i, t32]; omega), if_pos rfl, q', q']
theorem hhC (ob q : Rec) (h c h' c' l : Int32) (h8 : gI ob 8 = h) (h9 : gI ob 9 = c) (hb : 0 ≤ h.toInt ∧ h.toInt < 128) (l16 : gA ob 16 h = l) (hl : gI ob 6 < l) (k13 : gA ob 13 h = 4) (eh : (h + 1) % 128 = h') (ec : c - 1 = c') (ha : X_applyPending 60 (sI (sI ob 8 h') 9 c') = some q) : X_handleHead 60 ob = some (sI q 6 l) := by
  have q' : ∀ A : Option Rec, chk 128 h A = A := fun A => chk_ok (by rw [t128]; omega)
  rw [hh ob h h8 hb]
  unfold X_handleHead_b18
  rw [q', q', q', q', l16, if_pos hl, k13, h9, eh, ec, if_pos rfl, ha, Option.bind_some]
def ap9 (ob : Rec) (j : Int32) : Int32 := if gA ob 11 j = 1 then 1 else if gA ob 11 j = 2 then 0 else gA ob 9 j
def ap10 (ob : Rec) (j : Int32) : Int32 := if gA ob 11 j = 1 then gA ob 12 j else gA ob 10 j
theorem ap_l (NF : Nat) : ∀ (m fuel : Nat) (ob : Rec) (i : Int32), m < fuel → 0 ≤ i.toInt → i.toInt ≤ 8 → 8 - i.toInt ≤ m → gI ob 0 = 8 → ∃ q, X_applyPending_l2 NF fuel ob i = some q ∧ q.1 = ob.1 ∧ (∀ (k : Nat) (x : Int32), (k < 9 ∨ 12 < k ∨ x.toInt < i.toInt ∨ 8 ≤ x.toInt) → gA q k x = gA ob k x) ∧ (∀ x : Int32, i.toInt ≤ x.toInt → x.toInt < 8 → gA q 9 x = ap9 ob x ∧ gA q 10 x = ap10 ob x ∧ gA q 11 x = 0 ∧ gA q 12 x = 0) := by
  intro m
  induction m with
  | zero =>
    intro fuel ob i hf h0 h1 h2 hn
    obtain ⟨n, rfl⟩ : ∃ n, fuel = n + 1 := ⟨fuel - 1, by omega⟩
    refine ⟨ob, ?_, rfl, fun _ _ _ => rfl, fun x a b => absurd b (by omega)⟩
    show X_applyPending_w2 NF _ ob i = _
    unfold X_applyPending_w2; rw [hn, if_neg (by rw [lt_i, t8]; omega)]
  | succ m ih =>
    intro fuel ob i hf h0 h1 h2 hn
    obtain ⟨n, rfl⟩ : ∃ n, fuel = n + 1 := ⟨fuel - 1, by omega⟩
    by_cases hc : i.toInt < 8
    · have ei := succ8 (i := i) (by omega)
      have q : ∀ A : Option Rec, chk 32 i A = A := fun A => chk_ok (by rw [t32]; omega)
      have key : ∀ ob1 : Rec, ob1.1 = ob.1 → (∀ (k : Nat) (x : Int32), (k < 9 ∨ 12 < k ∨ ¬ x = i) → gA ob1 k x = gA ob k x) → gA ob1 9 i = ap9 ob i → gA ob1 10 i = ap10 ob i → gA ob1 11 i = 0 → gA ob1 12 i = 0 → X_applyPending_l2 NF (n + 1) ob i = X_applyPending_l2 NF n ob1 (i + 1) → ∃ q, X_applyPending_l2 NF (n + 1) ob i = some q ∧ q.1 = ob.1 ∧ (∀ (k : Nat) (x : Int32), (k < 9 ∨ 12 < k ∨ x.toInt < i.toInt ∨ 8 ≤ x.toInt) → gA q k x = gA ob k x) ∧ (∀ x : Int32, i.toInt ≤ x.toInt → x.toInt < 8 → gA q 9 x = ap9 ob x ∧ gA q 10 x = ap10 ob x ∧ gA q 11 x = 0 ∧ gA q 12 x = 0) := by
        intro ob1 g1 g2 g9 g10 g11 g12 ge
        obtain ⟨q, eq, q1, q2, q3⟩ := ih n ob1 (i + 1) (by omega) (by omega) (by omega) (by omega) (by unfold gI at hn ⊢; rw [g1]; exact hn)
        refine ⟨q, ge.trans eq, q1.trans g1, ?_, ?_⟩
        · intro k x hx
          rw [q2 k x (by omega)]
          refine g2 k x ?_
          rcases hx with h | h | h | h
          · exact Or.inl h
          · exact Or.inr (Or.inl h)
          · exact Or.inr (Or.inr (fun e => by rw [e] at h; omega))
          · exact Or.inr (Or.inr (fun e => by rw [e] at h; omega))
        · intro x hx hx8
          by_cases hxi : x = i
          · rw [hxi, q2 9 i (by omega), q2 10 i (by omega), q2 11 i (by omega), q2 12 i (by omega)]
            exact ⟨g9, g10, g11, g12⟩
          · have hne : x.toInt ≠ i.toInt := fun h => hxi (eq_i32.mpr h)
            have hk : ∀ k, gA ob1 k x = gA ob k x := fun k => g2 k x (Or.inr (Or.inr hxi))
            have := q3 x (by omega) hx8
            unfold ap9 ap10 at this ⊢
            rw [hk, hk, hk, hk] at this
            exact this
      by_cases c1 : gA ob 11 i = 1
      · refine key (sA (sA (sA (sA ob 9 i 1) 10 i (gA ob 12 i)) 11 i 0) 12 i 0) rfl ?_ ?_ ?_ ?_ ?_ ?_
        · intro k x hx
          simp only [gA_sA]
          rw [if_neg (by rintro ⟨r, s⟩; rcases hx with h | h | h; omega; omega; exact h s), if_neg (by rintro ⟨r, s⟩; rcases hx with h | h | h; omega; omega; exact h s), if_neg (by rintro ⟨r, s⟩; rcases hx with h | h | h; omega; omega; exact h s), if_neg (by rintro ⟨r, s⟩; rcases hx with h | h | h; omega; omega; exact h s)]
        · simp [gA_sA, ap9, c1]
        · simp [gA_sA, ap10, c1]
        · simp [gA_sA]
        · simp [gA_sA]
        · show X_applyPending_w2 NF _ ob i = _
          unfold X_applyPending_w2; rw [hn, if_pos (by rw [lt_i, t8]; omega), if_pos (by rw [lt_i, t32]; omega), q, if_pos c1, q, q, q, q, q]
      · by_cases c2 : gA ob 11 i = 2
        · refine key (sA (sA (sA ob 9 i 0) 11 i 0) 12 i 0) rfl ?_ ?_ ?_ ?_ ?_ ?_
          · intro k x hx
            simp only [gA_sA]
            rw [if_neg (by rintro ⟨r, s⟩; rcases hx with h | h | h; omega; omega; exact h s), if_neg (by rintro ⟨r, s⟩; rcases hx with h | h | h; omega; omega; exact h s), if_neg (by rintro ⟨r, s⟩; rcases hx with h | h | h; omega; omega; exact h s)]
          · simp [gA_sA, ap9, c2]
          · simp [gA_sA, ap10, c2]
          · simp [gA_sA]
          · simp [gA_sA]
          · show X_applyPending_w2 NF _ ob i = _
            unfold X_applyPending_w2; rw [hn, if_pos (by rw [lt_i, t8]; omega), if_pos (by rw [lt_i, t32]; omega), q, if_neg c1, q, if_pos c2, q, q, q]
        · refine key (sA (sA ob 11 i 0) 12 i 0) rfl ?_ ?_ ?_ ?_ ?_ ?_
          · intro k x hx
            simp only [gA_sA]
            rw [if_neg (by rintro ⟨r, s⟩; rcases hx with h | h | h; omega; omega; exact h s), if_neg (by rintro ⟨r, s⟩; rcases hx with h | h | h; omega; omega; exact h s)]
          · simp [gA_sA, ap9, c1, c2]
          · simp [gA_sA, ap10, c1]
          · simp [gA_sA]
          · simp [gA_sA]
          · show X_applyPending_w2 NF _ ob i = _
            unfold X_applyPending_w2; rw [hn, if_pos (by rw [lt_i, t8]; omega), if_pos (by rw [lt_i, t32]; omega), q, if_neg c1, q, if_neg c2, q, q]
    · refine ⟨ob, ?_, rfl, fun _ _ _ => rfl, fun x a b => absurd b (by omega)⟩
      show X_applyPending_w2 NF _ ob i = _
      unfold X_applyPending_w2; rw [hn, if_neg (by rw [lt_i, t8]; omega)]
theorem ap_e (ob : Rec) (hn : gI ob 0 = 8) : ∃ q, X_applyPending 60 ob = some q ∧ q.1 = ob.1 ∧ (∀ (k : Nat) (x : Int32), (k < 9 ∨ 12 < k) → gA q k x = gA ob k x) ∧ (∀ x : Int32, K8 x → gA q 9 x = ap9 ob x ∧ gA q 10 x = ap10 ob x ∧ gA q 11 x = 0 ∧ gA q 12 x = 0) := by
  obtain ⟨q, e, g1, g2, g3⟩ := ap_l 60 8 60 ob 0 (by omega) (by decide) (by decide) (by decide) hn
  exact ⟨q, e, g1, fun k x h => g2 k x (by omega), fun x h => g3 x (by rw [t0]; exact h.1) h.2⟩
theorem aplN (n : Nat) (ob q : Rec) (i1 i2 i3 : Int32) (h : ¬ 128 < i3) (h1 : i2 < i1) (h9 : 0 < gI ob 9) (hq : X_handleHead 60 ob = some q) : X_apply_l10 60 (n + 1) ob i1 i2 i3 = X_apply_l10 60 n q i1 (i2 + 1) (i3 + 1) := by
  show X_apply_w10 60 _ ob i1 i2 i3 = _
  unfold X_apply_w10; rw [if_neg h, if_pos h1, if_pos h9, hq, Option.bind_some]
theorem aplE1 (n : Nat) (ob : Rec) (i1 i2 i3 : Int32) (h : ¬ 128 < i3) (h1 : ¬ i2 < i1) : X_apply_l10 60 (n + 1) ob i1 i2 i3 = some (i2, ob) := by
  show X_apply_w10 60 _ ob i1 i2 i3 = _
  unfold X_apply_w10; rw [if_neg h, if_neg h1]
theorem aplE2 (n : Nat) (ob : Rec) (i1 i2 i3 : Int32) (h : ¬ 128 < i3) (h1 : i2 < i1) (h9 : ¬ 0 < gI ob 9) : X_apply_l10 60 (n + 1) ob i1 i2 i3 = some (i2, ob) := by
  show X_apply_w10 60 _ ob i1 i2 i3 = _
  unfold X_apply_w10; rw [if_neg h, if_pos h1, if_neg h9]
theorem sp_e {ob : Rec} {k v : Int32} (h0 : gI ob 0 = 8) (hk : K8 k) (h : gA ob 11 k = 1) (h' : gA ob 12 k = v) : X_subPending ob k = some v.toInt64 := by
  have := hk.1; have := hk.2
  have q : ∀ A : Option Int64, chk 32 k A = A := fun A => chk_ok (by rw [t32]; omega)
  unfold X_subPending; rw [vk_e ob k h0 hk, Option.bind_some, if_neg (by decide), q, if_pos h, q, h']
theorem sp_0 {ob : Rec} {k : Int32} (h0 : gI ob 0 = 8) (hk : K8 k) (h : gA ob 11 k = 0) : X_subPending ob k = some 4294967298 := by
  have := hk.1; have := hk.2
  have q : ∀ A : Option Int64, chk 32 k A = A := fun A => chk_ok (by rw [t32]; omega)
  unfold X_subPending; rw [vk_e ob k h0 hk, Option.bind_some, if_neg (by decide), q, h, if_neg (by decide), q, if_neg (by decide)]
theorem sr_e {ob : Rec} {k v : Int32} (h0 : gI ob 0 = 8) (hk : K8 k) (h : gA ob 9 k = 1) (h' : gA ob 10 k = v) : X_subRow ob k = some v.toInt64 := by
  have := hk.1; have := hk.2
  have q : ∀ A : Option Int64, chk 32 k A = A := fun A => chk_ok (by rw [t32]; omega)
  unfold X_subRow; rw [vk_e ob k h0 hk, Option.bind_some, if_neg (by decide), q, h, if_neg (by decide), q, h']
theorem sr_0 {ob : Rec} {k : Int32} (h0 : gI ob 0 = 8) (hk : K8 k) (h : gA ob 9 k = 0) : X_subRow ob k = some 4294967296 := by
  have := hk.1; have := hk.2
  have q : ∀ A : Option Int64, chk 32 k A = A := fun A => chk_ok (by rw [t32]; omega)
  unfold X_subRow; rw [vk_e ob k h0 hk, Option.bind_some, if_neg (by decide), q, if_pos h]
def cntF (a b : Int32) : Nat → Int32 → Int32 → Int32
  | 0, c, _ => c
  | n + 1, c, i => cntF a b n (if (if i = a ∨ i = b then (1 : Int32) else 0) = 0 then c else c + 1) (i + 1)
theorem cnt_l (ob : Rec) (a b : Int32) (hn : gI ob 0 = 8) (hz : ∀ x : Int32, K8 x → gA ob 9 x = if x = a ∨ x = b then 1 else 0) : ∀ (k fuel : Nat) (c i : Int32), k < fuel → 0 ≤ i.toInt → i.toInt + k = 8 → X_countSubRows_l4 60 ob fuel c i = some (cntF a b k c i) := by
  intro k
  induction k with
  | zero =>
    intro fuel c i hf h0 h1
    obtain ⟨n, rfl⟩ : ∃ n, fuel = n + 1 := ⟨fuel - 1, by omega⟩
    show X_countSubRows_w4 60 ob _ c i = _
    unfold X_countSubRows_w4; rw [hn, if_neg (by rw [lt_i, t8]; omega)]; rfl
  | succ k ih =>
    intro fuel c i hf h0 h1
    obtain ⟨n, rfl⟩ : ∃ n, fuel = n + 1 := ⟨fuel - 1, by omega⟩
    have ei := succ8 (i := i) (by omega)
    show X_countSubRows_w4 60 ob _ c i = some (cntF a b k (if (if i = a ∨ i = b then (1 : Int32) else 0) = 0 then c else c + 1) (i + 1))
    unfold X_countSubRows_w4
    rw [hn, if_pos (by rw [lt_i, t8]; omega), if_pos (by rw [lt_i, t32]; omega), chk_ok (by rw [t32]; omega), hz i (by constructor <;> omega)]
    rw [← ih n _ (i + 1) (by omega) (by omega) (by omega)]
    split <;> rfl
theorem cnt_f : ∀ a ∈ ([0, 1, 2, 3, 4, 5, 6, 7] : List Int32), ∀ b ∈ ([0, 1, 2, 3, 4, 5, 6, 7] : List Int32), cntF a b 8 0 0 = if a = b then 1 else 2 := by decide +kernel
theorem key_b {a : Int32} (h : a ∈ ([0, 1, 2, 3, 4, 5, 6, 7] : List Int32)) : K8 a := by
  simp only [List.mem_cons, eq_i32, Int32.reduceToInt, List.not_mem_nil, or_false] at h
  constructor <;> omega
theorem mid (a b v1 v2 v3 : Int32) (ma : a ∈ ([0, 1, 2, 3, 4, 5, 6, 7] : List Int32)) (mb : b ∈ ([0, 1, 2, 3, 4, 5, 6, 7] : List Int32)) (w : Int64) (hw : w = (if b = a then v1 else v2).toInt64) : L_law_b41 60 R0 v1 v2 v3 a b w = some 1 := by
  have ha := key_b ma
  have hb := key_b mb
  subst hw
  unfold L_law_b41
  rw [s1, bind2_some, if_pos rfl, s2, bind2_some, if_pos rfl, s3 a v1 ha, bind2_some, if_pos rfl, s4 a b v1 v2 hb, bind2_some, if_pos rfl, s5 a b v1 v2 hb, bind2_some, if_pos rfl, s6 a b v1 v2 ha, bind2_some, if_pos rfl, s7, bind2_some, if_pos rfl, s8 a b v1 v2 v3 ha, bind2_some, if_pos rfl]
  rw [pub_e (ob := R8 a b v1 v2 v3) (k := a) (v := v1) rfl ha (by simp [R8, R7, R6, en, gA_sA, gA_sI]) (by simp [R8, R7, R6, en, gA_sA, gA_sI]), Option.bind_some, if_pos rfl]
  rw [pub_e (ob := R8 a b v1 v2 v3) (k := b) (v := if b = a then v1 else v2) rfl hb (by by_cases h : b = a <;> simp [R8, R7, R6, R5, en, gA_sA, gA_sI, h]) (by by_cases h : b = a <;> simp [R8, R7, R6, R5, en, gA_sA, gA_sI, h]), Option.bind_some, if_pos rfl]
  rw [st_e, bind2_some, if_pos rfl]
  show ((some (4 : Int32)).bind _) = _
  rw [Option.bind_some, if_pos rfl]
  show ((some (6 : Int32)).bind _) = _
  rw [Option.bind_some, if_pos rfl]
  generalize hr9 : R9 a b v1 v2 v3 = r9
  have f0 : gI r9 0 = 8 := by rw [← hr9]; rfl
  have f4 : gI r9 4 = 8 := by rw [← hr9]; rfl
  have f5 : gI r9 5 = 6 := by rw [← hr9]; rfl
  have f6 : gI r9 6 = 0 := by rw [← hr9]; rfl
  have f8 : gI r9 8 = 0 := by rw [← hr9]; rfl
  have f9 : gI r9 9 = 4 := by rw [← hr9]; rfl
  have fk7 : gA r9 0 7 = 1 := by rw [← hr9]; rfl
  have fk8 : gA r9 0 8 = 2 := by rw [← hr9]; rfl
  have fz9 : ∀ x, gA r9 9 x = 0 := by intro x; rw [← hr9]; rfl
  have fz10 : ∀ x, gA r9 10 x = 0 := by intro x; rw [← hr9]; rfl
  have fz11 : ∀ x, gA r9 11 x = 0 := by intro x; rw [← hr9]; rfl
  have fz12 : ∀ x, gA r9 12 x = 0 := by intro x; rw [← hr9]; rfl
  have q0 : gA r9 13 0 = 2 ∧ gA r9 14 0 = b ∧ gA r9 15 0 = v2 ∧ gA r9 16 0 = 5 := by rw [← hr9]; exact ⟨rfl, rfl, rfl, rfl⟩
  have q1 : gA r9 13 1 = 4 ∧ gA r9 16 1 = 5 := by rw [← hr9]; exact ⟨rfl, rfl⟩
  have q2 : gA r9 13 2 = 2 ∧ gA r9 14 2 = a ∧ gA r9 15 2 = v1 ∧ gA r9 16 2 = 6 := by rw [← hr9]; exact ⟨rfl, rfl, rfl, rfl⟩
  have q3 : gA r9 13 3 = 4 ∧ gA r9 16 3 = 6 := by rw [← hr9]; exact ⟨rfl, rfl⟩
  have p1 := hhP r9 0 4 1 3 b v2 5 f8 f9 (by decide) q0.2.2.2 (by rw [f6]; decide) q0.1 q0.2.1 hb q0.2.2.1 (by decide) (by decide)
  generalize ht1 : sA (sA (sI (sI r9 8 1) 9 3) 11 b 1) 12 b v2 = T1 at p1
  have ap1 : X_apply 60 r9 1 = some (1, T1) := by
    unfold X_apply; rw [if_pos (by decide)]
    show X_apply_l10 60 (59 + 1) r9 1 0 0 = _
    rw [aplN 59 r9 T1 1 0 0 (by decide) (by decide) (by rw [f9]; decide) p1, aplE1 58 T1 1 (0 + 1) (0 + 1) (by decide) (by decide)]; rfl
  rw [ap1, bind2_some, if_pos rfl]
  have g0 : gI T1 0 = 8 := by rw [← ht1]; exact f0
  have g4 : gI T1 4 = 8 := by rw [← ht1]; exact f4
  have g5 : gI T1 5 = 6 := by rw [← ht1]; exact f5
  have g6 : gI T1 6 = 0 := by rw [← ht1]; exact f6
  have g8 : gI T1 8 = 1 := by rw [← ht1]; rfl
  have g9 : gI T1 9 = 3 := by rw [← ht1]; rfl
  have gk : ∀ (k : Nat) (x : Int32), ¬ k = 11 → ¬ k = 12 → gA T1 k x = gA r9 k x := by
    intro k x h h'; rw [← ht1]; simp [gA_sA, gA_sI, h, h']
  have g11 : ∀ x, gA T1 11 x = if x = b then 1 else 0 := by intro x; rw [← ht1]; simp [gA_sA, gA_sI, fz11]
  have g12 : ∀ x, gA T1 12 x = if x = b then v2 else 0 := by intro x; rw [← ht1]; simp [gA_sA, gA_sI, fz12]
  rw [sp_e g0 hb (by rw [g11, if_pos rfl]) (by rw [g12, if_pos rfl]), Option.bind_some, if_pos rfl, sr_0 g0 hb (by rw [gk 9 b (by decide) (by decide)]; exact fz9 b), Option.bind_some, if_pos rfl]
  have i4 : X_info 60 T1 4 = some 0 := by
    show some (gI T1 6) = _; rw [g6]
  rw [i4, Option.bind_some, if_pos rfl]
  obtain ⟨U, eU, u1, u2, u3⟩ := ap_e (sI (sI T1 8 2) 9 2) g0
  have p2 := hhC T1 U 1 3 2 2 5 g8 g9 (by decide) (by rw [gk 16 1 (by decide) (by decide)]; exact q1.2) (by rw [g6]; decide) (by rw [gk 13 1 (by decide) (by decide)]; exact q1.1) (by decide) (by decide) eU
  generalize ht2 : sI U 6 5 = T2 at p2
  have uI : ∀ k, gI U k = gI (sI (sI T1 8 2) 9 2) k := fun k => by unfold gI; rw [u1]
  have h0 : gI T2 0 = 8 := by rw [← ht2]; exact (uI 0).trans g0
  have h4 : gI T2 4 = 8 := by rw [← ht2]; exact (uI 4).trans g4
  have h5 : gI T2 5 = 6 := by rw [← ht2]; exact (uI 5).trans g5
  have h6 : gI T2 6 = 5 := by rw [← ht2]; rfl
  have h8 : gI T2 8 = 2 := by rw [← ht2]; exact (uI 8).trans rfl
  have h9 : gI T2 9 = 2 := by rw [← ht2]; exact (uI 9).trans rfl
  have hk2 : ∀ (k : Nat) (x : Int32), (k < 9 ∨ 12 < k) → gA T2 k x = gA r9 k x := by
    intro k x h; rw [← ht2]
    show gA U k x = _
    rw [u2 k x h]
    show gA T1 k x = _
    exact gk k x (by omega) (by omega)
  have h9a : ∀ x, K8 x → gA T2 9 x = if x = b then 1 else 0 := by
    intro x hx; rw [← ht2]
    show gA U 9 x = _
    rw [(u3 x hx).1]
    show (if gA T1 11 x = 1 then (1 : Int32) else if gA T1 11 x = 2 then 0 else gA T1 9 x) = _
    rw [g11, gk 9 x (by decide) (by decide), fz9]
    by_cases c : x = b
    · rw [if_pos c]; rfl
    · rw [if_neg c]; rfl
  have h10 : gA T2 10 b = v2 := by
    rw [← ht2]
    show gA U 10 b = _
    rw [(u3 b hb).2.1]
    show (if gA T1 11 b = 1 then gA T1 12 b else gA T1 10 b) = _
    rw [g11, if_pos rfl, if_pos rfl, g12, if_pos rfl]
  have h11 : ∀ x, K8 x → gA T2 11 x = 0 := by intro x hx; rw [← ht2]; exact (u3 x hx).2.2.1
  have p3 := hhP T2 2 2 3 1 a v1 6 h8 h9 (by decide) (by rw [hk2 16 2 (by decide)]; exact q2.2.2.2) (by rw [h6]; decide) (by rw [hk2 13 2 (by decide)]; exact q2.1) (by rw [hk2 14 2 (by decide)]; exact q2.2.1) ha (by rw [hk2 15 2 (by decide)]; exact q2.2.2.1) (by decide) (by decide)
  generalize ht3 : sA (sA (sI (sI T2 8 3) 9 1) 11 a 1) 12 a v1 = T3 at p3
  have k0 : gI T3 0 = 8 := by rw [← ht3]; exact h0
  have k4 : gI T3 4 = 8 := by rw [← ht3]; exact h4
  have k5 : gI T3 5 = 6 := by rw [← ht3]; exact h5
  have k6 : gI T3 6 = 5 := by rw [← ht3]; exact h6
  have k8 : gI T3 8 = 3 := by rw [← ht3]; rfl
  have k9 : gI T3 9 = 1 := by rw [← ht3]; rfl
  have kk : ∀ (k : Nat) (x : Int32), ¬ k = 11 → ¬ k = 12 → gA T3 k x = gA T2 k x := by
    intro k x h h'; rw [← ht3]; simp [gA_sA, gA_sI, h, h']
  have k11 : ∀ x, K8 x → gA T3 11 x = if x = a then 1 else 0 := by intro x hx; rw [← ht3]; simp [gA_sA, gA_sI, h11 x hx]
  have k12 : gA T3 12 a = v1 := by rw [← ht3]; simp [gA_sA]
  obtain ⟨V, eV, w1, w2, w3⟩ := ap_e (sI (sI T3 8 4) 9 0) k0
  have p4 := hhC T3 V 3 1 4 0 6 k8 k9 (by decide) (by rw [kk 16 3 (by decide) (by decide), hk2 16 3 (by decide)]; exact q3.2) (by rw [k6]; decide) (by rw [kk 13 3 (by decide) (by decide), hk2 13 3 (by decide)]; exact q3.1) (by decide) (by decide) eV
  generalize ht4 : sI V 6 6 = T4 at p4
  have wI : ∀ k, gI V k = gI (sI (sI T3 8 4) 9 0) k := fun k => by unfold gI; rw [w1]
  have m0 : gI T4 0 = 8 := by rw [← ht4]; exact (wI 0).trans k0
  have m4 : gI T4 4 = 8 := by rw [← ht4]; exact (wI 4).trans k4
  have m5 : gI T4 5 = 6 := by rw [← ht4]; exact (wI 5).trans k5
  have m6 : gI T4 6 = 6 := by rw [← ht4]; rfl
  have m9 : gI T4 9 = 0 := by rw [← ht4]; exact (wI 9).trans rfl
  have mk : ∀ (k : Nat) (x : Int32), k < 9 → gA T4 k x = gA r9 k x := by
    intro k x h; rw [← ht4]
    show gA V k x = _
    rw [w2 k x (Or.inl h)]
    show gA T3 k x = _
    rw [kk k x (by omega) (by omega), hk2 k x (Or.inl h)]
  have m9a : ∀ x, K8 x → gA T4 9 x = if x = a ∨ x = b then 1 else 0 := by
    intro x hx; rw [← ht4]
    show gA V 9 x = _
    rw [(w3 x hx).1]
    show (if gA T3 11 x = 1 then (1 : Int32) else if gA T3 11 x = 2 then 0 else gA T3 9 x) = _
    rw [k11 x hx, kk 9 x (by decide) (by decide), h9a x hx]
    by_cases c : x = a
    · rw [if_pos c, if_pos rfl, if_pos (Or.inl c)]
    · rw [if_neg c, if_neg (by decide), if_neg (by decide)]
      by_cases d : x = b
      · rw [if_pos d, if_pos (Or.inr d)]
      · rw [if_neg d, if_neg (fun h => h.elim c d)]
  have m10 : ∀ x, K8 x → gA T4 10 x = if x = a then v1 else gA T2 10 x := by
    intro x hx; rw [← ht4]
    show gA V 10 x = _
    rw [(w3 x hx).2.1]
    show (if gA T3 11 x = 1 then gA T3 12 x else gA T3 10 x) = _
    rw [k11 x hx, kk 10 x (by decide) (by decide)]
    by_cases c : x = a
    · rw [if_pos c, if_pos rfl, if_pos c, c, k12]
    · rw [if_neg c, if_neg (by decide), if_neg c]
  have m11 : gA T4 11 a = 0 := by rw [← ht4]; exact (w3 a ha).2.2.1
  have ap8 : X_apply 60 T1 8 = some (3, T4) := by
    unfold X_apply; rw [if_pos (by decide)]
    show X_apply_l10 60 (59 + 1) T1 8 0 0 = _
    rw [aplN 59 T1 T2 8 0 0 (by decide) (by decide) (by rw [g9]; decide) p2, aplN 58 T2 T3 8 (0 + 1) (0 + 1) (by decide) (by decide) (by rw [h9]; decide) p3, aplN 57 T3 T4 8 (0 + 1 + 1) (0 + 1 + 1) (by decide) (by decide) (by rw [k9]; decide) p4, aplE2 56 T4 8 (0 + 1 + 1 + 1) (0 + 1 + 1 + 1) (by decide) (by decide) (by rw [m9]; decide)]; rfl
  rw [ap8, bind2_some, if_pos rfl, sr_e m0 ha (by rw [m9a a ha, if_pos (Or.inl rfl)]) (by rw [m10 a ha, if_pos rfl]), Option.bind_some, if_pos rfl, sr_e (v := if b = a then v1 else v2) m0 hb (by rw [m9a b hb, if_pos (Or.inr rfl)]) (by rw [m10 b hb, h10]), Option.bind_some, if_pos rfl, sp_0 m0 ha m11, Option.bind_some, if_pos rfl]
  have j4 : X_info 60 T4 4 = some 6 := by
    show some (gI T4 6) = _; rw [m6]
  have j3 : X_info 60 T4 3 = some 0 := by
    show some (gI T4 9) = _; rw [m9]
  rw [j4, Option.bind_some, if_pos rfl, j3, Option.bind_some, if_pos rfl]
  have j7 : X_info 60 T4 7 = some (if a = b then 1 else 2) := by
    show (X_countSubRows 60 T4).bind (fun r9 => some r9) = _
    unfold X_countSubRows
    rw [cnt_l T4 a b m0 m9a 8 60 0 0 (by omega) (by decide) (by decide), Option.bind_some, cnt_f a ma b mb]
  have fin : L_law_b373 60 T4 (if a = b then 1 else 2) = some 1 := by
    unfold L_law_b373
    rw [j7, Option.bind_some, if_pos rfl]
    unfold X_feedback
    rw [bind2_some, m6, if_pos rfl]
    show ((some (6 : Int32)).bind _) = _
    rw [Option.bind_some, if_pos rfl]
    have st : X_stream 60 (sI T4 7 6) 8 = some (0, sI T4 7 6) := by
      unfold X_stream; rw [if_pos (by decide)]
      show X_stream_w10 60 (X_stream_l10 60 59) (sI T4 7 6) 8 0 0 = _
      unfold X_stream_w10; rw [if_pos (by decide), if_pos (by decide), nc9 (sI T4 7 6) m5 m4 ((mk 0 7 (by decide)).trans fk7) ((mk 0 8 (by decide)).trans fk8), Option.bind_some, if_pos rfl]
    rw [st, bind2_some, if_pos rfl]
  by_cases c : a = b
  · rw [if_pos c] at fin ⊢; exact fin
  · rw [if_neg c] at fin ⊢; exact fin
theorem owed : ∀ i0 i1 i2 i3 i4 : Int32, ∃ NF : Nat, L_law NF i0 i1 i2 i3 i4 = some 1 := by
  intro i0 i1 i2 i3 i4
  refine ⟨60, ?_⟩
  unfold L_law
  rw [init_c, Option.bind_some]
  by_cases c : i0 &&& 7 = i2 &&& 7
  · rw [if_pos c]; exact mid _ _ i1 i3 i4 (mem8 i0) (mem8 i2) _ (by rw [if_pos c.symm])
  · rw [if_neg c]; exact mid _ _ i1 i3 i4 (mem8 i0) (mem8 i2) _ (by rw [if_neg (fun h => c h.symm)])
-- owed : ∀ i0 i1 i2 i3 i4 : Int32, ∃ NF : Nat, L_law NF i0 i1 i2 i3 i4 = some 1
--COMES--
set_option maxRecDepth 65536 in
set_option maxHeartbeats 4000000 in
theorem comes_1 {Post : Tables → Env → Array Value → State → Outcome → State → Prop} (hpost : ∀ tb e args s v u, (limb_1_1.after args s (.returned v) u = true ∧ limb_1_2.after args s (.returned v) u = true ∧ True) → FrameEnd s (.returned v) u (Jvm.fieldLocs frame_1_writes args s ++ Jvm.arrayLocs frame_1_arrays args s ++ Jvm.staticLocs frame_1_statics s) 48 2880 → Post tb e args s (.returned v) u) :
    ArmFor flags0 classFile x code maxLocals ret World_1 tables_1 room_1 Calls_1 rest_1 Pre_1 Post := by
  intro l hfl _ _ p e ha hc hk s m args below hf hA hF happ hP
  obtain ⟨hcalls, hrest, hpre⟩ := hP
  obtain ⟨-, -, -, hnamed, -, -, -, hat⟩ := (Spec.applies_iff hf).mp happ
  obtain ⟨hg, hn⟩ := and_e (Cond.before_iff.mp (show (Jvm.Cond.and given_1 narrow_1).before args s = true from hpre))
  obtain ⟨hcnt, hg⟩ := and_e hg
  obtain ⟨w0, w1, w2, w3, w4, rfl⟩ : ∃ w0 w1 w2 w3 w4 : Value, args = #[w0, w1, w2, w3, w4] := by
    have hs : args.size = 5 := by simpa [Cond.value, given_1] using hcnt
    obtain ⟨L⟩ := args
    match L, hs with
    | [w0, w1, w2, w3, w4], _ => exact ⟨w0, w1, w2, w3, w4, rfl⟩
  have hw := fun d (hd : d ∈ tables_1) => atoms_spec (ws := Jvm.Cond.code x code maxLocals ret :: tables_1) hat d (List.mem_cons_of_mem _ hd)
  have hfit : Fit s := fun {y c} hc i hi => by
    obtain ⟨ha, rfl⟩ := Array.getElem?_eq_some_iff.mp hc
    have q := List.all_eq_true.mp ((Array.all_eq_true_iff_forall_mem.mp hF) _ (Array.getElem_mem ha)) i (List.mem_range.mpr hi)
    simpa [Array.getElem?_eq_getElem hi] using q
  obtain ⟨h0, hg⟩ := and_e hg
  obtain ⟨i0, e0⟩ := is_v h0
  obtain rfl : w0 = (.int i0) := Option.some.inj e0
  obtain ⟨h1, hg⟩ := and_e hg
  obtain ⟨i1, e1⟩ := is_v h1
  obtain rfl : w1 = (.int i1) := Option.some.inj e1
  obtain ⟨h2, hg⟩ := and_e hg
  obtain ⟨i2, e2⟩ := is_v h2
  obtain rfl : w2 = (.int i2) := Option.some.inj e2
  obtain ⟨h3, hg⟩ := and_e hg
  obtain ⟨i3, e3⟩ := is_v h3
  obtain rfl : w3 = (.int i3) := Option.some.inj e3
  have h4 := hg
  obtain ⟨i4, e4⟩ := is_v h4
  obtain rfl : w4 = (.int i4) := Option.some.inj e4
  obtain ⟨NF, hlaw⟩ := owed i0 i1 i2 i3 i4
  have hp := L_law_pay (C := (l, s, s.heap.size, #[.int i0, .int i1, .int i2, .int i3, .int i4])) hlaw hw s.heap (Rep.start s) tables_1
  obtain ⟨n, o, h1, h2, h3, v, L, rfl, ⟨N, G', -, rfl⟩, hq⟩ := hp p e ha hc hk s m _ below hf ((Spec.applies_iff_loose hf).mp happ).1 ⟨rfl, State.Warmed39.refl s, rfl⟩ trivial
  refine ⟨n, _, h1, h2, h3, hpost _ _ _ _ _ _ ⟨Cond.after_iff.mpr rfl, Cond.after_iff.mpr (eq_i res_at (Term.int_eval (1)) rfl), trivial⟩ ⟨hq.1, hq.2.1, (hq.2.2.sift fun y hy => Or.inr (N y hy)).mono (by decide) (by decide)⟩⟩
theorem main_1_1 : Claimed_1_1 := comes_1 fun _ _ _ _ _ _ h hF => ⟨h.1, hF⟩
theorem main_1_2 : Claimed_1_2 := comes_1 fun _ _ _ _ _ _ h hF => ⟨h.2.1, hF⟩
end Jvm.Pilot.@@N@@
namespace Jvm.Pilot.@@N@@
open Jvm Jvm.ClassFile Sem Op Lib Jvm.Free Jvm.Stand Jvm.Pilot.@@N@@.Jvm.D
/-! MADE BY PROGRAM (witnessworld.py) out of the Statement's table words and the real class files: 11 classes; the members and pool entries that the words name. The judged class is class 1, her method 1. -/
namespace start1
open Jvm.ClassFile
def u (s : String) : CpInfo := .utf8 (stringToUtf16 s)
/-- a pool by its gaps: so many unusable entries, then the entry; so many at the end -/
def gap : Nat → List CpInfo → List CpInfo
  | 0, r => r
  | n + 1, r => .unusable :: gap n r
def poolList (es : List (Nat × CpInfo)) (last : Nat) : List CpInfo := es.foldr (fun e r => gap e.1 (e.2 :: r)) (gap last [])
def pool (es : List (Nat × CpInfo)) (last : Nat) : Array CpInfo := ⟨poolList es last⟩
def fileOf (pool : Array CpInfo) (this : Nat) (attrs : Array Attribute := #[]) (ms : Array MethodInfo := #[]) (fl : Nat := 33) (sup : Nat := 0) (ifs : Array Nat := #[]) (fds : Array FieldInfo := #[]) : ClassFile where
  minorVersion := 0
  majorVersion := 65
  constantPool := pool
  accessFlags := fl
  thisClass := this
  superClass := sup
  interfaces := ifs
  fields := fds
  methods := ms
  attributes := attrs
def plain (name : String) (sup : Option ClassId) : Class where
  name := name
  kind := .ordinary
  loader := none
  accessFlags := 33
  super := sup
  interfaces := #[]
  cf := none
  fields := #[]
  methods := #[]
  instanceTypes := #[]
  staticTypes := #[]
  resolved := #[]
  callSites := []
  init := .initialized
  statics := none
  mirror := none

def pool0 : Array CpInfo := pool [(5, u "<init>"), (0, u "()V"), (1, .class_ 10), (1, u "java/lang/Object")] 113

def k0c0 : Code := { maxStack := 0, maxLocals := 1, code := object_method_1_code, exceptionTable := #[], attributes := #[] }
def k0m0 : Method := { name := "<init>", desc := "()V", sig := { parameters := [], returnType := none }, accessFlags := 1, code := some k0c0 }
/-- java/lang/Object -/
def k0 : Class := { plain "java/lang/Object" none with
  accessFlags := 33
  interfaces := #[]
  cf := some (fileOf pool0 8 #[] #[{ accessFlags := 1, nameIndex := 5, descriptorIndex := 6, attributes := #[] }] 33 0 #[] #[])
  fields := #[]
  methods := #[k0m0]
  instanceTypes := #[]
  staticTypes := #[]
  resolved := Array.replicate 124 none
  statics := none }

def pool1 : Array CpInfo := pool [(2, .class_ 4), (1, u "java/lang/Object"), (0, u "<init>"), (0, u "()V"), (0, .class_ 8), (0, u "LogicalReplicator"), (0, .methodref 7 10), (0, .nameAndType 5 11), (0, u "(IIII)V"), (0, .long 4294967296), (1, .methodref 7 15), (0, .nameAndType 16 17), (0, u "begin"), (0, u "(I)I"), (0, .methodref 7 19), (0, .nameAndType 20 21), (0, u "put"), (0, u "(III)I"), (0, .methodref 7 23), (0, .nameAndType 24 17), (0, u "commit"), (0, .methodref 7 26), (0, .nameAndType 27 28), (0, u "pubRow"), (0, u "(I)J"), (0, .methodref 7 30), (0, .nameAndType 31 17), (0, u "stream"), (0, .methodref 7 33), (0, .nameAndType 34 17), (0, u "info"), (0, .methodref 7 36), (0, .nameAndType 37 17), (0, u "apply"), (0, .methodref 7 39), (0, .nameAndType 40 28), (0, u "subPending"), (0, .methodref 7 42), (0, .nameAndType 43 28), (0, u "subRow"), (0, .long 4294967298), (1, .methodref 7 47), (0, .nameAndType 48 49), (0, u "feedback"), (0, u "()I"), (0, .class_ 51), (0, u "LogicalReplicatorL3"), (2, u "law"), (0, u "(IIIII)Z")] 3

def k1m0 : Method := { name := "<init>", desc := "()V", sig := { parameters := [], returnType := none }, accessFlags := 1, code := none }
def k1c1 : Code := { maxStack := 6, maxLocals := 13, code := code, exceptionTable := #[], attributes := #[] }
def k1m1 : Method := { name := "law", desc := "(IIIII)Z", sig := { parameters := [.int, .int, .int, .int, .int], returnType := some .boolean }, accessFlags := 9, code := some k1c1 }
/-- LogicalReplicatorL3 -/
def k1 : Class := { plain "LogicalReplicatorL3" (some 0) with
  accessFlags := 33
  interfaces := #[]
  cf := some (fileOf pool1 50 #[] #[{ accessFlags := 1, nameIndex := 5, descriptorIndex := 6, attributes := #[] }, { accessFlags := 9, nameIndex := 54, descriptorIndex := 55, attributes := #[] }] 33 2 #[] #[])
  fields := #[]
  methods := #[k1m0, k1m1]
  instanceTypes := #[]
  staticTypes := #[]
  resolved := Array.replicate 59 none
  statics := none }

def pool2 : Array CpInfo := pool [(1, .methodref 2 3), (0, .class_ 4), (0, .nameAndType 5 6), (0, u "java/lang/Object"), (0, u "<init>"), (0, u "()V"), (0, .fieldref 8 9), (0, .class_ 10), (0, .nameAndType 11 12), (0, u "LogicalReplicator"), (0, u "recKind"), (0, u "[I"), (0, .fieldref 8 14), (0, .nameAndType 15 12), (0, u "recSlot"), (0, .fieldref 8 17), (0, .nameAndType 18 12), (0, u "recKey"), (0, .fieldref 8 20), (0, .nameAndType 21 12), (0, u "recVal"), (0, .fieldref 8 23), (0, .nameAndType 24 12), (0, u "recBegin"), (0, .fieldref 8 26), (0, .nameAndType 27 28), (0, u "slotOpen"), (0, u "[Z"), (0, .fieldref 8 30), (0, .nameAndType 31 12), (0, u "slotBegin"), (0, .fieldref 8 33), (0, .nameAndType 34 28), (0, u "pubHas"), (0, .fieldref 8 36), (0, .nameAndType 37 12), (0, u "pubVal"), (0, .fieldref 8 39), (0, .nameAndType 40 28), (0, u "subHas"), (0, .fieldref 8 42), (0, .nameAndType 43 12), (0, u "subVal"), (0, .fieldref 8 45), (0, .nameAndType 46 12), (0, u "pendKind"), (0, .fieldref 8 48), (0, .nameAndType 49 12), (0, u "pendVal"), (0, .fieldref 8 51), (0, .nameAndType 52 12), (0, u "qKind"), (0, .fieldref 8 54), (0, .nameAndType 55 12), (0, u "qKey"), (0, .fieldref 8 57), (0, .nameAndType 58 12), (0, u "qVal"), (0, .fieldref 8 60), (0, .nameAndType 61 12), (0, u "qPos"), (0, .methodref 8 63), (0, .nameAndType 64 65), (0, u "clamp"), (0, u "(III)I"), (0, .fieldref 8 67), (0, .nameAndType 68 69), (0, u "nKeys"), (0, u "I"), (0, .fieldref 8 71), (0, .nameAndType 72 69), (0, u "nSlots"), (0, .fieldref 8 74), (0, .nameAndType 75 69), (0, u "logCap"), (0, .fieldref 8 77), (0, .nameAndType 78 69), (0, u "memCap"), (0, .fieldref 8 80), (0, .nameAndType 81 69), (0, u "length"), (0, .fieldref 8 83), (0, .nameAndType 84 69), (0, u "emittedPos"), (0, .fieldref 8 86), (0, .nameAndType 87 69), (0, u "appliedPos"), (0, .fieldref 8 89), (0, .nameAndType 90 69), (0, u "confirmedPos"), (0, .fieldref 8 92), (0, .nameAndType 93 69), (0, u "qHead"), (0, .fieldref 8 95), (0, .nameAndType 96 69), (0, u "qCount"), (0, .methodref 8 98), (0, .nameAndType 99 100), (0, u "validSlot"), (0, u "(I)Z"), (0, .methodref 8 102), (0, .nameAndType 103 104), (0, u "logFull"), (0, u "()Z"), (0, .methodref 8 106), (0, .nameAndType 107 108), (0, u "append"), (0, u "(IIII)I"), (0, .methodref 8 110), (0, .nameAndType 111 108), (0, u "write"), (0, .methodref 8 113), (0, .nameAndType 114 115), (0, u "checkOpenSlot"), (0, u "(I)I"), (0, .methodref 8 117), (0, .nameAndType 118 100), (0, u "validKey"), (0, .methodref 8 120), (0, .nameAndType 121 122), (0, u "applyToPublisher"), (0, u "(III)V"), (0, .methodref 8 124), (0, .nameAndType 125 115), (0, u "nextCommit"), (0, .methodref 8 127), (0, .nameAndType 128 129), (0, u "emitTransaction"), (0, u "(I)V"), (0, .methodref 8 131), (0, .nameAndType 132 133), (0, u "enqueue"), (0, u "(IIII)V"), (0, .methodref 8 135), (0, .nameAndType 136 6), (0, u "handleHead"), (0, .methodref 8 138), (0, .nameAndType 139 6), (0, u "applyPending"), (6, .long 4294967296), (1, .long 4294967298), (1, .long 4294967297), (5, u "()I"), (3, .methodref 8 161), (0, .nameAndType 162 156), (0, u "countSubRows"), (0, u "OK"), (2, u "ERR_SLOT"), (1, u "ERR_STATE"), (1, u "ERR_KEY"), (1, u "ERR_FULL"), (1, u "REC_BEGIN"), (1, u "REC_PUT"), (1, u "REC_DEL"), (1, u "REC_COMMIT"), (1, u "REC_ABORT"), (1, u "ABSENT"), (0, u "J"), (0, u "DELETED"), (0, u "NO_CHANGE"), (0, u "INFO_LOG_LENGTH"), (0, u "INFO_OPEN"), (0, u "INFO_EMITTED"), (0, u "INFO_QUEUED"), (0, u "INFO_APPLIED"), (0, u "INFO_CONFIRMED"), (0, u "INFO_PUB_ROWS"), (1, u "INFO_SUB_ROWS"), (1, u "PEND_NONE"), (0, u "PEND_PUT"), (0, u "PEND_DEL"), (0, u "LOG_SLOTS"), (1, u "QUEUE_CAP"), (1, u "MAX_KEYS"), (1, u "MAX_SLOTS"), (4, u "begin"), (0, u "put"), (2, u "commit"), (1, u "stream"), (0, u "apply"), (0, u "feedback"), (2, u "pubRow"), (0, u "(I)J"), (0, u "subRow"), (0, u "subPending"), (1, u "info")] 2

def k2c0 : Code := { maxStack := 5, maxLocals := 5, code := prog_1_method_1_code, exceptionTable := #[], attributes := #[] }
def k2m0 : Method := { name := "<init>", desc := "(IIII)V", sig := { parameters := [.int, .int, .int, .int], returnType := none }, accessFlags := 1, code := some k2c0 }
def k2c1 : Code := { maxStack := 2, maxLocals := 4, code := prog_1_method_2_code, exceptionTable := #[], attributes := #[] }
def k2m1 : Method := { name := "clamp", desc := "(III)I", sig := { parameters := [.int, .int, .int], returnType := some .int }, accessFlags := 2, code := some k2c1 }
def k2c2 : Code := { maxStack := 2, maxLocals := 2, code := prog_1_method_3_code, exceptionTable := #[], attributes := #[] }
def k2m2 : Method := { name := "validSlot", desc := "(I)Z", sig := { parameters := [.int], returnType := some .boolean }, accessFlags := 2, code := some k2c2 }
def k2c3 : Code := { maxStack := 2, maxLocals := 2, code := prog_1_method_4_code, exceptionTable := #[], attributes := #[] }
def k2m3 : Method := { name := "validKey", desc := "(I)Z", sig := { parameters := [.int], returnType := some .boolean }, accessFlags := 2, code := some k2c3 }
def k2c4 : Code := { maxStack := 2, maxLocals := 1, code := prog_1_method_5_code, exceptionTable := #[], attributes := #[] }
def k2m4 : Method := { name := "logFull", desc := "()Z", sig := { parameters := [], returnType := some .boolean }, accessFlags := 2, code := some k2c4 }
def k2c5 : Code := { maxStack := 2, maxLocals := 2, code := prog_1_method_6_code, exceptionTable := #[], attributes := #[] }
def k2m5 : Method := { name := "checkOpenSlot", desc := "(I)I", sig := { parameters := [.int], returnType := some .int }, accessFlags := 2, code := some k2c5 }
def k2c6 : Code := { maxStack := 3, maxLocals := 5, code := prog_1_method_7_code, exceptionTable := #[], attributes := #[] }
def k2m6 : Method := { name := "append", desc := "(IIII)I", sig := { parameters := [.int, .int, .int, .int], returnType := some .int }, accessFlags := 2, code := some k2c6 }
def k2c7 : Code := { maxStack := 5, maxLocals := 3, code := prog_1_method_8_code, exceptionTable := #[], attributes := #[] }
def k2m7 : Method := { name := "begin", desc := "(I)I", sig := { parameters := [.int], returnType := some .int }, accessFlags := 1, code := some k2c7 }
def k2c8 : Code := { maxStack := 5, maxLocals := 4, code := prog_1_method_9_code, exceptionTable := #[], attributes := #[] }
def k2m8 : Method := { name := "put", desc := "(III)I", sig := { parameters := [.int, .int, .int], returnType := some .int }, accessFlags := 1, code := some k2c8 }
def k2c9 : Code := { maxStack := 5, maxLocals := 6, code := prog_1_method_11_code, exceptionTable := #[], attributes := #[] }
def k2m9 : Method := { name := "write", desc := "(IIII)I", sig := { parameters := [.int, .int, .int, .int], returnType := some .int }, accessFlags := 2, code := some k2c9 }
def k2c10 : Code := { maxStack := 5, maxLocals := 5, code := prog_1_method_12_code, exceptionTable := #[], attributes := #[] }
def k2m10 : Method := { name := "commit", desc := "(I)I", sig := { parameters := [.int], returnType := some .int }, accessFlags := 1, code := some k2c10 }
def k2c11 : Code := { maxStack := 4, maxLocals := 7, code := prog_1_method_13_code, exceptionTable := #[], attributes := #[] }
def k2m11 : Method := { name := "applyToPublisher", desc := "(III)V", sig := { parameters := [.int, .int, .int], returnType := none }, accessFlags := 2, code := some k2c11 }
def k2c12 : Code := { maxStack := 2, maxLocals := 5, code := prog_1_method_15_code, exceptionTable := #[], attributes := #[] }
def k2m12 : Method := { name := "stream", desc := "(I)I", sig := { parameters := [.int], returnType := some .int }, accessFlags := 1, code := some k2c12 }
def k2c13 : Code := { maxStack := 2, maxLocals := 4, code := prog_1_method_16_code, exceptionTable := #[], attributes := #[] }
def k2m13 : Method := { name := "nextCommit", desc := "(I)I", sig := { parameters := [.int], returnType := some .int }, accessFlags := 2, code := some k2c13 }
def k2c14 : Code := { maxStack := 5, maxLocals := 6, code := prog_1_method_17_code, exceptionTable := #[], attributes := #[] }
def k2m14 : Method := { name := "emitTransaction", desc := "(I)V", sig := { parameters := [.int], returnType := none }, accessFlags := 2, code := some k2c14 }
def k2c15 : Code := { maxStack := 3, maxLocals := 6, code := prog_1_method_18_code, exceptionTable := #[], attributes := #[] }
def k2m15 : Method := { name := "enqueue", desc := "(IIII)V", sig := { parameters := [.int, .int, .int, .int], returnType := none }, accessFlags := 2, code := some k2c15 }
def k2c16 : Code := { maxStack := 2, maxLocals := 4, code := prog_1_method_20_code, exceptionTable := #[], attributes := #[] }
def k2m16 : Method := { name := "apply", desc := "(I)I", sig := { parameters := [.int], returnType := some .int }, accessFlags := 1, code := some k2c16 }
def k2c17 : Code := { maxStack := 3, maxLocals := 6, code := prog_1_method_21_code, exceptionTable := #[], attributes := #[] }
def k2m17 : Method := { name := "handleHead", desc := "()V", sig := { parameters := [], returnType := none }, accessFlags := 2, code := some k2c17 }
def k2c18 : Code := { maxStack := 4, maxLocals := 2, code := prog_1_method_22_code, exceptionTable := #[], attributes := #[] }
def k2m18 : Method := { name := "applyPending", desc := "()V", sig := { parameters := [], returnType := none }, accessFlags := 2, code := some k2c18 }
def k2c19 : Code := { maxStack := 2, maxLocals := 1, code := prog_1_method_24_code, exceptionTable := #[], attributes := #[] }
def k2m19 : Method := { name := "feedback", desc := "()I", sig := { parameters := [], returnType := some .int }, accessFlags := 1, code := some k2c19 }
def k2c20 : Code := { maxStack := 2, maxLocals := 2, code := prog_1_method_27_code, exceptionTable := #[], attributes := #[] }
def k2m20 : Method := { name := "pubRow", desc := "(I)J", sig := { parameters := [.int], returnType := some .long }, accessFlags := 1, code := some k2c20 }
def k2c21 : Code := { maxStack := 2, maxLocals := 2, code := prog_1_method_28_code, exceptionTable := #[], attributes := #[] }
def k2m21 : Method := { name := "subRow", desc := "(I)J", sig := { parameters := [.int], returnType := some .long }, accessFlags := 1, code := some k2c21 }
def k2c22 : Code := { maxStack := 2, maxLocals := 2, code := prog_1_method_29_code, exceptionTable := #[], attributes := #[] }
def k2m22 : Method := { name := "subPending", desc := "(I)J", sig := { parameters := [.int], returnType := some .long }, accessFlags := 1, code := some k2c22 }
def k2c23 : Code := { maxStack := 1, maxLocals := 2, code := prog_1_method_31_code, exceptionTable := #[], attributes := #[] }
def k2m23 : Method := { name := "info", desc := "(I)I", sig := { parameters := [.int], returnType := some .int }, accessFlags := 1, code := some k2c23 }
def k2c24 : Code := { maxStack := 2, maxLocals := 3, code := prog_1_method_34_code, exceptionTable := #[], attributes := #[] }
def k2m24 : Method := { name := "countSubRows", desc := "()I", sig := { parameters := [], returnType := some .int }, accessFlags := 2, code := some k2c24 }
/-- LogicalReplicator -/
def k2 : Class := { plain "LogicalReplicator" (some 0) with
  accessFlags := 49
  interfaces := #[]
  cf := some (fileOf pool2 8 #[] #[{ accessFlags := 1, nameIndex := 5, descriptorIndex := 133, attributes := #[] }, { accessFlags := 2, nameIndex := 64, descriptorIndex := 65, attributes := #[] }, { accessFlags := 2, nameIndex := 99, descriptorIndex := 100, attributes := #[] }, { accessFlags := 2, nameIndex := 118, descriptorIndex := 100, attributes := #[] }, { accessFlags := 2, nameIndex := 103, descriptorIndex := 104, attributes := #[] }, { accessFlags := 2, nameIndex := 114, descriptorIndex := 115, attributes := #[] }, { accessFlags := 2, nameIndex := 107, descriptorIndex := 108, attributes := #[] }, { accessFlags := 1, nameIndex := 212, descriptorIndex := 115, attributes := #[] }, { accessFlags := 1, nameIndex := 213, descriptorIndex := 65, attributes := #[] }, { accessFlags := 2, nameIndex := 111, descriptorIndex := 108, attributes := #[] }, { accessFlags := 1, nameIndex := 216, descriptorIndex := 115, attributes := #[] }, { accessFlags := 2, nameIndex := 121, descriptorIndex := 122, attributes := #[] }, { accessFlags := 1, nameIndex := 218, descriptorIndex := 115, attributes := #[] }, { accessFlags := 2, nameIndex := 125, descriptorIndex := 115, attributes := #[] }, { accessFlags := 2, nameIndex := 128, descriptorIndex := 129, attributes := #[] }, { accessFlags := 2, nameIndex := 132, descriptorIndex := 133, attributes := #[] }, { accessFlags := 1, nameIndex := 219, descriptorIndex := 115, attributes := #[] }, { accessFlags := 2, nameIndex := 136, descriptorIndex := 6, attributes := #[] }, { accessFlags := 2, nameIndex := 139, descriptorIndex := 6, attributes := #[] }, { accessFlags := 1, nameIndex := 220, descriptorIndex := 156, attributes := #[] }, { accessFlags := 1, nameIndex := 223, descriptorIndex := 224, attributes := #[] }, { accessFlags := 1, nameIndex := 225, descriptorIndex := 224, attributes := #[] }, { accessFlags := 1, nameIndex := 226, descriptorIndex := 224, attributes := #[] }, { accessFlags := 1, nameIndex := 228, descriptorIndex := 115, attributes := #[] }, { accessFlags := 2, nameIndex := 162, descriptorIndex := 156, attributes := #[] }] 49 2 #[] #[{ accessFlags := 25, nameIndex := 163, descriptorIndex := 69, attributes := #[] }, { accessFlags := 25, nameIndex := 166, descriptorIndex := 69, attributes := #[] }, { accessFlags := 25, nameIndex := 168, descriptorIndex := 69, attributes := #[] }, { accessFlags := 25, nameIndex := 170, descriptorIndex := 69, attributes := #[] }, { accessFlags := 25, nameIndex := 172, descriptorIndex := 69, attributes := #[] }, { accessFlags := 25, nameIndex := 174, descriptorIndex := 69, attributes := #[] }, { accessFlags := 25, nameIndex := 176, descriptorIndex := 69, attributes := #[] }, { accessFlags := 25, nameIndex := 178, descriptorIndex := 69, attributes := #[] }, { accessFlags := 25, nameIndex := 180, descriptorIndex := 69, attributes := #[] }, { accessFlags := 25, nameIndex := 182, descriptorIndex := 69, attributes := #[] }, { accessFlags := 25, nameIndex := 184, descriptorIndex := 185, attributes := #[] }, { accessFlags := 25, nameIndex := 186, descriptorIndex := 185, attributes := #[] }, { accessFlags := 25, nameIndex := 187, descriptorIndex := 185, attributes := #[] }, { accessFlags := 25, nameIndex := 188, descriptorIndex := 69, attributes := #[] }, { accessFlags := 25, nameIndex := 189, descriptorIndex := 69, attributes := #[] }, { accessFlags := 25, nameIndex := 190, descriptorIndex := 69, attributes := #[] }, { accessFlags := 25, nameIndex := 191, descriptorIndex := 69, attributes := #[] }, { accessFlags := 25, nameIndex := 192, descriptorIndex := 69, attributes := #[] }, { accessFlags := 25, nameIndex := 193, descriptorIndex := 69, attributes := #[] }, { accessFlags := 25, nameIndex := 194, descriptorIndex := 69, attributes := #[] }, { accessFlags := 25, nameIndex := 196, descriptorIndex := 69, attributes := #[] }, { accessFlags := 26, nameIndex := 198, descriptorIndex := 69, attributes := #[] }, { accessFlags := 26, nameIndex := 199, descriptorIndex := 69, attributes := #[] }, { accessFlags := 26, nameIndex := 200, descriptorIndex := 69, attributes := #[] }, { accessFlags := 26, nameIndex := 201, descriptorIndex := 69, attributes := #[] }, { accessFlags := 26, nameIndex := 203, descriptorIndex := 69, attributes := #[] }, { accessFlags := 26, nameIndex := 205, descriptorIndex := 69, attributes := #[] }, { accessFlags := 26, nameIndex := 207, descriptorIndex := 69, attributes := #[] }, { accessFlags := 2, nameIndex := 68, descriptorIndex := 69, attributes := #[] }, { accessFlags := 2, nameIndex := 72, descriptorIndex := 69, attributes := #[] }, { accessFlags := 2, nameIndex := 75, descriptorIndex := 69, attributes := #[] }, { accessFlags := 2, nameIndex := 78, descriptorIndex := 69, attributes := #[] }, { accessFlags := 2, nameIndex := 81, descriptorIndex := 69, attributes := #[] }, { accessFlags := 2, nameIndex := 11, descriptorIndex := 12, attributes := #[] }, { accessFlags := 2, nameIndex := 15, descriptorIndex := 12, attributes := #[] }, { accessFlags := 2, nameIndex := 18, descriptorIndex := 12, attributes := #[] }, { accessFlags := 2, nameIndex := 21, descriptorIndex := 12, attributes := #[] }, { accessFlags := 2, nameIndex := 24, descriptorIndex := 12, attributes := #[] }, { accessFlags := 2, nameIndex := 27, descriptorIndex := 28, attributes := #[] }, { accessFlags := 2, nameIndex := 31, descriptorIndex := 12, attributes := #[] }, { accessFlags := 2, nameIndex := 34, descriptorIndex := 28, attributes := #[] }, { accessFlags := 2, nameIndex := 37, descriptorIndex := 12, attributes := #[] }, { accessFlags := 2, nameIndex := 40, descriptorIndex := 28, attributes := #[] }, { accessFlags := 2, nameIndex := 43, descriptorIndex := 12, attributes := #[] }, { accessFlags := 2, nameIndex := 46, descriptorIndex := 12, attributes := #[] }, { accessFlags := 2, nameIndex := 49, descriptorIndex := 12, attributes := #[] }, { accessFlags := 2, nameIndex := 84, descriptorIndex := 69, attributes := #[] }, { accessFlags := 2, nameIndex := 87, descriptorIndex := 69, attributes := #[] }, { accessFlags := 2, nameIndex := 90, descriptorIndex := 69, attributes := #[] }, { accessFlags := 2, nameIndex := 52, descriptorIndex := 12, attributes := #[] }, { accessFlags := 2, nameIndex := 55, descriptorIndex := 12, attributes := #[] }, { accessFlags := 2, nameIndex := 58, descriptorIndex := 12, attributes := #[] }, { accessFlags := 2, nameIndex := 61, descriptorIndex := 12, attributes := #[] }, { accessFlags := 2, nameIndex := 93, descriptorIndex := 69, attributes := #[] }, { accessFlags := 2, nameIndex := 96, descriptorIndex := 69, attributes := #[] }])
  fields := #[{ name := "OK", type := .int, accessFlags := 25, slot := 0, constantValue := 0 }, { name := "ERR_SLOT", type := .int, accessFlags := 25, slot := 1, constantValue := 0 }, { name := "ERR_STATE", type := .int, accessFlags := 25, slot := 2, constantValue := 0 }, { name := "ERR_KEY", type := .int, accessFlags := 25, slot := 3, constantValue := 0 }, { name := "ERR_FULL", type := .int, accessFlags := 25, slot := 4, constantValue := 0 }, { name := "REC_BEGIN", type := .int, accessFlags := 25, slot := 5, constantValue := 0 }, { name := "REC_PUT", type := .int, accessFlags := 25, slot := 6, constantValue := 0 }, { name := "REC_DEL", type := .int, accessFlags := 25, slot := 7, constantValue := 0 }, { name := "REC_COMMIT", type := .int, accessFlags := 25, slot := 8, constantValue := 0 }, { name := "REC_ABORT", type := .int, accessFlags := 25, slot := 9, constantValue := 0 }, { name := "ABSENT", type := .long, accessFlags := 25, slot := 10, constantValue := 0 }, { name := "DELETED", type := .long, accessFlags := 25, slot := 11, constantValue := 0 }, { name := "NO_CHANGE", type := .long, accessFlags := 25, slot := 12, constantValue := 0 }, { name := "INFO_LOG_LENGTH", type := .int, accessFlags := 25, slot := 13, constantValue := 0 }, { name := "INFO_OPEN", type := .int, accessFlags := 25, slot := 14, constantValue := 0 }, { name := "INFO_EMITTED", type := .int, accessFlags := 25, slot := 15, constantValue := 0 }, { name := "INFO_QUEUED", type := .int, accessFlags := 25, slot := 16, constantValue := 0 }, { name := "INFO_APPLIED", type := .int, accessFlags := 25, slot := 17, constantValue := 0 }, { name := "INFO_CONFIRMED", type := .int, accessFlags := 25, slot := 18, constantValue := 0 }, { name := "INFO_PUB_ROWS", type := .int, accessFlags := 25, slot := 19, constantValue := 0 }, { name := "INFO_SUB_ROWS", type := .int, accessFlags := 25, slot := 20, constantValue := 0 }, { name := "PEND_NONE", type := .int, accessFlags := 26, slot := 21, constantValue := 0 }, { name := "PEND_PUT", type := .int, accessFlags := 26, slot := 22, constantValue := 0 }, { name := "PEND_DEL", type := .int, accessFlags := 26, slot := 23, constantValue := 0 }, { name := "LOG_SLOTS", type := .int, accessFlags := 26, slot := 24, constantValue := 0 }, { name := "QUEUE_CAP", type := .int, accessFlags := 26, slot := 25, constantValue := 0 }, { name := "MAX_KEYS", type := .int, accessFlags := 26, slot := 26, constantValue := 0 }, { name := "MAX_SLOTS", type := .int, accessFlags := 26, slot := 27, constantValue := 0 }, { name := "nKeys", type := .int, accessFlags := 2, slot := 0, constantValue := 0 }, { name := "nSlots", type := .int, accessFlags := 2, slot := 1, constantValue := 0 }, { name := "logCap", type := .int, accessFlags := 2, slot := 2, constantValue := 0 }, { name := "memCap", type := .int, accessFlags := 2, slot := 3, constantValue := 0 }, { name := "length", type := .int, accessFlags := 2, slot := 4, constantValue := 0 }, { name := "recKind", type := (.array .int), accessFlags := 2, slot := 5, constantValue := 0 }, { name := "recSlot", type := (.array .int), accessFlags := 2, slot := 6, constantValue := 0 }, { name := "recKey", type := (.array .int), accessFlags := 2, slot := 7, constantValue := 0 }, { name := "recVal", type := (.array .int), accessFlags := 2, slot := 8, constantValue := 0 }, { name := "recBegin", type := (.array .int), accessFlags := 2, slot := 9, constantValue := 0 }, { name := "slotOpen", type := (.array .boolean), accessFlags := 2, slot := 10, constantValue := 0 }, { name := "slotBegin", type := (.array .int), accessFlags := 2, slot := 11, constantValue := 0 }, { name := "pubHas", type := (.array .boolean), accessFlags := 2, slot := 12, constantValue := 0 }, { name := "pubVal", type := (.array .int), accessFlags := 2, slot := 13, constantValue := 0 }, { name := "subHas", type := (.array .boolean), accessFlags := 2, slot := 14, constantValue := 0 }, { name := "subVal", type := (.array .int), accessFlags := 2, slot := 15, constantValue := 0 }, { name := "pendKind", type := (.array .int), accessFlags := 2, slot := 16, constantValue := 0 }, { name := "pendVal", type := (.array .int), accessFlags := 2, slot := 17, constantValue := 0 }, { name := "emittedPos", type := .int, accessFlags := 2, slot := 18, constantValue := 0 }, { name := "appliedPos", type := .int, accessFlags := 2, slot := 19, constantValue := 0 }, { name := "confirmedPos", type := .int, accessFlags := 2, slot := 20, constantValue := 0 }, { name := "qKind", type := (.array .int), accessFlags := 2, slot := 21, constantValue := 0 }, { name := "qKey", type := (.array .int), accessFlags := 2, slot := 22, constantValue := 0 }, { name := "qVal", type := (.array .int), accessFlags := 2, slot := 23, constantValue := 0 }, { name := "qPos", type := (.array .int), accessFlags := 2, slot := 24, constantValue := 0 }, { name := "qHead", type := .int, accessFlags := 2, slot := 25, constantValue := 0 }, { name := "qCount", type := .int, accessFlags := 2, slot := 26, constantValue := 0 }]
  methods := #[k2m0, k2m1, k2m2, k2m3, k2m4, k2m5, k2m6, k2m7, k2m8, k2m9, k2m10, k2m11, k2m12, k2m13, k2m14, k2m15, k2m16, k2m17, k2m18, k2m19, k2m20, k2m21, k2m22, k2m23, k2m24]
  instanceTypes := #[.int, .int, .int, .int, .int, (.array .int), (.array .int), (.array .int), (.array .int), (.array .int), (.array .boolean), (.array .int), (.array .boolean), (.array .int), (.array .boolean), (.array .int), (.array .int), (.array .int), .int, .int, .int, (.array .int), (.array .int), (.array .int), (.array .int), .int, .int]
  staticTypes := #[.int, .int, .int, .int, .int, .int, .int, .int, .int, .int, .long, .long, .long, .int, .int, .int, .int, .int, .int, .int, .int, .int, .int, .int, .int, .int, .int, .int]
  resolved := Array.replicate 231 none
  statics := none }

def pool3 : Array CpInfo := pool [(1, u "java/lang/Cloneable"), (0, .class_ 1), (0, u "java/lang/Object"), (0, .class_ 3)] 3

/-- java/lang/Cloneable -/
def k3 : Class := { plain "java/lang/Cloneable" (some 0) with
  accessFlags := 1537
  interfaces := #[]
  cf := some (fileOf pool3 2 #[] #[] 1537 4 #[] #[])
  fields := #[]
  methods := #[]
  instanceTypes := #[]
  staticTypes := #[]
  resolved := Array.replicate 8 none
  statics := none }

def pool4 : Array CpInfo := pool [(1, u "java/io/Serializable"), (0, .class_ 1), (0, u "java/lang/Object"), (0, .class_ 3)] 3

/-- java/io/Serializable -/
def k4 : Class := { plain "java/io/Serializable" (some 0) with
  accessFlags := 1537
  interfaces := #[]
  cf := some (fileOf pool4 2 #[] #[] 1537 4 #[] #[])
  fields := #[]
  methods := #[]
  instanceTypes := #[]
  staticTypes := #[]
  resolved := Array.replicate 8 none
  statics := none }

/-- the primitive boolean -/
def k5 : Class := { plain "boolean" none with kind := .primitive 'Z', accessFlags := 0x411 }
/-- [Z -/
def k6 : Class := { plain "[Z" (some 0) with kind := .array 5 .boolean, interfaces := #[3, 4], accessFlags := 1041 }

/-- the primitive byte -/
def k7 : Class := { plain "byte" none with kind := .primitive 'B', accessFlags := 0x411 }
/-- [B -/
def k8 : Class := { plain "[B" (some 0) with kind := .array 7 .byte, interfaces := #[3, 4], accessFlags := 1041 }

/-- the primitive int -/
def k9 : Class := { plain "int" none with kind := .primitive 'I', accessFlags := 0x411 }
/-- [I -/
def k10 : Class := { plain "[I" (some 0) with kind := .array 9 .int, interfaces := #[3, 4], accessFlags := 1041 }

def heap : Heap := #[]
def classes : Array Class := #[k0, k1, k2, k3, k4, k5, k6, k7, k8, k9, k10]
def interned : List (Array UInt16 × Addr) := []
def slotsUsed : Nat := 0
def theMethod : MethodId := ⟨1, 1⟩
def args0 : Array Value := #[.int 3, .int 2, .int 1, .int 0, .int 7]
def aboutOver (below : List Frame) : State where
  vm := { classes := classes, interned := interned.toArray }
  heap := heap
  slotsUsed := slotsUsed
  threads := #[{ frames := .invoking theMethod args0 :: below }]
def below0 : List Frame := [.native { method := ⟨0, 0⟩, args := #[] }]
def about1 : State := aboutOver below0
def p0 : Program := .bare "" "" ""
def e0 : Env := launch0.env 0 0 0
theorem w_frames : about1.frames = Frame.invoking theMethod args0 :: below0 := rfl
set_option maxRecDepth 65536 in
theorem w_args : argsFit about1.vm theMethod args0 = true := by decide +kernel
set_option maxRecDepth 65536 in
theorem w_heap : heapFits about1 = true := by decide +kernel
set_option maxRecDepth 65536 in
theorem w_runnable : about1.curStatus? = some .runnable := by decide +kernel
set_option maxRecDepth 65536 in
theorem w_alone : about1.alone = true := by decide +kernel
set_option maxRecDepth 65536 in
theorem w_named : about1.methodNamed? x = some theMethod := by decide +kernel
set_option maxRecDepth 65536 in
theorem w_hears : about1.hears theMethod below0 = true := by decide +kernel
set_option maxRecDepth 65536 in
theorem w_ripe : about1.ripe theMethod args0 below0 = true := by decide +kernel
theorem w_running : about1.status = .running := rfl
set_option maxRecDepth 65536 in
theorem w_room : about1.hasRoom e0.platform room_1 = true :=
  launch0.hasRoom_least _ room_1 (by decide +kernel) (by decide +kernel) (by decide +kernel) (by decide +kernel) (by decide +kernel) (by decide +kernel)
theorem allAtoms_all (ts : List Jvm.Cond) (a : Array Jvm.Value) (st : Jvm.State) : (allAtoms ts).before a st = ts.all (fun c => c.before a st) := by
  induction ts with
  | nil => rfl
  | cons c t ih =>
    show (Jvm.Cond.and c (allAtoms t)).before a st = _
    rw [Jvm.Cond.before_and, ih, List.all_cons]
def words1 : List Jvm.Cond := Jvm.Cond.code x code maxLocals ret :: tables_1
/-- a 'code' word, met by the world's own term for the bytes: nothing is compared byte by byte -/
theorem code_word {y : MethodName} {bytes : ByteArray} {mx : Nat} {rt : Option FieldType} {a : Array Value} {s : State} {m : MethodId} {meth : Method} {c : Code} (h1 : s.methodNamed? y = some m) (h2 : s.vm.method? m = some meth) (h3 : meth.code = some c) (h4 : c.code = bytes)
    (h5 : (c.maxLocals == mx && c.exceptionTable.isEmpty && decide (c.maxStack ≤ mostOperands) && decide (meth.sig.returnType = rt) && !meth.locks && decide (parseMethodDescriptor y.desc = some meth.sig)) = true) : (Jvm.Cond.code y bytes mx rt).before a s = true := by
  simp only [Bool.and_eq_true, beq_iff_eq, Bool.not_eq_true', decide_eq_true_eq] at h5
  obtain ⟨⟨⟨⟨⟨g1, g2⟩, g3⟩, g4⟩, g5⟩, g6⟩ := h5
  simp [Cond.before, Cond.holds, Cond.value, h1, h2, h3, h4, g1, g2, g3, g4, g5, g6]
def isCode : Jvm.Cond → Bool
  | .code _ _ _ _ => true
  | _ => false
theorem all_split {L : List Jvm.Cond} {P : Jvm.Cond → Bool} (h1 : L.all (fun c => isCode c || P c) = true) (h2 : ∀ c ∈ L.filter isCode, P c = true) : L.all P = true := by
  refine List.all_eq_true.mpr fun c hc => ?_
  have h := List.all_eq_true.mp h1 c hc
  rcases Bool.eq_false_or_eq_true (isCode c) with hi | hi
  · exact h2 c (List.mem_filter.mpr ⟨hc, hi⟩)
  · simpa [hi] using h
set_option maxRecDepth 65536 in
theorem w_c0 : (Jvm.Cond.code x code maxLocals ret).before args0 about1 = true := code_word (m := ⟨1, 1⟩) (meth := k1m1) (c := k1c1) (by decide +kernel) rfl rfl rfl (by decide +kernel)
set_option maxRecDepth 65536 in
theorem w_c1 : (Jvm.Cond.code ({ cls := "LogicalReplicator", name := "<init>", desc := "(IIII)V" } : Jvm.MethodName) prog_1_method_1_code (5 : Nat) (Option.none : Option Jvm.ClassFile.FieldType)).before args0 about1 = true := code_word (m := ⟨2, 0⟩) (meth := k2m0) (c := k2c0) (by decide +kernel) rfl rfl rfl (by decide +kernel)
set_option maxRecDepth 65536 in
theorem w_c2 : (Jvm.Cond.code ({ cls := "java/lang/Object", name := "<init>", desc := "()V" } : Jvm.MethodName) object_method_1_code (1 : Nat) (Option.none : Option Jvm.ClassFile.FieldType)).before args0 about1 = true := code_word (m := ⟨0, 0⟩) (meth := k0m0) (c := k0c0) (by decide +kernel) rfl rfl rfl (by decide +kernel)
set_option maxRecDepth 65536 in
theorem w_c3 : (Jvm.Cond.code ({ cls := "LogicalReplicator", name := "clamp", desc := "(III)I" } : Jvm.MethodName) prog_1_method_2_code (4 : Nat) (Option.some Jvm.ClassFile.FieldType.int)).before args0 about1 = true := code_word (m := ⟨2, 1⟩) (meth := k2m1) (c := k2c1) (by decide +kernel) rfl rfl rfl (by decide +kernel)
set_option maxRecDepth 65536 in
theorem w_c4 : (Jvm.Cond.code ({ cls := "LogicalReplicator", name := "begin", desc := "(I)I" } : Jvm.MethodName) prog_1_method_8_code (3 : Nat) (Option.some Jvm.ClassFile.FieldType.int)).before args0 about1 = true := code_word (m := ⟨2, 7⟩) (meth := k2m7) (c := k2c7) (by decide +kernel) rfl rfl rfl (by decide +kernel)
set_option maxRecDepth 65536 in
theorem w_c5 : (Jvm.Cond.code ({ cls := "LogicalReplicator", name := "validSlot", desc := "(I)Z" } : Jvm.MethodName) prog_1_method_3_code (2 : Nat) (Option.some Jvm.ClassFile.FieldType.boolean)).before args0 about1 = true := code_word (m := ⟨2, 2⟩) (meth := k2m2) (c := k2c2) (by decide +kernel) rfl rfl rfl (by decide +kernel)
set_option maxRecDepth 65536 in
theorem w_c6 : (Jvm.Cond.code ({ cls := "LogicalReplicator", name := "logFull", desc := "()Z" } : Jvm.MethodName) prog_1_method_5_code (1 : Nat) (Option.some Jvm.ClassFile.FieldType.boolean)).before args0 about1 = true := code_word (m := ⟨2, 4⟩) (meth := k2m4) (c := k2c4) (by decide +kernel) rfl rfl rfl (by decide +kernel)
set_option maxRecDepth 65536 in
theorem w_c7 : (Jvm.Cond.code ({ cls := "LogicalReplicator", name := "append", desc := "(IIII)I" } : Jvm.MethodName) prog_1_method_7_code (5 : Nat) (Option.some Jvm.ClassFile.FieldType.int)).before args0 about1 = true := code_word (m := ⟨2, 6⟩) (meth := k2m6) (c := k2c6) (by decide +kernel) rfl rfl rfl (by decide +kernel)
set_option maxRecDepth 65536 in
theorem w_c8 : (Jvm.Cond.code ({ cls := "LogicalReplicator", name := "put", desc := "(III)I" } : Jvm.MethodName) prog_1_method_9_code (4 : Nat) (Option.some Jvm.ClassFile.FieldType.int)).before args0 about1 = true := code_word (m := ⟨2, 8⟩) (meth := k2m8) (c := k2c8) (by decide +kernel) rfl rfl rfl (by decide +kernel)
set_option maxRecDepth 65536 in
theorem w_c9 : (Jvm.Cond.code ({ cls := "LogicalReplicator", name := "write", desc := "(IIII)I" } : Jvm.MethodName) prog_1_method_11_code (6 : Nat) (Option.some Jvm.ClassFile.FieldType.int)).before args0 about1 = true := code_word (m := ⟨2, 9⟩) (meth := k2m9) (c := k2c9) (by decide +kernel) rfl rfl rfl (by decide +kernel)
set_option maxRecDepth 65536 in
theorem w_c10 : (Jvm.Cond.code ({ cls := "LogicalReplicator", name := "checkOpenSlot", desc := "(I)I" } : Jvm.MethodName) prog_1_method_6_code (2 : Nat) (Option.some Jvm.ClassFile.FieldType.int)).before args0 about1 = true := code_word (m := ⟨2, 5⟩) (meth := k2m5) (c := k2c5) (by decide +kernel) rfl rfl rfl (by decide +kernel)
set_option maxRecDepth 65536 in
theorem w_c11 : (Jvm.Cond.code ({ cls := "LogicalReplicator", name := "validKey", desc := "(I)Z" } : Jvm.MethodName) prog_1_method_4_code (2 : Nat) (Option.some Jvm.ClassFile.FieldType.boolean)).before args0 about1 = true := code_word (m := ⟨2, 3⟩) (meth := k2m3) (c := k2c3) (by decide +kernel) rfl rfl rfl (by decide +kernel)
set_option maxRecDepth 65536 in
theorem w_c12 : (Jvm.Cond.code ({ cls := "LogicalReplicator", name := "commit", desc := "(I)I" } : Jvm.MethodName) prog_1_method_12_code (5 : Nat) (Option.some Jvm.ClassFile.FieldType.int)).before args0 about1 = true := code_word (m := ⟨2, 10⟩) (meth := k2m10) (c := k2c10) (by decide +kernel) rfl rfl rfl (by decide +kernel)
set_option maxRecDepth 65536 in
theorem w_c13 : (Jvm.Cond.code ({ cls := "LogicalReplicator", name := "applyToPublisher", desc := "(III)V" } : Jvm.MethodName) prog_1_method_13_code (7 : Nat) (Option.none : Option Jvm.ClassFile.FieldType)).before args0 about1 = true := code_word (m := ⟨2, 11⟩) (meth := k2m11) (c := k2c11) (by decide +kernel) rfl rfl rfl (by decide +kernel)
set_option maxRecDepth 65536 in
theorem w_c14 : (Jvm.Cond.code ({ cls := "LogicalReplicator", name := "pubRow", desc := "(I)J" } : Jvm.MethodName) prog_1_method_27_code (2 : Nat) (Option.some Jvm.ClassFile.FieldType.long)).before args0 about1 = true := code_word (m := ⟨2, 20⟩) (meth := k2m20) (c := k2c20) (by decide +kernel) rfl rfl rfl (by decide +kernel)
set_option maxRecDepth 65536 in
theorem w_c15 : (Jvm.Cond.code ({ cls := "LogicalReplicator", name := "stream", desc := "(I)I" } : Jvm.MethodName) prog_1_method_15_code (5 : Nat) (Option.some Jvm.ClassFile.FieldType.int)).before args0 about1 = true := code_word (m := ⟨2, 12⟩) (meth := k2m12) (c := k2c12) (by decide +kernel) rfl rfl rfl (by decide +kernel)
set_option maxRecDepth 65536 in
theorem w_c16 : (Jvm.Cond.code ({ cls := "LogicalReplicator", name := "nextCommit", desc := "(I)I" } : Jvm.MethodName) prog_1_method_16_code (4 : Nat) (Option.some Jvm.ClassFile.FieldType.int)).before args0 about1 = true := code_word (m := ⟨2, 13⟩) (meth := k2m13) (c := k2c13) (by decide +kernel) rfl rfl rfl (by decide +kernel)
set_option maxRecDepth 65536 in
theorem w_c17 : (Jvm.Cond.code ({ cls := "LogicalReplicator", name := "emitTransaction", desc := "(I)V" } : Jvm.MethodName) prog_1_method_17_code (6 : Nat) (Option.none : Option Jvm.ClassFile.FieldType)).before args0 about1 = true := code_word (m := ⟨2, 14⟩) (meth := k2m14) (c := k2c14) (by decide +kernel) rfl rfl rfl (by decide +kernel)
set_option maxRecDepth 65536 in
theorem w_c18 : (Jvm.Cond.code ({ cls := "LogicalReplicator", name := "enqueue", desc := "(IIII)V" } : Jvm.MethodName) prog_1_method_18_code (6 : Nat) (Option.none : Option Jvm.ClassFile.FieldType)).before args0 about1 = true := code_word (m := ⟨2, 15⟩) (meth := k2m15) (c := k2c15) (by decide +kernel) rfl rfl rfl (by decide +kernel)
set_option maxRecDepth 65536 in
theorem w_c19 : (Jvm.Cond.code ({ cls := "LogicalReplicator", name := "info", desc := "(I)I" } : Jvm.MethodName) prog_1_method_31_code (2 : Nat) (Option.some Jvm.ClassFile.FieldType.int)).before args0 about1 = true := code_word (m := ⟨2, 23⟩) (meth := k2m23) (c := k2c23) (by decide +kernel) rfl rfl rfl (by decide +kernel)
set_option maxRecDepth 65536 in
theorem w_c20 : (Jvm.Cond.code ({ cls := "LogicalReplicator", name := "apply", desc := "(I)I" } : Jvm.MethodName) prog_1_method_20_code (4 : Nat) (Option.some Jvm.ClassFile.FieldType.int)).before args0 about1 = true := code_word (m := ⟨2, 16⟩) (meth := k2m16) (c := k2c16) (by decide +kernel) rfl rfl rfl (by decide +kernel)
set_option maxRecDepth 65536 in
theorem w_c21 : (Jvm.Cond.code ({ cls := "LogicalReplicator", name := "handleHead", desc := "()V" } : Jvm.MethodName) prog_1_method_21_code (6 : Nat) (Option.none : Option Jvm.ClassFile.FieldType)).before args0 about1 = true := code_word (m := ⟨2, 17⟩) (meth := k2m17) (c := k2c17) (by decide +kernel) rfl rfl rfl (by decide +kernel)
set_option maxRecDepth 65536 in
theorem w_c22 : (Jvm.Cond.code ({ cls := "LogicalReplicator", name := "subPending", desc := "(I)J" } : Jvm.MethodName) prog_1_method_29_code (2 : Nat) (Option.some Jvm.ClassFile.FieldType.long)).before args0 about1 = true := code_word (m := ⟨2, 22⟩) (meth := k2m22) (c := k2c22) (by decide +kernel) rfl rfl rfl (by decide +kernel)
set_option maxRecDepth 65536 in
theorem w_c23 : (Jvm.Cond.code ({ cls := "LogicalReplicator", name := "subRow", desc := "(I)J" } : Jvm.MethodName) prog_1_method_28_code (2 : Nat) (Option.some Jvm.ClassFile.FieldType.long)).before args0 about1 = true := code_word (m := ⟨2, 21⟩) (meth := k2m21) (c := k2c21) (by decide +kernel) rfl rfl rfl (by decide +kernel)
set_option maxRecDepth 65536 in
theorem w_c24 : (Jvm.Cond.code ({ cls := "LogicalReplicator", name := "applyPending", desc := "()V" } : Jvm.MethodName) prog_1_method_22_code (2 : Nat) (Option.none : Option Jvm.ClassFile.FieldType)).before args0 about1 = true := code_word (m := ⟨2, 18⟩) (meth := k2m18) (c := k2c18) (by decide +kernel) rfl rfl rfl (by decide +kernel)
set_option maxRecDepth 65536 in
theorem w_c25 : (Jvm.Cond.code ({ cls := "LogicalReplicator", name := "countSubRows", desc := "()I" } : Jvm.MethodName) prog_1_method_34_code (3 : Nat) (Option.some Jvm.ClassFile.FieldType.int)).before args0 about1 = true := code_word (m := ⟨2, 24⟩) (meth := k2m24) (c := k2c24) (by decide +kernel) rfl rfl rfl (by decide +kernel)
set_option maxRecDepth 65536 in
theorem w_c26 : (Jvm.Cond.code ({ cls := "LogicalReplicator", name := "feedback", desc := "()I" } : Jvm.MethodName) prog_1_method_24_code (1 : Nat) (Option.some Jvm.ClassFile.FieldType.int)).before args0 about1 = true := code_word (m := ⟨2, 19⟩) (meth := k2m19) (c := k2c19) (by decide +kernel) rfl rfl rfl (by decide +kernel)
def codes1 : List Jvm.Cond := [Jvm.Cond.code x code maxLocals ret, Jvm.Cond.code ({ cls := "LogicalReplicator", name := "<init>", desc := "(IIII)V" } : Jvm.MethodName) prog_1_method_1_code (5 : Nat) (Option.none : Option Jvm.ClassFile.FieldType), Jvm.Cond.code ({ cls := "java/lang/Object", name := "<init>", desc := "()V" } : Jvm.MethodName) object_method_1_code (1 : Nat) (Option.none : Option Jvm.ClassFile.FieldType), Jvm.Cond.code ({ cls := "LogicalReplicator", name := "clamp", desc := "(III)I" } : Jvm.MethodName) prog_1_method_2_code (4 : Nat) (Option.some Jvm.ClassFile.FieldType.int), Jvm.Cond.code ({ cls := "LogicalReplicator", name := "begin", desc := "(I)I" } : Jvm.MethodName) prog_1_method_8_code (3 : Nat) (Option.some Jvm.ClassFile.FieldType.int), Jvm.Cond.code ({ cls := "LogicalReplicator", name := "validSlot", desc := "(I)Z" } : Jvm.MethodName) prog_1_method_3_code (2 : Nat) (Option.some Jvm.ClassFile.FieldType.boolean), Jvm.Cond.code ({ cls := "LogicalReplicator", name := "logFull", desc := "()Z" } : Jvm.MethodName) prog_1_method_5_code (1 : Nat) (Option.some Jvm.ClassFile.FieldType.boolean), Jvm.Cond.code ({ cls := "LogicalReplicator", name := "append", desc := "(IIII)I" } : Jvm.MethodName) prog_1_method_7_code (5 : Nat) (Option.some Jvm.ClassFile.FieldType.int), Jvm.Cond.code ({ cls := "LogicalReplicator", name := "put", desc := "(III)I" } : Jvm.MethodName) prog_1_method_9_code (4 : Nat) (Option.some Jvm.ClassFile.FieldType.int), Jvm.Cond.code ({ cls := "LogicalReplicator", name := "write", desc := "(IIII)I" } : Jvm.MethodName) prog_1_method_11_code (6 : Nat) (Option.some Jvm.ClassFile.FieldType.int), Jvm.Cond.code ({ cls := "LogicalReplicator", name := "checkOpenSlot", desc := "(I)I" } : Jvm.MethodName) prog_1_method_6_code (2 : Nat) (Option.some Jvm.ClassFile.FieldType.int), Jvm.Cond.code ({ cls := "LogicalReplicator", name := "validKey", desc := "(I)Z" } : Jvm.MethodName) prog_1_method_4_code (2 : Nat) (Option.some Jvm.ClassFile.FieldType.boolean), Jvm.Cond.code ({ cls := "LogicalReplicator", name := "commit", desc := "(I)I" } : Jvm.MethodName) prog_1_method_12_code (5 : Nat) (Option.some Jvm.ClassFile.FieldType.int), Jvm.Cond.code ({ cls := "LogicalReplicator", name := "applyToPublisher", desc := "(III)V" } : Jvm.MethodName) prog_1_method_13_code (7 : Nat) (Option.none : Option Jvm.ClassFile.FieldType), Jvm.Cond.code ({ cls := "LogicalReplicator", name := "pubRow", desc := "(I)J" } : Jvm.MethodName) prog_1_method_27_code (2 : Nat) (Option.some Jvm.ClassFile.FieldType.long), Jvm.Cond.code ({ cls := "LogicalReplicator", name := "stream", desc := "(I)I" } : Jvm.MethodName) prog_1_method_15_code (5 : Nat) (Option.some Jvm.ClassFile.FieldType.int), Jvm.Cond.code ({ cls := "LogicalReplicator", name := "nextCommit", desc := "(I)I" } : Jvm.MethodName) prog_1_method_16_code (4 : Nat) (Option.some Jvm.ClassFile.FieldType.int), Jvm.Cond.code ({ cls := "LogicalReplicator", name := "emitTransaction", desc := "(I)V" } : Jvm.MethodName) prog_1_method_17_code (6 : Nat) (Option.none : Option Jvm.ClassFile.FieldType), Jvm.Cond.code ({ cls := "LogicalReplicator", name := "enqueue", desc := "(IIII)V" } : Jvm.MethodName) prog_1_method_18_code (6 : Nat) (Option.none : Option Jvm.ClassFile.FieldType), Jvm.Cond.code ({ cls := "LogicalReplicator", name := "info", desc := "(I)I" } : Jvm.MethodName) prog_1_method_31_code (2 : Nat) (Option.some Jvm.ClassFile.FieldType.int), Jvm.Cond.code ({ cls := "LogicalReplicator", name := "apply", desc := "(I)I" } : Jvm.MethodName) prog_1_method_20_code (4 : Nat) (Option.some Jvm.ClassFile.FieldType.int), Jvm.Cond.code ({ cls := "LogicalReplicator", name := "handleHead", desc := "()V" } : Jvm.MethodName) prog_1_method_21_code (6 : Nat) (Option.none : Option Jvm.ClassFile.FieldType), Jvm.Cond.code ({ cls := "LogicalReplicator", name := "subPending", desc := "(I)J" } : Jvm.MethodName) prog_1_method_29_code (2 : Nat) (Option.some Jvm.ClassFile.FieldType.long), Jvm.Cond.code ({ cls := "LogicalReplicator", name := "subRow", desc := "(I)J" } : Jvm.MethodName) prog_1_method_28_code (2 : Nat) (Option.some Jvm.ClassFile.FieldType.long), Jvm.Cond.code ({ cls := "LogicalReplicator", name := "applyPending", desc := "()V" } : Jvm.MethodName) prog_1_method_22_code (2 : Nat) (Option.none : Option Jvm.ClassFile.FieldType), Jvm.Cond.code ({ cls := "LogicalReplicator", name := "countSubRows", desc := "()I" } : Jvm.MethodName) prog_1_method_34_code (3 : Nat) (Option.some Jvm.ClassFile.FieldType.int), Jvm.Cond.code ({ cls := "LogicalReplicator", name := "feedback", desc := "()I" } : Jvm.MethodName) prog_1_method_24_code (1 : Nat) (Option.some Jvm.ClassFile.FieldType.int)]
set_option maxRecDepth 65536 in
theorem codes_eq : words1.filter isCode = codes1 := rfl
theorem w_codes : ∀ c ∈ words1.filter isCode, c.before args0 about1 = true := by
  rw [codes_eq]
  intro c hc
  simp only [codes1, List.mem_cons, List.not_mem_nil, or_false] at hc
  rcases hc with rfl | rfl | rfl | rfl | rfl | rfl | rfl | rfl | rfl | rfl | rfl | rfl | rfl | rfl | rfl | rfl | rfl | rfl | rfl | rfl | rfl | rfl | rfl | rfl | rfl | rfl | rfl
  · exact w_c0
  · exact w_c1
  · exact w_c2
  · exact w_c3
  · exact w_c4
  · exact w_c5
  · exact w_c6
  · exact w_c7
  · exact w_c8
  · exact w_c9
  · exact w_c10
  · exact w_c11
  · exact w_c12
  · exact w_c13
  · exact w_c14
  · exact w_c15
  · exact w_c16
  · exact w_c17
  · exact w_c18
  · exact w_c19
  · exact w_c20
  · exact w_c21
  · exact w_c22
  · exact w_c23
  · exact w_c24
  · exact w_c25
  · exact w_c26
set_option maxRecDepth 65536 in
theorem w_t1 : (words1.take 24).all (fun c => isCode c || c.before args0 about1) = true := by decide +kernel
set_option maxRecDepth 65536 in
theorem w_t2 : ((words1.drop 24).take 24).all (fun c => isCode c || c.before args0 about1) = true := by decide +kernel
set_option maxRecDepth 65536 in
theorem w_t3 : (((words1.drop 24).drop 24).take 24).all (fun c => isCode c || c.before args0 about1) = true := by decide +kernel
set_option maxRecDepth 65536 in
theorem w_t4 : ((((words1.drop 24).drop 24).drop 24).take 24).all (fun c => isCode c || c.before args0 about1) = true := by decide +kernel
set_option maxRecDepth 65536 in
theorem w_t5 : (((((words1.drop 24).drop 24).drop 24).drop 24).take 24).all (fun c => isCode c || c.before args0 about1) = true := by decide +kernel
set_option maxRecDepth 65536 in
theorem w_t6 : ((((((words1.drop 24).drop 24).drop 24).drop 24).drop 24).take 24).all (fun c => isCode c || c.before args0 about1) = true := by decide +kernel
set_option maxRecDepth 65536 in
theorem w_t7 : (((((((words1.drop 24).drop 24).drop 24).drop 24).drop 24).drop 24).take 24).all (fun c => isCode c || c.before args0 about1) = true := by decide +kernel
set_option maxRecDepth 65536 in
theorem w_t8 : (((((((words1.drop 24).drop 24).drop 24).drop 24).drop 24).drop 24).drop 24).all (fun c => isCode c || c.before args0 about1) = true := by decide +kernel
theorem w_tables : (allAtoms (Jvm.Cond.code x code maxLocals ret :: tables_1)).before args0 about1 = true := by
  rw [allAtoms_all]
  show words1.all (fun c => c.before args0 about1) = true
  refine all_split ?_ w_codes
  rw [← List.take_append_drop 24 words1, List.all_append, w_t1, ← List.take_append_drop 24 (words1.drop 24), List.all_append, w_t2, ← List.take_append_drop 24 ((words1.drop 24).drop 24), List.all_append, w_t3, ← List.take_append_drop 24 (((words1.drop 24).drop 24).drop 24), List.all_append, w_t4, ← List.take_append_drop 24 ((((words1.drop 24).drop 24).drop 24).drop 24), List.all_append, w_t5, ← List.take_append_drop 24 (((((words1.drop 24).drop 24).drop 24).drop 24).drop 24), List.all_append, w_t6, ← List.take_append_drop 24 ((((((words1.drop 24).drop 24).drop 24).drop 24).drop 24).drop 24), List.all_append, w_t7, w_t8]
  rfl
set_option maxRecDepth 65536 in
theorem w_case : (Jvm.Cond.and given_1 narrow_1).before args0 about1 = true := by decide +kernel
theorem w_applies : (headSpec (Jvm.Cond.code x code maxLocals ret :: tables_1) room_1).applies x e0.platform about1 = true :=
  (Spec.applies_iff w_frames).mpr ⟨w_running, w_runnable, w_alone, w_named, w_hears, w_ripe, w_room, w_tables⟩
theorem atStart : AtStart classFile x code maxLocals ret World_1 tables_1 room_1 Calls_1 rest_1 Pre_1 launch0 p0 e0 about1 theMethod args0 below0 :=
  ⟨lists_1, trivial, launch0.admits_env _ _ _, launch0.least_env, fairChoices_fair.cas, fairChoices_fair.clock, w_frames, w_args, w_heap, w_applies, trivial, trivial, w_case⟩
end start1
theorem witness_1 : WitnessClaimed_1 := ⟨start1.p0, start1.e0, start1.about1, start1.theMethod, start1.args0, start1.below0, start1.atStart⟩
end Jvm.Pilot.@@N@@
