/- What light tells can be read. -/
import Derived.Test.YtfkgmbknfnhjoaaGreatPT
namespace Go.Proofs.YtfkgmbknfnhjoaaGreat
open Go.RowKit
set_option linter.unusedVariables false
theorem lit_at9 {w w':World} {B:Nat} {A0 A:Option Addr} {E:List Ent} {n c base:Nat} (h:OptsAt w B A0 E) (hB:B≤w.heap.size) (hb:Below w.heap.size w w')
  (ho:w'.ownsRow base 111 2 (.slice A n c) n (cellsE (litE E))):OptsAt w' w'.heap.size A (litE E):=by
 refine⟨At.of_own ho,fun e he=>?_⟩
 simp only[litE,List.mem_map] at he
 obtain⟨x,hx,rfl⟩:=he
 obtain⟨h1,h2⟩:=h.2 x (List.mem_of_mem_take hx)
 refine⟨?_,?_⟩
 ·simp only[Ent.lit,List.map_take]
  exact(h1.keep (hb.mono hB)).more (by have:=hb.size;omega)|>.take 260
 ·simp only[Ent.lit,List.length_take];omega
theorem lit_len9 (E:List Ent):(litE E).length≤70:=by simp only[litE,List.length_map,List.length_take];omega
theorem lit_data9 (E:List Ent): ∀e∈litE E,e.d.length≤260:=by
 intro e he
 simp only[litE,List.mem_map] at he
 obtain⟨x,hx,rfl⟩:=he
 simp only[Ent.lit,List.length_take];omega
end Go.Proofs.YtfkgmbknfnhjoaaGreat
