/- Bundle PT. -/
import Derived.Test.YtfkgmbknfnhjoaaGreatRPE
import Derived.Lib.SmallJoins
set_option maxHeartbeats 4000000
namespace Go.Proofs.YtfkgmbknfnhjoaaGreat
open Lib (hid)
open Go.RowKit
set_option linter.unusedSimpArgs false
set_option linter.unusedVariables false
set_option linter.ambiguousOpen false
def Ent.lit (e:Ent):Ent:=⟨e.t,e.d.take 260,e.a,e.c⟩
def litE (E:List Ent):List Ent:=(E.take 70).map Ent.lit
def LitP (w:World) (E:List Ent) (x:Ending) (w':World):Prop:=
 ∃A n c,x=.returned (.slice A n c)∧Below w.heap.size w w'∧w'.ownsRow w.heap.size 111 2 (.slice A n c) n (cellsE (litE E))∧n=(litE E).length
theorem litE_succ {E:List Ent} {k:Nat} (hk:k<E.length):((E.take (k+1)).map Ent.lit)=((E.take k).map Ent.lit)++[E[k].lit]:=by
 rw[List.take_succ_eq_append_getElem hk,List.map_append];rfl
theorem cells_lit (E:List Ent) (e:Ent):cellsE (E++[e.lit])=cellsE E++[.int .i64 e.t,.slice e.a (min 260 e.d.length) e.c]:=by
 rw[cellsE_snoc];simp[Ent.lit,Ent.v]
set_option maxRecDepth 100000 in
theorem lit_any (A:Option Addr) (N c:Nat) (E:List Ent) (w:World) (B:Nat) (hB:B≤w.heap.size) (hE:OptsAt w B A E) (hn:N=E.length) (hl:(N:Int)≤9223372036854775807) (hd: ∀e∈E,(e.d.length:Int)≤9223372036854775807):
  Calls Tryz.prog 44 #[.slice A N c] w (LitP w E):=by
 subst hn
 have HE:=hid hE
 have HB:=hid hB
 have HD:=hid hd
 clear hE hB hd
 go_enter Tryz.func44,Tryz.ntmps44
 go_wp2
 go_loopw [4,3] (fun i v wr=> ∃(k c':Nat) (A':Option Addr),k≤E.length∧k≤70∧i=.int .i64 k∧v=.slice A' k c'∧Below w.heap.size w wr∧wr.ownsRow w.heap.size 111 2 (.slice A' k c') k (cellsE ((E.take k).map Ent.lit))) (fun i _ _=>E.length-(intOf i).toNat)
 case atStart=>exact⟨0,0,none,Nat.zero_le _,by omega,rfl,rfl,Below.refl _ _,own_nil _ _ _ _⟩
 case round=>
  obtain⟨k,c',A',hk,hk7,rfl,rfl,hb,ho⟩:=hrel
  have HBW:=hid hb
  have HO:=hid ho
  have hsz:=hb.size
  clear hb ho
  by_cases hlt:k<E.length
  ·by_cases h7:k<70
   ·obtain⟨b,o,rfl,hbB,hx,hy⟩:=(HE.out.keep (HBW.out.mono HB.out)).get hlt
    obtain⟨hd,hdc⟩:=(HE.out.keep (HBW.out.mono HB.out)).2 E[k] (List.getElem_mem hlt)
    have hdl:=HD.out E[k] (List.getElem_mem hlt)
    have HK:=hid (litE_succ hlt)
    obtain⟨⟨t,d,a,c2⟩,he⟩: ∃e,E[k]=e:=⟨_,rfl⟩
    rw[he] at hx hy hd hdc HK hdl
    simp only[Ent.v] at hy hd hdc hdl
    dsimp only at hx
    clear he hd
    have ha:Option.map (fun x:Addr=>x.add 0) a=a:=by cases a<;>simp[Addr.add]
    by_cases h260:260<d.length
    ·go_wp2_with (at_builtin;go_loud (refine wpList_appv w rfl (.tmp 28) (.tmp 30) 25 rfl 111 Tryz.underlying25 (.agg #[.int .i64 0,.slice none 0 0]) 2 32 infoOpt rfl (by decide) (by decide) (.slice A' k c') k (cellsE ((E.take k).map Ent.lit)) rfl (own_below HO.out (by exact bel)) (wr.heap.size+1+1) (some ⟨wr.heap.size+1,0,none⟩) 1 1 [.int .i64 t,.slice a 260 c2] rfl rfl (by omega) (At.newN _ _ _ _ _ (by simp) rfl) (by intro u hu;simp at hu;rcases hu with rfl|rfl<;>rfl) (by have:=HBW.out;exact bel) ?_);intro A3 c3 w3 ho3 hc3 hb3 hg3;have HO3:=hid ho3;have HB3:=hid hb3;clear ho3 hc3 hb3 hg3)
     go_roundw
     case rel=>exact⟨k+1,c3,A3,by omega,by omega,by go_num,rfl,HB3.out,by rw[HK.out,cells_lit,show min 260 d.length=260 by omega];exact HO3.out⟩
     case measure=>simp[intOf];omega
    ·go_wp2_with (at_builtin;go_loud (refine wpList_appv w rfl (.tmp 28) (.tmp 30) 25 rfl 111 Tryz.underlying25 (.agg #[.int .i64 0,.slice none 0 0]) 2 32 infoOpt rfl (by decide) (by decide) (.slice A' k c') k (cellsE ((E.take k).map Ent.lit)) rfl (own_below HO.out (by exact bel)) (wr.heap.size+1+1) (some ⟨wr.heap.size+1,0,none⟩) 1 1 [.int .i64 t,.slice a d.length c2] rfl rfl (by omega) (At.newN _ _ _ _ _ (by simp) rfl) (by intro u hu;simp at hu;rcases hu with rfl|rfl<;>rfl) (by have:=HBW.out;exact bel) ?_);intro A3 c3 w3 ho3 hc3 hb3 hg3;have HO3:=hid ho3;have HB3:=hid hb3;clear ho3 hc3 hb3 hg3)
     go_roundw
     case rel=>exact⟨k+1,c3,A3,by omega,by omega,by go_num,rfl,HB3.out,by rw[HK.out,cells_lit,show min 260 d.length=d.length by omega];exact HO3.out⟩
     case measure=>simp[intOf];omega
   ·obtain rfl:k=70:=by omega
    have hkk:decide ((70:Int)<(E.length:Int))=true:=by simp;omega
    go_wp2
    go_ret
    exact⟨A',70,c',rfl,HBW.out,HO.out,by simp[litE];omega⟩
  ·obtain rfl:k=E.length:=by omega
   have HT:=hid (show litE E=(E.take E.length).map Ent.lit by unfold litE;rw[List.take_of_length_le (by omega),List.take_of_length_le (by omega)])
   go_wp2
   go_ret
   exact⟨A',E.length,c',rfl,HBW.out,by rw[HT.out];exact HO.out,by rw[HT.out];simp⟩
end Go.Proofs.YtfkgmbknfnhjoaaGreat
namespace Go.Proofs.YtfkgmbknfnhjoaaGreat
open Lib (hid)
open Go.RowKit
set_option linter.unusedSimpArgs false
set_option linter.unusedVariables false
set_option linter.ambiguousOpen false
open Ne (Rl Opt RulesAt areB)
open Fs (av hasB)
def au0:Au:=⟨0,0,0,[],0,0,0⟩
theorem new0:auNew []=au0∧errNew []=0:=⟨rfl,rfl⟩
end Go.Proofs.YtfkgmbknfnhjoaaGreat
namespace Go.Proofs.YtfkgmbknfnhjoaaGreat
open Lib (hid)
open Go.RowKit
set_option linter.unusedSimpArgs false
set_option linter.unusedVariables false
set_option linter.ambiguousOpen false
open Ne (Rl Opt RulesAt areB)
open Fs (av hasB)
theorem pks_form {w:World} {base:Nat} {v:Value} {out:List Pk} (h:PksO w base v out): ∃A c,v=.slice A out.length c:=by
 obtain⟨P,hP,he⟩:=h
 obtain⟨A,c,rfl,-,-⟩:=ownsRow_form hP.1
 exact⟨A,c,by rw[←he,List.length_map]⟩
theorem acts_form {w:World} {base:Nat} {v:Value} {l:List Int} (h:ActsO w base v l): ∃A c,v=.slice A l.length c:=by
 obtain⟨A,c,rfl,-,-⟩:=ownsRow_form h
 exact⟨A,c,rfl⟩
theorem PksO.stays {A C:World} {base X:Nat} {v:Value} {out:List Pk} (h:PksO A base v out) (hg:A.grownBy C (some X)) (hX:X<base):PksO C base v out:=by
 obtain⟨P,hP,he⟩:=h
 exact⟨P,hP.stays hg (fun r e=>by cases e;exact hX),he⟩
theorem alloc_swap (W:World) (Z F:Obj):(W.alloc Z).grownBy (W.alloc F) (some W.heap.size):=
 ⟨rfl,rfl,rfl,by simp,fun k hk hne=>by
  have h1:k≠W.heap.size:=fun e=>hne (by rw[e])
  have h2:k<W.heap.size+1:=by simpa using hk
  rw[Below.heap_alloc W F k (by omega),Below.heap_alloc W Z k (by omega)]⟩
end Go.Proofs.YtfkgmbknfnhjoaaGreat
namespace Go.Proofs.YtfkgmbknfnhjoaaGreat
open Lib (hid)
open Go.ChangeShapes Go.WideShapes Go.ChangeAt Go.RowKit Go.Joins Go.Deep
set_option linter.unusedSimpArgs false
set_option linter.unusedVariables false
set_option linter.ambiguousOpen false
set_option maxRecDepth 100000
open Ne (Rl RulesAt RuleAt wf64)
theorem open_fields {H:Type} {enc:TypeId×Value→H} {P:Program} {w:World} {base:Nat} {spare:Nat→Bool} {held:Bool} {r:Reach} {b0:Nat} {t:TypeId} {fs:Array Field} {v:Value} {d:DataW H} {p:List MemPlace}
  (hs:P.underlying t=some (.struct fs)) (hone:oneCellFields P fs=true) (hC:P.cellsOf t=fs.size) (hv:Value.okWide P w r b0 t v) (h:DataW.Trod enc P w base spare held t v d p):
  ∃(cs:Array Value) (n:Nat),v=.agg cs∧cs.size=fs.size∧ ∀(j:Nat) (f:Field),fs[j]? =some f→ ∃(u:Value) (y:DataW H×List MemPlace),cs[j]? =some u∧DataW.trod enc P w base spare held n f.type [u]=some y:=by
 obtain⟨cs,rfl,hsz⟩:=okWide_struct hs hv
 obtain⟨fuel,hf⟩:=h
 obtain⟨ys,n',hn',hy,hlen,hyl,hff⟩:=DataW.trod_struct hs hf
 refine⟨cs,n',rfl,hsz.trans hC,fun j f hj=>?_⟩
 obtain⟨ho,hk⟩:=hone_of hone j f hj
 have hjl:j<fs.size:=(Array.getElem?_eq_some_iff.1 hj).1
 have h1:=hff j f hj
 rw[ho,hk] at h1
 have hjc:j<cs.toList.length:=by simpa using (by omega:j<cs.size)
 have hone':(cs.toList.drop j).take 1=[cs[j]'(by omega)]:=by
  rw[List.drop_eq_getElem_cons hjc]
  simp
 have h1:DataW.trod enc P w base spare held n' f.type ((cs.toList.drop j).take 1)=ys[j]?:=h1
 rw[hone'] at h1
 have hys:ys[j]? =some (ys[j]'(by omega)):=List.getElem?_eq_getElem (by omega)
 exact⟨cs[j]'(by omega),_,by simp,h1.trans hys⟩
theorem open_rules_in {H:Type} {enc:TypeId×Value→H} {W:World} {fuel:Nat} {v:Value} {x:DataW H×List MemPlace} (hf:DataW.trod enc Tryz.prog W 0 (fun _=>true) true fuel 22 [v]=some x):
  ∃(A:Option Addr) (n c:Nat) (R:List Rl),v=.slice A n c∧RulesAt W W.heap.size A R∧n=R.length∧n≤c∧(n:Int)≤9223372036854775807:=by
 rcases open_slice_fields Tryz.underlying22 Tryz.underlying136 (by kernel_rfl) (by kernel_rfl) hf with⟨hcs,-⟩|⟨a',len',cap',m,D,Pl,hcs,-,hl,hm,hmm,-,hi⟩
 ·simp only[List.cons.injEq,and_true] at hcs
  exact⟨none,0,0,[],hcs,⟨.inl rfl,fun _ h=>by cases h⟩,rfl,Nat.le_refl _,by omega⟩
 ·simp only[List.cons.injEq,and_true] at hcs
  subst hcs
  simp only[if_true] at hmm
  subst hmm
  unfold maxLen at hm
  rcases Nat.eq_zero_or_pos len' with h0|h0
  ·subst h0
   exact⟨_,0,m,[],rfl,⟨.inl rfl,fun _ h=>by cases h⟩,rfl,Nat.zero_le _,by omega⟩
  ·obtain⟨b,off,spot⟩:=a'
   obtain⟨ys,n,-,-,-,hf⟩:=hi 0 (by omega)
   obtain⟨v0,y0,hc0,-,-⟩:=hf 0 _ rfl
   have hspot:spot=none:=by simpa[Addr.add] using World.cell?_spot hc0
   subst hspot
   have hlt:b<W.heap.size:=by
    have:=World.block_lt_of_cell? W _ hc0
    simpa[Addr.add] using this
   have each: ∀i,i<m→ ∃x:Rl,RuleAt W b off i x∧(wf64 x.t∧wf64 x.sz∧wf64 x.lo∧wf64 x.hi∧wf64 x.gd):=by
    intro i him
    obtain⟨ys,n,-,-,-,hf⟩:=hi i him
    obtain⟨v0,y0,g0,-,t0⟩:=hf 0 _ rfl
    obtain⟨v1,y1,g1,-,t1⟩:=hf 1 _ rfl
    obtain⟨v2,y2,g2,-,t2⟩:=hf 2 _ rfl
    obtain⟨v3,y3,g3,-,t3⟩:=hf 3 _ rfl
    obtain⟨v4,y4,g4,-,t4⟩:=hf 4 _ rfl
    obtain⟨v5,y5,g5,-,t5⟩:=hf 5 _ rfl
    obtain⟨v6,y6,g6,-,t6⟩:=hf 6 _ rfl
    obtain⟨x0,e0,-,w0⟩:=DataW.trod_int Tryz.underlying3 t0
    obtain⟨x1,e1,-,w1⟩:=DataW.trod_int Tryz.underlying3 t1
    obtain⟨x2,e2,-,w2⟩:=DataW.trod_int Tryz.underlying134 t2
    obtain⟨x3,e3,-,w3⟩:=DataW.trod_int Tryz.underlying3 t3
    obtain⟨x4,e4,-,w4⟩:=DataW.trod_int Tryz.underlying3 t4
    obtain⟨x5,e5,-,w5⟩:=DataW.trod_int Tryz.underlying3 t5
    obtain⟨x6,e6,-⟩:=DataW.trod_bool Tryz.underlying4 t6
    simp only[List.cons.injEq,and_true] at e0 e1 e2 e3 e4 e5 e6
    have wfb: ∀{x:Int},(Lit.int .i64 x).wf=true→wf64 x:=fun {x} h=>by
     have: -9223372036854775808≤x∧x≤9223372036854775807:=by simpa[Lit.wf,IntKind.min,IntKind.max,IntKind.signed,IntKind.bits] using h
     exact this
    rw[add_none] at g0 g1 g2 g3 g4 g5 g6
    refine⟨⟨x0,x1,x2,x3,x4,x5,x6⟩,⟨?_,?_,?_,?_,?_,?_,?_⟩,wfb w0,wfb w1,wfb w3,wfb w4,wfb w5⟩
    ·rw[←e0];exact g0
    ·rw[←e1];exact g1
    ·rw[←e2];exact g2
    ·rw[←e3];exact g3
    ·rw[←e4];exact g4
    ·rw[←e5];exact g5
    ·rw[←e6];exact g6
   have:Inhabited Rl:=⟨⟨0,0,0,0,0,0,false⟩⟩
   obtain⟨y,hy⟩:=choose_lt each
   refine⟨some ⟨b,off,none⟩,len',m,(List.range len').map y,rfl,⟨.inr ⟨b,off,rfl,hlt,fun k hk=>?_⟩,fun r hr=>?_⟩,by simp,hl,by omega⟩
   ·simp only[List.getElem_map,List.getElem_range]
    exact(hy k (by simp at hk;omega)).1
   ·simp only[List.mem_map,List.mem_range] at hr
    obtain⟨k,hk,rfl⟩:=hr
    exact(hy k (by omega)).2
theorem arr5 {cs:Array Value} (h:cs.size=5) {a b c d e:Value} (h0:cs[0]? =some a) (h1:cs[1]? =some b) (h2:cs[2]? =some c) (h3:cs[3]? =some d) (h4:cs[4]? =some e):cs=#[a,b,c,d,e]:=by
 obtain⟨l⟩:=cs
 match l,h with
 |[x0,x1,x2,x3,x4],_=>simp at h0 h1 h2 h3 h4;subst h0 h1 h2 h3 h4;rfl
theorem open_conf {H:Type} {enc:TypeId×Value→H} {W:World} {base:Nat} {v:Value} {d:DataW H} {p:List MemPlace} (o:Value.okWide Tryz.prog W .any base 24 v) (h:DataW.Trod enc Tryz.prog W 0 (fun _=>true) true 24 v d p):
  ∃(A:Option Addr) (n c:Nat) (R:List Rl) (mc mt mf wt:Int),v=.agg #[.slice A n c,.int .i64 mc,.int .i64 mt,.int .i64 mf,.int .i64 wt]∧RulesAt W W.heap.size A R∧n=R.length∧n≤c∧(n:Int)≤9223372036854775807:=by
 obtain⟨cs,n,rfl,hs,hf⟩:=open_fields Tryz.underlying24 (by kernel_rfl) (by kernel_rfl) o h
 obtain⟨v0,y0,g0,t0⟩:=hf 0 _ rfl
 obtain⟨v1,y1,g1,t1⟩:=hf 1 _ rfl
 obtain⟨v2,y2,g2,t2⟩:=hf 2 _ rfl
 obtain⟨v3,y3,g3,t3⟩:=hf 3 _ rfl
 obtain⟨v4,y4,g4,t4⟩:=hf 4 _ rfl
 obtain⟨A,n,c,R,rfl,hR,hn,hc,hl⟩:=open_rules_in t0
 obtain⟨x1,e1,-,w1⟩:=DataW.trod_int Tryz.underlying3 t1
 obtain⟨x2,e2,-,w2⟩:=DataW.trod_int Tryz.underlying3 t2
 obtain⟨x3,e3,-,w3⟩:=DataW.trod_int Tryz.underlying3 t3
 obtain⟨x4,e4,-,w4⟩:=DataW.trod_int Tryz.underlying3 t4
 simp only[List.cons.injEq,and_true] at e1 e2 e3 e4
 subst e1 e2 e3 e4
 exact⟨A,n,c,R,x1,x2,x3,x4,by rw[arr5 hs g0 g1 g2 g3 g4],hR,hn,hc,hl⟩
end Go.Proofs.YtfkgmbknfnhjoaaGreat
namespace Go.Proofs.YtfkgmbknfnhjoaaGreat
open Lib (hid)
open Go.RowKit
set_option linter.unusedSimpArgs false
set_option linter.unusedVariables false
set_option linter.ambiguousOpen false
open Ne (Rl Opt RulesAt areB)
open Fs (av hasB)
def setsB (l:List Int):Bool:=l.any fun x=>x==6||(x==7||x==10)
theorem act_tim (c:Cf) (inn ans:Pk) (tick:Int) (acts:List Int) (a:Au) (x:Int):(actO c inn ans tick acts a x).1.tim=if (x==6||(x==7||x==10))=true then tick+c.wt else a.tim:=by
 unfold actO
 by_cases h5:x=5
 ·subst h5;rfl
 rw[if_neg h5]
 by_cases h6:x=6
 ·subst h6;rfl
 rw[if_neg h6]
 by_cases h7:x=7
 ·subst h7;rfl
 rw[if_neg h7]
 by_cases h8:x=8
 ·subst h8;rfl
 rw[if_neg h8]
 by_cases h9:x=9
 ·subst h9;rfl
 rw[if_neg h9]
 by_cases h10:x=10
 ·subst h10;rfl
 rw[if_neg h10]
 have hf:(x==6||(x==7||x==10))=false:=by simp[h6,h7,h10]
 rw[hf]
 split
 ·rfl
 ·split
  ·rfl
  ·split<;>rfl
theorem act_st (c:Cf) (inn ans:Pk) (tick:Int) (acts:List Int) (a:Au) (x:Int):(actO c inn ans tick acts a x).1.st=a.st:=by
 unfold actO
 repeat' split
 all_goals rfl
theorem runO_st (c:Cf) (inn ans:Pk) (tick:Int) (acts:List Int): ∀(l:List Int) (s:Au×List Pk),(runO c inn ans tick acts s l).1.st=s.1.st
 |[],_=>rfl
 |x::l,s=>by
  unfold runO
  rw[List.foldl_cons]
  exact(runO_st c inn ans tick acts l _).trans (act_st ..)
theorem runO_tim (c:Cf) (inn ans:Pk) (tick:Int) (acts:List Int): ∀(l:List Int) (s:Au×List Pk),(runO c inn ans tick acts s l).1.tim=if setsB l=true then tick+c.wt else s.1.tim
 |[],_=>rfl
 |x::l,s=>by
  have h:=runO_tim c inn ans tick acts l ((actO c inn ans tick acts s.1 x).1,s.2++(actO c inn ans tick acts s.1 x).2)
  have h2:runO c inn ans tick acts s (x::l)=runO c inn ans tick acts ((actO c inn ans tick acts s.1 x).1,s.2++(actO c inn ans tick acts s.1 x).2) l:=by
   unfold runO;rw[List.foldl_cons]
  rw[h2,h]
  dsimp only
  rw[act_tim]
  unfold setsB
  rw[List.any_cons]
  cases (x==6||(x==7||x==10))<;>simp
theorem tab_sets (s e:Int) (h:Fs.stepErr s e=0):Fs.timedB (Fs.tabNext e s)=true→Fs.timedB s=true∨setsB (Fs.tabActs e s)=true:=by
 unfold Fs.stepErr at h
 split at h
 ·rename_i hi
  simp only[Fs.inTab,decide_eq_true_eq] at hi
  obtain⟨h1,h2,h3,h4⟩:=hi
  revert h
  rcases Fs.sixteen h1 h2 with rfl|rfl|rfl|rfl|rfl|rfl|rfl|rfl|rfl|rfl|rfl|rfl|rfl|rfl|rfl|rfl<;>rcases Fs.ten h3 h4 with rfl|rfl|rfl|rfl|rfl|rfl|rfl|rfl|rfl|rfl<;>decide
 ·omega
theorem isB_parts {a:Au} (h:isB a=true):(0≤a.st∧a.st≤9)∧(0≤a.id∧a.id≤255)∧(0≤a.req∧a.req≤255)∧(0≤a.cnt∧a.cnt≤1000)∧(0≤a.nak∧a.nak≤1000)∧(Op.encR a.ask).2=0∧timB a=true:=by
 unfold isB numsB inB at h
 simp only[Bool.and_eq_true,decide_eq_true_eq,beq_iff_eq] at h
 obtain⟨⟨h1,h2,h3,h4,h5⟩,h6,h7⟩:=h
 exact⟨h1,h2,h3,h4,h5,h6,h7⟩
theorem isB_of {a:Au} (h:(0≤a.st∧a.st≤9)∧(0≤a.id∧a.id≤255)∧(0≤a.req∧a.req≤255)∧(0≤a.cnt∧a.cnt≤1000)∧(0≤a.nak∧a.nak≤1000)∧(Op.encR a.ask).2=0∧timB a=true):isB a=true:=by
 unfold isB numsB inB
 simp only[Bool.and_eq_true,decide_eq_true_eq,beq_iff_eq]
 obtain⟨h1,h2,h3,h4,h5,h6,h7⟩:=h
 exact⟨⟨h1,h2,h3,h4,h5⟩,h6,h7⟩
theorem isB_ask {a:Au} {L:List Opt} (h:isB a=true) (hL:(Op.encR L).2=0):isB {a with ask:=L}=true:=by
 obtain⟨h1,h2,h3,h4,h5,h6,h7⟩:=isB_parts h
 exact isB_of ⟨h1,h2,h3,h4,h5,hL,h7⟩
theorem doO_is {c:Cf} {a:Au} {tick:Int} (ha:isB a=true) (e:Int) (inn ans:Pk):isB (doO c a e inn ans tick).1=true:=by
 obtain⟨h1,h2,h3,h4,h5,h6,h7⟩:=isB_parts ha
 unfold doO
 split
 ·rename_i hf
  have hN:=runO_ok c inn ans tick (Fs.tabActs e a.st) (Fs.tabActs e a.st) ({a with st:=Fs.tabNext e a.st},[]) ((NumOk.of_fine hf.1).state _)
  have hst:=runO_st c inn ans tick (Fs.tabActs e a.st) (Fs.tabActs e a.st) ({a with st:=Fs.tabNext e a.st},[])
  have hask:=runO_ask c inn ans tick (Fs.tabActs e a.st) (Fs.tabActs e a.st) ({a with st:=Fs.tabNext e a.st},[])
  have htim:=runO_tim c inn ans tick (Fs.tabActs e a.st) (Fs.tabActs e a.st) ({a with st:=Fs.tabNext e a.st},[])
  have h9:=(Fs.fins a.st e hf.2).1
  have hset:=tab_sets a.st e hf.2
  obtain⟨r,hr⟩: ∃r,(runO c inn ans tick (Fs.tabActs e a.st) ({a with st:=Fs.tabNext e a.st},[]) (Fs.tabActs e a.st)).1=r:=⟨_,rfl⟩
  rw[hr] at hN hst hask htim
  rw[hr]
  dsimp only at hst hask htim ⊢
  clear hr
  obtain⟨t0,t1,w0,w1,m0,m1,n0,n1,c0,c1,i0,i1,r0,r1,k0,k1⟩:=hN
  by_cases ht:Fs.timedB (Fs.tabNext e a.st)=true
  ·rw[if_pos ht]
   refine isB_of ⟨by rw[hst];exact h9,⟨i0,i1⟩,⟨r0,r1⟩,⟨c0,c1⟩,⟨k0,k1⟩,by rw[hask];exact h6,?_⟩
   unfold timB
   rw[hst,if_pos ht,htim]
   rcases hset ht with hs|hs
   ·split
    ·simp[inB];omega
    ·unfold timB at h7
     rw[if_pos hs] at h7
     exact h7
   ·rw[if_pos hs]
    simp[inB];omega
  ·rw[if_neg ht]
   refine isB_of ⟨by dsimp only;rw[hst];exact h9,⟨i0,i1⟩,⟨r0,r1⟩,⟨c0,c1⟩,⟨k0,k1⟩,by dsimp only;rw[hask];exact h6,?_⟩
   unfold timB
   dsimp only
   rw[hst,if_neg ht]
   rfl
 ·exact ha
theorem timO_is {c:Cf} {a:Au} {tick:Int} (ha:isB a=true):isB (timO c a tick).1=true:=by
 unfold timO
 split
 ·exact ha
 ·exact doO_is ha _ _ _
end Go.Proofs.YtfkgmbknfnhjoaaGreat
