/- Bundle PX. -/
import Derived.Test.YtfkgmbknfnhjoaaGreatPV
import Derived.Test.YtfkgmbknfnhjoaaGreatFY
namespace Go.Proofs.YtfkgmbknfnhjoaaGreat
open Go.RowKit
set_option linter.unusedSimpArgs false
set_option linter.unusedVariables false
set_option linter.ambiguousOpen false
open Ne (Rl Opt RulesAt areB answerO)
open Fs (av hasB)
def pk0:Pk:=⟨0,0,[]⟩
theorem tim_start {wt:Int} (h0:1≤wt) (h1:wt≤1048576) {a:Au} (hs:Fs.timedB a.st=true) (ht:a.tim=0+wt):timB a=true:=by
 unfold timB
 rw[if_pos hs,ht]
 simp[inB];omega
theorem conf_wt {c:Cf} (h:confB c=true):1≤c.mc∧c.mc≤1000∧1≤c.wt∧c.wt≤1048576:=by
 unfold confB inB at h
 simp only[Bool.and_eq_true,decide_eq_true_eq] at h
 omega
theorem fine_of {c:Cf} {a:Au} {tick:Int} (hc:confB c=true) (ha:isB a=true) (h0:0≤tick) (h1:tick≤1099511627776):fineB c a tick=true:=by
 unfold fineB
 rw[hc,ha]
 simp[inB];omega
theorem up_now {c:Cf} {x:List Opt} (hc:confB c=true) (hx:(Op.encR x).2=0):doO c ⟨0,0,0,x,0,0,0⟩ 1 pk0 pk0 0=(⟨2,0,0,x,0,0,0⟩,[],Fs.tabActs 1 0):=by
 have hf:fineB c ⟨0,0,0,x,0,0,0⟩ 0=true:=fine_of hc (isB_of ⟨by simp,by simp,by simp,by simp,by simp,hx,by rfl⟩) (by omega) (by omega)
 unfold doO
 rw[if_pos ⟨hf,by rfl⟩,if_neg (by first|decide|(dsimp only;decide))]
 rfl
theorem open_now {c:Cf} {x:List Opt} (hc:confB c=true) (hx:(Op.encR x).2=0):doO c ⟨2,0,0,x,0,0,0⟩ 3 pk0 pk0 0=(⟨6,1,1,x,dec c.mc,0+c.wt,0⟩,[⟨1,1,(Op.encR x).1⟩],Fs.tabActs 3 2):=by
 have hf:fineB c ⟨2,0,0,x,0,0,0⟩ 0=true:=fine_of hc (isB_of ⟨by simp,by simp,by simp,by simp,by simp,hx,by rfl⟩) (by omega) (by omega)
 unfold doO
 rw[if_pos ⟨hf,by rfl⟩,if_pos (by rfl)]
 rfl
theorem dec_in {n:Int} (h0:0≤n) (h1:n≤1000):0≤dec n∧dec n≤1000:=by unfold dec;split<;>omega
theorem is_asked {c:Cf} {x:List Opt} (hc:confB c=true) (hx:(Op.encR x).2=0) (s:Int) (hs:s=6∨s=8):isB ⟨s,1,1,x,dec c.mc,0+c.wt,0⟩=true:=by
 obtain⟨h1,h2,h3,h4⟩:=conf_wt hc
 have hd:=dec_in (n:=c.mc) (by omega) h2
 refine isB_of ⟨by dsimp only;omega,by simp,by simp,hd,by simp,hx,tim_start h3 h4 (by rcases hs with rfl|rfl<;>rfl) rfl⟩
theorem enc_small {x:List Opt} (co:Int) (h0:0≤co) (h1:co≤255):Cp.encErr co 1 (Op.encR x).1.length=0:=by
 have:=encR_len x
 unfold Cp.encErr
 rw[if_neg (by simp[inB];omega),if_neg (by omega)]
theorem req_now {c:Cf} {x y:List Opt} (hc:confB c=true) (hx:(Op.encR x).2=0) (hy:(Op.encR y).2=0) (ht:(answerO c.rules y 0 c.mf).1=2):
  packO c ⟨6,1,1,x,dec c.mc,0+c.wt,0⟩ ⟨1,1,(Op.encR y).1⟩ 1=((⟨8,1,1,x,dec c.mc,0+c.wt,0⟩,[⟨2,1,(Op.encR y).1⟩],Fs.tabActs 7 6),true):=by
 have hf:fineB c ⟨6,1,1,x,dec c.mc,0+c.wt,0⟩ 1=true:=fine_of hc (is_asked hc hx 6 (.inl rfl)) (by omega) (by omega)
 have ha2:=Ne.taken_same ht
 have hb:Op.decR (Op.encR y).1=(y,0):=Op.back_enc (by rw[←hy])
 have hw:whichO c ⟨6,1,1,x,dec c.mc,0+c.wt,0⟩ ⟨1,1,(Op.encR y).1⟩=some (7,⟨2,1,(Op.encR y).1⟩,x):=by
  unfold whichO
  rw[if_pos rfl]
  unfold askedO
  dsimp only
  rw[hb]
  dsimp only
  rw[if_neg (by first|decide|(dsimp only;decide)),ha2,if_neg (by rw[hy];decide),ht,if_pos rfl]
 unfold packO
 rw[if_neg (by simp[inB]),if_neg (by dsimp only;rw[enc_small 1 (by omega) (by omega),hf];simp),hw]
 dsimp only
 rw[if_neg (by first|decide|(dsimp only;decide))]
 unfold doO
 rw[if_pos ⟨hf,by rfl⟩,if_pos (by rfl)]
 rfl
theorem ack_now {c:Cf} {x:List Opt} (hc:confB c=true) (hx:(Op.encR x).2=0):
  packO c ⟨8,1,1,x,dec c.mc,0+c.wt,0⟩ ⟨2,1,(Op.encR x).1⟩ 1=((⟨9,1,1,x,c.mc,0,0⟩,[],Fs.tabActs 9 8),true):=by
 have hf:fineB c ⟨8,1,1,x,dec c.mc,0+c.wt,0⟩ 1=true:=fine_of hc (is_asked hc hx 8 (.inr rfl)) (by omega) (by omega)
 have hw:whichO c ⟨8,1,1,x,dec c.mc,0+c.wt,0⟩ ⟨2,1,(Op.encR x).1⟩=some (9,⟨0,0,[]⟩,x):=by
  unfold whichO
  rw[if_neg (by simp),if_pos rfl,if_pos ⟨rfl,rfl⟩]
 unfold packO
 rw[if_neg (by simp[inB]),if_neg (by dsimp only;rw[enc_small 2 (by omega) (by omega),hf];simp),hw]
 dsimp only
 rw[if_neg (by first|decide|(dsimp only;decide))]
 unfold doO
 rw[if_pos ⟨hf,by rfl⟩,if_neg (by first|decide|(dsimp only;decide))]
 rfl
end Go.Proofs.YtfkgmbknfnhjoaaGreat
