/- A limb program that is a tree, run by the document. -/
import Derived.Test.YtodjkjimaheggaaGreatSvG4
import Derived.Test.YtodjkjimaheggaaGreatFnMe
namespace Go.Proofs.YtodjkjimaheggaaGreat
open Go.Sv
set_option linter.unusedSimpArgs false
theorem Run_tree {f:Fr Lo} {bs:List Bf} {X:List (List UInt64)} {Q:Fs→Prop} (hck:(chkR ((64:Nat):Int) bs f.flat).2=0) (hwf:f.wf kdL) (hreg:f.regs bs.length []=true) (hstp:f.stp≤16777216) (hX:zhj bs X=true) (hb1:1≤bs.length)
  (hx:Tx (szZ (z1d 64 bs X)) f (absZ (z1d 64 bs X)) Q):∃ s' t,Rep bs.length (szZ (z1d 64 bs X)) s' t∧Q t∧FnV Tryz.prog 29 [.agg (lpV ((64:Nat):Int) bs f.flat),LN X] (.tup [LN s'.bufs,.lst (evC s'.l) s'.l.length 2,.i 0]):=by
 obtain⟨T,s',t,h1,h2,h3,h4,h5,_⟩:=run_all hwf hreg (by have:=costZ_le f; omega) hx
 have hbal:bal kdL 0 f.flat:=by
  have h:=flat_bal (f:=f) (d:=0) (rest:=[]) hwf (by unfold bal; rfl)
  rwa [List.append_nil] at h
 have hst:stR [] 0 f.flat≤16777216:=by rw[stR_flat hwf hreg (by omega)]; omega
 have hes:z98 0 [] (List.replicate f.flat.length 0) f.flat=f.ends 0:=by rw[Fr.flat_len]; exact zri hwf
 refine⟨s',t,h4,h5,zme hck hbal hst hX hb1 hes (fun i o ho hk=>?_) h1 h2 h3⟩
 obtain⟨k,p,e1,e2,e3⟩:=ends_at f 0 i o hwf ho hk
 rw[List.getD_eq_getElem?_getD,e1]
 exact⟨by simp,p,by simpa using e2,e3⟩
end Go.Proofs.YtodjkjimaheggaaGreat
