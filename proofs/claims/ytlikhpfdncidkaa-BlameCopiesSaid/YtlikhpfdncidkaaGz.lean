import Derived.Test.YtlikhpfdncidkaaGk
import Derived.Test.YtlikhpfdncidkaaSi
namespace Go.Proofs.Ytlikhpfdncidkaa
theorem zV_fl (l : List Int) : zV l = fl intL l := map_fl (fun _ => rfl) l
end Go.Proofs.Ytlikhpfdncidkaa
